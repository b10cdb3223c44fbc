-- Written by a program of this session (myprint.py, over the kit's print): contracts of FnExactPutCtl
import Derived.Test.YtahfemlfdpbkkaaPFnExactPutCtlx0
import Derived.Test.YtahfemlfdpbkkaaPFnExactPutCtlx13
import Derived.Test.YtahfemlfdpbkkaaPFnExactPutCtlx14
import Derived.Test.YtahfemlfdpbkkaaPFnExactPutCtlx15
import Derived.Test.YtahfemlfdpbkkaaPFnExactPutCtlx16
namespace Go.Proofs.Ytahfemlfdpbkkaa.PFnExactPutCtl
open Go.RowKit Go.Proofs.YtahfemlfdpbkkaaW.PrintWords Go.Proofs.YtahfemlfdpbkkaaW.PrintLast Go.Proofs.YtahfemlfdpbkkaaW.PrintMore Go.Proofs.YtahfemlfdpbkkaaV
attribute [local go_sem] max2_int min2_int max_two min_two max_three min_three max_four min_four   -- for this text's walks alone
set_option linter.unusedVariables false
set_option linter.unusedSimpArgs false

/-! ### impl_PutCtl: function 62 -/
mutual
def impl_PutCtl.j0 : Nat → Int → Int → Int → Int → Int → Int → Bool → Int → List (S48) → Option (List Int)
 | 0, _, _, _, _, _, _, _, _, _ => none
 | k + 1, x3, x485000, x485001, x485002, x485003, x485004, x485005, x485006, x485007 => (impl_PutWord.f (([(x485000) % 256, (x485001) % 256] : List Int)) x485002).bind fun t492 => ((some (([(x485003) % 256, (x485004) % 256, x3] : List Int) : List Int)).bind fun y495 => (if t492.length + y495.length < 140737488355328 then ((impl_PutWord.f (t492 ++ y495) x485006).bind fun t501 => ((some (([((x485007.length : Int)) % 256] : List Int) : List Int)).bind fun y504 => (if t501.length + y504.length < 140737488355328 then (impl_PutCtl.l0 k (t501 ++ y504) x485007 (x485007.length : Int) 0) else (none)))) else (none)))
def impl_PutCtl.l0 : Nat → List Int → List (S48) → Int → Int → Option (List Int)
 | 0, _, _, _, _ => none
 | k + 1, x4, x44, x45, x46 => if x46 < x45 then (if 0 ≤ x46 then (if x46 < (x44.length : Int) then ((impl_PutItem.f k ((rd_T48 x44 x46).f0) ((rd_T48 x44 x46).f1.f0) ((rd_T48 x44 x46).f1.f1) ((rd_T48 x44 x46).f1.f2) ((rd_T48 x44 x46).f1.f3) ((rd_T48 x44 x46).f1.f4) ((rd_T48 x44 x46).f1.f5) ((rd_T48 x44 x46).f1.f6) ((rd_T48 x44 x46).f1.f7) ((rd_T48 x44 x46).f2.f0) ((rd_T48 x44 x46).f2.f1) ((rd_T48 x44 x46).f2.f2) ((rd_T48 x44 x46).f2.f3) ((rd_T48 x44 x46).f2.f4) ((rd_T48 x44 x46).f2.f5) ((rd_T48 x44 x46).f2.f6)).bind fun t512 => ((some (([((t512.length : Int)) % 256] : List Int) : List Int)).bind fun y515 => (if x4.length + y515.length < 140737488355328 then ((some (x4 ++ y515 : List Int)).bind fun y518 => (if y518.length + t512.length < 140737488355328 then (impl_PutCtl.l0 k (y518 ++ t512) x44 x45 (wrap64 (x46 + 1))) else (none))) else (none)))) else (none)) else (none)) else ((impl_Sum.f k x4).bind fun t524 => ((impl_PutWord.f x4 t524).bind fun t525 => (some t525)))
end
def impl_PutCtl.f (k : Nat) (a0_0 : Int) (a0_1 : Int) (a0_2 : Int) (a0_3 : Int) (a0_4 : Int) (a0_5 : Bool) (a0_6 : Int) (l0_7 : List (S48)) : Option (List Int) := (impl_CtlOk.f k a0_0 a0_1 a0_2 a0_3 a0_4 a0_5 a0_6 l0_7).bind fun t485 => (if t485 = true then (if a0_5 = true then (impl_PutCtl.j0 k 1 a0_0 a0_1 a0_2 a0_3 a0_4 a0_5 a0_6 l0_7) else (impl_PutCtl.j0 k 0 a0_0 a0_1 a0_2 a0_3 a0_4 a0_5 a0_6 l0_7)) else (some (([] : List Int))))
theorem impl_PutCtl.mono_l : ∀ k, (∀ y0 y1 y2 y3 y4 y5 y6 y7 y8, LeO (impl_PutCtl.j0 k y0 y1 y2 y3 y4 y5 y6 y7 y8) (impl_PutCtl.j0 (k + 1) y0 y1 y2 y3 y4 y5 y6 y7 y8)) ∧ (∀ y0 y1 y2 y3, LeO (impl_PutCtl.l0 k y0 y1 y2 y3) (impl_PutCtl.l0 (k + 1) y0 y1 y2 y3))
 | 0 => ⟨fun _ _ _ _ _ _ _ _ _ r h => by simp [impl_PutCtl.j0] at h, fun _ _ _ _ r h => by simp [impl_PutCtl.l0] at h⟩
 | k + 1 => by
  obtain ⟨ih0, ih1⟩ := impl_PutCtl.mono_l k
  refine ⟨?_, ?_⟩
  ·
   intro y0 y1 y2 y3 y4 y5 y6 y7 y8
   unfold impl_PutCtl.j0
   repeat' first
   | (with_reducible exact ih0 _ _ _ _ _ _ _ _ _)
   | (with_reducible exact ih1 _ _ _ _)
   | (with_reducible exact impl_CtlOk.mono _ _ _ _ _ _ _ _ _)
   | (with_reducible exact impl_PutItem.mono _ _ _ _ _ _ _ _ _ _ _ _ _ _ _ _ _)
   | (with_reducible exact impl_Sum.mono _ _)
   | (with_reducible exact LeO.refl _)
   | (with_reducible exact LeO.none _)
   | (with_reducible refine LeO.ite ?_ ?_)
   | (with_reducible refine LeO.bind ?_ (fun _ => ?_))
   | exact ih0 _ _ _ _ _ _ _ _ _
   | exact ih1 _ _ _ _
   | exact impl_CtlOk.mono _ _ _ _ _ _ _ _ _
   | exact impl_PutItem.mono _ _ _ _ _ _ _ _ _ _ _ _ _ _ _ _ _
   | exact impl_Sum.mono _ _
   | exact LeO.none _
   | refine LeO.ite ?_ ?_
   | refine LeO.bind ?_ (fun _ => ?_)
  ·
   intro y0 y1 y2 y3
   unfold impl_PutCtl.l0
   repeat' first
   | (with_reducible exact ih0 _ _ _ _ _ _ _ _ _)
   | (with_reducible exact ih1 _ _ _ _)
   | (with_reducible exact impl_CtlOk.mono _ _ _ _ _ _ _ _ _)
   | (with_reducible exact impl_PutItem.mono _ _ _ _ _ _ _ _ _ _ _ _ _ _ _ _ _)
   | (with_reducible exact impl_Sum.mono _ _)
   | (with_reducible exact LeO.refl _)
   | (with_reducible exact LeO.none _)
   | (with_reducible refine LeO.ite ?_ ?_)
   | (with_reducible refine LeO.bind ?_ (fun _ => ?_))
   | exact ih0 _ _ _ _ _ _ _ _ _
   | exact ih1 _ _ _ _
   | exact impl_CtlOk.mono _ _ _ _ _ _ _ _ _
   | exact impl_PutItem.mono _ _ _ _ _ _ _ _ _ _ _ _ _ _ _ _ _
   | exact impl_Sum.mono _ _
   | exact LeO.none _
   | refine LeO.ite ?_ ?_
   | refine LeO.bind ?_ (fun _ => ?_)
theorem impl_PutCtl.mono : ∀ a0 a1 a2 a3 a4 a5 a6 a7 k, LeO (impl_PutCtl.f k a0 a1 a2 a3 a4 a5 a6 a7) (impl_PutCtl.f (k + 1) a0 a1 a2 a3 a4 a5 a6 a7) := by
 intro a0 a1 a2 a3 a4 a5 a6 a7 k
 obtain ⟨ih0, ih1⟩ := impl_PutCtl.mono_l k
 unfold impl_PutCtl.f
 repeat' first
   | (with_reducible exact ih0 _ _ _ _ _ _ _ _ _)
   | (with_reducible exact ih1 _ _ _ _)
   | (with_reducible exact impl_CtlOk.mono _ _ _ _ _ _ _ _ _)
   | (with_reducible exact impl_PutItem.mono _ _ _ _ _ _ _ _ _ _ _ _ _ _ _ _ _)
   | (with_reducible exact impl_Sum.mono _ _)
   | (with_reducible exact LeO.refl _)
   | (with_reducible exact LeO.none _)
   | (with_reducible refine LeO.ite ?_ ?_)
   | (with_reducible refine LeO.bind ?_ (fun _ => ?_))
   | exact ih0 _ _ _ _ _ _ _ _ _
   | exact ih1 _ _ _ _
   | exact impl_CtlOk.mono _ _ _ _ _ _ _ _ _
   | exact impl_PutItem.mono _ _ _ _ _ _ _ _ _ _ _ _ _ _ _ _ _
   | exact impl_Sum.mono _ _
   | exact LeO.none _
   | refine LeO.ite ?_ ?_
   | refine LeO.bind ?_ (fun _ => ?_)
def impl_PutCtl.T6 : Bool × List (List Nat × List Nat) := (true, [([], []), ([0], [0]), ([1], [1]), ([], []), ([3], [3]), ([4], [4]), ([2, 5], [2, 5]), ([], []), ([7], [7]), ([6, 8], [6, 8]), ([], []), ([10], [10]), ([11], [11]), ([], []), ([13], [13]), ([14], [14]), ([], []), ([12, 15, 16], [12, 15, 16]), ([9, 17, 9], [9, 17]), ([18, 18, 0, 1, 2, 3, 4, 5, 6, 7, 8, 9, 10, 11, 12, 13, 14, 15, 16, 17, 18], [18])])
def impl_PutCtl.B6 : List Nat := [0, 1, 3, 0, 8, 24, 63, 0, 128, 511, 0, 1024, 3072, 0, 8192, 24576, 0, 130048, 262143, 524287]
theorem impl_PutCtl.tab6 : rtab .any (opsOf Try.f62 6) = impl_PutCtl.T6 := by kernel_rfl
theorem impl_PutCtl.bits6 : waitsOk impl_PutCtl.T6.2 impl_PutCtl.B6 = true := by kernel_rfl
def impl_PutCtl.T7 : Bool × List (List Nat × List Nat) := (true, [([], []), ([], []), ([1], [1]), ([0, 2], [0, 2]), ([], []), ([4], [4]), ([5], [5]), ([6], [6]), ([7], [7]), ([3, 8, 3], [3, 8]), ([9, 9, 0, 1, 2, 3, 4, 5, 6, 7, 8, 9], [0, 9])])
def impl_PutCtl.B7 : List Nat := [0, 0, 2, 7, 0, 16, 48, 112, 240, 511, 1023]
theorem impl_PutCtl.tab7 : rtab .any (opsOf Try.f62 7) = impl_PutCtl.T7 := by kernel_rfl
theorem impl_PutCtl.bits7 : waitsOk impl_PutCtl.T7.2 impl_PutCtl.B7 = true := by kernel_rfl
set_option maxHeartbeats 8000000 in
set_option maxRecDepth 100000 in
theorem impl_PutCtl.calls (k : Nat) (a0_0 : Int) (a0_1 : Int) (a0_2 : Int) (a0_3 : Int) (a0_4 : Int) (a0_5 : Bool) (a0_6 : Int) (A0_7 : Option Addr) (c0_7 : Nat) (l0_7 : List (S48)) (r : List Int) (w : World) (hr0_7 : Kd.C k48 w A0_7 l0_7.length l0_7) (hc0_7 : l0_7.length ≤ c0_7) (h : impl_PutCtl.f k a0_0 a0_1 a0_2 a0_3 a0_4 a0_5 a0_6 l0_7 = some r) :
  Calls Try.prog 62 #[.agg #[.int .i64 a0_0, .int .i64 a0_1, .int .i64 a0_2, .int .i64 a0_3, .int .i64 a0_4, .bool a0_5, .int .i64 a0_6, .slice A0_7 l0_7.length c0_7]] w fun e w' => ∃ v0_ : Value, e = .returned (v0_) ∧ Kd.R (Kd.int .u8) 5 w' w.heap.size (fun _ => True) v0_ r ∧ Below w.heap.size w w' := by
 have hu86 := Try.underlying86
 have hu48 := Try.underlying48
 have HR0_7 := Aside0.mk hr0_7
 have HC0_7 := Aside0.mk hc0_7
 clear hr0_7 hc0_7
 have HB := Aside0.mk (Below.refl w.heap.size w)
 have H : ((impl_CtlOk.f k a0_0 a0_1 a0_2 a0_3 a0_4 a0_5 a0_6 l0_7).bind fun t485 => (if t485 = true then (if a0_5 = true then (impl_PutCtl.j0 k 1 a0_0 a0_1 a0_2 a0_3 a0_4 a0_5 a0_6 l0_7) else (impl_PutCtl.j0 k 0 a0_0 a0_1 a0_2 a0_3 a0_4 a0_5 a0_6 l0_7)) else (some (([] : List Int))))) = some r := h
 clear h
 obtain ⟨t485, A2, H⟩ := bd_ H
 have HC3 := Aside0.mk H
 clear H
 go_enter Try.func62, Try.ntmps62
 go_upto_if 10 with (first | ((with_reducible refine gate_dst (N := 1) rfl ?_); refine box_event ?hg (N := 1) ?hd (cs := #[.int .i64 a0_0, .int .i64 a0_1, .int .i64 a0_2, .int .i64 a0_3, .int .i64 a0_4, .bool a0_5, .int .i64 a0_6, .slice A0_7 l0_7.length c0_7]) (t := 86) ?hr ?_; (case hd => rfl); (case hg => rfl); (case hr => first | (go_simp; done) | (go_simp; rfl)); intro gb484 hg w4 hbox hb; have BK484 := am_ (hbox); have GW484 := am_ ((gG_ hg (qB HB))); have IGW484 := gI_ GW484; have GE484 := am_ ((gG_ hg (qB HB))); have IGE484 := gI_ GE484; replace HB := am_ (below_step (qB HB) hb); clear hb hbox hg; obtain ⟨z5_0, z5_1, z5_2, z5_3, z5_4, z5_5, z5_6, z5_7⟩ := cz8 BK484.out; obtain ⟨f5_0, f5_1, f5_2, f5_3, f5_4, f5_5, f5_6, f5_7⟩ := fz8 BK484.out) | ((with_reducible refine gate_callee (f := 49) rfl ?_); refine goesL_ (some 9) rfl rfl Try.func49 (by kernel_rfl) rfl #[.agg #[.int .i64 a0_0, .int .i64 a0_1, .int .i64 a0_2, .int .i64 a0_3, .int .i64 a0_4, .bool a0_5, .int .i64 a0_6, .slice A0_7 l0_7.length c0_7]] rfl la_ ?_; (with_reducible refine (impl_CtlOk.calls k a0_0 a0_1 a0_2 a0_3 a0_4 a0_5 a0_6 _ _ l0_7 t485 _ ?side1 ?side2 A2.out).mono ?_); (case side1 => exact qC (Kd.C_below HR0_7.out HB.out)); (case side2 => exact HC0_7.out); rintro e w6 ⟨rfl, hb⟩; refine ⟨_, rfl, ?_⟩; replace BK484 := am_ (blk_below (qK BK484) hb); replace HB := am_ (below_step (qB HB) hb); (try clear hb); (try clear hb2); (try clear hk); (try clear hi)))
 (try simp only [Act.put, List.setIfInBounds_toArray, List.set_cons_zero, List.set_cons_succ])
 have H := HC3.out
 clear HC3
 by_cases c7 : t485 = true
 ·
  subst c7
  rw [if_pos rfl] at H
  have HC8 := Aside0.mk H
  clear H
  obtain ⟨z9_0, z9_1, z9_2, z9_3, z9_4, z9_5, z9_6, z9_7⟩ := cz8 BK484.out
  obtain ⟨f9_0, f9_1, f9_2, f9_3, f9_4, f9_5, f9_6, f9_7⟩ := fz8 BK484.out
  go_upto_if 13 with (fail)
  go_cut [3] (fun v3 wc => ∃ (kq : Nat) (x3_7 : Int), v3 = .int .u8 x3_7 ∧ Aside0 (impl_PutCtl.j0 kq x3_7 a0_0 a0_1 a0_2 a0_3 a0_4 a0_5 a0_6 l0_7 = some r) ∧ Aside0 (kq ≤ k) ∧ Aside0 (wc.heap[gb484]? = some (.cells #[.int .i64 a0_0, .int .i64 a0_1, .int .i64 a0_2, .int .i64 a0_3, .int .i64 a0_4, .bool a0_5, .int .i64 a0_6, (.slice A0_7 l0_7.length c0_7)] 86 (0, 0))) ∧ Aside0 (Below w.heap.size w wc))
  case first =>
   have H := HC8.out
   clear HC8
   by_cases c10 : a0_5 = true
   ·
    subst c10
    rw [if_pos rfl] at H
    have H' := Aside0.mk H
    clear H
    go_wp2
    go_meet
    case rel => exact ⟨_, (1), eqq_, H', ⟨by first | omega | exact Nat.le_refl _⟩, ⟨qK BK484⟩, ⟨qB HB⟩⟩
   ·
    replace c10 := Bool.eq_false_iff.mpr c10
    subst c10
    rw [if_neg (show ¬ (false = true) by decide)] at H
    have H' := Aside0.mk H
    clear H
    go_wp2
    go_meet
    case rel => exact ⟨_, (0), eqq_, H', ⟨by first | omega | exact Nat.le_refl _⟩, ⟨qK BK484⟩, ⟨qB HB⟩⟩
  case rest =>
   clear HC8
   try clear c1
   try clear p2
   try clear c4
   try clear c6
   try clear c7
   try clear c10
   (try clear z5_0 z5_1 z5_2 z5_3 z5_4 z5_5 z5_6 z5_7)
   (try clear z9_0 z9_1 z9_2 z9_3 z9_4 z9_5 z9_6 z9_7)
   (try clear f5_0 f5_1 f5_2 f5_3 f5_4 f5_5 f5_6 f5_7)
   (try clear f9_0 f9_1 f9_2 f9_3 f9_4 f9_5 f9_6 f9_7)
   obtain ⟨kq, x3_7, rfl, HA, HJ7, BK484, HB⟩ := hcut
   cases kq with
   | zero => exact absurd HA.out (by simp [impl_PutCtl.j0])
   | succ kj7 =>
    have H := HA.out
    clear HA
    simp only [impl_PutCtl.j0] at H
    obtain ⟨y489, hy489⟩ : ∃ y_ : List Int, y_ = (([(a0_0) % 256, (a0_1) % 256] : List Int)) := ⟨_, rfl⟩
    rw [← hy489] at H
    have Ny489 := Aside0.mk hy489
    clear hy489
    obtain ⟨t492, A11, H⟩ := bd_ H
    obtain ⟨y495, hy495⟩ : ∃ y_ : List Int, y_ = (([(a0_3) % 256, (a0_4) % 256, x3_7] : List Int)) := ⟨_, rfl⟩
    replace H := mk_ H hy495
    (try dsimp only at H)
    have Ny495 := Aside0.mk hy495
    clear hy495
    by_cases c12 : t492.length + y495.length < 140737488355328
    ·
     rw [if_pos c12] at H
     have LMc12 := Aside0.mk c12
     clear c12
     obtain ⟨y498, hy498⟩ : ∃ y_ : List Int, y_ = (t492 ++ y495) := ⟨_, rfl⟩
     replace H : ((impl_PutWord.f y498 a0_6).bind fun t501 => ((some (([((l0_7.length : Int)) % 256] : List Int) : List Int)).bind fun y504 => (if t501.length + y504.length < 140737488355328 then (impl_PutCtl.l0 kj7 (t501 ++ y504) l0_7 (l0_7.length : Int) 0) else (none)))) = some r := by first | (rw [hy498]; with_reducible exact H) | (have H2_ := (Option.bind_some _ _).symm.trans H; rw [hy498]; with_reducible exact H2_) | (have H2_ := (Option.bind_some _ _).symm.trans H; with_reducible exact H2_) | with_reducible exact H | (rw [hy498]; exact H) | exact H
     have Ny498 := Aside0.mk hy498
     clear hy498
     obtain ⟨t501, A13, H⟩ := bd_ H
     obtain ⟨y504, hy504⟩ : ∃ y_ : List Int, y_ = (([((l0_7.length : Int)) % 256] : List Int)) := ⟨_, rfl⟩
     replace H := mk_ H hy504
     (try dsimp only at H)
     have Ny504 := Aside0.mk hy504
     clear hy504
     by_cases c14 : t501.length + y504.length < 140737488355328
     ·
      rw [if_pos c14] at H
      have LMc14 := Aside0.mk c14
      clear c14
      obtain ⟨y507, hy507⟩ : ∃ y_ : List Int, y_ = (t501 ++ y504) := ⟨_, rfl⟩
      replace H : (impl_PutCtl.l0 kj7 y507 l0_7 (l0_7.length : Int) 0) = some r := by first | (rw [hy507]; with_reducible exact H) | (have H2_ := (Option.bind_some _ _).symm.trans H; rw [hy507]; with_reducible exact H2_) | (have H2_ := (Option.bind_some _ _).symm.trans H; with_reducible exact H2_) | with_reducible exact H | (rw [hy507]; exact H) | exact H
      have Ny507 := Aside0.mk hy507
      clear hy507
      have H' := Aside0.mk H
      clear H
      try go_wp2
      replace BK484 := am_ (blk_drew BK484.out)
      replace HB := am_ (below_drew1 HB.out)
      refine start_ (n := 20) (S := fun w' => w'.cell? ⟨gb484, 0, none⟩ = some (.int .i64 a0_0) ∧ w'.cell? ⟨gb484, 1, none⟩ = some (.int .i64 a0_1) ∧ w'.cell? ⟨gb484, 2, none⟩ = some (.int .i64 a0_2) ∧ w'.cell? ⟨gb484, 3, none⟩ = some (.int .i64 a0_3) ∧ w'.cell? ⟨gb484, 4, none⟩ = some (.int .i64 a0_4) ∧ w'.cell? ⟨gb484, 5, none⟩ = some (.bool a0_5) ∧ w'.cell? ⟨gb484, 6, none⟩ = some (.int .i64 a0_6) ∧ w'.cell? ⟨gb484, 7, none⟩ = some (.slice A0_7 l0_7.length c0_7)) (ds := []) #[oo,oo,oo,oo,oo,oo,oo,oo,oo,oo,oo,oo,oo,oo,oo,oo,oo,oo,oo,oo] (by kernel_rfl) rfl rfl (cz8 BK484.out) (fun hHeld => ?_); refine with_tabW impl_PutCtl.tab6 impl_PutCtl.bits6 (fun HT_ HW_ => ?_)
      generalize wc.drew = w15 at BK484 HB hHeld ⊢
      refine pure_ (i := 0) (N := some 14) (v := ?_) (a' := ?_) #[ii,oo,oo,oo,oo,oo,oo,oo,oo,oo,oo,oo,oo,oo,oo,oo,oo,oo,oo,oo] rfl rfl (any_of HT_.out (by kernel_rfl)) (fun _ _ _ h => h) (Or.inl ⟨by rfl, ?_⟩) ?_ ?_
      rotate_left
      ·
       intro w'
       go_simp
       with_reducible rfl
      rotate_left
      ·
       exact ap_
      refine pure_ (i := 3) (N := some 17) (v := ?_) (a' := ?_) #[ii,oo,oo,ii,oo,oo,oo,oo,oo,oo,oo,oo,oo,oo,oo,oo,oo,oo,oo,oo] rfl rfl (any_of HT_.out (by kernel_rfl)) (fun _ _ _ h => h) (Or.inl ⟨by rfl, ?_⟩) ?_ ?_
      rotate_left
      ·
       intro w'
       go_simp
       with_reducible rfl
      rotate_left
      ·
       exact ap_
      refine pure_ (i := 7) (N := some 21) (v := ?_) (a' := ?_) #[ii,oo,oo,ii,oo,oo,oo,ii,oo,oo,oo,oo,oo,oo,oo,oo,oo,oo,oo,oo] rfl rfl (any_of HT_.out (by kernel_rfl)) (fun _ _ _ h => h) (Or.inl ⟨by rfl, ?_⟩) ?_ ?_
      rotate_left
      ·
       intro w'
       go_simp
       with_reducible rfl
      rotate_left
      ·
       exact ap_
      refine pure_ (i := 10) (N := some 24) (v := ?_) (a' := ?_) #[ii,oo,oo,ii,oo,oo,oo,ii,oo,oo,ii,oo,oo,oo,oo,oo,oo,oo,oo,oo] rfl rfl (any_of HT_.out (by kernel_rfl)) (fun _ _ _ h => h) (Or.inl ⟨by rfl, ?_⟩) ?_ ?_
      rotate_left
      ·
       intro w'
       go_simp
       with_reducible rfl
      rotate_left
      ·
       exact ap_
      refine pure_ (i := 13) (N := some 27) (v := ?_) (a' := ?_) #[ii,oo,oo,ii,oo,oo,oo,ii,oo,oo,ii,oo,oo,ii,oo,oo,oo,oo,oo,oo] rfl rfl (any_of HT_.out (by kernel_rfl)) (fun _ _ _ h => h) (Or.inl ⟨by rfl, ?_⟩) ?_ ?_
      rotate_left
      ·
       intro w'
       go_simp
       with_reducible rfl
      rotate_left
      ·
       exact ap_
      refine pure_ (i := 16) (N := some 30) (v := ?_) (a' := ?_) #[ii,oo,oo,ii,oo,oo,oo,ii,oo,oo,ii,oo,oo,ii,oo,oo,ii,oo,oo,oo] rfl rfl (any_of HT_.out (by kernel_rfl)) (fun _ _ _ h => h) (Or.inl ⟨by rfl, ?_⟩) ?_ ?_
      rotate_left
      ·
       intro w'
       go_simp
       with_reducible rfl
      rotate_left
      ·
       exact ap_
      refine take_ (i := 1) (N := some 15) (v := ?_) (a' := ?_) #[ii,ii,oo,ii,oo,oo,oo,ii,oo,oo,ii,oo,oo,ii,oo,oo,ii,oo,oo,oo] rfl rfl (take_ofW HT_.out HW_.out (by kernel_rfl)) (fun _ _ _ h => h) (Or.inl ⟨by rfl, ?_⟩) hHeld ?_ ?_
      rotate_left
      ·
       rintro w' ⟨s0, s1, s2, s3, s4, s5, s6, s7⟩
       go_simp
       with_reducible rfl
      rotate_left
      ·
       exact ap_
      refine pure_ (i := 2) (N := some 16) (v := ?_) (a' := ?_) #[ii,ii,ii,ii,oo,oo,oo,ii,oo,oo,ii,oo,oo,ii,oo,oo,ii,oo,oo,oo] rfl rfl (any_of HT_.out (by kernel_rfl)) (fun _ _ _ h => h) (Or.inl ⟨by rfl, ?_⟩) ?_ ?_
      rotate_left
      ·
       intro w'
       go_simp
       with_reducible rfl
      rotate_left
      ·
       exact ap_
      refine take_ (i := 4) (N := some 18) (v := ?_) (a' := ?_) #[ii,ii,ii,ii,ii,oo,oo,ii,oo,oo,ii,oo,oo,ii,oo,oo,ii,oo,oo,oo] rfl rfl (take_ofW HT_.out HW_.out (by kernel_rfl)) (fun _ _ _ h => h) (Or.inl ⟨by rfl, ?_⟩) hHeld ?_ ?_
      rotate_left
      ·
       rintro w' ⟨s0, s1, s2, s3, s4, s5, s6, s7⟩
       go_simp
       with_reducible rfl
      rotate_left
      ·
       exact ap_
      refine pure_ (i := 5) (N := some 19) (v := ?_) (a' := ?_) #[ii,ii,ii,ii,ii,ii,oo,ii,oo,oo,ii,oo,oo,ii,oo,oo,ii,oo,oo,oo] rfl rfl (any_of HT_.out (by kernel_rfl)) (fun _ _ _ h => h) (Or.inl ⟨by rfl, ?_⟩) ?_ ?_
      rotate_left
      ·
       intro w'
       go_simp
       with_reducible rfl
      rotate_left
      ·
       exact ap_
      refine take_ (i := 8) (N := some 22) (v := ?_) (a' := ?_) #[ii,ii,ii,ii,ii,ii,oo,ii,ii,oo,ii,oo,oo,ii,oo,oo,ii,oo,oo,oo] rfl rfl (take_ofW HT_.out HW_.out (by kernel_rfl)) (fun _ _ _ h => h) (Or.inl ⟨by rfl, ?_⟩) hHeld ?_ ?_
      rotate_left
      ·
       rintro w' ⟨s0, s1, s2, s3, s4, s5, s6, s7⟩
       go_simp
       with_reducible rfl
      rotate_left
      ·
       exact ap_
      refine take_ (i := 11) (N := some 25) (v := ?_) (a' := ?_) #[ii,ii,ii,ii,ii,ii,oo,ii,ii,oo,ii,ii,oo,ii,oo,oo,ii,oo,oo,oo] rfl rfl (take_ofW HT_.out HW_.out (by kernel_rfl)) (fun _ _ _ h => h) (Or.inl ⟨by rfl, ?_⟩) hHeld ?_ ?_
      rotate_left
      ·
       rintro w' ⟨s0, s1, s2, s3, s4, s5, s6, s7⟩
       go_simp
       with_reducible rfl
      rotate_left
      ·
       exact ap_
      refine pure_ (i := 12) (N := some 26) (v := ?_) (a' := ?_) #[ii,ii,ii,ii,ii,ii,oo,ii,ii,oo,ii,ii,ii,ii,oo,oo,ii,oo,oo,oo] rfl rfl (any_of HT_.out (by kernel_rfl)) (fun _ _ _ h => h) (Or.inl ⟨by rfl, ?_⟩) ?_ ?_
      rotate_left
      ·
       intro w'
       go_simp
       with_reducible rfl
      rotate_left
      ·
       exact ap_
      refine take_ (i := 14) (N := some 28) (v := ?_) (a' := ?_) #[ii,ii,ii,ii,ii,ii,oo,ii,ii,oo,ii,ii,ii,ii,ii,oo,ii,oo,oo,oo] rfl rfl (take_ofW HT_.out HW_.out (by kernel_rfl)) (fun _ _ _ h => h) (Or.inl ⟨by rfl, ?_⟩) hHeld ?_ ?_
      rotate_left
      ·
       rintro w' ⟨s0, s1, s2, s3, s4, s5, s6, s7⟩
       go_simp
       with_reducible rfl
      rotate_left
      ·
       exact ap_
      refine pure_ (i := 15) (N := some 29) (v := ?_) (a' := ?_) #[ii,ii,ii,ii,ii,ii,oo,ii,ii,oo,ii,ii,ii,ii,ii,ii,ii,oo,oo,oo] rfl rfl (any_of HT_.out (by kernel_rfl)) (fun _ _ _ h => h) (Or.inl ⟨by rfl, ?_⟩) ?_ ?_
      rotate_left
      ·
       intro w'
       go_simp
       with_reducible rfl
      rotate_left
      ·
       exact ap_
      refine join_ (σ := Value × Value × Value) 2 #[ii,ii,ii,ii,ii,ii,ii,ii,ii,ii,ii,ii,ii,ii,ii,ii,ii,ii,oo,oo] (fun s_ => [(20, s_.1), (23, s_.2.1), (31, s_.2.2)]) (fun s_ w' => (w'.cell? ⟨gb484, 0, none⟩ = some (.int .i64 a0_0) ∧ w'.cell? ⟨gb484, 1, none⟩ = some (.int .i64 a0_1) ∧ w'.cell? ⟨gb484, 2, none⟩ = some (.int .i64 a0_2) ∧ w'.cell? ⟨gb484, 3, none⟩ = some (.int .i64 a0_3) ∧ w'.cell? ⟨gb484, 4, none⟩ = some (.int .i64 a0_4) ∧ w'.cell? ⟨gb484, 5, none⟩ = some (.bool a0_5) ∧ w'.cell? ⟨gb484, 6, none⟩ = some (.int .i64 a0_6) ∧ w'.cell? ⟨gb484, 7, none⟩ = some (.slice A0_7 l0_7.length c0_7)) ∧ (Kd.R (Kd.int .u8) 5 w' w.heap.size (fun k_ => some k_ ≠ (s_.2.1 : Value).ownBlock ∧ some k_ ≠ (s_.2.2 : Value).ownBlock) s_.1 y489) ∧ (Kd.R (Kd.int .u8) 5 w' w.heap.size (fun k_ => some k_ ≠ (s_.1 : Value).ownBlock ∧ some k_ ≠ (s_.2.2 : Value).ownBlock) s_.2.1 t492) ∧ (Kd.R (Kd.int .u8) 5 w' w.heap.size (fun k_ => some k_ ≠ (s_.1 : Value).ownBlock ∧ some k_ ≠ (s_.2.1 : Value).ownBlock) s_.2.2 y495) ∧ (w'.heap[gb484]? = some (.cells #[.int .i64 a0_0, .int .i64 a0_1, .int .i64 a0_2, .int .i64 a0_3, .int .i64 a0_4, .bool a0_5, .int .i64 a0_6, .slice A0_7 l0_7.length c0_7] 86 (0, 0))) ∧ (Below w.heap.size w w')) ?_ ?_
      rotate_left
      ·
       intro hCont
       refine two_ (i := 6) (j := 17) (Ni := some 20) (Nj := some 31) #[ii,ii,ii,ii,ii,ii,ii,ii,ii,oo,ii,ii,ii,ii,ii,ii,ii,oo,oo,oo] #[ii,ii,ii,ii,ii,ii,oo,ii,ii,oo,ii,ii,ii,ii,ii,ii,ii,ii,oo,oo] rfl rfl rfl rfl (two_of HT_.out (by kernel_rfl)) (by decide) (by decide) (fun K hK => ?_) (fun K hK => ?_)
       ·
        skip
        refine Kd.R_lit_step (Kd.int .u8) _ 5 ?hg (N := 20) ?hd (xs := ([(a0_0) % 256, (a0_1) % 256] : List Int)) (inner := [.int .u8 ((a0_0) % 256), .int .u8 ((a0_1) % 256)]) (ok := fun _ => True) (okp := fun _ => True) ?hr ?hp (fun _ hk => hk) trivial (Below.refl _ _) (Nat.le_refl _) (by simp) ?_; (case hd => rfl); (case hg => rfl); (case hr => first | (go_simp; done) | (go_simp; rfl)); (case hp => exact (Reps.one (show Kd.M (Kd.int .u8) _ _ _ ((a0_0) % 256) [.int .u8 ((a0_0) % 256)] from rfl) (Reps.one (show Kd.M (Kd.int .u8) _ _ _ ((a0_1) % 256) [.int .u8 ((a0_1) % 256)] from rfl) (Reps.none _ _))))
        intro v490 w16 ho17 hb hg_ hnew_
        clear hg_ hnew_
        (first | rw [← Ny489.out] at ho17 | (simp only [Int.reduceToNat] at ho17; rw [← Ny489.out] at ho17))
        have HO491 := am_ (Kd.R_lower ho17 (below_size (qB HB)))
        replace BK484 := am_ (blk_below (qK BK484) hb)
        replace HB := am_ (below_step (qB HB) hb)
        clear hb ho17
        obtain ⟨Ao18, co18, eo18⟩ := Kd.R_slice HO491.out
        (first | subst eo18 | (injection eo18 with f1_ f2_ f3_; have f4_ := f1_.symm; have f5_ := f3_.symm; clear f1_ f2_ f3_; subst f4_; subst f5_))
        refine hK.out _ _ (cz8 BK484.out) (fun hHeld => ?_)
        clear hK K
        refine norm_ (a' := ?_) ?_ ?_
        rotate_left
        ·
         show Act.put _ (some 20) _ = _
         exact ap_
        refine two_ (i := 9) (j := 17) (Ni := some 23) (Nj := some 31) #[ii,ii,ii,ii,ii,ii,ii,ii,ii,ii,ii,ii,ii,ii,ii,ii,ii,oo,oo,oo] #[ii,ii,ii,ii,ii,ii,ii,ii,ii,oo,ii,ii,ii,ii,ii,ii,ii,ii,oo,oo] rfl rfl rfl rfl (two_of HT_.out (by kernel_rfl)) (by decide) (by decide) (fun K hK => ?_) (fun K hK => ?_)
        ·
         skip
         refine goes_ Try.func82 (by kernel_rfl) rfl #[.slice Ao18 y489.length co18, .int .i64 a0_2] (by rfl) rfl rfl la_ ?_
         with_reducible refine (impl_PutWord.calls _ _ y489 a0_2 t492 _ ?side1 ?side2 A11.out).mono ?_
         (case side1 => exact qC ((Kd.R_reads' HO491.out).2.2))
         (case side2 => exact (Kd.R_reads' HO491.out).2.1)
         rintro e w19 ⟨v493, rfl, ho0, hb⟩
         refine ⟨_, rfl, ?_⟩
         have HO494 := am_ (Kd.R_lower (Kd.R_new' ho0 (Kd.R_lt (qR HO491))) (below_size (qB HB)))
         replace HO491 := am_ (eR HO491 ho0 hb)
         replace BK484 := am_ (blk_below (qK BK484) hb)
         replace HB := am_ (below_step (qB HB) hb)
         (try clear hb ho0)
         refine hK.out _ _ (cz8 BK484.out) (fun hHeld => ?_)
         clear hK K
         refine norm_ (a' := ?_) ?_ ?_
         rotate_left
         ·
          show Act.put _ (some 23) _ = _
          exact ap_
         refine one_ (i := 17) (N := some 31) #[ii,ii,ii,ii,ii,ii,ii,ii,ii,ii,ii,ii,ii,ii,ii,ii,ii,ii,oo,oo] rfl rfl (one_of HT_.out (by kernel_rfl)) (by decide) (fun K hK => ?_)
         refine Kd.R_lit_step (Kd.int .u8) _ 5 ?hg (N := 31) ?hd (xs := ([(a0_3) % 256, (a0_4) % 256, x3_7] : List Int)) (inner := [.int .u8 ((a0_3) % 256), .int .u8 ((a0_4) % 256), .int .u8 x3_7]) (ok := fun _ => True) (okp := fun _ => True) ?hr ?hp (fun _ hk => hk) trivial (Below.refl _ _) (Nat.le_refl _) (by simp) ?_; (case hd => rfl); (case hg => rfl); (case hr => first | (go_simp; done) | (go_simp; rfl)); (case hp => exact (Reps.one (show Kd.M (Kd.int .u8) _ _ _ ((a0_3) % 256) [.int .u8 ((a0_3) % 256)] from rfl) (Reps.one (show Kd.M (Kd.int .u8) _ _ _ ((a0_4) % 256) [.int .u8 ((a0_4) % 256)] from rfl) (Reps.one (show Kd.M (Kd.int .u8) _ _ _ x3_7 [.int .u8 x3_7] from rfl) (Reps.none _ _)))))
         intro v496 w20 ho21 hb hg_ hnew_
         clear hg_ hnew_
         (first | rw [← Ny495.out] at ho21 | (simp only [Int.reduceToNat] at ho21; rw [← Ny495.out] at ho21))
         have HO497 := am_ (Kd.R_lower (Kd.R_new' (Kd.R_new' ho21 (Kd.R_lt (qR HO491))) (Kd.R_lt (qR HO494))) (below_size (qB HB)))
         replace HO491 := am_ (eR HO491 ho21 hb)
         replace HO494 := am_ (eR HO494 ho21 hb)
         replace BK484 := am_ (blk_below (qK BK484) hb)
         replace HB := am_ (below_step (qB HB) hb)
         clear hb ho21
         refine hK.out _ _ (cz8 BK484.out) (fun hHeld => ?_)
         clear hK K
         refine norm_ (a' := ?_) ?_ ?_
         rotate_left
         ·
          show Act.put _ (some 31) _ = _
          exact ap_
         exact norm_ (by simp only [putAll, Act.put, List.setIfInBounds_toArray, List.set_cons_zero, List.set_cons_succ]) (hCont (.slice Ao18 y489.length co18, v493, v496) _ ⟨hHeld, (tR (Kd.R_mono HO491.out (fun _ hk => ⟨hk.1.2, hk.2⟩))), (tR (Kd.R_mono HO494.out (fun _ hk => ⟨hk.1.2, hk.2⟩))), (tR (Kd.R_mono HO497.out (fun _ hk => ⟨hk.1.2, hk.2⟩))), (qK BK484), (qB HB)⟩)
        ·
         skip
         refine Kd.R_lit_step (Kd.int .u8) _ 5 ?hg (N := 31) ?hd (xs := ([(a0_3) % 256, (a0_4) % 256, x3_7] : List Int)) (inner := [.int .u8 ((a0_3) % 256), .int .u8 ((a0_4) % 256), .int .u8 x3_7]) (ok := fun _ => True) (okp := fun _ => True) ?hr ?hp (fun _ hk => hk) trivial (Below.refl _ _) (Nat.le_refl _) (by simp) ?_; (case hd => rfl); (case hg => rfl); (case hr => first | (go_simp; done) | (go_simp; rfl)); (case hp => exact (Reps.one (show Kd.M (Kd.int .u8) _ _ _ ((a0_3) % 256) [.int .u8 ((a0_3) % 256)] from rfl) (Reps.one (show Kd.M (Kd.int .u8) _ _ _ ((a0_4) % 256) [.int .u8 ((a0_4) % 256)] from rfl) (Reps.one (show Kd.M (Kd.int .u8) _ _ _ x3_7 [.int .u8 x3_7] from rfl) (Reps.none _ _)))))
         intro v496 w18 ho19 hb hg_ hnew_
         clear hg_ hnew_
         (first | rw [← Ny495.out] at ho19 | (simp only [Int.reduceToNat] at ho19; rw [← Ny495.out] at ho19))
         have HO497 := am_ (Kd.R_lower (Kd.R_new' ho19 (Kd.R_lt (qR HO491))) (below_size (qB HB)))
         replace HO491 := am_ (eR HO491 ho19 hb)
         replace BK484 := am_ (blk_below (qK BK484) hb)
         replace HB := am_ (below_step (qB HB) hb)
         clear hb ho19
         obtain ⟨Ao20, co20, eo20⟩ := Kd.R_slice HO491.out
         (first | subst eo20 | (injection eo20 with f1_ f2_ f3_; have f4_ := f1_.symm; have f5_ := f3_.symm; clear f1_ f2_ f3_; subst f4_; subst f5_))
         refine hK.out _ _ (cz8 BK484.out) (fun hHeld => ?_)
         clear hK K
         refine norm_ (a' := ?_) ?_ ?_
         rotate_left
         ·
          show Act.put _ (some 31) _ = _
          exact ap_
         refine one_ (i := 9) (N := some 23) #[ii,ii,ii,ii,ii,ii,ii,ii,ii,ii,ii,ii,ii,ii,ii,ii,ii,ii,oo,oo] rfl rfl (one_of HT_.out (by kernel_rfl)) (by decide) (fun K hK => ?_)
         refine goes_ Try.func82 (by kernel_rfl) rfl #[.slice Ao20 y489.length co20, .int .i64 a0_2] (by rfl) rfl rfl la_ ?_
         with_reducible refine (impl_PutWord.calls _ _ y489 a0_2 t492 _ ?side1 ?side2 A11.out).mono ?_
         (case side1 => exact qC ((Kd.R_reads' HO491.out).2.2))
         (case side2 => exact (Kd.R_reads' HO491.out).2.1)
         rintro e w21 ⟨v493, rfl, ho0, hb⟩
         refine ⟨_, rfl, ?_⟩
         have HO494 := am_ (Kd.R_lower (Kd.R_new' (Kd.R_new' ho0 (Kd.R_lt (qR HO491))) (Kd.R_lt (qR HO497))) (below_size (qB HB)))
         replace HO491 := am_ (eR HO491 ho0 hb)
         replace HO497 := am_ (eR HO497 ho0 hb)
         replace BK484 := am_ (blk_below (qK BK484) hb)
         replace HB := am_ (below_step (qB HB) hb)
         (try clear hb ho0)
         refine hK.out _ _ (cz8 BK484.out) (fun hHeld => ?_)
         clear hK K
         refine norm_ (a' := ?_) ?_ ?_
         rotate_left
         ·
          show Act.put _ (some 23) _ = _
          exact ap_
         exact norm_ (by simp only [putAll, Act.put, List.setIfInBounds_toArray, List.set_cons_zero, List.set_cons_succ]) (hCont (.slice Ao20 y489.length co20, v493, v496) _ ⟨hHeld, (tR (Kd.R_mono HO491.out (fun _ hk => ⟨hk.2, hk.1.2⟩))), (tR (Kd.R_mono HO494.out (fun _ hk => ⟨hk.1.2, hk.2⟩))), (tR (Kd.R_mono HO497.out (fun _ hk => ⟨hk.1.2, hk.2⟩))), (qK BK484), (qB HB)⟩)
       ·
        skip
        refine Kd.R_lit_step (Kd.int .u8) _ 5 ?hg (N := 31) ?hd (xs := ([(a0_3) % 256, (a0_4) % 256, x3_7] : List Int)) (inner := [.int .u8 ((a0_3) % 256), .int .u8 ((a0_4) % 256), .int .u8 x3_7]) (ok := fun _ => True) (okp := fun _ => True) ?hr ?hp (fun _ hk => hk) trivial (Below.refl _ _) (Nat.le_refl _) (by simp) ?_; (case hd => rfl); (case hg => rfl); (case hr => first | (go_simp; done) | (go_simp; rfl)); (case hp => exact (Reps.one (show Kd.M (Kd.int .u8) _ _ _ ((a0_3) % 256) [.int .u8 ((a0_3) % 256)] from rfl) (Reps.one (show Kd.M (Kd.int .u8) _ _ _ ((a0_4) % 256) [.int .u8 ((a0_4) % 256)] from rfl) (Reps.one (show Kd.M (Kd.int .u8) _ _ _ x3_7 [.int .u8 x3_7] from rfl) (Reps.none _ _)))))
        intro v496 w16 ho17 hb hg_ hnew_
        clear hg_ hnew_
        (first | rw [← Ny495.out] at ho17 | (simp only [Int.reduceToNat] at ho17; rw [← Ny495.out] at ho17))
        have HO497 := am_ (Kd.R_lower ho17 (below_size (qB HB)))
        replace BK484 := am_ (blk_below (qK BK484) hb)
        replace HB := am_ (below_step (qB HB) hb)
        clear hb ho17
        refine hK.out _ _ (cz8 BK484.out) (fun hHeld => ?_)
        clear hK K
        refine norm_ (a' := ?_) ?_ ?_
        rotate_left
        ·
         show Act.put _ (some 31) _ = _
         exact ap_
        refine one_ (i := 6) (N := some 20) #[ii,ii,ii,ii,ii,ii,ii,ii,ii,oo,ii,ii,ii,ii,ii,ii,ii,ii,oo,oo] rfl rfl (one_of HT_.out (by kernel_rfl)) (by decide) (fun K hK => ?_)
        refine Kd.R_lit_step (Kd.int .u8) _ 5 ?hg (N := 20) ?hd (xs := ([(a0_0) % 256, (a0_1) % 256] : List Int)) (inner := [.int .u8 ((a0_0) % 256), .int .u8 ((a0_1) % 256)]) (ok := fun _ => True) (okp := fun _ => True) ?hr ?hp (fun _ hk => hk) trivial (Below.refl _ _) (Nat.le_refl _) (by simp) ?_; (case hd => rfl); (case hg => rfl); (case hr => first | (go_simp; done) | (go_simp; rfl)); (case hp => exact (Reps.one (show Kd.M (Kd.int .u8) _ _ _ ((a0_0) % 256) [.int .u8 ((a0_0) % 256)] from rfl) (Reps.one (show Kd.M (Kd.int .u8) _ _ _ ((a0_1) % 256) [.int .u8 ((a0_1) % 256)] from rfl) (Reps.none _ _))))
        intro v490 w18 ho19 hb hg_ hnew_
        clear hg_ hnew_
        (first | rw [← Ny489.out] at ho19 | (simp only [Int.reduceToNat] at ho19; rw [← Ny489.out] at ho19))
        have HO491 := am_ (Kd.R_lower (Kd.R_new' ho19 (Kd.R_lt (qR HO497))) (below_size (qB HB)))
        replace HO497 := am_ (eR HO497 ho19 hb)
        replace BK484 := am_ (blk_below (qK BK484) hb)
        replace HB := am_ (below_step (qB HB) hb)
        clear hb ho19
        obtain ⟨Ao20, co20, eo20⟩ := Kd.R_slice HO491.out
        (first | subst eo20 | (injection eo20 with f1_ f2_ f3_; have f4_ := f1_.symm; have f5_ := f3_.symm; clear f1_ f2_ f3_; subst f4_; subst f5_))
        refine hK.out _ _ (cz8 BK484.out) (fun hHeld => ?_)
        clear hK K
        refine norm_ (a' := ?_) ?_ ?_
        rotate_left
        ·
         show Act.put _ (some 20) _ = _
         exact ap_
        refine one_ (i := 9) (N := some 23) #[ii,ii,ii,ii,ii,ii,ii,ii,ii,ii,ii,ii,ii,ii,ii,ii,ii,ii,oo,oo] rfl rfl (one_of HT_.out (by kernel_rfl)) (by decide) (fun K hK => ?_)
        refine goes_ Try.func82 (by kernel_rfl) rfl #[.slice Ao20 y489.length co20, .int .i64 a0_2] (by rfl) rfl rfl la_ ?_
        with_reducible refine (impl_PutWord.calls _ _ y489 a0_2 t492 _ ?side1 ?side2 A11.out).mono ?_
        (case side1 => exact qC ((Kd.R_reads' HO491.out).2.2))
        (case side2 => exact (Kd.R_reads' HO491.out).2.1)
        rintro e w21 ⟨v493, rfl, ho0, hb⟩
        refine ⟨_, rfl, ?_⟩
        have HO494 := am_ (Kd.R_lower (Kd.R_new' (Kd.R_new' ho0 (Kd.R_lt (qR HO497))) (Kd.R_lt (qR HO491))) (below_size (qB HB)))
        replace HO497 := am_ (eR HO497 ho0 hb)
        replace HO491 := am_ (eR HO491 ho0 hb)
        replace BK484 := am_ (blk_below (qK BK484) hb)
        replace HB := am_ (below_step (qB HB) hb)
        (try clear hb ho0)
        refine hK.out _ _ (cz8 BK484.out) (fun hHeld => ?_)
        clear hK K
        refine norm_ (a' := ?_) ?_ ?_
        rotate_left
        ·
         show Act.put _ (some 23) _ = _
         exact ap_
        exact norm_ (by simp only [putAll, Act.put, List.setIfInBounds_toArray, List.set_cons_zero, List.set_cons_succ]) (hCont (.slice Ao20 y489.length co20, v493, v496) _ ⟨hHeld, (tR (Kd.R_mono HO491.out (fun _ hk => ⟨hk.2, hk.1.2⟩))), (tR (Kd.R_mono HO494.out (fun _ hk => ⟨hk.2, hk.1.2⟩))), (tR (Kd.R_mono HO497.out (fun _ hk => ⟨hk.1.2, hk.2⟩))), (qK BK484), (qB HB)⟩)
      rintro ⟨v490, v493, v496⟩ w22 ⟨hS_, h0_, h1_, h2_, h3_, h4_⟩
      have n0_ : Aside0 (Kd.R (Kd.int .u8) 5 w22 w.heap.size (fun k_ => some k_ ≠ (v493 : Value).ownBlock ∧ some k_ ≠ (v496 : Value).ownBlock) v490 y489) := ⟨h0_⟩
      have n1_ : Aside0 (Kd.R (Kd.int .u8) 5 w22 w.heap.size (fun k_ => some k_ ≠ (v490 : Value).ownBlock ∧ some k_ ≠ (v496 : Value).ownBlock) v493 t492) := ⟨h1_⟩
      have n2_ : Aside0 (Kd.R (Kd.int .u8) 5 w22 w.heap.size (fun k_ => some k_ ≠ (v490 : Value).ownBlock ∧ some k_ ≠ (v493 : Value).ownBlock) v496 y495) := ⟨h2_⟩
      have n3_ : Aside0 (w22.heap[gb484]? = some (.cells #[.int .i64 a0_0, .int .i64 a0_1, .int .i64 a0_2, .int .i64 a0_3, .int .i64 a0_4, .bool a0_5, .int .i64 a0_6, .slice A0_7 l0_7.length c0_7] 86 (0, 0))) := ⟨h3_⟩
      have n4_ : Aside0 (Below w.heap.size w w22) := ⟨h4_⟩
      clear BK484
      clear HB
      clear h0_ h1_ h2_ h3_ h4_
      have HO491 := n0_
      have HO494 := n1_
      have HO497 := n2_
      have BK484 := n3_
      have HB := n4_
      clear n0_ n1_ n2_ n3_ n4_
      have hHeld : w22.cell? ⟨gb484, 0, none⟩ = some (.int .i64 a0_0) ∧ w22.cell? ⟨gb484, 1, none⟩ = some (.int .i64 a0_1) ∧ w22.cell? ⟨gb484, 2, none⟩ = some (.int .i64 a0_2) ∧ w22.cell? ⟨gb484, 3, none⟩ = some (.int .i64 a0_3) ∧ w22.cell? ⟨gb484, 4, none⟩ = some (.int .i64 a0_4) ∧ w22.cell? ⟨gb484, 5, none⟩ = some (.bool a0_5) ∧ w22.cell? ⟨gb484, 6, none⟩ = some (.int .i64 a0_6) ∧ w22.cell? ⟨gb484, 7, none⟩ = some (.slice A0_7 l0_7.length c0_7) := hS_
      obtain ⟨Ao24, co24, eo24⟩ := Kd.R_slice HO497.out
      (first | subst eo24 | (injection eo24 with f1_ f2_ f3_; have f4_ := f1_.symm; have f5_ := f3_.symm; clear f1_ f2_ f3_; subst f4_; subst f5_))
      refine norm_ (a' := ?_) ?_ ?_
      rotate_left
      ·
       simp only [putAll, Act.put, List.setIfInBounds_toArray, List.set_cons_zero, List.set_cons_succ]
       rfl
      refine one_ (i := 18) (N := some 32) #[ii,ii,ii,ii,ii,ii,ii,ii,ii,ii,ii,ii,ii,ii,ii,ii,ii,ii,ii,oo] rfl rfl (one_of HT_.out (by kernel_rfl)) (by decide) (fun K hK => ?_)
      refine Kd.R_append_rows_step (Kd.int .u8) (w0 := w) w.heap.size (by rfl) (.tmp 23) (.tmp 31) 22 5 (.int .u8 0) 1 rfl Try.underlying22 info5 rfl (by decide) (by omega) v493 t492 y495 _ _ _ (fun k_ => some k_ ≠ (v490 : Value).ownBlock ∧ some k_ ≠ (.slice Ao24 y495.length co24 : Value).ownBlock) (fun _ => False) rfl rfl ?aO ?aR (fun _ _ h => h) (fun _ h => h.elim) ?aF ?aB ?aS ?aL ?_
      (case aR => exact qC ((Kd.R_reads' HO497.out).2.2))
      (case aB => exact (qB HB))
      (case aF => exact (fun k_ hk => ⟨Kd.fresh' (Kd.R_lt (qR HO491)) k_ hk, Kd.fresh' (Kd.R_lt (qR HO497)) k_ hk⟩))
      (case aO => exact (qR HO494))
      (case aS => exact (below_size (qB HB)))
      (case aL => have := LMc12.out; omega)
      intro v499 w23 ho hb hg hat
      rw [← Ny498.out] at ho
      replace BK484 := am_ (blk_grown (qK BK484) hg (Kd.R_ne HO494.out BK484.out (by decide)))
      replace HO491 := am_ (Kd.R_after (ok := (fun k_ => some k_ ≠ (.slice Ao24 y495.length co24 : Value).ownBlock)) (tR (Kd.R_mono HO491.out (fun _ hk => ⟨hk.2, hk.1⟩))) hg hat)
      replace HO497 := am_ (Kd.R_after (ok := (fun k_ => some k_ ≠ (v490 : Value).ownBlock)) (qR HO497) hg hat)
      replace HB := am_ (hb)
      have HO500 := am_ (ho)
      clear HO494
      clear ho hb hg hat
      refine hK.out _ _ (cz8 BK484.out) (fun hHeld => ?_)
      clear hK K
      refine norm_ (a' := ?_) ?_ ?_
      rotate_left
      ·
       show Act.put _ (some 32) _ = _
       exact ap_
      refine pure_ (i := 19) (N := some 4) (v := ?_) (a' := ?_) #[ii,ii,ii,ii,ii,ii,ii,ii,ii,ii,ii,ii,ii,ii,ii,ii,ii,ii,ii,ii] rfl rfl (any_of HT_.out (by kernel_rfl)) (fun _ _ _ h => h) (Or.inl ⟨by rfl, ?_⟩) ?_ ?_
      rotate_left
      ·
       intro w'
       go_simp
       with_reducible rfl
      rotate_left
      ·
       exact ap_
      refine done_ (done_of HT_.out (by kernel_rfl)) ?_
      obtain ⟨Ao25, co25, eo25⟩ := Kd.R_slice HO500.out
      subst eo25
      try go_wp2
      replace HO491 := am_ (Kd.R_drew HO491.out)
      replace HO497 := am_ (Kd.R_drew HO497.out)
      replace HO500 := am_ (Kd.R_drew HO500.out)
      replace BK484 := am_ (blk_drew BK484.out)
      replace HB := am_ (below_drew1 HB.out)
      refine start_ (n := 11) (S := fun w' => w'.cell? ⟨gb484, 0, none⟩ = some (.int .i64 a0_0) ∧ w'.cell? ⟨gb484, 1, none⟩ = some (.int .i64 a0_1) ∧ w'.cell? ⟨gb484, 2, none⟩ = some (.int .i64 a0_2) ∧ w'.cell? ⟨gb484, 3, none⟩ = some (.int .i64 a0_3) ∧ w'.cell? ⟨gb484, 4, none⟩ = some (.int .i64 a0_4) ∧ w'.cell? ⟨gb484, 5, none⟩ = some (.bool a0_5) ∧ w'.cell? ⟨gb484, 6, none⟩ = some (.int .i64 a0_6) ∧ w'.cell? ⟨gb484, 7, none⟩ = some (.slice A0_7 l0_7.length c0_7)) (ds := []) #[oo,oo,oo,oo,oo,oo,oo,oo,oo,oo,oo] (by kernel_rfl) rfl rfl (cz8 BK484.out) (fun hHeld => ?_); refine with_tabW impl_PutCtl.tab7 impl_PutCtl.bits7 (fun HT_ HW_ => ?_)
      generalize w23.drew = w26 at HO491 HO497 HO500 BK484 HB hHeld ⊢
      refine pure_ (i := 0) (N := some 33) (v := ?_) (a' := ?_) #[ii,oo,oo,oo,oo,oo,oo,oo,oo,oo,oo] rfl rfl (any_of HT_.out (by kernel_rfl)) (fun _ _ _ h => h) (Or.inl ⟨by rfl, ?_⟩) ?_ ?_
      rotate_left
      ·
       intro w'
       go_simp
       with_reducible rfl
      rotate_left
      ·
       exact ap_
      refine pure_ (i := 1) (N := some 34) (v := ?_) (a' := ?_) #[ii,ii,oo,oo,oo,oo,oo,oo,oo,oo,oo] rfl rfl (any_of HT_.out (by kernel_rfl)) (fun _ _ _ h => h) (Or.inl ⟨by rfl, ?_⟩) ?_ ?_
      rotate_left
      ·
       intro w'
       go_simp
       with_reducible rfl
      rotate_left
      ·
       exact ap_
      refine pure_ (i := 4) (N := some 37) (v := ?_) (a' := ?_) #[ii,ii,oo,oo,ii,oo,oo,oo,oo,oo,oo] rfl rfl (any_of HT_.out (by kernel_rfl)) (fun _ _ _ h => h) (Or.inl ⟨by rfl, ?_⟩) ?_ ?_
      rotate_left
      ·
       intro w'
       go_simp
       with_reducible rfl
      rotate_left
      ·
       exact ap_
      refine take_ (i := 2) (N := some 35) (v := ?_) (a' := ?_) #[ii,ii,ii,oo,ii,oo,oo,oo,oo,oo,oo] rfl rfl (take_ofW HT_.out HW_.out (by kernel_rfl)) (fun _ _ _ h => h) (Or.inl ⟨by rfl, ?_⟩) hHeld ?_ ?_
      rotate_left
      ·
       rintro w' ⟨s0, s1, s2, s3, s4, s5, s6, s7⟩
       go_simp
       with_reducible rfl
      rotate_left
      ·
       exact ap_
      refine take_ (i := 5) (N := some 38) (v := ?_) (a' := ?_) #[ii,ii,ii,oo,ii,ii,oo,oo,oo,oo,oo] rfl rfl (take_ofW HT_.out HW_.out (by kernel_rfl)) (fun _ _ _ h => h) (Or.inl ⟨by rfl, ?_⟩) hHeld ?_ ?_
      rotate_left
      ·
       rintro w' ⟨s0, s1, s2, s3, s4, s5, s6, s7⟩
       go_simp
       with_reducible rfl
      rotate_left
      ·
       exact ap_
      refine pure_ (i := 6) (N := some 39) (v := ?_) (a' := ?_) #[ii,ii,ii,oo,ii,ii,ii,oo,oo,oo,oo] rfl rfl (any_of HT_.out (by kernel_rfl)) (fun _ _ _ h => h) (Or.inl ⟨by rfl, ?_⟩) ?_ ?_
      rotate_left
      ·
       intro w'
       go_simp
       with_reducible rfl
      rotate_left
      ·
       exact ap_
      refine pure_ (i := 7) (N := some 40) (v := ?_) (a' := ?_) #[ii,ii,ii,oo,ii,ii,ii,ii,oo,oo,oo] rfl rfl (any_of HT_.out (by kernel_rfl)) (fun _ _ _ h => h) (Or.inl ⟨by rfl, ?_⟩) ?_ ?_
      rotate_left
      ·
       intro w'
       go_simp
       with_reducible rfl
      rotate_left
      ·
       exact ap_
      refine join_ (σ := Value × Value) 2 #[ii,ii,ii,ii,ii,ii,ii,ii,ii,oo,oo] (fun s_ => [(36, s_.1), (41, s_.2)]) (fun s_ w' => (w'.cell? ⟨gb484, 0, none⟩ = some (.int .i64 a0_0) ∧ w'.cell? ⟨gb484, 1, none⟩ = some (.int .i64 a0_1) ∧ w'.cell? ⟨gb484, 2, none⟩ = some (.int .i64 a0_2) ∧ w'.cell? ⟨gb484, 3, none⟩ = some (.int .i64 a0_3) ∧ w'.cell? ⟨gb484, 4, none⟩ = some (.int .i64 a0_4) ∧ w'.cell? ⟨gb484, 5, none⟩ = some (.bool a0_5) ∧ w'.cell? ⟨gb484, 6, none⟩ = some (.int .i64 a0_6) ∧ w'.cell? ⟨gb484, 7, none⟩ = some (.slice A0_7 l0_7.length c0_7)) ∧ (Kd.R (Kd.int .u8) 5 w' w.heap.size (fun k_ => some k_ ≠ (.slice Ao24 y495.length co24 : Value).ownBlock ∧ some k_ ≠ (.slice Ao25 y498.length co25 : Value).ownBlock ∧ some k_ ≠ (s_.1 : Value).ownBlock ∧ some k_ ≠ (s_.2 : Value).ownBlock) v490 y489) ∧ (Kd.R (Kd.int .u8) 5 w' w.heap.size (fun k_ => some k_ ≠ (v490 : Value).ownBlock ∧ some k_ ≠ (.slice Ao25 y498.length co25 : Value).ownBlock ∧ some k_ ≠ (s_.1 : Value).ownBlock ∧ some k_ ≠ (s_.2 : Value).ownBlock) (.slice Ao24 y495.length co24) y495) ∧ (Kd.R (Kd.int .u8) 5 w' w.heap.size (fun k_ => some k_ ≠ (v490 : Value).ownBlock ∧ some k_ ≠ (.slice Ao24 y495.length co24 : Value).ownBlock ∧ some k_ ≠ (s_.1 : Value).ownBlock ∧ some k_ ≠ (s_.2 : Value).ownBlock) (.slice Ao25 y498.length co25) y498) ∧ (Kd.R (Kd.int .u8) 5 w' w.heap.size (fun k_ => some k_ ≠ (v490 : Value).ownBlock ∧ some k_ ≠ (.slice Ao24 y495.length co24 : Value).ownBlock ∧ some k_ ≠ (.slice Ao25 y498.length co25 : Value).ownBlock ∧ some k_ ≠ (s_.2 : Value).ownBlock) s_.1 t501) ∧ (Kd.R (Kd.int .u8) 5 w' w.heap.size (fun k_ => some k_ ≠ (v490 : Value).ownBlock ∧ some k_ ≠ (.slice Ao24 y495.length co24 : Value).ownBlock ∧ some k_ ≠ (.slice Ao25 y498.length co25 : Value).ownBlock ∧ some k_ ≠ (s_.1 : Value).ownBlock) s_.2 y504) ∧ (w'.heap[gb484]? = some (.cells #[.int .i64 a0_0, .int .i64 a0_1, .int .i64 a0_2, .int .i64 a0_3, .int .i64 a0_4, .bool a0_5, .int .i64 a0_6, .slice A0_7 l0_7.length c0_7] 86 (0, 0))) ∧ (Below w.heap.size w w')) ?_ ?_
      rotate_left
      ·
       intro hCont
       refine two_ (i := 3) (j := 8) (Ni := some 36) (Nj := some 41) #[ii,ii,ii,ii,ii,ii,ii,ii,oo,oo,oo] #[ii,ii,ii,oo,ii,ii,ii,ii,ii,oo,oo] rfl rfl rfl rfl (two_of HT_.out (by kernel_rfl)) (by decide) (by decide) (fun K hK => ?_) (fun K hK => ?_)
       ·
        skip
        refine goes_ Try.func82 (by kernel_rfl) rfl #[.slice Ao25 y498.length co25, .int .i64 a0_6] (by rfl) rfl rfl la_ ?_
        with_reducible refine (impl_PutWord.calls _ _ y498 a0_6 t501 _ ?side1 ?side2 A13.out).mono ?_
        (case side1 => exact qC ((Kd.R_reads' HO500.out).2.2))
        (case side2 => exact (Kd.R_reads' HO500.out).2.1)
        rintro e w27 ⟨v502, rfl, ho0, hb⟩
        refine ⟨_, rfl, ?_⟩
        have HO503 := am_ (Kd.R_lower (Kd.R_new' (Kd.R_new' (Kd.R_new' ho0 (Kd.R_lt (qR HO491))) (Kd.R_lt (qR HO497))) (Kd.R_lt (qR HO500))) (below_size (qB HB)))
        replace HO491 := am_ (eR HO491 ho0 hb)
        replace HO497 := am_ (eR HO497 ho0 hb)
        replace HO500 := am_ (eR HO500 ho0 hb)
        replace BK484 := am_ (blk_below (qK BK484) hb)
        replace HB := am_ (below_step (qB HB) hb)
        (try clear hb ho0)
        refine hK.out _ _ (cz8 BK484.out) (fun hHeld => ?_)
        clear hK K
        refine norm_ (a' := ?_) ?_ ?_
        rotate_left
        ·
         show Act.put _ (some 36) _ = _
         exact ap_
        refine one_ (i := 8) (N := some 41) #[ii,ii,ii,ii,ii,ii,ii,ii,ii,oo,oo] rfl rfl (one_of HT_.out (by kernel_rfl)) (by decide) (fun K hK => ?_)
        refine Kd.R_lit_step (Kd.int .u8) _ 5 ?hg (N := 41) ?hd (xs := ([((l0_7.length : Int)) % 256] : List Int)) (inner := [.int .u8 (((l0_7.length : Int)) % 256)]) (ok := fun _ => True) (okp := fun _ => True) ?hr ?hp (fun _ hk => hk) trivial (Below.refl _ _) (Nat.le_refl _) (by simp) ?_; (case hd => rfl); (case hg => rfl); (case hr => first | (go_simp; done) | (go_simp; rfl)); (case hp => exact (Reps.one (show Kd.M (Kd.int .u8) _ _ _ (((l0_7.length : Int)) % 256) [.int .u8 (((l0_7.length : Int)) % 256)] from rfl) (Reps.none _ _)))
        intro v505 w28 ho29 hb hg_ hnew_
        clear hg_ hnew_
        (first | rw [← Ny504.out] at ho29 | (simp only [Int.reduceToNat] at ho29; rw [← Ny504.out] at ho29))
        have HO506 := am_ (Kd.R_lower (Kd.R_new' (Kd.R_new' (Kd.R_new' (Kd.R_new' ho29 (Kd.R_lt (qR HO491))) (Kd.R_lt (qR HO497))) (Kd.R_lt (qR HO500))) (Kd.R_lt (qR HO503))) (below_size (qB HB)))
        replace HO491 := am_ (eR HO491 ho29 hb)
        replace HO497 := am_ (eR HO497 ho29 hb)
        replace HO500 := am_ (eR HO500 ho29 hb)
        replace HO503 := am_ (eR HO503 ho29 hb)
        replace BK484 := am_ (blk_below (qK BK484) hb)
        replace HB := am_ (below_step (qB HB) hb)
        clear hb ho29
        refine hK.out _ _ (cz8 BK484.out) (fun hHeld => ?_)
        clear hK K
        refine norm_ (a' := ?_) ?_ ?_
        rotate_left
        ·
         show Act.put _ (some 41) _ = _
         exact ap_
        exact norm_ (by simp only [putAll, Act.put, List.setIfInBounds_toArray, List.set_cons_zero, List.set_cons_succ]) (hCont (v502, v505) _ ⟨hHeld, (tR (Kd.R_mono HO491.out (fun _ hk => ⟨hk.1.1.1, ⟨hk.1.1.2, ⟨hk.1.2, hk.2⟩⟩⟩))), (tR (Kd.R_mono HO497.out (fun _ hk => ⟨hk.1.1.1, ⟨hk.1.1.2, ⟨hk.1.2, hk.2⟩⟩⟩))), (tR (Kd.R_mono HO500.out (fun _ hk => ⟨hk.1.1.1, ⟨hk.1.1.2, ⟨hk.1.2, hk.2⟩⟩⟩))), (tR (Kd.R_mono HO503.out (fun _ hk => ⟨hk.1.1.1.2, ⟨hk.1.1.2, ⟨hk.1.2, hk.2⟩⟩⟩))), (tR (Kd.R_mono HO506.out (fun _ hk => ⟨hk.1.1.1.2, ⟨hk.1.1.2, ⟨hk.1.2, hk.2⟩⟩⟩))), (qK BK484), (qB HB)⟩)
       ·
        skip
        refine Kd.R_lit_step (Kd.int .u8) _ 5 ?hg (N := 41) ?hd (xs := ([((l0_7.length : Int)) % 256] : List Int)) (inner := [.int .u8 (((l0_7.length : Int)) % 256)]) (ok := fun _ => True) (okp := fun _ => True) ?hr ?hp (fun _ hk => hk) trivial (Below.refl _ _) (Nat.le_refl _) (by simp) ?_; (case hd => rfl); (case hg => rfl); (case hr => first | (go_simp; done) | (go_simp; rfl)); (case hp => exact (Reps.one (show Kd.M (Kd.int .u8) _ _ _ (((l0_7.length : Int)) % 256) [.int .u8 (((l0_7.length : Int)) % 256)] from rfl) (Reps.none _ _)))
        intro v505 w27 ho28 hb hg_ hnew_
        clear hg_ hnew_
        (first | rw [← Ny504.out] at ho28 | (simp only [Int.reduceToNat] at ho28; rw [← Ny504.out] at ho28))
        have HO506 := am_ (Kd.R_lower (Kd.R_new' (Kd.R_new' (Kd.R_new' ho28 (Kd.R_lt (qR HO491))) (Kd.R_lt (qR HO497))) (Kd.R_lt (qR HO500))) (below_size (qB HB)))
        replace HO491 := am_ (eR HO491 ho28 hb)
        replace HO497 := am_ (eR HO497 ho28 hb)
        replace HO500 := am_ (eR HO500 ho28 hb)
        replace BK484 := am_ (blk_below (qK BK484) hb)
        replace HB := am_ (below_step (qB HB) hb)
        clear hb ho28
        refine hK.out _ _ (cz8 BK484.out) (fun hHeld => ?_)
        clear hK K
        refine norm_ (a' := ?_) ?_ ?_
        rotate_left
        ·
         show Act.put _ (some 41) _ = _
         exact ap_
        refine one_ (i := 3) (N := some 36) #[ii,ii,ii,ii,ii,ii,ii,ii,ii,oo,oo] rfl rfl (one_of HT_.out (by kernel_rfl)) (by decide) (fun K hK => ?_)
        refine goes_ Try.func82 (by kernel_rfl) rfl #[.slice Ao25 y498.length co25, .int .i64 a0_6] (by rfl) rfl rfl la_ ?_
        with_reducible refine (impl_PutWord.calls _ _ y498 a0_6 t501 _ ?side1 ?side2 A13.out).mono ?_
        (case side1 => exact qC ((Kd.R_reads' HO500.out).2.2))
        (case side2 => exact (Kd.R_reads' HO500.out).2.1)
        rintro e w29 ⟨v502, rfl, ho0, hb⟩
        refine ⟨_, rfl, ?_⟩
        have HO503 := am_ (Kd.R_lower (Kd.R_new' (Kd.R_new' (Kd.R_new' (Kd.R_new' ho0 (Kd.R_lt (qR HO491))) (Kd.R_lt (qR HO497))) (Kd.R_lt (qR HO500))) (Kd.R_lt (qR HO506))) (below_size (qB HB)))
        replace HO491 := am_ (eR HO491 ho0 hb)
        replace HO497 := am_ (eR HO497 ho0 hb)
        replace HO500 := am_ (eR HO500 ho0 hb)
        replace HO506 := am_ (eR HO506 ho0 hb)
        replace BK484 := am_ (blk_below (qK BK484) hb)
        replace HB := am_ (below_step (qB HB) hb)
        (try clear hb ho0)
        refine hK.out _ _ (cz8 BK484.out) (fun hHeld => ?_)
        clear hK K
        refine norm_ (a' := ?_) ?_ ?_
        rotate_left
        ·
         show Act.put _ (some 36) _ = _
         exact ap_
        exact norm_ (by simp only [putAll, Act.put, List.setIfInBounds_toArray, List.set_cons_zero, List.set_cons_succ]) (hCont (v502, v505) _ ⟨hHeld, (tR (Kd.R_mono HO491.out (fun _ hk => ⟨hk.1.1.1, ⟨hk.1.1.2, ⟨hk.2, hk.1.2⟩⟩⟩))), (tR (Kd.R_mono HO497.out (fun _ hk => ⟨hk.1.1.1, ⟨hk.1.1.2, ⟨hk.2, hk.1.2⟩⟩⟩))), (tR (Kd.R_mono HO500.out (fun _ hk => ⟨hk.1.1.1, ⟨hk.1.1.2, ⟨hk.2, hk.1.2⟩⟩⟩))), (tR (Kd.R_mono HO503.out (fun _ hk => ⟨hk.1.1.1.2, ⟨hk.1.1.2, ⟨hk.1.2, hk.2⟩⟩⟩))), (tR (Kd.R_mono HO506.out (fun _ hk => ⟨hk.1.1.1.2, ⟨hk.1.1.2, ⟨hk.1.2, hk.2⟩⟩⟩))), (qK BK484), (qB HB)⟩)
      rintro ⟨v502, v505⟩ w30 ⟨hS_, h0_, h1_, h2_, h3_, h4_, h5_, h6_⟩
      have n0_ : Aside0 (Kd.R (Kd.int .u8) 5 w30 w.heap.size (fun k_ => some k_ ≠ (.slice Ao24 y495.length co24 : Value).ownBlock ∧ some k_ ≠ (.slice Ao25 y498.length co25 : Value).ownBlock ∧ some k_ ≠ (v502 : Value).ownBlock ∧ some k_ ≠ (v505 : Value).ownBlock) v490 y489) := ⟨h0_⟩
      have n1_ : Aside0 (Kd.R (Kd.int .u8) 5 w30 w.heap.size (fun k_ => some k_ ≠ (v490 : Value).ownBlock ∧ some k_ ≠ (.slice Ao25 y498.length co25 : Value).ownBlock ∧ some k_ ≠ (v502 : Value).ownBlock ∧ some k_ ≠ (v505 : Value).ownBlock) (.slice Ao24 y495.length co24) y495) := ⟨h1_⟩
      have n2_ : Aside0 (Kd.R (Kd.int .u8) 5 w30 w.heap.size (fun k_ => some k_ ≠ (v490 : Value).ownBlock ∧ some k_ ≠ (.slice Ao24 y495.length co24 : Value).ownBlock ∧ some k_ ≠ (v502 : Value).ownBlock ∧ some k_ ≠ (v505 : Value).ownBlock) (.slice Ao25 y498.length co25) y498) := ⟨h2_⟩
      have n3_ : Aside0 (Kd.R (Kd.int .u8) 5 w30 w.heap.size (fun k_ => some k_ ≠ (v490 : Value).ownBlock ∧ some k_ ≠ (.slice Ao24 y495.length co24 : Value).ownBlock ∧ some k_ ≠ (.slice Ao25 y498.length co25 : Value).ownBlock ∧ some k_ ≠ (v505 : Value).ownBlock) v502 t501) := ⟨h3_⟩
      have n4_ : Aside0 (Kd.R (Kd.int .u8) 5 w30 w.heap.size (fun k_ => some k_ ≠ (v490 : Value).ownBlock ∧ some k_ ≠ (.slice Ao24 y495.length co24 : Value).ownBlock ∧ some k_ ≠ (.slice Ao25 y498.length co25 : Value).ownBlock ∧ some k_ ≠ (v502 : Value).ownBlock) v505 y504) := ⟨h4_⟩
      have n5_ : Aside0 (w30.heap[gb484]? = some (.cells #[.int .i64 a0_0, .int .i64 a0_1, .int .i64 a0_2, .int .i64 a0_3, .int .i64 a0_4, .bool a0_5, .int .i64 a0_6, .slice A0_7 l0_7.length c0_7] 86 (0, 0))) := ⟨h5_⟩
      have n6_ : Aside0 (Below w.heap.size w w30) := ⟨h6_⟩
      clear HO491
      clear HO497
      clear HO500
      clear BK484
      clear HB
      clear h0_ h1_ h2_ h3_ h4_ h5_ h6_
      have HO491 := n0_
      have HO497 := n1_
      have HO500 := n2_
      have HO503 := n3_
      have HO506 := n4_
      have BK484 := n5_
      have HB := n6_
      clear n0_ n1_ n2_ n3_ n4_ n5_ n6_
      have hHeld : w30.cell? ⟨gb484, 0, none⟩ = some (.int .i64 a0_0) ∧ w30.cell? ⟨gb484, 1, none⟩ = some (.int .i64 a0_1) ∧ w30.cell? ⟨gb484, 2, none⟩ = some (.int .i64 a0_2) ∧ w30.cell? ⟨gb484, 3, none⟩ = some (.int .i64 a0_3) ∧ w30.cell? ⟨gb484, 4, none⟩ = some (.int .i64 a0_4) ∧ w30.cell? ⟨gb484, 5, none⟩ = some (.bool a0_5) ∧ w30.cell? ⟨gb484, 6, none⟩ = some (.int .i64 a0_6) ∧ w30.cell? ⟨gb484, 7, none⟩ = some (.slice A0_7 l0_7.length c0_7) := hS_
      obtain ⟨Ao32, co32, eo32⟩ := Kd.R_slice HO506.out
      (first | subst eo32 | (injection eo32 with f1_ f2_ f3_; have f4_ := f1_.symm; have f5_ := f3_.symm; clear f1_ f2_ f3_; subst f4_; subst f5_))
      refine norm_ (a' := ?_) ?_ ?_
      rotate_left
      ·
       simp only [putAll, Act.put, List.setIfInBounds_toArray, List.set_cons_zero, List.set_cons_succ]
       rfl
      refine one_ (i := 9) (N := some 42) #[ii,ii,ii,ii,ii,ii,ii,ii,ii,ii,oo] rfl rfl (one_of HT_.out (by kernel_rfl)) (by decide) (fun K hK => ?_)
      refine Kd.R_append_rows_step (Kd.int .u8) (w0 := w) w.heap.size (by rfl) (.tmp 36) (.tmp 41) 22 5 (.int .u8 0) 1 rfl Try.underlying22 info5 rfl (by decide) (by omega) v502 t501 y504 _ _ _ (fun k_ => some k_ ≠ (v490 : Value).ownBlock ∧ some k_ ≠ (.slice Ao24 y495.length co24 : Value).ownBlock ∧ some k_ ≠ (.slice Ao25 y498.length co25 : Value).ownBlock ∧ some k_ ≠ (.slice Ao32 y504.length co32 : Value).ownBlock) (fun _ => False) rfl rfl ?aO ?aR (fun _ _ h => h) (fun _ h => h.elim) ?aF ?aB ?aS ?aL ?_
      (case aR => exact qC ((Kd.R_reads' HO506.out).2.2))
      (case aB => exact (qB HB))
      (case aF => exact (fun k_ hk => ⟨Kd.fresh' (Kd.R_lt (qR HO491)) k_ hk, Kd.fresh' (Kd.R_lt (qR HO497)) k_ hk, Kd.fresh' (Kd.R_lt (qR HO500)) k_ hk, Kd.fresh' (Kd.R_lt (qR HO506)) k_ hk⟩))
      (case aO => exact (qR HO503))
      (case aS => exact (below_size (qB HB)))
      (case aL => have := LMc14.out; omega)
      intro v508 w31 ho hb hg hat
      rw [← Ny507.out] at ho
      replace BK484 := am_ (blk_grown (qK BK484) hg (Kd.R_ne HO503.out BK484.out (by decide)))
      replace HO491 := am_ (Kd.R_after (ok := (fun k_ => some k_ ≠ (.slice Ao24 y495.length co24 : Value).ownBlock ∧ some k_ ≠ (.slice Ao25 y498.length co25 : Value).ownBlock ∧ some k_ ≠ (.slice Ao32 y504.length co32 : Value).ownBlock)) (tR (Kd.R_mono HO491.out (fun _ hk => ⟨⟨hk.1, ⟨hk.2.1, hk.2.2.2⟩⟩, hk.2.2.1⟩))) hg hat)
      replace HO497 := am_ (Kd.R_after (ok := (fun k_ => some k_ ≠ (v490 : Value).ownBlock ∧ some k_ ≠ (.slice Ao25 y498.length co25 : Value).ownBlock ∧ some k_ ≠ (.slice Ao32 y504.length co32 : Value).ownBlock)) (tR (Kd.R_mono HO497.out (fun _ hk => ⟨⟨hk.1, ⟨hk.2.1, hk.2.2.2⟩⟩, hk.2.2.1⟩))) hg hat)
      replace HO500 := am_ (Kd.R_after (ok := (fun k_ => some k_ ≠ (v490 : Value).ownBlock ∧ some k_ ≠ (.slice Ao24 y495.length co24 : Value).ownBlock ∧ some k_ ≠ (.slice Ao32 y504.length co32 : Value).ownBlock)) (tR (Kd.R_mono HO500.out (fun _ hk => ⟨⟨hk.1, ⟨hk.2.1, hk.2.2.2⟩⟩, hk.2.2.1⟩))) hg hat)
      replace HO506 := am_ (Kd.R_after (ok := (fun k_ => some k_ ≠ (v490 : Value).ownBlock ∧ some k_ ≠ (.slice Ao24 y495.length co24 : Value).ownBlock ∧ some k_ ≠ (.slice Ao25 y498.length co25 : Value).ownBlock)) (tR (Kd.R_mono HO506.out (fun _ hk => ⟨⟨hk.1, ⟨hk.2.1, hk.2.2.1⟩⟩, hk.2.2.2⟩))) hg hat)
      replace HB := am_ (hb)
      have HO509 := am_ (ho)
      clear HO503
      clear ho hb hg hat
      refine hK.out _ _ (cz8 BK484.out) (fun hHeld => ?_)
      clear hK K
      refine norm_ (a' := ?_) ?_ ?_
      rotate_left
      ·
       show Act.put _ (some 42) _ = _
       exact ap_
      refine pure_ (i := 10) (N := some 4) (v := ?_) (a' := ?_) #[ii,ii,ii,ii,ii,ii,ii,ii,ii,ii,ii] rfl rfl (any_of HT_.out (by kernel_rfl)) (fun _ _ _ h => h) (Or.inl ⟨by rfl, ?_⟩) ?_ ?_
      rotate_left
      ·
       intro w'
       go_simp
       with_reducible rfl
      rotate_left
      ·
       exact ap_
      refine done_ (done_of HT_.out (by kernel_rfl)) ?_
      obtain ⟨z33_0, z33_1, z33_2, z33_3, z33_4, z33_5, z33_6, z33_7⟩ := cz8 BK484.out
      obtain ⟨f33_0, f33_1, f33_2, f33_3, f33_4, f33_5, f33_6, f33_7⟩ := fz8 BK484.out
      try go_wp2
      go_loopg [4, 46] kj7 (fun kq v4 v46 w' => ∃ (x4_2 : List Int) (x46_2 : Int), v46 = .int .i64 x46_2 ∧ Aside0 (impl_PutCtl.l0 kq x4_2 l0_7 (l0_7.length : Int) x46_2 = some r) ∧ Aside0 (kq ≤ kj7) ∧ Aside0 (Kd.R (Kd.int .u8) 5 w' w.heap.size (fun _ => True) v4 x4_2) ∧ Aside0 (w'.heap[gb484]? = some (.cells #[.int .i64 a0_0, .int .i64 a0_1, .int .i64 a0_2, .int .i64 a0_3, .int .i64 a0_4, .bool a0_5, .int .i64 a0_6, (.slice A0_7 l0_7.length c0_7)] 86 (0, 0))) ∧ Aside0 (Below w.heap.size w w'))
      case atStart => exact ⟨(y507), (0), eqq_, H', ⟨Nat.le_refl _⟩, ⟨by (with_reducible repeat (first | apply Kd.R_alloc | apply Kd.R_drewN | apply Kd.R_drew)); exact Kd.R_mono HO509.out (fun _ hk => trivial)⟩, ⟨qK BK484⟩, ⟨qB HB⟩⟩
      case round =>
       clear H'
       try clear c1
       try clear p2
       try clear c8
       try clear c12
       try clear c14
       (try clear z33_0 z33_1 z33_2 z33_3 z33_4 z33_5 z33_6 z33_7)
       (try clear f33_0 f33_1 f33_2 f33_3 f33_4 f33_5 f33_6 f33_7)
       obtain ⟨x4_2, x46_2, rfl, HA, HK2, HO_4, BK484, HB⟩ := hrel
       cases gk with
       | zero => exact absurd HA.out (by simp [impl_PutCtl.l0])
       | succ k2 =>
        have H := HA.out
        clear HA
        simp only [impl_PutCtl.l0] at H
        by_cases c34 : x46_2 < (l0_7.length : Int)
        ·
         rw [if_pos c34] at H
         have c34b0 : decide (x46_2 < (l0_7.length : Int)) = true := decide_eq_true c34
         clear c34
         by_cases c35 : 0 ≤ x46_2
         ·
          rw [if_pos c35] at H
          have c35b0 : decide (0 ≤ x46_2) = true := decide_eq_true c35
          clear c35
          by_cases c36 : x46_2 < (l0_7.length : Int)
          ·
           rw [if_pos c36] at H
           have c36b0 : decide (x46_2 < (l0_7.length : Int)) = true := decide_eq_true c36
           clear c36
           obtain ⟨t512, A37, H⟩ := bd_ H
           obtain ⟨y515, hy515⟩ : ∃ y_ : List Int, y_ = (([((t512.length : Int)) % 256] : List Int)) := ⟨_, rfl⟩
           replace H := mk_ H hy515
           (try dsimp only at H)
           have Ny515 := Aside0.mk hy515
           clear hy515
           by_cases c38 : x4_2.length + y515.length < 140737488355328
           ·
            rw [if_pos c38] at H
            have LMc38 := Aside0.mk c38
            clear c38
            obtain ⟨y518, hy518⟩ : ∃ y_ : List Int, y_ = (x4_2 ++ y515) := ⟨_, rfl⟩
            replace H := mk_ H hy518
            (try dsimp only at H)
            have Ny518 := Aside0.mk hy518
            clear hy518
            by_cases c39 : y518.length + t512.length < 140737488355328
            ·
             rw [if_pos c39] at H
             have LMc39 := Aside0.mk c39
             clear c39
             obtain ⟨y521, hy521⟩ : ∃ y_ : List Int, y_ = (y518 ++ t512) := ⟨_, rfl⟩
             replace H : (impl_PutCtl.l0 k2 y521 l0_7 (l0_7.length : Int) (wrap64 (x46_2 + 1))) = some r := by first | (rw [hy521]; with_reducible exact H) | (have H2_ := (Option.bind_some _ _).symm.trans H; rw [hy521]; with_reducible exact H2_) | (have H2_ := (Option.bind_some _ _).symm.trans H; with_reducible exact H2_) | with_reducible exact H | (rw [hy521]; exact H) | exact H
             have Ny521 := Aside0.mk hy521
             clear hy521
             have H' := Aside0.mk H
             clear H
             have p510 : 0 ≤ (x46_2 : Int) := od_
             have q510 : x46_2 < (l0_7.length : Int) := od_
             obtain ⟨ad510, e510, hx510_0, hx510_1, hx510_2, hx510_3, hx510_4, hx510_5, hx510_6, hx510_7, hx510_8, hx510_9, hx510_10, hx510_11, hx510_12, hx510_13, hx510_14, hx510_15⟩ := at_T48 HR0_7.out x46_2 p510 q510
             cases e510
             replace hx510_0 := lb_ HB hx510_0
             replace hx510_1 := lb_ HB hx510_1
             replace hx510_2 := lb_ HB hx510_2
             replace hx510_3 := lb_ HB hx510_3
             replace hx510_4 := lb_ HB hx510_4
             replace hx510_5 := lb_ HB hx510_5
             replace hx510_6 := lb_ HB hx510_6
             replace hx510_7 := lb_ HB hx510_7
             replace hx510_8 := lb_ HB hx510_8
             replace hx510_9 := lb_ HB hx510_9
             replace hx510_10 := lb_ HB hx510_10
             replace hx510_11 := lb_ HB hx510_11
             replace hx510_12 := lb_ HB hx510_12
             replace hx510_13 := lb_ HB hx510_13
             replace hx510_14 := lb_ HB hx510_14
             replace hx510_15 := lb_ HB hx510_15
             replace p510 := eq_true p510
             replace q510 := eq_true q510
             go_wp2_with (first | ((with_reducible refine gate_dst (N := 6) rfl ?_); refine box_event ?hg (N := 6) ?hd (cs := #[.int .i64 0, .int .i64 0, .string (⟨#[]⟩ : ByteArray), .int .i64 0, .int .i64 0, .int .i64 0, .string (⟨#[]⟩ : ByteArray), .int .i64 0, .int .i64 0, .int .i64 0, .string (⟨#[]⟩ : ByteArray), .int .i64 0, .int .i64 0, .int .i64 0, .int .i64 0, .int .i64 0]) (t := 48) ?hr ?_; (case hd => rfl); (case hg => rfl); (case hr => first | (go_simp; done) | (go_simp; rfl)); intro gb511 hg w40 hbox hb; replace HO_4 := am_ (Kd.R_below (qR HO_4) hb); have BK511 := am_ (hbox); have GW511 := am_ ((gG_ hg (qB HB))); have IGW511 := gI_ GW511; have GE511 := am_ ((gG_ hg (qB HB))); have IGE511 := gI_ GE511; replace HB := am_ (below_step (qB HB) hb); have NB484_511 := am_ ((gN_ hg (qK BK484))); have NB511_484 := am_ ((gM_ hg (qK BK484))); replace BK484 := am_ (blk_below (qK BK484) hb); clear hb hbox hg; have hnb41 := NB511_484.out; have hnc41 := NB484_511.out; obtain ⟨z42_0, z42_1, z42_2, z42_3, z42_4, z42_5, z42_6, z42_7, z42_8, z42_9, z42_10, z42_11, z42_12, z42_13, z42_14, z42_15⟩ := cz16 BK511.out; obtain ⟨f42_0, f42_1, f42_2, f42_3, f42_4, f42_5, f42_6, f42_7, f42_8, f42_9, f42_10, f42_11, f42_12, f42_13, f42_14, f42_15⟩ := fz16 BK511.out) | ((with_reducible refine gate_callee (f := 27) rfl ?_); refine goesL_ (some 51) rfl rfl Try.func27 (by kernel_rfl) rfl #[.agg #[.int .i64 ((rd_T48 l0_7 x46_2).f0), .int .i64 ((rd_T48 l0_7 x46_2).f1.f0), .string ((rd_T48 l0_7 x46_2).f1.f1), .int .i64 ((rd_T48 l0_7 x46_2).f1.f2), .int .i64 ((rd_T48 l0_7 x46_2).f1.f3), .int .i64 ((rd_T48 l0_7 x46_2).f1.f4), .string ((rd_T48 l0_7 x46_2).f1.f5), .int .i64 ((rd_T48 l0_7 x46_2).f1.f6), .int .i64 ((rd_T48 l0_7 x46_2).f1.f7), .int .i64 ((rd_T48 l0_7 x46_2).f2.f0), .string ((rd_T48 l0_7 x46_2).f2.f1), .int .i64 ((rd_T48 l0_7 x46_2).f2.f2), .int .i64 ((rd_T48 l0_7 x46_2).f2.f3), .int .i64 ((rd_T48 l0_7 x46_2).f2.f4), .int .i64 ((rd_T48 l0_7 x46_2).f2.f5), .int .i64 ((rd_T48 l0_7 x46_2).f2.f6)]] rfl la_ ?_; (with_reducible refine (impl_PutItem.calls k2 ((rd_T48 l0_7 x46_2).f0) ((rd_T48 l0_7 x46_2).f1.f0) ((rd_T48 l0_7 x46_2).f1.f1) ((rd_T48 l0_7 x46_2).f1.f2) ((rd_T48 l0_7 x46_2).f1.f3) ((rd_T48 l0_7 x46_2).f1.f4) ((rd_T48 l0_7 x46_2).f1.f5) ((rd_T48 l0_7 x46_2).f1.f6) ((rd_T48 l0_7 x46_2).f1.f7) ((rd_T48 l0_7 x46_2).f2.f0) ((rd_T48 l0_7 x46_2).f2.f1) ((rd_T48 l0_7 x46_2).f2.f2) ((rd_T48 l0_7 x46_2).f2.f3) ((rd_T48 l0_7 x46_2).f2.f4) ((rd_T48 l0_7 x46_2).f2.f5) ((rd_T48 l0_7 x46_2).f2.f6) t512 _ A37.out).mono ?_); rintro e w43 ⟨v513, rfl, ho0, hb⟩; refine ⟨_, rfl, ?_⟩; have HO514 := am_ (Kd.R_lower (Kd.R_new' ho0 (Kd.R_lt (by (with_reducible repeat (first | apply Kd.R_alloc | apply Kd.R_drewN | apply Kd.R_drew)); exact (Kd.R_mono (Go.Proofs.YtahfemlfdpbkkaaV.R_far16 (g := gb511) (Kd.R_types HO_4.out BK511.out (by decide)) (fun _ hk => hk.2)) (fun _ h_ => h_.1))))) (below_size (qB HB))); replace HO_4 := am_ (Kd.R_elder' (by (with_reducible repeat (first | apply Kd.R_alloc | apply Kd.R_drewN | apply Kd.R_drew)); exact (Kd.R_mono (Go.Proofs.YtahfemlfdpbkkaaV.R_far16 (g := gb511) (Kd.R_types HO_4.out BK511.out (by decide)) (fun _ hk => hk.2)) (fun _ h_ => h_.1))) (Kd.R_base ho0) hb); replace BK484 := am_ (blk_below (g := gb484) (o := .cells #[.int .i64 a0_0, .int .i64 a0_1, .int .i64 a0_2, .int .i64 a0_3, .int .i64 a0_4, .bool a0_5, .int .i64 a0_6, .slice (some ad510) l0_7.length c0_7] 86 (0, 0)) (by (with_reducible repeat (first | refine blk_drewN ?_ _ | refine blk_drew ?_ | refine blk_alloc ?_ _)); refine Go.Proofs.YtahfemlfdpbkkaaV.blk_far16 ?_ NB484_511.out; (with_reducible repeat (first | refine blk_drewN ?_ _ | refine blk_drew ?_ | refine blk_alloc ?_ _)); exact BK484.out) hb); replace BK511 := am_ (blk_below (g := gb511) (o := .cells #[.int .i64 ((rd_T48 l0_7 x46_2).f0), .int .i64 ((rd_T48 l0_7 x46_2).f1.f0), .string ((rd_T48 l0_7 x46_2).f1.f1), .int .i64 ((rd_T48 l0_7 x46_2).f1.f2), .int .i64 ((rd_T48 l0_7 x46_2).f1.f3), .int .i64 ((rd_T48 l0_7 x46_2).f1.f4), .string ((rd_T48 l0_7 x46_2).f1.f5), .int .i64 ((rd_T48 l0_7 x46_2).f1.f6), .int .i64 ((rd_T48 l0_7 x46_2).f1.f7), .int .i64 ((rd_T48 l0_7 x46_2).f2.f0), .string ((rd_T48 l0_7 x46_2).f2.f1), .int .i64 ((rd_T48 l0_7 x46_2).f2.f2), .int .i64 ((rd_T48 l0_7 x46_2).f2.f3), .int .i64 ((rd_T48 l0_7 x46_2).f2.f4), .int .i64 ((rd_T48 l0_7 x46_2).f2.f5), .int .i64 ((rd_T48 l0_7 x46_2).f2.f6)] 48 (0, 0)) (by (with_reducible repeat (first | refine blk_drewN ?_ _ | refine blk_drew ?_ | refine blk_alloc ?_ _)); refine Go.Proofs.YtahfemlfdpbkkaaV.blk_all16 (show _ = some (Go.Obj.cells #[.int .i64 0, .int .i64 0, .string (⟨#[]⟩ : ByteArray), .int .i64 0, .int .i64 0, .int .i64 0, .string (⟨#[]⟩ : ByteArray), .int .i64 0, .int .i64 0, .int .i64 0, .string (⟨#[]⟩ : ByteArray), .int .i64 0, .int .i64 0, .int .i64 0, .int .i64 0, .int .i64 0] _ (0, 0)) from ?_); (with_reducible repeat (first | refine blk_drewN ?_ _ | refine blk_drew ?_ | refine blk_alloc ?_ _)); exact BK511.out) hb); replace HB := am_ (below_step (qB HB) hb); (try clear hb); (try clear hb2); (try clear hk); (try clear hi); (try clear ho0); obtain ⟨Ao44, co44, eo44⟩ := Kd.R_slice HO514.out; subst eo44) | ((with_reducible refine gate_dst (N := 56) rfl ?_); refine Kd.R_lit (Kd.int .u8) _ 5 ?hg (N := 56) ?hd (xs := ([((t512.length : Int)) % 256] : List Int)) (inner := [.int .u8 (((t512.length : Int)) % 256)]) (ok := fun _ => True) (okp := fun _ => True) ?hr ?hp (fun _ hk => hk) trivial (Below.refl _ _) (Nat.le_refl _) (by simp) ?_; (case hd => rfl); (case hg => rfl); (case hr => first | (go_simp; done) | (go_simp; rfl)); (case hp => exact (Reps.one (show Kd.M (Kd.int .u8) _ _ _ (((t512.length : Int)) % 256) [.int .u8 (((t512.length : Int)) % 256)] from rfl) (Reps.none _ _))); intro v516 w45 ho46 hb hg_ hnew_; clear hg_ hnew_; (first | rw [← Ny515.out] at ho46 | (simp only [Int.reduceToNat] at ho46; rw [← Ny515.out] at ho46)); have HO517 := am_ (Kd.R_lower (Kd.R_new' (Kd.R_new' ho46 (Kd.R_lt (qR HO_4))) (Kd.R_lt (qR HO514))) (below_size (qB HB))); replace HO_4 := am_ (eR HO_4 ho46 hb); replace HO514 := am_ (eR HO514 ho46 hb); replace BK484 := am_ (blk_below (qK BK484) hb); replace BK511 := am_ (blk_below (qK BK511) hb); replace HB := am_ (below_step (qB HB) hb); clear hb ho46; obtain ⟨Ao48, co48, eo48⟩ := Kd.R_slice HO517.out; subst eo48) | ((with_reducible refine gate_builtin (b := .append) (xs := #[.tmp 52, .tmp 56]) rfl ?_); at_builtin; refine Kd.R_append_rows (Kd.int .u8) (w0 := w) w.heap.size rfl (.tmp 52) (.tmp 56) 22 5 (.int .u8 0) 1 rfl Try.underlying22 info5 rfl (by decide) (by omega) u4 x4_2 y515 _ _ _ (fun k_ => some k_ ≠ (.slice Ao44 t512.length co44 : Value).ownBlock ∧ some k_ ≠ (.slice Ao48 y515.length co48 : Value).ownBlock) (fun _ => False) rfl rfl ?aO ?aR (fun _ _ h => h) (fun _ h => h.elim) ?aF ?aB ?aS ?aL ?_; (case aR => exact qC ((Kd.R_reads' HO517.out).2.2)); (case aB => exact (qB HB)); (case aF => exact (fun k_ hk => ⟨Kd.fresh' (Kd.R_lt (qR HO514)) k_ hk, Kd.fresh' (Kd.R_lt (qR HO517)) k_ hk⟩)); (case aO => exact (tR (Kd.R_mono HO_4.out (fun _ hk => ⟨hk.1.2, hk.2⟩)))); (case aS => exact (below_size (qB HB))); (case aL => have := LMc38.out; omega); intro v519 w47 ho hb hg hat; rw [← Ny518.out] at ho; replace BK484 := am_ (blk_grown (qK BK484) hg (Kd.R_ne HO_4.out BK484.out (by decide))); replace BK511 := am_ (blk_grown (qK BK511) hg (Kd.R_ne HO_4.out BK511.out (by decide))); replace HO514 := am_ (Kd.R_after (ok := (fun k_ => some k_ ≠ (.slice Ao48 y515.length co48 : Value).ownBlock)) (tR (Kd.R_mono HO514.out (fun _ hk => ⟨hk.2, hk.1.2⟩))) hg hat); replace HO517 := am_ (Kd.R_after (ok := (fun k_ => some k_ ≠ (.slice Ao44 t512.length co44 : Value).ownBlock)) (tR (Kd.R_mono HO517.out (fun _ hk => ⟨hk.2, hk.1.2⟩))) hg hat); replace HB := am_ (hb); have HO520 := am_ (ho); clear HO_4; clear ho hb hg hat) | ((with_reducible refine gate_builtin (b := .append) (xs := #[.tmp 57, .tmp 58]) rfl ?_); at_builtin; refine Kd.R_append_rows (Kd.int .u8) (w0 := w) w.heap.size rfl (.tmp 57) (.tmp 58) 22 5 (.int .u8 0) 1 rfl Try.underlying22 info5 rfl (by decide) (by omega) v519 y518 t512 _ _ _ (fun k_ => some k_ ≠ (.slice Ao44 t512.length co44 : Value).ownBlock ∧ some k_ ≠ (.slice Ao48 y515.length co48 : Value).ownBlock) (fun _ => False) rfl rfl ?aO ?aR (fun _ _ h => h) (fun _ h => h.elim) ?aF ?aB ?aS ?aL ?_; (case aR => exact qC ((Kd.R_reads' HO514.out).2.2)); (case aB => exact (qB HB)); (case aF => exact (fun k_ hk => ⟨Kd.fresh' (Kd.R_lt (qR HO514)) k_ hk, Kd.fresh' (Kd.R_lt (qR HO517)) k_ hk⟩)); (case aO => exact (qR HO520)); (case aS => exact (below_size (qB HB))); (case aL => have := LMc39.out; omega); intro v522 w49 ho hb hg hat; rw [← Ny521.out] at ho; replace BK484 := am_ (blk_grown (qK BK484) hg (Kd.R_ne HO520.out BK484.out (by decide))); replace BK511 := am_ (blk_grown (qK BK511) hg (Kd.R_ne HO520.out BK511.out (by decide))); replace HO514 := am_ (Kd.R_after (ok := (fun k_ => some k_ ≠ (.slice Ao48 y515.length co48 : Value).ownBlock)) (qR HO514) hg hat); replace HO517 := am_ (Kd.R_after (ok := (fun k_ => some k_ ≠ (.slice Ao44 t512.length co44 : Value).ownBlock)) (qR HO517) hg hat); replace HB := am_ (hb); have HO523 := am_ (ho); clear HO520; clear ho hb hg hat))
             go_roundg k2
             case measure => have := HJ7.out; have := HK2.out; omega
             case rel => exact ⟨(y521), (wrap64 (x46_2 + 1)), eqq_, H', ⟨by have := HJ7.out; have := HK2.out; omega⟩, ⟨by (with_reducible repeat (first | apply Kd.R_alloc | apply Kd.R_drewN | apply Kd.R_drew)); exact Kd.R_mono HO523.out (fun _ hk => trivial)⟩, ⟨qK BK484⟩, ⟨qB HB⟩⟩
            ·
             rw [if_neg c39] at H
             exact absurd H (by simp)
           ·
            rw [if_neg c38] at H
            exact absurd H (by simp)
          ·
           rw [if_neg c36] at H
           exact absurd H (by simp)
         ·
          rw [if_neg c35] at H
          exact absurd H (by simp)
        ·
         rw [if_neg c34] at H
         have c34b0 : decide (x46_2 < (l0_7.length : Int)) = false := decide_eq_false c34
         clear c34
         obtain ⟨t524, A50, H⟩ := bd_ H
         obtain ⟨t525, A51, H⟩ := bd_ H
         obtain rfl := Option.some.inj H
         obtain ⟨Ao52, co52, eo52⟩ := Kd.R_slice HO_4.out
         subst eo52
         go_wp2_with (first | ((with_reducible refine gate_callee (f := 138) rfl ?_); refine goesL_ (some 63) rfl rfl Try.func138 (by kernel_rfl) rfl #[.slice Ao52 x4_2.length co52] rfl la_ ?_; (with_reducible refine (impl_Sum.calls k2 _ _ x4_2 t524 _ ?side1 ?side2 A50.out).mono ?_); (case side1 => exact qC ((Kd.R_reads' HO_4.out).2.2)); (case side2 => exact (Kd.R_reads' HO_4.out).2.1); rintro e w' ⟨rfl, ⟨nd, rfl⟩⟩; refine ⟨_, rfl, ?_⟩) | ((with_reducible refine gate_callee (f := 82) rfl ?_); refine goesL_ (some 64) rfl rfl Try.func82 (by kernel_rfl) rfl #[.slice Ao52 x4_2.length co52, .int .i64 t524] rfl la_ ?_; (with_reducible refine (impl_PutWord.calls _ _ x4_2 t524 t525 _ ?side1 ?side2 A51.out).mono ?_); (case side1 => exact qC ((Kd.R_reads' HO_4.out).2.2)); (case side2 => exact (Kd.R_reads' HO_4.out).2.1); rintro e w53 ⟨v526, rfl, ho0, hb⟩; refine ⟨_, rfl, ?_⟩; have HO527 := am_ (Kd.R_lower (Kd.R_new' ho0 (Kd.R_lt (qR HO_4))) (below_size (qB HB))); replace HO_4 := am_ (eR HO_4 ho0 hb); replace BK484 := am_ (blk_below (qK BK484) hb); replace HB := am_ (below_step (qB HB) hb); (try clear hb); (try clear hb2); (try clear hk); (try clear hi); (try clear ho0)))
         go_ret
         exact ⟨_, by first | rfl | (simp [errW_none, errW_some] <;> rfl) | (simp [*, errW_none, errW_some] <;> rfl), by (with_reducible repeat (first | apply Kd.R_alloc | apply Kd.R_drewN | apply Kd.R_drew)); exact Kd.R_mono HO527.out (fun _ hk => trivial), qB HB⟩
     ·
      rw [if_neg c14] at H
      exact absurd H (by simp)
    ·
     rw [if_neg c12] at H
     exact absurd H (by simp)
 ·
  replace c7 := Bool.eq_false_iff.mpr c7
  subst c7
  rw [if_neg (show ¬ (false = true) by decide)] at H
  obtain ⟨y486, hy486⟩ : ∃ y_ : List Int, y_ = (([] : List Int)) := ⟨_, rfl⟩
  rw [← hy486] at H
  have Ny486 := Aside0.mk hy486
  clear hy486
  obtain rfl := Option.some.inj H
  go_wp2_with (first | ((with_reducible refine gate_dst (N := 11) rfl ?_); refine Kd.R_lit (Kd.int .u8) _ 5 ?hg (N := 11) ?hd (xs := ([] : List Int)) (inner := []) (ok := fun _ => True) (okp := fun _ => True) ?hr ?hp (fun _ hk => hk) trivial (Below.refl _ _) (Nat.le_refl _) (by simp) ?_; (case hd => rfl); (case hg => rfl); (case hr => first | (go_simp; done) | (go_simp; rfl)); (case hp => exact (Reps.none _ _)); intro v487 w54 ho55 hb hg_ hnew_; clear hg_ hnew_; (first | rw [← Ny486.out] at ho55 | (simp only [Int.reduceToNat] at ho55; rw [← Ny486.out] at ho55)); have HO488 := am_ (Kd.R_lower ho55 (below_size (qB HB))); replace BK484 := am_ (blk_below (qK BK484) hb); replace HB := am_ (below_step (qB HB) hb); clear hb ho55))
  go_ret
  exact ⟨_, by first | rfl | (simp [errW_none, errW_some] <;> rfl) | (simp [*, errW_none, errW_some] <;> rfl), qR HO488, qB HB⟩

end Go.Proofs.Ytahfemlfdpbkkaa.PFnExactPutCtl
