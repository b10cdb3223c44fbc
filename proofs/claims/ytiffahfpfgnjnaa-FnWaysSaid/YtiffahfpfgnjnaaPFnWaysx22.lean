-- Written by a program of this session (myprint.py, over the kit's print): contracts of FnWays
import Derived.Test.YtiffahfpfgnjnaaPFnWaysx0
import Derived.Test.YtiffahfpfgnjnaaPFnWaysx18
import Derived.Test.YtiffahfpfgnjnaaPFnWaysx19
import Derived.Test.YtiffahfpfgnjnaaPFnWaysx20
import Derived.Test.YtiffahfpfgnjnaaPFnWaysx21
namespace Go.Proofs.Ytiffahfpfgnjnaa.PFnWays
open Go.RowKit Go.Proofs.YtiffahfpfgnjnaaW.PrintWords Go.Proofs.YtiffahfpfgnjnaaW.PrintLast Go.Proofs.YtiffahfpfgnjnaaW.PrintMore Go.Proofs.YtiffahfpfgnjnaaV
attribute [local go_sem] max2_int min2_int max_two min_two max_three min_three max_four min_four   -- for this text's walks alone
set_option linter.unusedVariables false
set_option linter.unusedSimpArgs false

/-! ### impl_PutCtl: function 52 -/
mutual
def impl_PutCtl.j0 : Nat → Int → Int → Int → Int → Int → Int → Bool → Int → List (S29) → Option (List Int)
 | 0, _, _, _, _, _, _, _, _, _ => none
 | k + 1, x3, x916000, x916001, x916002, x916003, x916004, x916005, x916006, x916007 => (impl_PutWord.f (([(x916000) % 256, (x916001) % 256] : List Int)) x916002).bind fun t923 => ((some (([(x916003) % 256, (x916004) % 256, x3] : List Int) : List Int)).bind fun y926 => (if t923.length + y926.length < 140737488355328 then ((impl_PutWord.f (t923 ++ y926) x916006).bind fun t932 => ((some (([((x916007.length : Int)) % 256] : List Int) : List Int)).bind fun y935 => (if t932.length + y935.length < 140737488355328 then (impl_PutCtl.l0 k (t932 ++ y935) x916007 (x916007.length : Int) 0) else (none)))) else (none)))
def impl_PutCtl.l0 : Nat → List Int → List (S29) → Int → Int → Option (List Int)
 | 0, _, _, _, _ => none
 | k + 1, x4, x44, x45, x46 => if x46 < x45 then (if 0 ≤ x46 then (if x46 < (x44.length : Int) then ((impl_PutItem.f k ((rd_T29 x44 x46).f0) ((rd_T29 x44 x46).f1.f0) ((rd_T29 x44 x46).f1.f1) ((rd_T29 x44 x46).f1.f2) ((rd_T29 x44 x46).f1.f3) ((rd_T29 x44 x46).f1.f4) ((rd_T29 x44 x46).f1.f5) ((rd_T29 x44 x46).f1.f6) ((rd_T29 x44 x46).f1.f7) ((rd_T29 x44 x46).f2.f0) ((rd_T29 x44 x46).f2.f1) ((rd_T29 x44 x46).f2.f2) ((rd_T29 x44 x46).f2.f3) ((rd_T29 x44 x46).f2.f4) ((rd_T29 x44 x46).f2.f5) ((rd_T29 x44 x46).f2.f6)).bind fun t943 => ((some (([((t943.length : Int)) % 256] : List Int) : List Int)).bind fun y946 => (if x4.length + y946.length < 140737488355328 then ((some (x4 ++ y946 : List Int)).bind fun y949 => (if y949.length + t943.length < 140737488355328 then (impl_PutCtl.l0 k (y949 ++ t943) x44 x45 (wrap64 (x46 + 1))) else (none))) else (none)))) else (none)) else (none)) else ((impl_Sum.f k x4).bind fun t955 => ((impl_PutWord.f x4 t955).bind fun t956 => (some t956)))
end
def impl_PutCtl.f (k : Nat) (a0_0 : Int) (a0_1 : Int) (a0_2 : Int) (a0_3 : Int) (a0_4 : Int) (a0_5 : Bool) (a0_6 : Int) (l0_7 : List (S29)) : Option (List Int) := (impl_CtlOk.f k a0_0 a0_1 a0_2 a0_3 a0_4 a0_5 a0_6 l0_7).bind fun t916 => (if t916 = true then (if a0_5 = true then (impl_PutCtl.j0 k 1 a0_0 a0_1 a0_2 a0_3 a0_4 a0_5 a0_6 l0_7) else (impl_PutCtl.j0 k 0 a0_0 a0_1 a0_2 a0_3 a0_4 a0_5 a0_6 l0_7)) else (some (([] : List Int))))
theorem impl_PutCtl.mono_l : ∀ k, (∀ y0 y1 y2 y3 y4 y5 y6 y7 y8, LeO (impl_PutCtl.j0 k y0 y1 y2 y3 y4 y5 y6 y7 y8) (impl_PutCtl.j0 (k + 1) y0 y1 y2 y3 y4 y5 y6 y7 y8)) ∧ (∀ y0 y1 y2 y3, LeO (impl_PutCtl.l0 k y0 y1 y2 y3) (impl_PutCtl.l0 (k + 1) y0 y1 y2 y3))
 | 0 => ⟨fun _ _ _ _ _ _ _ _ _ r h => by simp [impl_PutCtl.j0] at h, fun _ _ _ _ r h => by simp [impl_PutCtl.l0] at h⟩
 | k + 1 => by
  obtain ⟨ih0, ih1⟩ := impl_PutCtl.mono_l k
  refine ⟨?_, ?_⟩
  ·
   intro y0 y1 y2 y3 y4 y5 y6 y7 y8
   unfold impl_PutCtl.j0
   have m0 := @impl_CtlOk.mono; have m1 := @impl_PutItem.mono; have m2 := @impl_Sum.mono; exact mo_
  ·
   intro y0 y1 y2 y3
   unfold impl_PutCtl.l0
   have m0 := @impl_CtlOk.mono; have m1 := @impl_PutItem.mono; have m2 := @impl_Sum.mono; exact mo_
theorem impl_PutCtl.mono : ∀ a0 a1 a2 a3 a4 a5 a6 a7 k, LeO (impl_PutCtl.f k a0 a1 a2 a3 a4 a5 a6 a7) (impl_PutCtl.f (k + 1) a0 a1 a2 a3 a4 a5 a6 a7) := by
 intro a0 a1 a2 a3 a4 a5 a6 a7 k
 obtain ⟨ih0, ih1⟩ := impl_PutCtl.mono_l k
 unfold impl_PutCtl.f
 have m0 := @impl_CtlOk.mono; have m1 := @impl_PutItem.mono; have m2 := @impl_Sum.mono; exact mo_
def impl_PutCtl.T6 : Bool × List (List Nat × List Nat) := (true, [([], []), ([0], [0]), ([1], [1]), ([], []), ([3], [3]), ([4], [4]), ([2, 5], [2, 5]), ([], []), ([7], [7]), ([6, 8], [6, 8]), ([], []), ([10], [10]), ([11], [11]), ([], []), ([13], [13]), ([14], [14]), ([], []), ([12, 15, 16], [12, 15, 16]), ([9, 17, 9], [9, 17]), ([18, 18, 0, 1, 2, 3, 4, 5, 6, 7, 8, 9, 10, 11, 12, 13, 14, 15, 16, 17, 18], [18])])
def impl_PutCtl.B6 : List Nat := [0, 1, 3, 0, 8, 24, 63, 0, 128, 511, 0, 1024, 3072, 0, 8192, 24576, 0, 130048, 262143, 524287]
theorem impl_PutCtl.tab6 : rtab .any (opsOf Try.f52 6) = impl_PutCtl.T6 := by kernel_rfl
theorem impl_PutCtl.bits6 : waitsOk impl_PutCtl.T6.2 impl_PutCtl.B6 = true := by kernel_rfl
def impl_PutCtl.T7 : Bool × List (List Nat × List Nat) := (true, [([], []), ([], []), ([1], [1]), ([0, 2], [0, 2]), ([], []), ([4], [4]), ([5], [5]), ([6], [6]), ([7], [7]), ([3, 8, 3], [3, 8]), ([9, 9, 0, 1, 2, 3, 4, 5, 6, 7, 8, 9], [0, 9])])
def impl_PutCtl.B7 : List Nat := [0, 0, 2, 7, 0, 16, 48, 112, 240, 511, 1023]
theorem impl_PutCtl.tab7 : rtab .any (opsOf Try.f52 7) = impl_PutCtl.T7 := by kernel_rfl
theorem impl_PutCtl.bits7 : waitsOk impl_PutCtl.T7.2 impl_PutCtl.B7 = true := by kernel_rfl
set_option maxHeartbeats 8000000 in
set_option maxRecDepth 100000 in
theorem impl_PutCtl.calls (k : Nat) (a0_0 : Int) (a0_1 : Int) (a0_2 : Int) (a0_3 : Int) (a0_4 : Int) (a0_5 : Bool) (a0_6 : Int) (A0_7 : Option Addr) (c0_7 : Nat) (l0_7 : List (S29)) (r : List Int) (w : World) (hr0_7 : Kd.C k29 w A0_7 l0_7.length l0_7) (hc0_7 : l0_7.length ≤ c0_7) (h : impl_PutCtl.f k a0_0 a0_1 a0_2 a0_3 a0_4 a0_5 a0_6 l0_7 = some r) :
  Calls Try.prog 52 #[.agg #[.int .i64 a0_0, .int .i64 a0_1, .int .i64 a0_2, .int .i64 a0_3, .int .i64 a0_4, .bool a0_5, .int .i64 a0_6, .slice A0_7 l0_7.length c0_7]] w fun e w' => ∃ v0_ : Value, e = .returned (v0_) ∧ Kd.R (Kd.int .u8) 5 w' w.heap.size (fun _ => True) v0_ r ∧ Below w.heap.size w w' := by
 have hu75 := Try.underlying75
 have hu29 := Try.underlying29
 have HR0_7 := Aside0.mk hr0_7
 have HC0_7 := Aside0.mk hc0_7
 clear hr0_7 hc0_7
 have HB := Aside0.mk (Below.refl w.heap.size w)
 have H := h
 unfold impl_PutCtl.f at H
 clear h
 replace H := bd_ H
 obtain ⟨t916, A2, H⟩ := H
 have HC3 := Aside0.mk H
 clear H
 go_enter Try.func52, Try.ntmps52
 go_upto_if 10 with (first | ((with_reducible refine gate_dst (N := 1) rfl ?_); refine bx_ (N := 1) (cs := #[.int .i64 a0_0, .int .i64 a0_1, .int .i64 a0_2, .int .i64 a0_3, .int .i64 a0_4, .bool a0_5, .int .i64 a0_6, .slice A0_7 l0_7.length c0_7]) (t := 75) ?_; intro gb915 hg w4 hbox hb; have BK915 := am_ (hbox); have GW915 := gA_ hg HB; have GE915 := GW915; have IGE915 := gI_ GE915; replace HB := bS_ HB hb; clear hb hbox hg; (try clear zK915); have zK915 := cz8 BK915.out; (try clear fK915); have fK915 := fz8 BK915.out) | ((with_reducible refine gate_callee (f := 56) rfl ?_); refine gl_ (some 9) Try.func56 #[.agg #[.int .i64 a0_0, .int .i64 a0_1, .int .i64 a0_2, .int .i64 a0_3, .int .i64 a0_4, .bool a0_5, .int .i64 a0_6, .slice A0_7 l0_7.length c0_7]] ?_; (with_reducible refine (impl_CtlOk.calls k a0_0 a0_1 a0_2 a0_3 a0_4 a0_5 a0_6 _ _ l0_7 t916 _ ?side1 ?side2 A2.out).mono ?_); (case side1 => exact qC (Kd.C_below HR0_7.out HB.out)); (case side2 => exact HC0_7.out); rintro e w6 ⟨rfl, hb⟩; refine ⟨_, rfl, ?_⟩; replace BK915 := bK_ BK915 hb; replace HB := bS_ HB hb; (try clear hb)))
 (try simp only [Act.put, List.setIfInBounds_toArray, List.set_cons_zero, List.set_cons_succ])
 have H := HC3.out
 clear HC3
 by_cases c7 : t916 = true
 rotate_left
 ·
  replace c7 := Bool.eq_false_iff.mpr c7
  subst c7
  rw [if_neg (show ¬ (false = true) by decide)] at H
  obtain ⟨y917, hy917⟩ : ∃ y_ : List Int, y_ = (([] : List Int)) := ⟨_, rfl⟩
  rw [← hy917] at H
  have Ny917 := Aside0.mk hy917
  clear hy917
  obtain rfl := Option.some.inj H
  go_wp2_with (first | ((with_reducible refine gate_dst (N := 11) rfl ?_); refine Kd.R_lit (Kd.int .u8) _ 5 ?hg (N := 11) ?hd (xs := ([] : List Int)) (inner := []) (ok := fun _ => True) (okp := fun _ => True) ?hr ?hp (fun _ hk => hk) trivial (Below.refl _ _) (Nat.le_refl _) (by simp) ?_; (case hd => rfl); (case hg => rfl); (case hr => first | (go_simp; done) | (go_simp; rfl)); (case hp => exact (Reps.none _ _)); intro v918 w56 ho57 hb hg_ hnew_; clear hg_ hnew_; (first | rw [← Ny917.out] at ho57 | (simp only [Int.reduceToNat] at ho57; rw [← Ny917.out] at ho57)); have HO919 := am_ (Kd.R_lower ho57 (below_size (qB HB))); replace BK915 := bK_ BK915 hb; replace HB := bS_ HB hb; clear hb ho57))
  go_ret
  exact ⟨_, er_, qR HO919, qB HB⟩
 subst c7
 rw [if_pos rfl] at H
 have HC8 := Aside0.mk H
 clear H
 (try clear zK915)
 have zK915 := cz8 BK915.out
 (try clear fK915)
 have fK915 := fz8 BK915.out
 go_upto_if 13 with (fail)
 go_cut [3] (fun v3 wc => ∃ (kq : Nat) (x3_7 : Int), v3 = .int .u8 x3_7 ∧ Aside0 (impl_PutCtl.j0 kq x3_7 a0_0 a0_1 a0_2 a0_3 a0_4 a0_5 a0_6 l0_7 = some r) ∧ Aside0 (kq ≤ k) ∧ Aside0 (wc.heap[gb915]? = some (.cells #[.int .i64 a0_0, .int .i64 a0_1, .int .i64 a0_2, .int .i64 a0_3, .int .i64 a0_4, .bool a0_5, .int .i64 a0_6, (.slice A0_7 l0_7.length c0_7)] 75 (0, 0))) ∧ Aside0 (Below w.heap.size w wc))
 case first =>
  have H := HC8.out
  clear HC8
  by_cases c10 : a0_5 = true
  ·
   subst c10
   rw [if_pos rfl] at H
   have H' := Aside0.mk H
   clear H
   go_wp2
   go_meet
   case rel => exact ⟨_, (1), eqq_, H', ⟨by first | omega | exact Nat.le_refl _⟩, ⟨qK BK915⟩, ⟨qB HB⟩⟩
  replace c10 := Bool.eq_false_iff.mpr c10
  subst c10
  rw [if_neg (show ¬ (false = true) by decide)] at H
  have H' := Aside0.mk H
  clear H
  go_wp2
  go_meet
  case rel => exact ⟨_, (0), eqq_, H', ⟨by first | omega | exact Nat.le_refl _⟩, ⟨qK BK915⟩, ⟨qB HB⟩⟩
 case rest =>
  clear HC8
  try clear c1
  try clear p2
  try clear c5
  try clear c7
  try clear c10
  (try clear zK915)
  (try clear zK915)
  (try clear fK915)
  (try clear fK915)
  obtain ⟨kq, x3_7, rfl, HA, HJ7, BK915, HB⟩ := hcut
  cases kq with
  | zero => exact absurd HA.out (by simp [impl_PutCtl.j0])
  | succ kj7 =>
   have H := HA.out
   clear HA
   simp only [impl_PutCtl.j0] at H
   obtain ⟨y920, hy920⟩ : ∃ y_ : List Int, y_ = (([(a0_0) % 256, (a0_1) % 256] : List Int)) := ⟨_, rfl⟩
   rw [← hy920] at H
   have Ny920 := Aside0.mk hy920
   clear hy920
   replace H := bd_ H
   obtain ⟨t923, A11, H⟩ := H
   obtain ⟨y926, hy926⟩ : ∃ y_ : List Int, y_ = (([(a0_3) % 256, (a0_4) % 256, x3_7] : List Int)) := ⟨_, rfl⟩
   replace H := mk_ H hy926
   (try dsimp only at H)
   have Ny926 := Aside0.mk hy926
   clear hy926
   by_cases c12 : t923.length + y926.length < 140737488355328
   case neg => exact nn_ c12 H
   rw [if_pos c12] at H
   have LMc12 := Aside0.mk c12
   clear c12
   obtain ⟨y929, hy929⟩ : ∃ y_ : List Int, y_ = (t923 ++ y926) := ⟨_, rfl⟩
   replace H : ((impl_PutWord.f y929 a0_6).bind fun t932 => ((some (([((l0_7.length : Int)) % 256] : List Int) : List Int)).bind fun y935 => (if t932.length + y935.length < 140737488355328 then (impl_PutCtl.l0 kj7 (t932 ++ y935) l0_7 (l0_7.length : Int) 0) else (none)))) = some r := by first | (rw [hy929]; with_reducible exact H) | (have H2_ := (Option.bind_some _ _).symm.trans H; rw [hy929]; with_reducible exact H2_) | (have H2_ := (Option.bind_some _ _).symm.trans H; with_reducible exact H2_) | with_reducible exact H | (rw [hy929]; exact H) | exact H
   have Ny929 := Aside0.mk hy929
   clear hy929
   replace H := bd_ H
   obtain ⟨t932, A13, H⟩ := H
   obtain ⟨y935, hy935⟩ : ∃ y_ : List Int, y_ = (([((l0_7.length : Int)) % 256] : List Int)) := ⟨_, rfl⟩
   replace H := mk_ H hy935
   (try dsimp only at H)
   have Ny935 := Aside0.mk hy935
   clear hy935
   by_cases c14 : t932.length + y935.length < 140737488355328
   case neg => exact nn_ c14 H
   rw [if_pos c14] at H
   have LMc14 := Aside0.mk c14
   clear c14
   obtain ⟨y938, hy938⟩ : ∃ y_ : List Int, y_ = (t932 ++ y935) := ⟨_, rfl⟩
   replace H : (impl_PutCtl.l0 kj7 y938 l0_7 (l0_7.length : Int) 0) = some r := by first | (rw [hy938]; with_reducible exact H) | (have H2_ := (Option.bind_some _ _).symm.trans H; rw [hy938]; with_reducible exact H2_) | (have H2_ := (Option.bind_some _ _).symm.trans H; with_reducible exact H2_) | with_reducible exact H | (rw [hy938]; exact H) | exact H
   have Ny938 := Aside0.mk hy938
   clear hy938
   have H' := Aside0.mk H
   clear H
   try go_wp2
   replace BK915 := am_ (blk_drew BK915.out)
   replace HB := am_ (below_drew1 HB.out)
   refine start_ (n := 20) (S := fun w' => w'.cell? ⟨gb915, 0, none⟩ = some (.int .i64 a0_0) ∧ w'.cell? ⟨gb915, 1, none⟩ = some (.int .i64 a0_1) ∧ w'.cell? ⟨gb915, 2, none⟩ = some (.int .i64 a0_2) ∧ w'.cell? ⟨gb915, 3, none⟩ = some (.int .i64 a0_3) ∧ w'.cell? ⟨gb915, 4, none⟩ = some (.int .i64 a0_4) ∧ w'.cell? ⟨gb915, 5, none⟩ = some (.bool a0_5) ∧ w'.cell? ⟨gb915, 6, none⟩ = some (.int .i64 a0_6) ∧ w'.cell? ⟨gb915, 7, none⟩ = some (.slice A0_7 l0_7.length c0_7)) (ds := []) (rl [0,20]) (by kernel_rfl) rfl rfl (cz8 BK915.out) (fun hHeld => ?_); refine with_tabW impl_PutCtl.tab6 impl_PutCtl.bits6 (fun HT_ HW_ => ?_)
   generalize wc.drew = w15 at BK915 HB hHeld ⊢
   refine pz_ (i := 0) (N := some 14) HT_ (rl [1,19]) rfl rfl ?_
   refine pz_ (i := 3) (N := some 17) HT_ (rl [1,2,1,16]) rfl rfl ?_
   refine pz_ (i := 7) (N := some 21) HT_ (rl [1,2,1,3,1,12]) rfl rfl ?_
   refine pz_ (i := 10) (N := some 24) HT_ (rl [1,2,1,3,1,2,1,9]) rfl rfl ?_
   refine pz_ (i := 13) (N := some 27) HT_ (rl [1,2,1,3,1,2,1,2,1,6]) rfl rfl ?_
   refine pz_ (i := 16) (N := some 30) HT_ (rl [1,2,1,3,1,2,1,2,1,2,1,3]) rfl rfl ?_
   refine tz_ (i := 1) (N := some 15) HT_ HW_ (rl [2,1,1,3,1,2,1,2,1,2,1,3]) rfl rfl hHeld ?_
   refine pz_ (i := 2) (N := some 16) HT_ (rl [4,3,1,2,1,2,1,2,1,3]) rfl rfl ?_
   refine tz_ (i := 4) (N := some 18) HT_ HW_ (rl [5,2,1,2,1,2,1,2,1,3]) rfl rfl hHeld ?_
   refine pz_ (i := 5) (N := some 19) HT_ (rl [6,1,1,2,1,2,1,2,1,3]) rfl rfl ?_
   refine tz_ (i := 8) (N := some 22) HT_ HW_ (rl [6,1,2,1,1,2,1,2,1,3]) rfl rfl hHeld ?_
   refine tz_ (i := 11) (N := some 25) HT_ HW_ (rl [6,1,2,1,2,1,1,2,1,3]) rfl rfl hHeld ?_
   refine pz_ (i := 12) (N := some 26) HT_ (rl [6,1,2,1,4,2,1,3]) rfl rfl ?_
   refine tz_ (i := 14) (N := some 28) HT_ HW_ (rl [6,1,2,1,5,1,1,3]) rfl rfl hHeld ?_
   refine pz_ (i := 15) (N := some 29) HT_ (rl [6,1,2,1,7,3]) rfl rfl ?_
   refine join_ (σ := Value × Value × Value) 2 (rl [18,2]) (fun s_ => [(20, s_.1), (23, s_.2.1), (31, s_.2.2)]) (fun s_ w' => (w'.cell? ⟨gb915, 0, none⟩ = some (.int .i64 a0_0) ∧ w'.cell? ⟨gb915, 1, none⟩ = some (.int .i64 a0_1) ∧ w'.cell? ⟨gb915, 2, none⟩ = some (.int .i64 a0_2) ∧ w'.cell? ⟨gb915, 3, none⟩ = some (.int .i64 a0_3) ∧ w'.cell? ⟨gb915, 4, none⟩ = some (.int .i64 a0_4) ∧ w'.cell? ⟨gb915, 5, none⟩ = some (.bool a0_5) ∧ w'.cell? ⟨gb915, 6, none⟩ = some (.int .i64 a0_6) ∧ w'.cell? ⟨gb915, 7, none⟩ = some (.slice A0_7 l0_7.length c0_7)) ∧ (Kd.R (Kd.int .u8) 5 w' w.heap.size (fun k_ => some k_ ≠ (s_.2.1 : Value).ownBlock ∧ some k_ ≠ (s_.2.2 : Value).ownBlock) s_.1 y920) ∧ (Kd.R (Kd.int .u8) 5 w' w.heap.size (fun k_ => some k_ ≠ (s_.1 : Value).ownBlock ∧ some k_ ≠ (s_.2.2 : Value).ownBlock) s_.2.1 t923) ∧ (Kd.R (Kd.int .u8) 5 w' w.heap.size (fun k_ => some k_ ≠ (s_.1 : Value).ownBlock ∧ some k_ ≠ (s_.2.1 : Value).ownBlock) s_.2.2 y926) ∧ (w'.heap[gb915]? = some (.cells #[.int .i64 a0_0, .int .i64 a0_1, .int .i64 a0_2, .int .i64 a0_3, .int .i64 a0_4, .bool a0_5, .int .i64 a0_6, .slice A0_7 l0_7.length c0_7] 75 (0, 0))) ∧ (Below w.heap.size w w')) ?_ ?_
   rotate_left
   ·
    intro hCont
    refine two_ (i := 6) (j := 17) (Ni := some 20) (Nj := some 31) (rl [9,1,7,3]) (rl [6,1,2,1,8,2]) rfl rfl rfl rfl (two_of HT_.out (by kernel_rfl)) (by decide) (by decide) (fun K hK => ?_) (fun K hK => ?_)
    ·
     skip
     refine Kd.R_lit_step (Kd.int .u8) _ 5 ?hg (N := 20) ?hd (xs := ([(a0_0) % 256, (a0_1) % 256] : List Int)) (inner := [.int .u8 ((a0_0) % 256), .int .u8 ((a0_1) % 256)]) (ok := fun _ => True) (okp := fun _ => True) ?hr ?hp (fun _ hk => hk) trivial (Below.refl _ _) (Nat.le_refl _) (by simp) ?_; (case hd => rfl); (case hg => rfl); (case hr => first | (go_simp; done) | (go_simp; rfl)); (case hp => exact (Reps.one (show Kd.M (Kd.int .u8) _ _ _ ((a0_0) % 256) [.int .u8 ((a0_0) % 256)] from rfl) (Reps.one (show Kd.M (Kd.int .u8) _ _ _ ((a0_1) % 256) [.int .u8 ((a0_1) % 256)] from rfl) (Reps.none _ _))))
     intro v921 w16 ho17 hb hg_ hnew_
     clear hg_ hnew_
     (first | rw [← Ny920.out] at ho17 | (simp only [Int.reduceToNat] at ho17; rw [← Ny920.out] at ho17))
     have HO922 := am_ (Kd.R_lower ho17 (below_size (qB HB)))
     replace BK915 := bK_ BK915 hb
     replace HB := bS_ HB hb
     clear hb ho17
     obtain ⟨Ao18, co18, eo18⟩ := Kd.R_slice HO922.out
     (first | subst eo18 | (injection eo18 with f1_ f2_ f3_; have f4_ := f1_.symm; have f5_ := f3_.symm; clear f1_ f2_ f3_; subst f4_; subst f5_))
     refine hK.out _ _ (cz8 BK915.out) (fun hHeld => ?_)
     clear hK K
     refine norm_ (a' := ?_) ?_ ?_
     rotate_left
     ·
      show Act.put _ (some 20) _ = _
      exact ap_
     refine two_ (i := 9) (j := 17) (Ni := some 23) (Nj := some 31) (rl [17,3]) (rl [9,1,8,2]) rfl rfl rfl rfl (two_of HT_.out (by kernel_rfl)) (by decide) (by decide) (fun K hK => ?_) (fun K hK => ?_)
     ·
      skip
      refine goes_ Try.func67 (by kernel_rfl) rfl #[.slice Ao18 y920.length co18, .int .i64 a0_2] (by rfl) rfl rfl la_ ?_
      with_reducible refine (impl_PutWord.calls _ _ y920 a0_2 t923 _ ?side1 ?side2 A11.out).mono ?_
      (case side1 => exact qC ((Kd.R_reads' HO922.out).2.2))
      (case side2 => exact (Kd.R_reads' HO922.out).2.1)
      rintro e w19 ⟨v924, rfl, ho0, hb⟩
      refine ⟨_, rfl, ?_⟩
      have HO925 := am_ (Kd.R_lower (Kd.R_new' ho0 (Kd.R_lt (qR HO922))) (below_size (qB HB)))
      replace HO922 := eA_ HO922 ho0 hb
      replace BK915 := bK_ BK915 hb
      replace HB := bS_ HB hb
      (try clear hb ho0)
      refine hK.out _ _ (cz8 BK915.out) (fun hHeld => ?_)
      clear hK K
      refine norm_ (a' := ?_) ?_ ?_
      rotate_left
      ·
       show Act.put _ (some 23) _ = _
       exact ap_
      refine one_ (i := 17) (N := some 31) (rl [18,2]) rfl rfl (one_of HT_.out (by kernel_rfl)) (by decide) (fun K hK => ?_)
      refine Kd.R_lit_step (Kd.int .u8) _ 5 ?hg (N := 31) ?hd (xs := ([(a0_3) % 256, (a0_4) % 256, x3_7] : List Int)) (inner := [.int .u8 ((a0_3) % 256), .int .u8 ((a0_4) % 256), .int .u8 x3_7]) (ok := fun _ => True) (okp := fun _ => True) ?hr ?hp (fun _ hk => hk) trivial (Below.refl _ _) (Nat.le_refl _) (by simp) ?_; (case hd => rfl); (case hg => rfl); (case hr => first | (go_simp; done) | (go_simp; rfl)); (case hp => exact (Reps.one (show Kd.M (Kd.int .u8) _ _ _ ((a0_3) % 256) [.int .u8 ((a0_3) % 256)] from rfl) (Reps.one (show Kd.M (Kd.int .u8) _ _ _ ((a0_4) % 256) [.int .u8 ((a0_4) % 256)] from rfl) (Reps.one (show Kd.M (Kd.int .u8) _ _ _ x3_7 [.int .u8 x3_7] from rfl) (Reps.none _ _)))))
      intro v927 w20 ho21 hb hg_ hnew_
      clear hg_ hnew_
      (first | rw [← Ny926.out] at ho21 | (simp only [Int.reduceToNat] at ho21; rw [← Ny926.out] at ho21))
      have HO928 := am_ (Kd.R_lower (Kd.R_new' (Kd.R_new' ho21 (Kd.R_lt (qR HO922))) (Kd.R_lt (qR HO925))) (below_size (qB HB)))
      replace HO922 := eA_ HO922 ho21 hb
      replace HO925 := eA_ HO925 ho21 hb
      replace BK915 := bK_ BK915 hb
      replace HB := bS_ HB hb
      clear hb ho21
      refine hK.out _ _ (cz8 BK915.out) (fun hHeld => ?_)
      clear hK K
      refine norm_ (a' := ?_) ?_ ?_
      rotate_left
      ·
       show Act.put _ (some 31) _ = _
       exact ap_
      exact norm_ (by simp only [putAll, Act.put, List.setIfInBounds_toArray, List.set_cons_zero, List.set_cons_succ]) (hCont (.slice Ao18 y920.length co18, v924, v927) _ ⟨hHeld, (tR (Kd.R_mono HO922.out (fun _ hk => ⟨hk.1.2, hk.2⟩))), (tR (Kd.R_mono HO925.out (fun _ hk => ⟨hk.1.2, hk.2⟩))), (tR (Kd.R_mono HO928.out (fun _ hk => ⟨hk.1.2, hk.2⟩))), (qK BK915), (qB HB)⟩)
     ·
      skip
      refine Kd.R_lit_step (Kd.int .u8) _ 5 ?hg (N := 31) ?hd (xs := ([(a0_3) % 256, (a0_4) % 256, x3_7] : List Int)) (inner := [.int .u8 ((a0_3) % 256), .int .u8 ((a0_4) % 256), .int .u8 x3_7]) (ok := fun _ => True) (okp := fun _ => True) ?hr ?hp (fun _ hk => hk) trivial (Below.refl _ _) (Nat.le_refl _) (by simp) ?_; (case hd => rfl); (case hg => rfl); (case hr => first | (go_simp; done) | (go_simp; rfl)); (case hp => exact (Reps.one (show Kd.M (Kd.int .u8) _ _ _ ((a0_3) % 256) [.int .u8 ((a0_3) % 256)] from rfl) (Reps.one (show Kd.M (Kd.int .u8) _ _ _ ((a0_4) % 256) [.int .u8 ((a0_4) % 256)] from rfl) (Reps.one (show Kd.M (Kd.int .u8) _ _ _ x3_7 [.int .u8 x3_7] from rfl) (Reps.none _ _)))))
      intro v927 w18 ho19 hb hg_ hnew_
      clear hg_ hnew_
      (first | rw [← Ny926.out] at ho19 | (simp only [Int.reduceToNat] at ho19; rw [← Ny926.out] at ho19))
      have HO928 := am_ (Kd.R_lower (Kd.R_new' ho19 (Kd.R_lt (qR HO922))) (below_size (qB HB)))
      replace HO922 := eA_ HO922 ho19 hb
      replace BK915 := bK_ BK915 hb
      replace HB := bS_ HB hb
      clear hb ho19
      obtain ⟨Ao20, co20, eo20⟩ := Kd.R_slice HO922.out
      (first | subst eo20 | (injection eo20 with f1_ f2_ f3_; have f4_ := f1_.symm; have f5_ := f3_.symm; clear f1_ f2_ f3_; subst f4_; subst f5_))
      refine hK.out _ _ (cz8 BK915.out) (fun hHeld => ?_)
      clear hK K
      refine norm_ (a' := ?_) ?_ ?_
      rotate_left
      ·
       show Act.put _ (some 31) _ = _
       exact ap_
      refine one_ (i := 9) (N := some 23) (rl [18,2]) rfl rfl (one_of HT_.out (by kernel_rfl)) (by decide) (fun K hK => ?_)
      refine goes_ Try.func67 (by kernel_rfl) rfl #[.slice Ao20 y920.length co20, .int .i64 a0_2] (by rfl) rfl rfl la_ ?_
      with_reducible refine (impl_PutWord.calls _ _ y920 a0_2 t923 _ ?side1 ?side2 A11.out).mono ?_
      (case side1 => exact qC ((Kd.R_reads' HO922.out).2.2))
      (case side2 => exact (Kd.R_reads' HO922.out).2.1)
      rintro e w21 ⟨v924, rfl, ho0, hb⟩
      refine ⟨_, rfl, ?_⟩
      have HO925 := am_ (Kd.R_lower (Kd.R_new' (Kd.R_new' ho0 (Kd.R_lt (qR HO922))) (Kd.R_lt (qR HO928))) (below_size (qB HB)))
      replace HO922 := eA_ HO922 ho0 hb
      replace HO928 := eA_ HO928 ho0 hb
      replace BK915 := bK_ BK915 hb
      replace HB := bS_ HB hb
      (try clear hb ho0)
      refine hK.out _ _ (cz8 BK915.out) (fun hHeld => ?_)
      clear hK K
      refine norm_ (a' := ?_) ?_ ?_
      rotate_left
      ·
       show Act.put _ (some 23) _ = _
       exact ap_
      exact norm_ (by simp only [putAll, Act.put, List.setIfInBounds_toArray, List.set_cons_zero, List.set_cons_succ]) (hCont (.slice Ao20 y920.length co20, v924, v927) _ ⟨hHeld, (tR (Kd.R_mono HO922.out (fun _ hk => ⟨hk.2, hk.1.2⟩))), (tR (Kd.R_mono HO925.out (fun _ hk => ⟨hk.1.2, hk.2⟩))), (tR (Kd.R_mono HO928.out (fun _ hk => ⟨hk.1.2, hk.2⟩))), (qK BK915), (qB HB)⟩)
    ·
     skip
     refine Kd.R_lit_step (Kd.int .u8) _ 5 ?hg (N := 31) ?hd (xs := ([(a0_3) % 256, (a0_4) % 256, x3_7] : List Int)) (inner := [.int .u8 ((a0_3) % 256), .int .u8 ((a0_4) % 256), .int .u8 x3_7]) (ok := fun _ => True) (okp := fun _ => True) ?hr ?hp (fun _ hk => hk) trivial (Below.refl _ _) (Nat.le_refl _) (by simp) ?_; (case hd => rfl); (case hg => rfl); (case hr => first | (go_simp; done) | (go_simp; rfl)); (case hp => exact (Reps.one (show Kd.M (Kd.int .u8) _ _ _ ((a0_3) % 256) [.int .u8 ((a0_3) % 256)] from rfl) (Reps.one (show Kd.M (Kd.int .u8) _ _ _ ((a0_4) % 256) [.int .u8 ((a0_4) % 256)] from rfl) (Reps.one (show Kd.M (Kd.int .u8) _ _ _ x3_7 [.int .u8 x3_7] from rfl) (Reps.none _ _)))))
     intro v927 w16 ho17 hb hg_ hnew_
     clear hg_ hnew_
     (first | rw [← Ny926.out] at ho17 | (simp only [Int.reduceToNat] at ho17; rw [← Ny926.out] at ho17))
     have HO928 := am_ (Kd.R_lower ho17 (below_size (qB HB)))
     replace BK915 := bK_ BK915 hb
     replace HB := bS_ HB hb
     clear hb ho17
     refine hK.out _ _ (cz8 BK915.out) (fun hHeld => ?_)
     clear hK K
     refine norm_ (a' := ?_) ?_ ?_
     rotate_left
     ·
      show Act.put _ (some 31) _ = _
      exact ap_
     refine one_ (i := 6) (N := some 20) (rl [9,1,8,2]) rfl rfl (one_of HT_.out (by kernel_rfl)) (by decide) (fun K hK => ?_)
     refine Kd.R_lit_step (Kd.int .u8) _ 5 ?hg (N := 20) ?hd (xs := ([(a0_0) % 256, (a0_1) % 256] : List Int)) (inner := [.int .u8 ((a0_0) % 256), .int .u8 ((a0_1) % 256)]) (ok := fun _ => True) (okp := fun _ => True) ?hr ?hp (fun _ hk => hk) trivial (Below.refl _ _) (Nat.le_refl _) (by simp) ?_; (case hd => rfl); (case hg => rfl); (case hr => first | (go_simp; done) | (go_simp; rfl)); (case hp => exact (Reps.one (show Kd.M (Kd.int .u8) _ _ _ ((a0_0) % 256) [.int .u8 ((a0_0) % 256)] from rfl) (Reps.one (show Kd.M (Kd.int .u8) _ _ _ ((a0_1) % 256) [.int .u8 ((a0_1) % 256)] from rfl) (Reps.none _ _))))
     intro v921 w18 ho19 hb hg_ hnew_
     clear hg_ hnew_
     (first | rw [← Ny920.out] at ho19 | (simp only [Int.reduceToNat] at ho19; rw [← Ny920.out] at ho19))
     have HO922 := am_ (Kd.R_lower (Kd.R_new' ho19 (Kd.R_lt (qR HO928))) (below_size (qB HB)))
     replace HO928 := eA_ HO928 ho19 hb
     replace BK915 := bK_ BK915 hb
     replace HB := bS_ HB hb
     clear hb ho19
     obtain ⟨Ao20, co20, eo20⟩ := Kd.R_slice HO922.out
     (first | subst eo20 | (injection eo20 with f1_ f2_ f3_; have f4_ := f1_.symm; have f5_ := f3_.symm; clear f1_ f2_ f3_; subst f4_; subst f5_))
     refine hK.out _ _ (cz8 BK915.out) (fun hHeld => ?_)
     clear hK K
     refine norm_ (a' := ?_) ?_ ?_
     rotate_left
     ·
      show Act.put _ (some 20) _ = _
      exact ap_
     refine one_ (i := 9) (N := some 23) (rl [18,2]) rfl rfl (one_of HT_.out (by kernel_rfl)) (by decide) (fun K hK => ?_)
     refine goes_ Try.func67 (by kernel_rfl) rfl #[.slice Ao20 y920.length co20, .int .i64 a0_2] (by rfl) rfl rfl la_ ?_
     with_reducible refine (impl_PutWord.calls _ _ y920 a0_2 t923 _ ?side1 ?side2 A11.out).mono ?_
     (case side1 => exact qC ((Kd.R_reads' HO922.out).2.2))
     (case side2 => exact (Kd.R_reads' HO922.out).2.1)
     rintro e w21 ⟨v924, rfl, ho0, hb⟩
     refine ⟨_, rfl, ?_⟩
     have HO925 := am_ (Kd.R_lower (Kd.R_new' (Kd.R_new' ho0 (Kd.R_lt (qR HO928))) (Kd.R_lt (qR HO922))) (below_size (qB HB)))
     replace HO928 := eA_ HO928 ho0 hb
     replace HO922 := eA_ HO922 ho0 hb
     replace BK915 := bK_ BK915 hb
     replace HB := bS_ HB hb
     (try clear hb ho0)
     refine hK.out _ _ (cz8 BK915.out) (fun hHeld => ?_)
     clear hK K
     refine norm_ (a' := ?_) ?_ ?_
     rotate_left
     ·
      show Act.put _ (some 23) _ = _
      exact ap_
     exact norm_ (by simp only [putAll, Act.put, List.setIfInBounds_toArray, List.set_cons_zero, List.set_cons_succ]) (hCont (.slice Ao20 y920.length co20, v924, v927) _ ⟨hHeld, (tR (Kd.R_mono HO922.out (fun _ hk => ⟨hk.2, hk.1.2⟩))), (tR (Kd.R_mono HO925.out (fun _ hk => ⟨hk.2, hk.1.2⟩))), (tR (Kd.R_mono HO928.out (fun _ hk => ⟨hk.1.2, hk.2⟩))), (qK BK915), (qB HB)⟩)
   rintro ⟨v921, v924, v927⟩ w22 ⟨hS_, h0_, h1_, h2_, h3_, h4_⟩
   have n0_ : Aside0 (Kd.R (Kd.int .u8) 5 w22 w.heap.size (fun k_ => some k_ ≠ (v924 : Value).ownBlock ∧ some k_ ≠ (v927 : Value).ownBlock) v921 y920) := ⟨h0_⟩
   have n1_ : Aside0 (Kd.R (Kd.int .u8) 5 w22 w.heap.size (fun k_ => some k_ ≠ (v921 : Value).ownBlock ∧ some k_ ≠ (v927 : Value).ownBlock) v924 t923) := ⟨h1_⟩
   have n2_ : Aside0 (Kd.R (Kd.int .u8) 5 w22 w.heap.size (fun k_ => some k_ ≠ (v921 : Value).ownBlock ∧ some k_ ≠ (v924 : Value).ownBlock) v927 y926) := ⟨h2_⟩
   have n3_ : Aside0 (w22.heap[gb915]? = some (.cells #[.int .i64 a0_0, .int .i64 a0_1, .int .i64 a0_2, .int .i64 a0_3, .int .i64 a0_4, .bool a0_5, .int .i64 a0_6, .slice A0_7 l0_7.length c0_7] 75 (0, 0))) := ⟨h3_⟩
   have n4_ : Aside0 (Below w.heap.size w w22) := ⟨h4_⟩
   clear BK915
   clear HB
   clear h0_ h1_ h2_ h3_ h4_
   have HO922 := n0_
   have HO925 := n1_
   have HO928 := n2_
   have BK915 := n3_
   have HB := n4_
   clear n0_ n1_ n2_ n3_ n4_
   have hHeld : w22.cell? ⟨gb915, 0, none⟩ = some (.int .i64 a0_0) ∧ w22.cell? ⟨gb915, 1, none⟩ = some (.int .i64 a0_1) ∧ w22.cell? ⟨gb915, 2, none⟩ = some (.int .i64 a0_2) ∧ w22.cell? ⟨gb915, 3, none⟩ = some (.int .i64 a0_3) ∧ w22.cell? ⟨gb915, 4, none⟩ = some (.int .i64 a0_4) ∧ w22.cell? ⟨gb915, 5, none⟩ = some (.bool a0_5) ∧ w22.cell? ⟨gb915, 6, none⟩ = some (.int .i64 a0_6) ∧ w22.cell? ⟨gb915, 7, none⟩ = some (.slice A0_7 l0_7.length c0_7) := hS_
   obtain ⟨Ao24, co24, eo24⟩ := Kd.R_slice HO928.out
   (first | subst eo24 | (injection eo24 with f1_ f2_ f3_; have f4_ := f1_.symm; have f5_ := f3_.symm; clear f1_ f2_ f3_; subst f4_; subst f5_))
   refine norm_ (a' := ?_) ?_ ?_
   rotate_left
   ·
    simp only [putAll, Act.put, List.setIfInBounds_toArray, List.set_cons_zero, List.set_cons_succ]
    rfl
   refine one_ (i := 18) (N := some 32) (rl [19,1]) rfl rfl (one_of HT_.out (by kernel_rfl)) (by decide) (fun K hK => ?_)
   refine Kd.R_append_rows_step (Kd.int .u8) (w0 := w) w.heap.size (by rfl) (.tmp 23) (.tmp 31) 22 5 (.int .u8 0) 1 rfl Try.underlying22 info5 rfl (by decide) (by omega) v924 t923 y926 _ _ _ (fun k_ => some k_ ≠ (v921 : Value).ownBlock ∧ some k_ ≠ (.slice Ao24 y926.length co24 : Value).ownBlock) (fun _ => False) rfl rfl ?aO ?aR (fun _ _ h => h) (fun _ h => h.elim) ?aF ?aB ?aS ?aL ?_
   (case aR => exact qC ((Kd.R_reads' HO928.out).2.2))
   (case aB => exact (qB HB))
   (case aF => exact (fun k_ hk => ⟨Kd.fresh' (Kd.R_lt (qR HO922)) k_ hk, Kd.fresh' (Kd.R_lt (qR HO928)) k_ hk⟩))
   (case aO => exact (qR HO925))
   (case aS => exact (below_size (qB HB)))
   (case aL => have := LMc12.out; omega)
   intro v930 w23 ho hb hg hat
   rw [← Ny929.out] at ho
   replace BK915 := am_ (blk_grown (qK BK915) hg (Kd.R_ne HO925.out BK915.out (by decide)))
   replace HO922 := am_ (Kd.R_after (ok := (fun k_ => some k_ ≠ (.slice Ao24 y926.length co24 : Value).ownBlock)) (tR (Kd.R_mono HO922.out (fun _ hk => ⟨hk.2, hk.1⟩))) hg hat)
   replace HO928 := am_ (Kd.R_after (ok := (fun k_ => some k_ ≠ (v921 : Value).ownBlock)) (qR HO928) hg hat)
   replace HB := am_ (hb)
   have HO931 := am_ (ho)
   clear HO925
   clear ho hb hg hat
   refine hK.out _ _ (cz8 BK915.out) (fun hHeld => ?_)
   clear hK K
   refine norm_ (a' := ?_) ?_ ?_
   rotate_left
   ·
    show Act.put _ (some 32) _ = _
    exact ap_
   refine pz_ (i := 19) (N := some 4) HT_ (rl [20]) rfl rfl ?_
   refine done_ (done_of HT_.out (by kernel_rfl)) ?_
   obtain ⟨Ao25, co25, eo25⟩ := Kd.R_slice HO931.out
   subst eo25
   try go_wp2
   replace HO922 := am_ (Kd.R_drew HO922.out)
   replace HO928 := am_ (Kd.R_drew HO928.out)
   replace HO931 := am_ (Kd.R_drew HO931.out)
   replace BK915 := am_ (blk_drew BK915.out)
   replace HB := am_ (below_drew1 HB.out)
   refine start_ (n := 11) (S := fun w' => w'.cell? ⟨gb915, 0, none⟩ = some (.int .i64 a0_0) ∧ w'.cell? ⟨gb915, 1, none⟩ = some (.int .i64 a0_1) ∧ w'.cell? ⟨gb915, 2, none⟩ = some (.int .i64 a0_2) ∧ w'.cell? ⟨gb915, 3, none⟩ = some (.int .i64 a0_3) ∧ w'.cell? ⟨gb915, 4, none⟩ = some (.int .i64 a0_4) ∧ w'.cell? ⟨gb915, 5, none⟩ = some (.bool a0_5) ∧ w'.cell? ⟨gb915, 6, none⟩ = some (.int .i64 a0_6) ∧ w'.cell? ⟨gb915, 7, none⟩ = some (.slice A0_7 l0_7.length c0_7)) (ds := []) #[oo,oo,oo,oo,oo,oo,oo,oo,oo,oo,oo] (by kernel_rfl) rfl rfl (cz8 BK915.out) (fun hHeld => ?_); refine with_tabW impl_PutCtl.tab7 impl_PutCtl.bits7 (fun HT_ HW_ => ?_)
   generalize w23.drew = w26 at HO922 HO928 HO931 BK915 HB hHeld ⊢
   refine pz_ (i := 0) (N := some 33) HT_ #[ii,oo,oo,oo,oo,oo,oo,oo,oo,oo,oo] rfl rfl ?_
   refine pz_ (i := 1) (N := some 34) HT_ #[ii,ii,oo,oo,oo,oo,oo,oo,oo,oo,oo] rfl rfl ?_
   refine pz_ (i := 4) (N := some 37) HT_ #[ii,ii,oo,oo,ii,oo,oo,oo,oo,oo,oo] rfl rfl ?_
   refine tz_ (i := 2) (N := some 35) HT_ HW_ #[ii,ii,ii,oo,ii,oo,oo,oo,oo,oo,oo] rfl rfl hHeld ?_
   refine tz_ (i := 5) (N := some 38) HT_ HW_ #[ii,ii,ii,oo,ii,ii,oo,oo,oo,oo,oo] rfl rfl hHeld ?_
   refine pz_ (i := 6) (N := some 39) HT_ #[ii,ii,ii,oo,ii,ii,ii,oo,oo,oo,oo] rfl rfl ?_
   refine pz_ (i := 7) (N := some 40) HT_ #[ii,ii,ii,oo,ii,ii,ii,ii,oo,oo,oo] rfl rfl ?_
   refine join_ (σ := Value × Value) 2 #[ii,ii,ii,ii,ii,ii,ii,ii,ii,oo,oo] (fun s_ => [(36, s_.1), (41, s_.2)]) (fun s_ w' => (w'.cell? ⟨gb915, 0, none⟩ = some (.int .i64 a0_0) ∧ w'.cell? ⟨gb915, 1, none⟩ = some (.int .i64 a0_1) ∧ w'.cell? ⟨gb915, 2, none⟩ = some (.int .i64 a0_2) ∧ w'.cell? ⟨gb915, 3, none⟩ = some (.int .i64 a0_3) ∧ w'.cell? ⟨gb915, 4, none⟩ = some (.int .i64 a0_4) ∧ w'.cell? ⟨gb915, 5, none⟩ = some (.bool a0_5) ∧ w'.cell? ⟨gb915, 6, none⟩ = some (.int .i64 a0_6) ∧ w'.cell? ⟨gb915, 7, none⟩ = some (.slice A0_7 l0_7.length c0_7)) ∧ (Kd.R (Kd.int .u8) 5 w' w.heap.size (fun k_ => some k_ ≠ (.slice Ao24 y926.length co24 : Value).ownBlock ∧ some k_ ≠ (.slice Ao25 y929.length co25 : Value).ownBlock ∧ some k_ ≠ (s_.1 : Value).ownBlock ∧ some k_ ≠ (s_.2 : Value).ownBlock) v921 y920) ∧ (Kd.R (Kd.int .u8) 5 w' w.heap.size (fun k_ => some k_ ≠ (v921 : Value).ownBlock ∧ some k_ ≠ (.slice Ao25 y929.length co25 : Value).ownBlock ∧ some k_ ≠ (s_.1 : Value).ownBlock ∧ some k_ ≠ (s_.2 : Value).ownBlock) (.slice Ao24 y926.length co24) y926) ∧ (Kd.R (Kd.int .u8) 5 w' w.heap.size (fun k_ => some k_ ≠ (v921 : Value).ownBlock ∧ some k_ ≠ (.slice Ao24 y926.length co24 : Value).ownBlock ∧ some k_ ≠ (s_.1 : Value).ownBlock ∧ some k_ ≠ (s_.2 : Value).ownBlock) (.slice Ao25 y929.length co25) y929) ∧ (Kd.R (Kd.int .u8) 5 w' w.heap.size (fun k_ => some k_ ≠ (v921 : Value).ownBlock ∧ some k_ ≠ (.slice Ao24 y926.length co24 : Value).ownBlock ∧ some k_ ≠ (.slice Ao25 y929.length co25 : Value).ownBlock ∧ some k_ ≠ (s_.2 : Value).ownBlock) s_.1 t932) ∧ (Kd.R (Kd.int .u8) 5 w' w.heap.size (fun k_ => some k_ ≠ (v921 : Value).ownBlock ∧ some k_ ≠ (.slice Ao24 y926.length co24 : Value).ownBlock ∧ some k_ ≠ (.slice Ao25 y929.length co25 : Value).ownBlock ∧ some k_ ≠ (s_.1 : Value).ownBlock) s_.2 y935) ∧ (w'.heap[gb915]? = some (.cells #[.int .i64 a0_0, .int .i64 a0_1, .int .i64 a0_2, .int .i64 a0_3, .int .i64 a0_4, .bool a0_5, .int .i64 a0_6, .slice A0_7 l0_7.length c0_7] 75 (0, 0))) ∧ (Below w.heap.size w w')) ?_ ?_
   rotate_left
   ·
    intro hCont
    refine two_ (i := 3) (j := 8) (Ni := some 36) (Nj := some 41) #[ii,ii,ii,ii,ii,ii,ii,ii,oo,oo,oo] #[ii,ii,ii,oo,ii,ii,ii,ii,ii,oo,oo] rfl rfl rfl rfl (two_of HT_.out (by kernel_rfl)) (by decide) (by decide) (fun K hK => ?_) (fun K hK => ?_)
    ·
     skip
     refine goes_ Try.func67 (by kernel_rfl) rfl #[.slice Ao25 y929.length co25, .int .i64 a0_6] (by rfl) rfl rfl la_ ?_
     with_reducible refine (impl_PutWord.calls _ _ y929 a0_6 t932 _ ?side1 ?side2 A13.out).mono ?_
     (case side1 => exact qC ((Kd.R_reads' HO931.out).2.2))
     (case side2 => exact (Kd.R_reads' HO931.out).2.1)
     rintro e w27 ⟨v933, rfl, ho0, hb⟩
     refine ⟨_, rfl, ?_⟩
     have HO934 := am_ (Kd.R_lower (Kd.R_new' (Kd.R_new' (Kd.R_new' ho0 (Kd.R_lt (qR HO922))) (Kd.R_lt (qR HO928))) (Kd.R_lt (qR HO931))) (below_size (qB HB)))
     replace HO922 := eA_ HO922 ho0 hb
     replace HO928 := eA_ HO928 ho0 hb
     replace HO931 := eA_ HO931 ho0 hb
     replace BK915 := bK_ BK915 hb
     replace HB := bS_ HB hb
     (try clear hb ho0)
     refine hK.out _ _ (cz8 BK915.out) (fun hHeld => ?_)
     clear hK K
     refine norm_ (a' := ?_) ?_ ?_
     rotate_left
     ·
      show Act.put _ (some 36) _ = _
      exact ap_
     refine one_ (i := 8) (N := some 41) #[ii,ii,ii,ii,ii,ii,ii,ii,ii,oo,oo] rfl rfl (one_of HT_.out (by kernel_rfl)) (by decide) (fun K hK => ?_)
     refine Kd.R_lit_step (Kd.int .u8) _ 5 ?hg (N := 41) ?hd (xs := ([((l0_7.length : Int)) % 256] : List Int)) (inner := [.int .u8 (((l0_7.length : Int)) % 256)]) (ok := fun _ => True) (okp := fun _ => True) ?hr ?hp (fun _ hk => hk) trivial (Below.refl _ _) (Nat.le_refl _) (by simp) ?_; (case hd => rfl); (case hg => rfl); (case hr => first | (go_simp; done) | (go_simp; rfl)); (case hp => exact (Reps.one (show Kd.M (Kd.int .u8) _ _ _ (((l0_7.length : Int)) % 256) [.int .u8 (((l0_7.length : Int)) % 256)] from rfl) (Reps.none _ _)))
     intro v936 w28 ho29 hb hg_ hnew_
     clear hg_ hnew_
     (first | rw [← Ny935.out] at ho29 | (simp only [Int.reduceToNat] at ho29; rw [← Ny935.out] at ho29))
     have HO937 := am_ (Kd.R_lower (Kd.R_new' (Kd.R_new' (Kd.R_new' (Kd.R_new' ho29 (Kd.R_lt (qR HO922))) (Kd.R_lt (qR HO928))) (Kd.R_lt (qR HO931))) (Kd.R_lt (qR HO934))) (below_size (qB HB)))
     replace HO922 := eA_ HO922 ho29 hb
     replace HO928 := eA_ HO928 ho29 hb
     replace HO931 := eA_ HO931 ho29 hb
     replace HO934 := eA_ HO934 ho29 hb
     replace BK915 := bK_ BK915 hb
     replace HB := bS_ HB hb
     clear hb ho29
     refine hK.out _ _ (cz8 BK915.out) (fun hHeld => ?_)
     clear hK K
     refine norm_ (a' := ?_) ?_ ?_
     rotate_left
     ·
      show Act.put _ (some 41) _ = _
      exact ap_
     exact norm_ (by simp only [putAll, Act.put, List.setIfInBounds_toArray, List.set_cons_zero, List.set_cons_succ]) (hCont (v933, v936) _ ⟨hHeld, (tR (Kd.R_mono HO922.out (fun _ hk => ⟨hk.1.1.1, ⟨hk.1.1.2, ⟨hk.1.2, hk.2⟩⟩⟩))), (tR (Kd.R_mono HO928.out (fun _ hk => ⟨hk.1.1.1, ⟨hk.1.1.2, ⟨hk.1.2, hk.2⟩⟩⟩))), (tR (Kd.R_mono HO931.out (fun _ hk => ⟨hk.1.1.1, ⟨hk.1.1.2, ⟨hk.1.2, hk.2⟩⟩⟩))), (tR (Kd.R_mono HO934.out (fun _ hk => ⟨hk.1.1.1.2, ⟨hk.1.1.2, ⟨hk.1.2, hk.2⟩⟩⟩))), (tR (Kd.R_mono HO937.out (fun _ hk => ⟨hk.1.1.1.2, ⟨hk.1.1.2, ⟨hk.1.2, hk.2⟩⟩⟩))), (qK BK915), (qB HB)⟩)
    ·
     skip
     refine Kd.R_lit_step (Kd.int .u8) _ 5 ?hg (N := 41) ?hd (xs := ([((l0_7.length : Int)) % 256] : List Int)) (inner := [.int .u8 (((l0_7.length : Int)) % 256)]) (ok := fun _ => True) (okp := fun _ => True) ?hr ?hp (fun _ hk => hk) trivial (Below.refl _ _) (Nat.le_refl _) (by simp) ?_; (case hd => rfl); (case hg => rfl); (case hr => first | (go_simp; done) | (go_simp; rfl)); (case hp => exact (Reps.one (show Kd.M (Kd.int .u8) _ _ _ (((l0_7.length : Int)) % 256) [.int .u8 (((l0_7.length : Int)) % 256)] from rfl) (Reps.none _ _)))
     intro v936 w27 ho28 hb hg_ hnew_
     clear hg_ hnew_
     (first | rw [← Ny935.out] at ho28 | (simp only [Int.reduceToNat] at ho28; rw [← Ny935.out] at ho28))
     have HO937 := am_ (Kd.R_lower (Kd.R_new' (Kd.R_new' (Kd.R_new' ho28 (Kd.R_lt (qR HO922))) (Kd.R_lt (qR HO928))) (Kd.R_lt (qR HO931))) (below_size (qB HB)))
     replace HO922 := eA_ HO922 ho28 hb
     replace HO928 := eA_ HO928 ho28 hb
     replace HO931 := eA_ HO931 ho28 hb
     replace BK915 := bK_ BK915 hb
     replace HB := bS_ HB hb
     clear hb ho28
     refine hK.out _ _ (cz8 BK915.out) (fun hHeld => ?_)
     clear hK K
     refine norm_ (a' := ?_) ?_ ?_
     rotate_left
     ·
      show Act.put _ (some 41) _ = _
      exact ap_
     refine one_ (i := 3) (N := some 36) #[ii,ii,ii,ii,ii,ii,ii,ii,ii,oo,oo] rfl rfl (one_of HT_.out (by kernel_rfl)) (by decide) (fun K hK => ?_)
     refine goes_ Try.func67 (by kernel_rfl) rfl #[.slice Ao25 y929.length co25, .int .i64 a0_6] (by rfl) rfl rfl la_ ?_
     with_reducible refine (impl_PutWord.calls _ _ y929 a0_6 t932 _ ?side1 ?side2 A13.out).mono ?_
     (case side1 => exact qC ((Kd.R_reads' HO931.out).2.2))
     (case side2 => exact (Kd.R_reads' HO931.out).2.1)
     rintro e w29 ⟨v933, rfl, ho0, hb⟩
     refine ⟨_, rfl, ?_⟩
     have HO934 := am_ (Kd.R_lower (Kd.R_new' (Kd.R_new' (Kd.R_new' (Kd.R_new' ho0 (Kd.R_lt (qR HO922))) (Kd.R_lt (qR HO928))) (Kd.R_lt (qR HO931))) (Kd.R_lt (qR HO937))) (below_size (qB HB)))
     replace HO922 := eA_ HO922 ho0 hb
     replace HO928 := eA_ HO928 ho0 hb
     replace HO931 := eA_ HO931 ho0 hb
     replace HO937 := eA_ HO937 ho0 hb
     replace BK915 := bK_ BK915 hb
     replace HB := bS_ HB hb
     (try clear hb ho0)
     refine hK.out _ _ (cz8 BK915.out) (fun hHeld => ?_)
     clear hK K
     refine norm_ (a' := ?_) ?_ ?_
     rotate_left
     ·
      show Act.put _ (some 36) _ = _
      exact ap_
     exact norm_ (by simp only [putAll, Act.put, List.setIfInBounds_toArray, List.set_cons_zero, List.set_cons_succ]) (hCont (v933, v936) _ ⟨hHeld, (tR (Kd.R_mono HO922.out (fun _ hk => ⟨hk.1.1.1, ⟨hk.1.1.2, ⟨hk.2, hk.1.2⟩⟩⟩))), (tR (Kd.R_mono HO928.out (fun _ hk => ⟨hk.1.1.1, ⟨hk.1.1.2, ⟨hk.2, hk.1.2⟩⟩⟩))), (tR (Kd.R_mono HO931.out (fun _ hk => ⟨hk.1.1.1, ⟨hk.1.1.2, ⟨hk.2, hk.1.2⟩⟩⟩))), (tR (Kd.R_mono HO934.out (fun _ hk => ⟨hk.1.1.1.2, ⟨hk.1.1.2, ⟨hk.1.2, hk.2⟩⟩⟩))), (tR (Kd.R_mono HO937.out (fun _ hk => ⟨hk.1.1.1.2, ⟨hk.1.1.2, ⟨hk.1.2, hk.2⟩⟩⟩))), (qK BK915), (qB HB)⟩)
   rintro ⟨v933, v936⟩ w30 ⟨hS_, h0_, h1_, h2_, h3_, h4_, h5_, h6_⟩
   have n0_ : Aside0 (Kd.R (Kd.int .u8) 5 w30 w.heap.size (fun k_ => some k_ ≠ (.slice Ao24 y926.length co24 : Value).ownBlock ∧ some k_ ≠ (.slice Ao25 y929.length co25 : Value).ownBlock ∧ some k_ ≠ (v933 : Value).ownBlock ∧ some k_ ≠ (v936 : Value).ownBlock) v921 y920) := ⟨h0_⟩
   have n1_ : Aside0 (Kd.R (Kd.int .u8) 5 w30 w.heap.size (fun k_ => some k_ ≠ (v921 : Value).ownBlock ∧ some k_ ≠ (.slice Ao25 y929.length co25 : Value).ownBlock ∧ some k_ ≠ (v933 : Value).ownBlock ∧ some k_ ≠ (v936 : Value).ownBlock) (.slice Ao24 y926.length co24) y926) := ⟨h1_⟩
   have n2_ : Aside0 (Kd.R (Kd.int .u8) 5 w30 w.heap.size (fun k_ => some k_ ≠ (v921 : Value).ownBlock ∧ some k_ ≠ (.slice Ao24 y926.length co24 : Value).ownBlock ∧ some k_ ≠ (v933 : Value).ownBlock ∧ some k_ ≠ (v936 : Value).ownBlock) (.slice Ao25 y929.length co25) y929) := ⟨h2_⟩
   have n3_ : Aside0 (Kd.R (Kd.int .u8) 5 w30 w.heap.size (fun k_ => some k_ ≠ (v921 : Value).ownBlock ∧ some k_ ≠ (.slice Ao24 y926.length co24 : Value).ownBlock ∧ some k_ ≠ (.slice Ao25 y929.length co25 : Value).ownBlock ∧ some k_ ≠ (v936 : Value).ownBlock) v933 t932) := ⟨h3_⟩
   have n4_ : Aside0 (Kd.R (Kd.int .u8) 5 w30 w.heap.size (fun k_ => some k_ ≠ (v921 : Value).ownBlock ∧ some k_ ≠ (.slice Ao24 y926.length co24 : Value).ownBlock ∧ some k_ ≠ (.slice Ao25 y929.length co25 : Value).ownBlock ∧ some k_ ≠ (v933 : Value).ownBlock) v936 y935) := ⟨h4_⟩
   have n5_ : Aside0 (w30.heap[gb915]? = some (.cells #[.int .i64 a0_0, .int .i64 a0_1, .int .i64 a0_2, .int .i64 a0_3, .int .i64 a0_4, .bool a0_5, .int .i64 a0_6, .slice A0_7 l0_7.length c0_7] 75 (0, 0))) := ⟨h5_⟩
   have n6_ : Aside0 (Below w.heap.size w w30) := ⟨h6_⟩
   clear HO922
   clear HO928
   clear HO931
   clear BK915
   clear HB
   clear h0_ h1_ h2_ h3_ h4_ h5_ h6_
   have HO922 := n0_
   have HO928 := n1_
   have HO931 := n2_
   have HO934 := n3_
   have HO937 := n4_
   have BK915 := n5_
   have HB := n6_
   clear n0_ n1_ n2_ n3_ n4_ n5_ n6_
   have hHeld : w30.cell? ⟨gb915, 0, none⟩ = some (.int .i64 a0_0) ∧ w30.cell? ⟨gb915, 1, none⟩ = some (.int .i64 a0_1) ∧ w30.cell? ⟨gb915, 2, none⟩ = some (.int .i64 a0_2) ∧ w30.cell? ⟨gb915, 3, none⟩ = some (.int .i64 a0_3) ∧ w30.cell? ⟨gb915, 4, none⟩ = some (.int .i64 a0_4) ∧ w30.cell? ⟨gb915, 5, none⟩ = some (.bool a0_5) ∧ w30.cell? ⟨gb915, 6, none⟩ = some (.int .i64 a0_6) ∧ w30.cell? ⟨gb915, 7, none⟩ = some (.slice A0_7 l0_7.length c0_7) := hS_
   obtain ⟨Ao32, co32, eo32⟩ := Kd.R_slice HO937.out
   (first | subst eo32 | (injection eo32 with f1_ f2_ f3_; have f4_ := f1_.symm; have f5_ := f3_.symm; clear f1_ f2_ f3_; subst f4_; subst f5_))
   refine norm_ (a' := ?_) ?_ ?_
   rotate_left
   ·
    simp only [putAll, Act.put, List.setIfInBounds_toArray, List.set_cons_zero, List.set_cons_succ]
    rfl
   refine one_ (i := 9) (N := some 42) #[ii,ii,ii,ii,ii,ii,ii,ii,ii,ii,oo] rfl rfl (one_of HT_.out (by kernel_rfl)) (by decide) (fun K hK => ?_)
   refine Kd.R_append_rows_step (Kd.int .u8) (w0 := w) w.heap.size (by rfl) (.tmp 36) (.tmp 41) 22 5 (.int .u8 0) 1 rfl Try.underlying22 info5 rfl (by decide) (by omega) v933 t932 y935 _ _ _ (fun k_ => some k_ ≠ (v921 : Value).ownBlock ∧ some k_ ≠ (.slice Ao24 y926.length co24 : Value).ownBlock ∧ some k_ ≠ (.slice Ao25 y929.length co25 : Value).ownBlock ∧ some k_ ≠ (.slice Ao32 y935.length co32 : Value).ownBlock) (fun _ => False) rfl rfl ?aO ?aR (fun _ _ h => h) (fun _ h => h.elim) ?aF ?aB ?aS ?aL ?_
   (case aR => exact qC ((Kd.R_reads' HO937.out).2.2))
   (case aB => exact (qB HB))
   (case aF => exact (fun k_ hk => ⟨Kd.fresh' (Kd.R_lt (qR HO922)) k_ hk, Kd.fresh' (Kd.R_lt (qR HO928)) k_ hk, Kd.fresh' (Kd.R_lt (qR HO931)) k_ hk, Kd.fresh' (Kd.R_lt (qR HO937)) k_ hk⟩))
   (case aO => exact (qR HO934))
   (case aS => exact (below_size (qB HB)))
   (case aL => have := LMc14.out; omega)
   intro v939 w31 ho hb hg hat
   rw [← Ny938.out] at ho
   replace BK915 := am_ (blk_grown (qK BK915) hg (Kd.R_ne HO934.out BK915.out (by decide)))
   replace HO922 := am_ (Kd.R_after (ok := (fun k_ => some k_ ≠ (.slice Ao24 y926.length co24 : Value).ownBlock ∧ some k_ ≠ (.slice Ao25 y929.length co25 : Value).ownBlock ∧ some k_ ≠ (.slice Ao32 y935.length co32 : Value).ownBlock)) (tR (Kd.R_mono HO922.out (fun _ hk => ⟨⟨hk.1, ⟨hk.2.1, hk.2.2.2⟩⟩, hk.2.2.1⟩))) hg hat)
   replace HO928 := am_ (Kd.R_after (ok := (fun k_ => some k_ ≠ (v921 : Value).ownBlock ∧ some k_ ≠ (.slice Ao25 y929.length co25 : Value).ownBlock ∧ some k_ ≠ (.slice Ao32 y935.length co32 : Value).ownBlock)) (tR (Kd.R_mono HO928.out (fun _ hk => ⟨⟨hk.1, ⟨hk.2.1, hk.2.2.2⟩⟩, hk.2.2.1⟩))) hg hat)
   replace HO931 := am_ (Kd.R_after (ok := (fun k_ => some k_ ≠ (v921 : Value).ownBlock ∧ some k_ ≠ (.slice Ao24 y926.length co24 : Value).ownBlock ∧ some k_ ≠ (.slice Ao32 y935.length co32 : Value).ownBlock)) (tR (Kd.R_mono HO931.out (fun _ hk => ⟨⟨hk.1, ⟨hk.2.1, hk.2.2.2⟩⟩, hk.2.2.1⟩))) hg hat)
   replace HO937 := am_ (Kd.R_after (ok := (fun k_ => some k_ ≠ (v921 : Value).ownBlock ∧ some k_ ≠ (.slice Ao24 y926.length co24 : Value).ownBlock ∧ some k_ ≠ (.slice Ao25 y929.length co25 : Value).ownBlock)) (tR (Kd.R_mono HO937.out (fun _ hk => ⟨⟨hk.1, ⟨hk.2.1, hk.2.2.1⟩⟩, hk.2.2.2⟩))) hg hat)
   replace HB := am_ (hb)
   have HO940 := am_ (ho)
   clear HO934
   clear ho hb hg hat
   refine hK.out _ _ (cz8 BK915.out) (fun hHeld => ?_)
   clear hK K
   refine norm_ (a' := ?_) ?_ ?_
   rotate_left
   ·
    show Act.put _ (some 42) _ = _
    exact ap_
   refine pz_ (i := 10) (N := some 4) HT_ #[ii,ii,ii,ii,ii,ii,ii,ii,ii,ii,ii] rfl rfl ?_
   refine done_ (done_of HT_.out (by kernel_rfl)) ?_
   (try clear zK915)
   have zK915 := cz8 BK915.out
   (try clear fK915)
   have fK915 := fz8 BK915.out
   try go_wp2
   go_loopg [4, 46] kj7 (fun kq v4 v46 w' => ∃ (x4_2 : List Int) (x46_2 : Int), v46 = .int .i64 x46_2 ∧ Aside0 (impl_PutCtl.l0 kq x4_2 l0_7 (l0_7.length : Int) x46_2 = some r) ∧ Aside0 (kq ≤ kj7) ∧ Aside0 (Kd.R (Kd.int .u8) 5 w' w.heap.size (fun _ => True) v4 x4_2) ∧ Aside0 (w'.heap[gb915]? = some (.cells #[.int .i64 a0_0, .int .i64 a0_1, .int .i64 a0_2, .int .i64 a0_3, .int .i64 a0_4, .bool a0_5, .int .i64 a0_6, (.slice A0_7 l0_7.length c0_7)] 75 (0, 0))) ∧ Aside0 (Below w.heap.size w w'))
   case atStart => exact ⟨(y938), (0), eqq_, H', ⟨Nat.le_refl _⟩, ⟨by (with_reducible repeat (first | apply Kd.R_alloc | apply Kd.R_drewN | apply Kd.R_drew)); exact Kd.R_mono HO940.out (fun _ hk => trivial)⟩, ⟨qK BK915⟩, ⟨qB HB⟩⟩
   case round =>
    clear H'
    try clear c1
    try clear p2
    try clear c6
    try clear c12
    try clear c14
    (try clear zK915)
    (try clear fK915)
    obtain ⟨x4_2, x46_2, rfl, HA, HK2, HO_4, BK915, HB⟩ := hrel
    cases gk with
    | zero => exact absurd HA.out (by simp [impl_PutCtl.l0])
    | succ k2 =>
     have H := HA.out
     clear HA
     simp only [impl_PutCtl.l0] at H
     by_cases c34 : x46_2 < (l0_7.length : Int)
     rotate_left
     ·
      rw [if_neg c34] at H
      have c34b0 : decide (x46_2 < (l0_7.length : Int)) = false := decide_eq_false c34
      clear c34
      replace H := bd_ H
      obtain ⟨t955, A52, H⟩ := H
      replace H := bd_ H
      obtain ⟨t956, A53, H⟩ := H
      obtain rfl := Option.some.inj H
      obtain ⟨Ao54, co54, eo54⟩ := Kd.R_slice HO_4.out
      subst eo54
      go_wp2_with (first | ((with_reducible refine gate_callee (f := 108) rfl ?_); refine gl_ (some 63) Try.func108 #[.slice Ao54 x4_2.length co54] ?_; (with_reducible refine (impl_Sum.calls k2 _ _ x4_2 t955 _ ?side1 ?side2 A52.out).mono ?_); (case side1 => exact qC ((Kd.R_reads' HO_4.out).2.2)); (case side2 => exact (Kd.R_reads' HO_4.out).2.1); rintro e w' ⟨rfl, ⟨nd, rfl⟩⟩; refine ⟨_, rfl, ?_⟩) | ((with_reducible refine gate_callee (f := 67) rfl ?_); refine gl_ (some 64) Try.func67 #[.slice Ao54 x4_2.length co54, .int .i64 t955] ?_; (with_reducible refine (impl_PutWord.calls _ _ x4_2 t955 t956 _ ?side1 ?side2 A53.out).mono ?_); (case side1 => exact qC ((Kd.R_reads' HO_4.out).2.2)); (case side2 => exact (Kd.R_reads' HO_4.out).2.1); rintro e w55 ⟨v957, rfl, ho0, hb⟩; refine ⟨_, rfl, ?_⟩; have HO958 := am_ (Kd.R_lower (Kd.R_new' ho0 (Kd.R_lt (qR HO_4))) (below_size (qB HB))); replace HO_4 := eA_ HO_4 ho0 hb; replace BK915 := bK_ BK915 hb; replace HB := bS_ HB hb; (try clear hb); (try clear ho0)))
      go_ret
      exact ⟨_, er_, by (with_reducible repeat (first | apply Kd.R_alloc | apply Kd.R_drewN | apply Kd.R_drew)); exact Kd.R_mono HO958.out (fun _ hk => trivial), qB HB⟩
     rw [if_pos c34] at H
     have c34b0 : decide (x46_2 < (l0_7.length : Int)) = true := decide_eq_true c34
     clear c34
     by_cases c35 : 0 ≤ x46_2
     case neg => exact nn_ c35 H
     rw [if_pos c35] at H
     have c35b0 : decide (0 ≤ x46_2) = true := decide_eq_true c35
     clear c35
     by_cases c36 : x46_2 < (l0_7.length : Int)
     case neg => exact nn_ c36 H
     rw [if_pos c36] at H
     have c36b0 : decide (x46_2 < (l0_7.length : Int)) = true := decide_eq_true c36
     clear c36
     replace H := bd_ H
     obtain ⟨t943, A37, H⟩ := H
     obtain ⟨y946, hy946⟩ : ∃ y_ : List Int, y_ = (([((t943.length : Int)) % 256] : List Int)) := ⟨_, rfl⟩
     replace H := mk_ H hy946
     (try dsimp only at H)
     have Ny946 := Aside0.mk hy946
     clear hy946
     by_cases c38 : x4_2.length + y946.length < 140737488355328
     case neg => exact nn_ c38 H
     rw [if_pos c38] at H
     have LMc38 := Aside0.mk c38
     clear c38
     obtain ⟨y949, hy949⟩ : ∃ y_ : List Int, y_ = (x4_2 ++ y946) := ⟨_, rfl⟩
     replace H := mk_ H hy949
     (try dsimp only at H)
     have Ny949 := Aside0.mk hy949
     clear hy949
     by_cases c39 : y949.length + t943.length < 140737488355328
     case neg => exact nn_ c39 H
     rw [if_pos c39] at H
     have LMc39 := Aside0.mk c39
     clear c39
     obtain ⟨y952, hy952⟩ : ∃ y_ : List Int, y_ = (y949 ++ t943) := ⟨_, rfl⟩
     replace H : (impl_PutCtl.l0 k2 y952 l0_7 (l0_7.length : Int) (wrap64 (x46_2 + 1))) = some r := by first | (rw [hy952]; with_reducible exact H) | (have H2_ := (Option.bind_some _ _).symm.trans H; rw [hy952]; with_reducible exact H2_) | (have H2_ := (Option.bind_some _ _).symm.trans H; with_reducible exact H2_) | with_reducible exact H | (rw [hy952]; exact H) | exact H
     have Ny952 := Aside0.mk hy952
     clear hy952
     have H' := Aside0.mk H
     clear H
     have p941 : 0 ≤ (x46_2 : Int) := od_
     have q941 : x46_2 < (l0_7.length : Int) := od_
     obtain ⟨ad941, e941, hx941_0, hx941_1, hx941_2, hx941_3, hx941_4, hx941_5, hx941_6, hx941_7, hx941_8, hx941_9, hx941_10, hx941_11, hx941_12, hx941_13, hx941_14, hx941_15⟩ := at_T29 HR0_7.out x46_2 p941 q941
     cases e941
     replace hx941_0 := lb_ HB hx941_0
     replace hx941_1 := lb_ HB hx941_1
     replace hx941_2 := lb_ HB hx941_2
     replace hx941_3 := lb_ HB hx941_3
     replace hx941_4 := lb_ HB hx941_4
     replace hx941_5 := lb_ HB hx941_5
     replace hx941_6 := lb_ HB hx941_6
     replace hx941_7 := lb_ HB hx941_7
     replace hx941_8 := lb_ HB hx941_8
     replace hx941_9 := lb_ HB hx941_9
     replace hx941_10 := lb_ HB hx941_10
     replace hx941_11 := lb_ HB hx941_11
     replace hx941_12 := lb_ HB hx941_12
     replace hx941_13 := lb_ HB hx941_13
     replace hx941_14 := lb_ HB hx941_14
     replace hx941_15 := lb_ HB hx941_15
     replace p941 := eq_true p941
     replace q941 := eq_true q941
     go_wp2_with (first | ((with_reducible refine gate_dst (N := 6) rfl ?_); refine box_event ?hg (N := 6) ?hd (cs := #[.int .i64 0, .int .i64 0, .string (⟨#[]⟩ : ByteArray), .int .i64 0, .int .i64 0, .int .i64 0, .string (⟨#[]⟩ : ByteArray), .int .i64 0, .int .i64 0, .int .i64 0, .string (⟨#[]⟩ : ByteArray), .int .i64 0, .int .i64 0, .int .i64 0, .int .i64 0, .int .i64 0]) (t := 29) ?hr ?_; (case hd => rfl); (case hg => rfl); (case hr => first | (go_simp; done) | (go_simp; rfl) | ((try (obtain ⟨_, _, rfl⟩ := Kd.R_slice HO945.out)); (try (obtain ⟨_, _, rfl⟩ := Kd.R_slice HO948.out)); (try (obtain ⟨_, _, rfl⟩ := Kd.R_slice HO951.out)); (try (obtain ⟨_, _, rfl⟩ := Kd.R_slice HO954.out)); first | (go_simp; done) | (go_simp; rfl))); intro gb942 hg w40 hbox hb; replace HO_4 := rB_ HO_4 hb; have BK942 := am_ (hbox); have GW942 := gA_ hg HB; have GE942 := GW942; have IGE942 := gI_ GE942; replace HB := bS_ HB hb; have NB915_942 := am_ ((gN_ hg (qK BK915))); have NB942_915 := am_ ((gM_ hg (qK BK915))); replace BK915 := bK_ BK915 hb; clear hb hbox hg; have hnb41 := NB942_915.out; have hnc41 := NB915_942.out; (try clear zK942); have zK942 := cz16 BK942.out; (try clear fK942); have fK942 := fz16 BK942.out) | ((with_reducible refine gate_store (t := 29) (p := 6) rfl ?_); refine store_evs (t := 29) (p := 6) (j := 0) (cs := [.int .i64 ((rd_T29 l0_7 x46_2).f0), .int .i64 ((rd_T29 l0_7 x46_2).f1.f0), .string ((rd_T29 l0_7 x46_2).f1.f1), .int .i64 ((rd_T29 l0_7 x46_2).f1.f2), .int .i64 ((rd_T29 l0_7 x46_2).f1.f3), .int .i64 ((rd_T29 l0_7 x46_2).f1.f4), .string ((rd_T29 l0_7 x46_2).f1.f5), .int .i64 ((rd_T29 l0_7 x46_2).f1.f6), .int .i64 ((rd_T29 l0_7 x46_2).f1.f7), .int .i64 ((rd_T29 l0_7 x46_2).f2.f0), .string ((rd_T29 l0_7 x46_2).f2.f1), .int .i64 ((rd_T29 l0_7 x46_2).f2.f2), .int .i64 ((rd_T29 l0_7 x46_2).f2.f3), .int .i64 ((rd_T29 l0_7 x46_2).f2.f4), .int .i64 ((rd_T29 l0_7 x46_2).f2.f5), .int .i64 ((rd_T29 l0_7 x46_2).f2.f6)]) (qK BK942) ?_; intro w43 hw; have n0_ : Aside0 (Kd.R (Kd.int .u8) 5 w43 w.heap.size (fun _ => True) u4 x4_2) := ⟨(by rw [hw]; exact (by (with_reducible repeat (first | apply Kd.R_alloc | apply Kd.R_drewN | apply Kd.R_drew)); exact Kd.R_mono (sR_ (g := gb942) (Kd.R_types HO_4.out BK942.out (by decide)) (fun _ hk => hk.2)) (fun _ hk => trivial)))⟩; replace BK915 := sK_ hw BK915 NB915_942; replace HB := sB_ hw HB; replace BK942 := sW_ hw BK942; clear hw; clear HO_4; have HO_4 := n0_; clear n0_; (try clear zK942); have zK942 := cz16 BK942.out) | ((with_reducible refine gate_callee (f := 9) rfl ?_); refine gl_ (some 51) Try.func9 #[.agg #[.int .i64 ((rd_T29 l0_7 x46_2).f0), .int .i64 ((rd_T29 l0_7 x46_2).f1.f0), .string ((rd_T29 l0_7 x46_2).f1.f1), .int .i64 ((rd_T29 l0_7 x46_2).f1.f2), .int .i64 ((rd_T29 l0_7 x46_2).f1.f3), .int .i64 ((rd_T29 l0_7 x46_2).f1.f4), .string ((rd_T29 l0_7 x46_2).f1.f5), .int .i64 ((rd_T29 l0_7 x46_2).f1.f6), .int .i64 ((rd_T29 l0_7 x46_2).f1.f7), .int .i64 ((rd_T29 l0_7 x46_2).f2.f0), .string ((rd_T29 l0_7 x46_2).f2.f1), .int .i64 ((rd_T29 l0_7 x46_2).f2.f2), .int .i64 ((rd_T29 l0_7 x46_2).f2.f3), .int .i64 ((rd_T29 l0_7 x46_2).f2.f4), .int .i64 ((rd_T29 l0_7 x46_2).f2.f5), .int .i64 ((rd_T29 l0_7 x46_2).f2.f6)]] ?_; (with_reducible refine (impl_PutItem.calls k2 ((rd_T29 l0_7 x46_2).f0) ((rd_T29 l0_7 x46_2).f1.f0) ((rd_T29 l0_7 x46_2).f1.f1) ((rd_T29 l0_7 x46_2).f1.f2) ((rd_T29 l0_7 x46_2).f1.f3) ((rd_T29 l0_7 x46_2).f1.f4) ((rd_T29 l0_7 x46_2).f1.f5) ((rd_T29 l0_7 x46_2).f1.f6) ((rd_T29 l0_7 x46_2).f1.f7) ((rd_T29 l0_7 x46_2).f2.f0) ((rd_T29 l0_7 x46_2).f2.f1) ((rd_T29 l0_7 x46_2).f2.f2) ((rd_T29 l0_7 x46_2).f2.f3) ((rd_T29 l0_7 x46_2).f2.f4) ((rd_T29 l0_7 x46_2).f2.f5) ((rd_T29 l0_7 x46_2).f2.f6) t943 _ A37.out).mono ?_); rintro e w45 ⟨v944, rfl, ho0, hb⟩; refine ⟨_, rfl, ?_⟩; have HO945 := am_ (Kd.R_lower (Kd.R_new' ho0 (Kd.R_lt (qR HO_4))) (below_size (qB HB))); replace HO_4 := eA_ HO_4 ho0 hb; replace BK915 := bK_ BK915 hb; replace BK942 := bK_ BK942 hb; replace HB := bS_ HB hb; (try clear hb); (try clear ho0); obtain ⟨Ao46, co46, eo46⟩ := Kd.R_slice HO945.out; subst eo46) | ((with_reducible refine gate_dst (N := 56) rfl ?_); refine Kd.R_lit (Kd.int .u8) _ 5 ?hg (N := 56) ?hd (xs := ([((t943.length : Int)) % 256] : List Int)) (inner := [.int .u8 (((t943.length : Int)) % 256)]) (ok := fun _ => True) (okp := fun _ => True) ?hr ?hp (fun _ hk => hk) trivial (Below.refl _ _) (Nat.le_refl _) (by simp) ?_; (case hd => rfl); (case hg => rfl); (case hr => first | (go_simp; done) | (go_simp; rfl) | ((try (obtain ⟨_, _, rfl⟩ := Kd.R_slice HO945.out)); (try (obtain ⟨_, _, rfl⟩ := Kd.R_slice HO948.out)); (try (obtain ⟨_, _, rfl⟩ := Kd.R_slice HO951.out)); (try (obtain ⟨_, _, rfl⟩ := Kd.R_slice HO954.out)); first | (go_simp; done) | (go_simp; rfl))); (case hp => exact (Reps.one (show Kd.M (Kd.int .u8) _ _ _ (((t943.length : Int)) % 256) [.int .u8 (((t943.length : Int)) % 256)] from rfl) (Reps.none _ _))); intro v947 w47 ho48 hb hg_ hnew_; clear hg_ hnew_; (first | rw [← Ny946.out] at ho48 | (simp only [Int.reduceToNat] at ho48; rw [← Ny946.out] at ho48)); have HO948 := am_ (Kd.R_lower (Kd.R_new' (Kd.R_new' ho48 (Kd.R_lt (qR HO_4))) (Kd.R_lt (qR HO945))) (below_size (qB HB))); replace HO_4 := eA_ HO_4 ho48 hb; replace HO945 := eA_ HO945 ho48 hb; replace BK915 := bK_ BK915 hb; replace BK942 := bK_ BK942 hb; replace HB := bS_ HB hb; clear hb ho48; obtain ⟨Ao50, co50, eo50⟩ := Kd.R_slice HO948.out; subst eo50) | ((with_reducible refine gate_builtin (b := .append) (xs := #[.tmp 52, .tmp 56]) rfl ?_); at_builtin; refine Kd.R_append_rows (Kd.int .u8) (w0 := w) w.heap.size rfl (.tmp 52) (.tmp 56) 22 5 (.int .u8 0) 1 rfl Try.underlying22 info5 rfl (by decide) (by omega) u4 x4_2 y946 _ _ _ (fun k_ => some k_ ≠ (.slice Ao46 t943.length co46 : Value).ownBlock ∧ some k_ ≠ (.slice Ao50 y946.length co50 : Value).ownBlock) (fun _ => False) rfl rfl ?aO ?aR (fun _ _ h => h) (fun _ h => h.elim) ?aF ?aB ?aS ?aL ?_; (case aR => exact qC ((Kd.R_reads' HO948.out).2.2)); (case aB => exact (qB HB)); (case aF => exact (fun k_ hk => ⟨Kd.fresh' (Kd.R_lt (qR HO945)) k_ hk, Kd.fresh' (Kd.R_lt (qR HO948)) k_ hk⟩)); (case aO => exact (tR (Kd.R_mono HO_4.out (fun _ hk => ⟨hk.1.2, hk.2⟩)))); (case aS => exact (below_size (qB HB))); (case aL => have := LMc38.out; omega); intro v950 w49 ho hb hg hat; rw [← Ny949.out] at ho; replace BK915 := am_ (blk_grown (qK BK915) hg (Kd.R_ne HO_4.out BK915.out (by decide))); replace BK942 := am_ (blk_grown (qK BK942) hg (Kd.R_ne HO_4.out BK942.out (by decide))); replace HO945 := am_ (Kd.R_after (ok := (fun k_ => some k_ ≠ (.slice Ao50 y946.length co50 : Value).ownBlock)) (tR (Kd.R_mono HO945.out (fun _ hk => ⟨hk.2, hk.1.2⟩))) hg hat); replace HO948 := am_ (Kd.R_after (ok := (fun k_ => some k_ ≠ (.slice Ao46 t943.length co46 : Value).ownBlock)) (tR (Kd.R_mono HO948.out (fun _ hk => ⟨hk.2, hk.1.2⟩))) hg hat); replace HB := am_ (hb); have HO951 := am_ (ho); clear HO_4; clear ho hb hg hat) | ((with_reducible refine gate_builtin (b := .append) (xs := #[.tmp 57, .tmp 58]) rfl ?_); at_builtin; refine Kd.R_append_rows (Kd.int .u8) (w0 := w) w.heap.size rfl (.tmp 57) (.tmp 58) 22 5 (.int .u8 0) 1 rfl Try.underlying22 info5 rfl (by decide) (by omega) v950 y949 t943 _ _ _ (fun k_ => some k_ ≠ (.slice Ao46 t943.length co46 : Value).ownBlock ∧ some k_ ≠ (.slice Ao50 y946.length co50 : Value).ownBlock) (fun _ => False) rfl rfl ?aO ?aR (fun _ _ h => h) (fun _ h => h.elim) ?aF ?aB ?aS ?aL ?_; (case aR => exact qC ((Kd.R_reads' HO945.out).2.2)); (case aB => exact (qB HB)); (case aF => exact (fun k_ hk => ⟨Kd.fresh' (Kd.R_lt (qR HO945)) k_ hk, Kd.fresh' (Kd.R_lt (qR HO948)) k_ hk⟩)); (case aO => exact (qR HO951)); (case aS => exact (below_size (qB HB))); (case aL => have := LMc39.out; omega); intro v953 w51 ho hb hg hat; rw [← Ny952.out] at ho; replace BK915 := am_ (blk_grown (qK BK915) hg (Kd.R_ne HO951.out BK915.out (by decide))); replace BK942 := am_ (blk_grown (qK BK942) hg (Kd.R_ne HO951.out BK942.out (by decide))); replace HO945 := am_ (Kd.R_after (ok := (fun k_ => some k_ ≠ (.slice Ao50 y946.length co50 : Value).ownBlock)) (qR HO945) hg hat); replace HO948 := am_ (Kd.R_after (ok := (fun k_ => some k_ ≠ (.slice Ao46 t943.length co46 : Value).ownBlock)) (qR HO948) hg hat); replace HB := am_ (hb); have HO954 := am_ (ho); clear HO951; clear ho hb hg hat))
     go_roundg k2
     case measure => have := HJ7.out; have := HK2.out; omega
     case rel => exact ⟨(y952), (wrap64 (x46_2 + 1)), eqq_, H', ⟨by have := HJ7.out; have := HK2.out; omega⟩, ⟨by (with_reducible repeat (first | apply Kd.R_alloc | apply Kd.R_drewN | apply Kd.R_drew)); exact Kd.R_mono HO954.out (fun _ hk => trivial)⟩, ⟨qK BK915⟩, ⟨qB HB⟩⟩

end Go.Proofs.Ytiffahfpfgnjnaa.PFnWays
