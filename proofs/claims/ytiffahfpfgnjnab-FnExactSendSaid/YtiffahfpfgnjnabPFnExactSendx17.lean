-- Written by a program of this session (myprint.py, over the kit's print): contracts of FnExactSend
import Derived.Test.YtiffahfpfgnjnabPFnExactSendx0
import Derived.Test.YtiffahfpfgnjnabPFnExactSendx11
import Derived.Test.YtiffahfpfgnjnabPFnExactSendx14
import Derived.Test.YtiffahfpfgnjnabPFnExactSendx15
import Derived.Test.YtiffahfpfgnjnabPFnExactSendx16
namespace Go.Proofs.Ytiffahfpfgnjnab.PFnExactSend
open Go.RowKit Go.Proofs.YtiffahfpfgnjnabW.PrintWords Go.Proofs.YtiffahfpfgnjnabW.PrintLast Go.Proofs.YtiffahfpfgnjnabW.PrintMore Go.Proofs.YtiffahfpfgnjnabV
attribute [local go_sem] max2_int min2_int max_two min_two max_three min_three max_four min_four   -- for this text's walks alone
set_option linter.unusedVariables false
set_option linter.unusedSimpArgs false

/-! ### impl_PutCtl: function 76 -/
mutual
def impl_PutCtl.j0 : Nat → Int → Int → Int → Int → Int → Int → Bool → Int → List (S126) → Option (List Int)
 | 0, _, _, _, _, _, _, _, _, _ => none
 | k + 1, x3, x545000, x545001, x545002, x545003, x545004, x545005, x545006, x545007 => (impl_PutWord.f (([(x545000) % 256, (x545001) % 256] : List Int)) x545002).bind fun t552 => ((some (([(x545003) % 256, (x545004) % 256, x3] : List Int) : List Int)).bind fun y555 => (if t552.length + y555.length < 140737488355328 then ((impl_PutWord.f (t552 ++ y555) x545006).bind fun t561 => ((some (([((x545007.length : Int)) % 256] : List Int) : List Int)).bind fun y564 => (if t561.length + y564.length < 140737488355328 then (impl_PutCtl.l0 k (t561 ++ y564) x545007 (x545007.length : Int) 0) else (none)))) else (none)))
def impl_PutCtl.l0 : Nat → List Int → List (S126) → Int → Int → Option (List Int)
 | 0, _, _, _, _ => none
 | k + 1, x4, x44, x45, x46 => if x46 < x45 then (if 0 ≤ x46 then (if x46 < (x44.length : Int) then ((impl_PutItem.f k ((rd_T126 x44 x46).f0) ((rd_T126 x44 x46).f1.f0) ((rd_T126 x44 x46).f1.f1) ((rd_T126 x44 x46).f1.f2) ((rd_T126 x44 x46).f1.f3) ((rd_T126 x44 x46).f1.f4) ((rd_T126 x44 x46).f1.f5) ((rd_T126 x44 x46).f1.f6) ((rd_T126 x44 x46).f1.f7) ((rd_T126 x44 x46).f2.f0) ((rd_T126 x44 x46).f2.f1) ((rd_T126 x44 x46).f2.f2) ((rd_T126 x44 x46).f2.f3) ((rd_T126 x44 x46).f2.f4) ((rd_T126 x44 x46).f2.f5) ((rd_T126 x44 x46).f2.f6)).bind fun t572 => ((some (([((t572.length : Int)) % 256] : List Int) : List Int)).bind fun y575 => (if x4.length + y575.length < 140737488355328 then ((some (x4 ++ y575 : List Int)).bind fun y578 => (if y578.length + t572.length < 140737488355328 then (impl_PutCtl.l0 k (y578 ++ t572) x44 x45 (wrap64 (x46 + 1))) else (none))) else (none)))) else (none)) else (none)) else ((impl_Sum.f k x4).bind fun t584 => ((impl_PutWord.f x4 t584).bind fun t585 => (some t585)))
end
def impl_PutCtl.f (k : Nat) (a0_0 : Int) (a0_1 : Int) (a0_2 : Int) (a0_3 : Int) (a0_4 : Int) (a0_5 : Bool) (a0_6 : Int) (l0_7 : List (S126)) : Option (List Int) := (impl_CtlOk.f k a0_0 a0_1 a0_2 a0_3 a0_4 a0_5 a0_6 l0_7).bind fun t545 => (if t545 = true then (if a0_5 = true then (impl_PutCtl.j0 k 1 a0_0 a0_1 a0_2 a0_3 a0_4 a0_5 a0_6 l0_7) else (impl_PutCtl.j0 k 0 a0_0 a0_1 a0_2 a0_3 a0_4 a0_5 a0_6 l0_7)) else (some (([] : List Int))))
theorem impl_PutCtl.mono_l : ∀ k, (∀ y0 y1 y2 y3 y4 y5 y6 y7 y8, LeO (impl_PutCtl.j0 k y0 y1 y2 y3 y4 y5 y6 y7 y8) (impl_PutCtl.j0 (k + 1) y0 y1 y2 y3 y4 y5 y6 y7 y8)) ∧ (∀ y0 y1 y2 y3, LeO (impl_PutCtl.l0 k y0 y1 y2 y3) (impl_PutCtl.l0 (k + 1) y0 y1 y2 y3))
 | 0 => ⟨fun _ _ _ _ _ _ _ _ _ r h => by simp [impl_PutCtl.j0] at h, fun _ _ _ _ r h => by simp [impl_PutCtl.l0] at h⟩
 | k + 1 => by
  obtain ⟨ih0, ih1⟩ := impl_PutCtl.mono_l k
  refine ⟨?_, ?_⟩
  ·
   intro y0 y1 y2 y3 y4 y5 y6 y7 y8
   unfold impl_PutCtl.j0
   repeat' first
   | (with_reducible exact ih0 _ _ _ _ _ _ _ _ _)
   | (with_reducible exact ih1 _ _ _ _)
   | (with_reducible exact impl_CtlOk.mono _ _ _ _ _ _ _ _ _)
   | (with_reducible exact impl_PutItem.mono _ _ _ _ _ _ _ _ _ _ _ _ _ _ _ _ _)
   | (with_reducible exact impl_Sum.mono _ _)
   | (with_reducible exact LeO.refl _)
   | (with_reducible exact LeO.none _)
   | (with_reducible refine LeO.ite ?_ ?_)
   | (with_reducible refine LeO.bind ?_ (fun _ => ?_))
  ·
   intro y0 y1 y2 y3
   unfold impl_PutCtl.l0
   repeat' first
   | (with_reducible exact ih0 _ _ _ _ _ _ _ _ _)
   | (with_reducible exact ih1 _ _ _ _)
   | (with_reducible exact impl_CtlOk.mono _ _ _ _ _ _ _ _ _)
   | (with_reducible exact impl_PutItem.mono _ _ _ _ _ _ _ _ _ _ _ _ _ _ _ _ _)
   | (with_reducible exact impl_Sum.mono _ _)
   | (with_reducible exact LeO.refl _)
   | (with_reducible exact LeO.none _)
   | (with_reducible refine LeO.ite ?_ ?_)
   | (with_reducible refine LeO.bind ?_ (fun _ => ?_))
theorem impl_PutCtl.mono : ∀ a0 a1 a2 a3 a4 a5 a6 a7 k, LeO (impl_PutCtl.f k a0 a1 a2 a3 a4 a5 a6 a7) (impl_PutCtl.f (k + 1) a0 a1 a2 a3 a4 a5 a6 a7) := by
 intro a0 a1 a2 a3 a4 a5 a6 a7 k
 obtain ⟨ih0, ih1⟩ := impl_PutCtl.mono_l k
 unfold impl_PutCtl.f
 repeat' first
   | (with_reducible exact ih0 _ _ _ _ _ _ _ _ _)
   | (with_reducible exact ih1 _ _ _ _)
   | (with_reducible exact impl_CtlOk.mono _ _ _ _ _ _ _ _ _)
   | (with_reducible exact impl_PutItem.mono _ _ _ _ _ _ _ _ _ _ _ _ _ _ _ _ _)
   | (with_reducible exact impl_Sum.mono _ _)
   | (with_reducible exact LeO.refl _)
   | (with_reducible exact LeO.none _)
   | (with_reducible refine LeO.ite ?_ ?_)
   | (with_reducible refine LeO.bind ?_ (fun _ => ?_))
def impl_PutCtl.T6 : Bool × List (List Nat × List Nat) := (true, [([], []), ([0], [0]), ([1], [1]), ([], []), ([3], [3]), ([4], [4]), ([2, 5], [2, 5]), ([], []), ([7], [7]), ([6, 8], [6, 8]), ([], []), ([10], [10]), ([11], [11]), ([], []), ([13], [13]), ([14], [14]), ([], []), ([12, 15, 16], [12, 15, 16]), ([9, 17, 9], [9, 17]), ([18, 18, 0, 1, 2, 3, 4, 5, 6, 7, 8, 9, 10, 11, 12, 13, 14, 15, 16, 17, 18], [18])])
def impl_PutCtl.B6 : List Nat := [0, 1, 3, 0, 8, 24, 63, 0, 128, 511, 0, 1024, 3072, 0, 8192, 24576, 0, 130048, 262143, 524287]
theorem impl_PutCtl.tab6 : rtab .any (opsOf Try.f76 6) = impl_PutCtl.T6 := by kernel_rfl
theorem impl_PutCtl.bits6 : waitsOk impl_PutCtl.T6.2 impl_PutCtl.B6 = true := by kernel_rfl
def impl_PutCtl.T7 : Bool × List (List Nat × List Nat) := (true, [([], []), ([], []), ([1], [1]), ([0, 2], [0, 2]), ([], []), ([4], [4]), ([5], [5]), ([6], [6]), ([7], [7]), ([3, 8, 3], [3, 8]), ([9, 9, 0, 1, 2, 3, 4, 5, 6, 7, 8, 9], [0, 9])])
def impl_PutCtl.B7 : List Nat := [0, 0, 2, 7, 0, 16, 48, 112, 240, 511, 1023]
theorem impl_PutCtl.tab7 : rtab .any (opsOf Try.f76 7) = impl_PutCtl.T7 := by kernel_rfl
theorem impl_PutCtl.bits7 : waitsOk impl_PutCtl.T7.2 impl_PutCtl.B7 = true := by kernel_rfl
set_option maxHeartbeats 8000000 in
set_option maxRecDepth 100000 in
theorem impl_PutCtl.calls (k : Nat) (a0_0 : Int) (a0_1 : Int) (a0_2 : Int) (a0_3 : Int) (a0_4 : Int) (a0_5 : Bool) (a0_6 : Int) (A0_7 : Option Addr) (c0_7 : Nat) (l0_7 : List (S126)) (r : List Int) (w : World) (hr0_7 : Kd.C k126 w A0_7 l0_7.length l0_7) (hc0_7 : l0_7.length ≤ c0_7) (h : impl_PutCtl.f k a0_0 a0_1 a0_2 a0_3 a0_4 a0_5 a0_6 l0_7 = some r) :
  Calls Try.prog 76 #[.agg #[.int .i64 a0_0, .int .i64 a0_1, .int .i64 a0_2, .int .i64 a0_3, .int .i64 a0_4, .bool a0_5, .int .i64 a0_6, .slice A0_7 l0_7.length c0_7]] w fun e w' => ∃ v0_ : Value, e = .returned (v0_) ∧ Kd.R (Kd.int .u8) 5 w' w.heap.size (fun _ => True) v0_ r ∧ Below w.heap.size w w' := by
 have hu63 := Try.underlying63
 have hu126 := Try.underlying126
 have HR0_7 := Aside0.mk hr0_7
 have HC0_7 := Aside0.mk hc0_7
 clear hr0_7 hc0_7
 have HB := Aside0.mk (Below.refl w.heap.size w)
 have H := h
 unfold impl_PutCtl.f at H
 clear h
 replace H := bd_ H
 obtain ⟨t545, A2, H⟩ := H
 have HC3 := Aside0.mk H
 clear H
 go_enter Try.func76, Try.ntmps76
 go_upto_if 10 with (first | ((with_reducible refine gate_dst (N := 1) rfl ?_); refine box_event ?hg (N := 1) ?hd (cs := #[.int .i64 a0_0, .int .i64 a0_1, .int .i64 a0_2, .int .i64 a0_3, .int .i64 a0_4, .bool a0_5, .int .i64 a0_6, .slice A0_7 l0_7.length c0_7]) (t := 63) ?hr ?_; (case hd => rfl); (case hg => rfl); (case hr => first | (go_simp; done) | (go_simp; rfl)); intro gb544 hg w4 hbox hb; have BK544 := am_ (hbox); have GW544 := gA_ hg HB; have GE544 := GW544; have IGE544 := gI_ GE544; replace HB := bS_ HB hb; clear hb hbox hg; have z5 := cz8 BK544.out; have f5 := fz8 BK544.out) | ((with_reducible refine gate_callee (f := 74) rfl ?_); refine goesL_ (some 9) rfl rfl Try.func74 (by kernel_rfl) rfl #[.agg #[.int .i64 a0_0, .int .i64 a0_1, .int .i64 a0_2, .int .i64 a0_3, .int .i64 a0_4, .bool a0_5, .int .i64 a0_6, .slice A0_7 l0_7.length c0_7]] rfl la_ ?_; (with_reducible refine (impl_CtlOk.calls k a0_0 a0_1 a0_2 a0_3 a0_4 a0_5 a0_6 _ _ l0_7 t545 _ ?side1 ?side2 A2.out).mono ?_); (case side1 => exact qC (Kd.C_below HR0_7.out HB.out)); (case side2 => exact HC0_7.out); rintro e w6 ⟨rfl, hb⟩; refine ⟨_, rfl, ?_⟩; replace BK544 := bK_ BK544 hb; replace HB := bS_ HB hb; (try clear hb)))
 (try simp only [Act.put, List.setIfInBounds_toArray, List.set_cons_zero, List.set_cons_succ])
 have H := HC3.out
 clear HC3
 by_cases c7 : t545 = true
 rotate_left
 ·
  replace c7 := Bool.eq_false_iff.mpr c7
  subst c7
  rw [if_neg (show ¬ (false = true) by decide)] at H
  obtain ⟨y546, hy546⟩ : ∃ y_ : List Int, y_ = (([] : List Int)) := ⟨_, rfl⟩
  rw [← hy546] at H
  have Ny546 := Aside0.mk hy546
  clear hy546
  obtain rfl := Option.some.inj H
  go_wp2_with (first | ((with_reducible refine gate_dst (N := 11) rfl ?_); refine Kd.R_lit (Kd.int .u8) _ 5 ?hg (N := 11) ?hd (xs := ([] : List Int)) (inner := []) (ok := fun _ => True) (okp := fun _ => True) ?hr ?hp (fun _ hk => hk) trivial (Below.refl _ _) (Nat.le_refl _) (by simp) ?_; (case hd => rfl); (case hg => rfl); (case hr => first | (go_simp; done) | (go_simp; rfl)); (case hp => exact (Reps.none _ _)); intro v547 w56 ho57 hb hg_ hnew_; clear hg_ hnew_; (first | rw [← Ny546.out] at ho57 | (simp only [Int.reduceToNat] at ho57; rw [← Ny546.out] at ho57)); have HO548 := am_ (Kd.R_lower ho57 (below_size (qB HB))); replace BK544 := bK_ BK544 hb; replace HB := bS_ HB hb; clear hb ho57))
  go_ret
  exact ⟨_, er_, qR HO548, qB HB⟩
 subst c7
 rw [if_pos rfl] at H
 have HC8 := Aside0.mk H
 clear H
 have z9 := cz8 BK544.out
 have f9 := fz8 BK544.out
 go_upto_if 13 with (fail)
 go_cut [3] (fun v3 wc => ∃ (kq : Nat) (x3_7 : Int), v3 = .int .u8 x3_7 ∧ Aside0 (impl_PutCtl.j0 kq x3_7 a0_0 a0_1 a0_2 a0_3 a0_4 a0_5 a0_6 l0_7 = some r) ∧ Aside0 (kq ≤ k) ∧ Aside0 (wc.heap[gb544]? = some (.cells #[.int .i64 a0_0, .int .i64 a0_1, .int .i64 a0_2, .int .i64 a0_3, .int .i64 a0_4, .bool a0_5, .int .i64 a0_6, (.slice A0_7 l0_7.length c0_7)] 63 (0, 0))) ∧ Aside0 (Below w.heap.size w wc))
 case first =>
  have H := HC8.out
  clear HC8
  by_cases c10 : a0_5 = true
  ·
   subst c10
   rw [if_pos rfl] at H
   have H' := Aside0.mk H
   clear H
   go_wp2
   go_meet
   case rel => exact ⟨_, (1), eqq_, H', ⟨by first | omega | exact Nat.le_refl _⟩, ⟨qK BK544⟩, ⟨qB HB⟩⟩
  replace c10 := Bool.eq_false_iff.mpr c10
  subst c10
  rw [if_neg (show ¬ (false = true) by decide)] at H
  have H' := Aside0.mk H
  clear H
  go_wp2
  go_meet
  case rel => exact ⟨_, (0), eqq_, H', ⟨by first | omega | exact Nat.le_refl _⟩, ⟨qK BK544⟩, ⟨qB HB⟩⟩
 case rest =>
  clear HC8
  try clear c1
  try clear p2
  try clear c7
  try clear c10
  (try clear z5)
  (try clear z9)
  (try clear f5)
  (try clear f9)
  obtain ⟨kq, x3_7, rfl, HA, HJ7, BK544, HB⟩ := hcut
  cases kq with
  | zero => exact absurd HA.out (by simp [impl_PutCtl.j0])
  | succ kj7 =>
   have H := HA.out
   clear HA
   simp only [impl_PutCtl.j0] at H
   obtain ⟨y549, hy549⟩ : ∃ y_ : List Int, y_ = (([(a0_0) % 256, (a0_1) % 256] : List Int)) := ⟨_, rfl⟩
   rw [← hy549] at H
   have Ny549 := Aside0.mk hy549
   clear hy549
   replace H := bd_ H
   obtain ⟨t552, A11, H⟩ := H
   obtain ⟨y555, hy555⟩ : ∃ y_ : List Int, y_ = (([(a0_3) % 256, (a0_4) % 256, x3_7] : List Int)) := ⟨_, rfl⟩
   replace H := mk_ H hy555
   (try dsimp only at H)
   have Ny555 := Aside0.mk hy555
   clear hy555
   by_cases c12 : t552.length + y555.length < 140737488355328
   case neg => exact nn_ c12 H
   rw [if_pos c12] at H
   have LMc12 := Aside0.mk c12
   clear c12
   obtain ⟨y558, hy558⟩ : ∃ y_ : List Int, y_ = (t552 ++ y555) := ⟨_, rfl⟩
   replace H : ((impl_PutWord.f y558 a0_6).bind fun t561 => ((some (([((l0_7.length : Int)) % 256] : List Int) : List Int)).bind fun y564 => (if t561.length + y564.length < 140737488355328 then (impl_PutCtl.l0 kj7 (t561 ++ y564) l0_7 (l0_7.length : Int) 0) else (none)))) = some r := by first | (rw [hy558]; with_reducible exact H) | (have H2_ := (Option.bind_some _ _).symm.trans H; rw [hy558]; with_reducible exact H2_) | (have H2_ := (Option.bind_some _ _).symm.trans H; with_reducible exact H2_) | with_reducible exact H | (rw [hy558]; exact H) | exact H
   have Ny558 := Aside0.mk hy558
   clear hy558
   replace H := bd_ H
   obtain ⟨t561, A13, H⟩ := H
   obtain ⟨y564, hy564⟩ : ∃ y_ : List Int, y_ = (([((l0_7.length : Int)) % 256] : List Int)) := ⟨_, rfl⟩
   replace H := mk_ H hy564
   (try dsimp only at H)
   have Ny564 := Aside0.mk hy564
   clear hy564
   by_cases c14 : t561.length + y564.length < 140737488355328
   case neg => exact nn_ c14 H
   rw [if_pos c14] at H
   have LMc14 := Aside0.mk c14
   clear c14
   obtain ⟨y567, hy567⟩ : ∃ y_ : List Int, y_ = (t561 ++ y564) := ⟨_, rfl⟩
   replace H : (impl_PutCtl.l0 kj7 y567 l0_7 (l0_7.length : Int) 0) = some r := by first | (rw [hy567]; with_reducible exact H) | (have H2_ := (Option.bind_some _ _).symm.trans H; rw [hy567]; with_reducible exact H2_) | (have H2_ := (Option.bind_some _ _).symm.trans H; with_reducible exact H2_) | with_reducible exact H | (rw [hy567]; exact H) | exact H
   have Ny567 := Aside0.mk hy567
   clear hy567
   have H' := Aside0.mk H
   clear H
   try go_wp2
   replace BK544 := am_ (blk_drew BK544.out)
   replace HB := am_ (below_drew1 HB.out)
   refine start_ (n := 20) (S := fun w' => w'.cell? ⟨gb544, 0, none⟩ = some (.int .i64 a0_0) ∧ w'.cell? ⟨gb544, 1, none⟩ = some (.int .i64 a0_1) ∧ w'.cell? ⟨gb544, 2, none⟩ = some (.int .i64 a0_2) ∧ w'.cell? ⟨gb544, 3, none⟩ = some (.int .i64 a0_3) ∧ w'.cell? ⟨gb544, 4, none⟩ = some (.int .i64 a0_4) ∧ w'.cell? ⟨gb544, 5, none⟩ = some (.bool a0_5) ∧ w'.cell? ⟨gb544, 6, none⟩ = some (.int .i64 a0_6) ∧ w'.cell? ⟨gb544, 7, none⟩ = some (.slice A0_7 l0_7.length c0_7)) (ds := []) (rl [0,20]) (by kernel_rfl) rfl rfl (cz8 BK544.out) (fun hHeld => ?_); refine with_tabW impl_PutCtl.tab6 impl_PutCtl.bits6 (fun HT_ HW_ => ?_)
   generalize wc.drew = w15 at BK544 HB hHeld ⊢
   refine pz_ (i := 0) (N := some 14) HT_ (rl [1,19]) rfl rfl ?_
   refine pz_ (i := 3) (N := some 17) HT_ (rl [1,2,1,16]) rfl rfl ?_
   refine pz_ (i := 7) (N := some 21) HT_ (rl [1,2,1,3,1,12]) rfl rfl ?_
   refine pz_ (i := 10) (N := some 24) HT_ (rl [1,2,1,3,1,2,1,9]) rfl rfl ?_
   refine pz_ (i := 13) (N := some 27) HT_ (rl [1,2,1,3,1,2,1,2,1,6]) rfl rfl ?_
   refine pz_ (i := 16) (N := some 30) HT_ (rl [1,2,1,3,1,2,1,2,1,2,1,3]) rfl rfl ?_
   refine take_ (i := 1) (N := some 15) (v := ?_) (a' := ?_) (rl [2,1,1,3,1,2,1,2,1,2,1,3]) rfl rfl (take_ofW HT_.out HW_.out (by kernel_rfl)) (fun _ _ _ h => h) (Or.inl ⟨by rfl, ?_⟩) hHeld ?_ ?_
   rotate_left
   ·
    rintro w' ⟨s0, s1, s2, s3, s4, s5, s6, s7⟩
    go_simp
    with_reducible rfl
   rotate_left
   ·
    exact ap_
   refine pz_ (i := 2) (N := some 16) HT_ (rl [4,3,1,2,1,2,1,2,1,3]) rfl rfl ?_
   refine take_ (i := 4) (N := some 18) (v := ?_) (a' := ?_) (rl [5,2,1,2,1,2,1,2,1,3]) rfl rfl (take_ofW HT_.out HW_.out (by kernel_rfl)) (fun _ _ _ h => h) (Or.inl ⟨by rfl, ?_⟩) hHeld ?_ ?_
   rotate_left
   ·
    rintro w' ⟨s0, s1, s2, s3, s4, s5, s6, s7⟩
    go_simp
    with_reducible rfl
   rotate_left
   ·
    exact ap_
   refine pz_ (i := 5) (N := some 19) HT_ (rl [6,1,1,2,1,2,1,2,1,3]) rfl rfl ?_
   refine take_ (i := 8) (N := some 22) (v := ?_) (a' := ?_) (rl [6,1,2,1,1,2,1,2,1,3]) rfl rfl (take_ofW HT_.out HW_.out (by kernel_rfl)) (fun _ _ _ h => h) (Or.inl ⟨by rfl, ?_⟩) hHeld ?_ ?_
   rotate_left
   ·
    rintro w' ⟨s0, s1, s2, s3, s4, s5, s6, s7⟩
    go_simp
    with_reducible rfl
   rotate_left
   ·
    exact ap_
   refine take_ (i := 11) (N := some 25) (v := ?_) (a' := ?_) (rl [6,1,2,1,2,1,1,2,1,3]) rfl rfl (take_ofW HT_.out HW_.out (by kernel_rfl)) (fun _ _ _ h => h) (Or.inl ⟨by rfl, ?_⟩) hHeld ?_ ?_
   rotate_left
   ·
    rintro w' ⟨s0, s1, s2, s3, s4, s5, s6, s7⟩
    go_simp
    with_reducible rfl
   rotate_left
   ·
    exact ap_
   refine pz_ (i := 12) (N := some 26) HT_ (rl [6,1,2,1,4,2,1,3]) rfl rfl ?_
   refine take_ (i := 14) (N := some 28) (v := ?_) (a' := ?_) (rl [6,1,2,1,5,1,1,3]) rfl rfl (take_ofW HT_.out HW_.out (by kernel_rfl)) (fun _ _ _ h => h) (Or.inl ⟨by rfl, ?_⟩) hHeld ?_ ?_
   rotate_left
   ·
    rintro w' ⟨s0, s1, s2, s3, s4, s5, s6, s7⟩
    go_simp
    with_reducible rfl
   rotate_left
   ·
    exact ap_
   refine pz_ (i := 15) (N := some 29) HT_ (rl [6,1,2,1,7,3]) rfl rfl ?_
   refine join_ (σ := Value × Value × Value) 2 (rl [18,2]) (fun s_ => [(20, s_.1), (23, s_.2.1), (31, s_.2.2)]) (fun s_ w' => (w'.cell? ⟨gb544, 0, none⟩ = some (.int .i64 a0_0) ∧ w'.cell? ⟨gb544, 1, none⟩ = some (.int .i64 a0_1) ∧ w'.cell? ⟨gb544, 2, none⟩ = some (.int .i64 a0_2) ∧ w'.cell? ⟨gb544, 3, none⟩ = some (.int .i64 a0_3) ∧ w'.cell? ⟨gb544, 4, none⟩ = some (.int .i64 a0_4) ∧ w'.cell? ⟨gb544, 5, none⟩ = some (.bool a0_5) ∧ w'.cell? ⟨gb544, 6, none⟩ = some (.int .i64 a0_6) ∧ w'.cell? ⟨gb544, 7, none⟩ = some (.slice A0_7 l0_7.length c0_7)) ∧ (Kd.R (Kd.int .u8) 5 w' w.heap.size (fun k_ => some k_ ≠ (s_.2.1 : Value).ownBlock ∧ some k_ ≠ (s_.2.2 : Value).ownBlock) s_.1 y549) ∧ (Kd.R (Kd.int .u8) 5 w' w.heap.size (fun k_ => some k_ ≠ (s_.1 : Value).ownBlock ∧ some k_ ≠ (s_.2.2 : Value).ownBlock) s_.2.1 t552) ∧ (Kd.R (Kd.int .u8) 5 w' w.heap.size (fun k_ => some k_ ≠ (s_.1 : Value).ownBlock ∧ some k_ ≠ (s_.2.1 : Value).ownBlock) s_.2.2 y555) ∧ (w'.heap[gb544]? = some (.cells #[.int .i64 a0_0, .int .i64 a0_1, .int .i64 a0_2, .int .i64 a0_3, .int .i64 a0_4, .bool a0_5, .int .i64 a0_6, .slice A0_7 l0_7.length c0_7] 63 (0, 0))) ∧ (Below w.heap.size w w')) ?_ ?_
   rotate_left
   ·
    intro hCont
    refine two_ (i := 6) (j := 17) (Ni := some 20) (Nj := some 31) (rl [9,1,7,3]) (rl [6,1,2,1,8,2]) rfl rfl rfl rfl (two_of HT_.out (by kernel_rfl)) (by decide) (by decide) (fun K hK => ?_) (fun K hK => ?_)
    ·
     skip
     refine Kd.R_lit_step (Kd.int .u8) _ 5 ?hg (N := 20) ?hd (xs := ([(a0_0) % 256, (a0_1) % 256] : List Int)) (inner := [.int .u8 ((a0_0) % 256), .int .u8 ((a0_1) % 256)]) (ok := fun _ => True) (okp := fun _ => True) ?hr ?hp (fun _ hk => hk) trivial (Below.refl _ _) (Nat.le_refl _) (by simp) ?_; (case hd => rfl); (case hg => rfl); (case hr => first | (go_simp; done) | (go_simp; rfl)); (case hp => exact (Reps.one (show Kd.M (Kd.int .u8) _ _ _ ((a0_0) % 256) [.int .u8 ((a0_0) % 256)] from rfl) (Reps.one (show Kd.M (Kd.int .u8) _ _ _ ((a0_1) % 256) [.int .u8 ((a0_1) % 256)] from rfl) (Reps.none _ _))))
     intro v550 w16 ho17 hb hg_ hnew_
     clear hg_ hnew_
     (first | rw [← Ny549.out] at ho17 | (simp only [Int.reduceToNat] at ho17; rw [← Ny549.out] at ho17))
     have HO551 := am_ (Kd.R_lower ho17 (below_size (qB HB)))
     replace BK544 := bK_ BK544 hb
     replace HB := bS_ HB hb
     clear hb ho17
     obtain ⟨Ao18, co18, eo18⟩ := Kd.R_slice HO551.out
     (first | subst eo18 | (injection eo18 with f1_ f2_ f3_; have f4_ := f1_.symm; have f5_ := f3_.symm; clear f1_ f2_ f3_; subst f4_; subst f5_))
     refine hK.out _ _ (cz8 BK544.out) (fun hHeld => ?_)
     clear hK K
     refine norm_ (a' := ?_) ?_ ?_
     rotate_left
     ·
      show Act.put _ (some 20) _ = _
      exact ap_
     refine two_ (i := 9) (j := 17) (Ni := some 23) (Nj := some 31) (rl [17,3]) (rl [9,1,8,2]) rfl rfl rfl rfl (two_of HT_.out (by kernel_rfl)) (by decide) (by decide) (fun K hK => ?_) (fun K hK => ?_)
     ·
      skip
      refine goes_ Try.func112 (by kernel_rfl) rfl #[.slice Ao18 y549.length co18, .int .i64 a0_2] (by rfl) rfl rfl la_ ?_
      with_reducible refine (impl_PutWord.calls _ _ y549 a0_2 t552 _ ?side1 ?side2 A11.out).mono ?_
      (case side1 => exact qC ((Kd.R_reads' HO551.out).2.2))
      (case side2 => exact (Kd.R_reads' HO551.out).2.1)
      rintro e w19 ⟨v553, rfl, ho0, hb⟩
      refine ⟨_, rfl, ?_⟩
      have HO554 := am_ (Kd.R_lower (Kd.R_new' ho0 (Kd.R_lt (qR HO551))) (below_size (qB HB)))
      replace HO551 := eA_ HO551 ho0 hb
      replace BK544 := bK_ BK544 hb
      replace HB := bS_ HB hb
      (try clear hb ho0)
      refine hK.out _ _ (cz8 BK544.out) (fun hHeld => ?_)
      clear hK K
      refine norm_ (a' := ?_) ?_ ?_
      rotate_left
      ·
       show Act.put _ (some 23) _ = _
       exact ap_
      refine one_ (i := 17) (N := some 31) (rl [18,2]) rfl rfl (one_of HT_.out (by kernel_rfl)) (by decide) (fun K hK => ?_)
      refine Kd.R_lit_step (Kd.int .u8) _ 5 ?hg (N := 31) ?hd (xs := ([(a0_3) % 256, (a0_4) % 256, x3_7] : List Int)) (inner := [.int .u8 ((a0_3) % 256), .int .u8 ((a0_4) % 256), .int .u8 x3_7]) (ok := fun _ => True) (okp := fun _ => True) ?hr ?hp (fun _ hk => hk) trivial (Below.refl _ _) (Nat.le_refl _) (by simp) ?_; (case hd => rfl); (case hg => rfl); (case hr => first | (go_simp; done) | (go_simp; rfl)); (case hp => exact (Reps.one (show Kd.M (Kd.int .u8) _ _ _ ((a0_3) % 256) [.int .u8 ((a0_3) % 256)] from rfl) (Reps.one (show Kd.M (Kd.int .u8) _ _ _ ((a0_4) % 256) [.int .u8 ((a0_4) % 256)] from rfl) (Reps.one (show Kd.M (Kd.int .u8) _ _ _ x3_7 [.int .u8 x3_7] from rfl) (Reps.none _ _)))))
      intro v556 w20 ho21 hb hg_ hnew_
      clear hg_ hnew_
      (first | rw [← Ny555.out] at ho21 | (simp only [Int.reduceToNat] at ho21; rw [← Ny555.out] at ho21))
      have HO557 := am_ (Kd.R_lower (Kd.R_new' (Kd.R_new' ho21 (Kd.R_lt (qR HO551))) (Kd.R_lt (qR HO554))) (below_size (qB HB)))
      replace HO551 := eA_ HO551 ho21 hb
      replace HO554 := eA_ HO554 ho21 hb
      replace BK544 := bK_ BK544 hb
      replace HB := bS_ HB hb
      clear hb ho21
      refine hK.out _ _ (cz8 BK544.out) (fun hHeld => ?_)
      clear hK K
      refine norm_ (a' := ?_) ?_ ?_
      rotate_left
      ·
       show Act.put _ (some 31) _ = _
       exact ap_
      exact norm_ (by simp only [putAll, Act.put, List.setIfInBounds_toArray, List.set_cons_zero, List.set_cons_succ]) (hCont (.slice Ao18 y549.length co18, v553, v556) _ ⟨hHeld, (tR (Kd.R_mono HO551.out (fun _ hk => ⟨hk.1.2, hk.2⟩))), (tR (Kd.R_mono HO554.out (fun _ hk => ⟨hk.1.2, hk.2⟩))), (tR (Kd.R_mono HO557.out (fun _ hk => ⟨hk.1.2, hk.2⟩))), (qK BK544), (qB HB)⟩)
     ·
      skip
      refine Kd.R_lit_step (Kd.int .u8) _ 5 ?hg (N := 31) ?hd (xs := ([(a0_3) % 256, (a0_4) % 256, x3_7] : List Int)) (inner := [.int .u8 ((a0_3) % 256), .int .u8 ((a0_4) % 256), .int .u8 x3_7]) (ok := fun _ => True) (okp := fun _ => True) ?hr ?hp (fun _ hk => hk) trivial (Below.refl _ _) (Nat.le_refl _) (by simp) ?_; (case hd => rfl); (case hg => rfl); (case hr => first | (go_simp; done) | (go_simp; rfl)); (case hp => exact (Reps.one (show Kd.M (Kd.int .u8) _ _ _ ((a0_3) % 256) [.int .u8 ((a0_3) % 256)] from rfl) (Reps.one (show Kd.M (Kd.int .u8) _ _ _ ((a0_4) % 256) [.int .u8 ((a0_4) % 256)] from rfl) (Reps.one (show Kd.M (Kd.int .u8) _ _ _ x3_7 [.int .u8 x3_7] from rfl) (Reps.none _ _)))))
      intro v556 w18 ho19 hb hg_ hnew_
      clear hg_ hnew_
      (first | rw [← Ny555.out] at ho19 | (simp only [Int.reduceToNat] at ho19; rw [← Ny555.out] at ho19))
      have HO557 := am_ (Kd.R_lower (Kd.R_new' ho19 (Kd.R_lt (qR HO551))) (below_size (qB HB)))
      replace HO551 := eA_ HO551 ho19 hb
      replace BK544 := bK_ BK544 hb
      replace HB := bS_ HB hb
      clear hb ho19
      obtain ⟨Ao20, co20, eo20⟩ := Kd.R_slice HO551.out
      (first | subst eo20 | (injection eo20 with f1_ f2_ f3_; have f4_ := f1_.symm; have f5_ := f3_.symm; clear f1_ f2_ f3_; subst f4_; subst f5_))
      refine hK.out _ _ (cz8 BK544.out) (fun hHeld => ?_)
      clear hK K
      refine norm_ (a' := ?_) ?_ ?_
      rotate_left
      ·
       show Act.put _ (some 31) _ = _
       exact ap_
      refine one_ (i := 9) (N := some 23) (rl [18,2]) rfl rfl (one_of HT_.out (by kernel_rfl)) (by decide) (fun K hK => ?_)
      refine goes_ Try.func112 (by kernel_rfl) rfl #[.slice Ao20 y549.length co20, .int .i64 a0_2] (by rfl) rfl rfl la_ ?_
      with_reducible refine (impl_PutWord.calls _ _ y549 a0_2 t552 _ ?side1 ?side2 A11.out).mono ?_
      (case side1 => exact qC ((Kd.R_reads' HO551.out).2.2))
      (case side2 => exact (Kd.R_reads' HO551.out).2.1)
      rintro e w21 ⟨v553, rfl, ho0, hb⟩
      refine ⟨_, rfl, ?_⟩
      have HO554 := am_ (Kd.R_lower (Kd.R_new' (Kd.R_new' ho0 (Kd.R_lt (qR HO551))) (Kd.R_lt (qR HO557))) (below_size (qB HB)))
      replace HO551 := eA_ HO551 ho0 hb
      replace HO557 := eA_ HO557 ho0 hb
      replace BK544 := bK_ BK544 hb
      replace HB := bS_ HB hb
      (try clear hb ho0)
      refine hK.out _ _ (cz8 BK544.out) (fun hHeld => ?_)
      clear hK K
      refine norm_ (a' := ?_) ?_ ?_
      rotate_left
      ·
       show Act.put _ (some 23) _ = _
       exact ap_
      exact norm_ (by simp only [putAll, Act.put, List.setIfInBounds_toArray, List.set_cons_zero, List.set_cons_succ]) (hCont (.slice Ao20 y549.length co20, v553, v556) _ ⟨hHeld, (tR (Kd.R_mono HO551.out (fun _ hk => ⟨hk.2, hk.1.2⟩))), (tR (Kd.R_mono HO554.out (fun _ hk => ⟨hk.1.2, hk.2⟩))), (tR (Kd.R_mono HO557.out (fun _ hk => ⟨hk.1.2, hk.2⟩))), (qK BK544), (qB HB)⟩)
    ·
     skip
     refine Kd.R_lit_step (Kd.int .u8) _ 5 ?hg (N := 31) ?hd (xs := ([(a0_3) % 256, (a0_4) % 256, x3_7] : List Int)) (inner := [.int .u8 ((a0_3) % 256), .int .u8 ((a0_4) % 256), .int .u8 x3_7]) (ok := fun _ => True) (okp := fun _ => True) ?hr ?hp (fun _ hk => hk) trivial (Below.refl _ _) (Nat.le_refl _) (by simp) ?_; (case hd => rfl); (case hg => rfl); (case hr => first | (go_simp; done) | (go_simp; rfl)); (case hp => exact (Reps.one (show Kd.M (Kd.int .u8) _ _ _ ((a0_3) % 256) [.int .u8 ((a0_3) % 256)] from rfl) (Reps.one (show Kd.M (Kd.int .u8) _ _ _ ((a0_4) % 256) [.int .u8 ((a0_4) % 256)] from rfl) (Reps.one (show Kd.M (Kd.int .u8) _ _ _ x3_7 [.int .u8 x3_7] from rfl) (Reps.none _ _)))))
     intro v556 w16 ho17 hb hg_ hnew_
     clear hg_ hnew_
     (first | rw [← Ny555.out] at ho17 | (simp only [Int.reduceToNat] at ho17; rw [← Ny555.out] at ho17))
     have HO557 := am_ (Kd.R_lower ho17 (below_size (qB HB)))
     replace BK544 := bK_ BK544 hb
     replace HB := bS_ HB hb
     clear hb ho17
     refine hK.out _ _ (cz8 BK544.out) (fun hHeld => ?_)
     clear hK K
     refine norm_ (a' := ?_) ?_ ?_
     rotate_left
     ·
      show Act.put _ (some 31) _ = _
      exact ap_
     refine one_ (i := 6) (N := some 20) (rl [9,1,8,2]) rfl rfl (one_of HT_.out (by kernel_rfl)) (by decide) (fun K hK => ?_)
     refine Kd.R_lit_step (Kd.int .u8) _ 5 ?hg (N := 20) ?hd (xs := ([(a0_0) % 256, (a0_1) % 256] : List Int)) (inner := [.int .u8 ((a0_0) % 256), .int .u8 ((a0_1) % 256)]) (ok := fun _ => True) (okp := fun _ => True) ?hr ?hp (fun _ hk => hk) trivial (Below.refl _ _) (Nat.le_refl _) (by simp) ?_; (case hd => rfl); (case hg => rfl); (case hr => first | (go_simp; done) | (go_simp; rfl)); (case hp => exact (Reps.one (show Kd.M (Kd.int .u8) _ _ _ ((a0_0) % 256) [.int .u8 ((a0_0) % 256)] from rfl) (Reps.one (show Kd.M (Kd.int .u8) _ _ _ ((a0_1) % 256) [.int .u8 ((a0_1) % 256)] from rfl) (Reps.none _ _))))
     intro v550 w18 ho19 hb hg_ hnew_
     clear hg_ hnew_
     (first | rw [← Ny549.out] at ho19 | (simp only [Int.reduceToNat] at ho19; rw [← Ny549.out] at ho19))
     have HO551 := am_ (Kd.R_lower (Kd.R_new' ho19 (Kd.R_lt (qR HO557))) (below_size (qB HB)))
     replace HO557 := eA_ HO557 ho19 hb
     replace BK544 := bK_ BK544 hb
     replace HB := bS_ HB hb
     clear hb ho19
     obtain ⟨Ao20, co20, eo20⟩ := Kd.R_slice HO551.out
     (first | subst eo20 | (injection eo20 with f1_ f2_ f3_; have f4_ := f1_.symm; have f5_ := f3_.symm; clear f1_ f2_ f3_; subst f4_; subst f5_))
     refine hK.out _ _ (cz8 BK544.out) (fun hHeld => ?_)
     clear hK K
     refine norm_ (a' := ?_) ?_ ?_
     rotate_left
     ·
      show Act.put _ (some 20) _ = _
      exact ap_
     refine one_ (i := 9) (N := some 23) (rl [18,2]) rfl rfl (one_of HT_.out (by kernel_rfl)) (by decide) (fun K hK => ?_)
     refine goes_ Try.func112 (by kernel_rfl) rfl #[.slice Ao20 y549.length co20, .int .i64 a0_2] (by rfl) rfl rfl la_ ?_
     with_reducible refine (impl_PutWord.calls _ _ y549 a0_2 t552 _ ?side1 ?side2 A11.out).mono ?_
     (case side1 => exact qC ((Kd.R_reads' HO551.out).2.2))
     (case side2 => exact (Kd.R_reads' HO551.out).2.1)
     rintro e w21 ⟨v553, rfl, ho0, hb⟩
     refine ⟨_, rfl, ?_⟩
     have HO554 := am_ (Kd.R_lower (Kd.R_new' (Kd.R_new' ho0 (Kd.R_lt (qR HO557))) (Kd.R_lt (qR HO551))) (below_size (qB HB)))
     replace HO557 := eA_ HO557 ho0 hb
     replace HO551 := eA_ HO551 ho0 hb
     replace BK544 := bK_ BK544 hb
     replace HB := bS_ HB hb
     (try clear hb ho0)
     refine hK.out _ _ (cz8 BK544.out) (fun hHeld => ?_)
     clear hK K
     refine norm_ (a' := ?_) ?_ ?_
     rotate_left
     ·
      show Act.put _ (some 23) _ = _
      exact ap_
     exact norm_ (by simp only [putAll, Act.put, List.setIfInBounds_toArray, List.set_cons_zero, List.set_cons_succ]) (hCont (.slice Ao20 y549.length co20, v553, v556) _ ⟨hHeld, (tR (Kd.R_mono HO551.out (fun _ hk => ⟨hk.2, hk.1.2⟩))), (tR (Kd.R_mono HO554.out (fun _ hk => ⟨hk.2, hk.1.2⟩))), (tR (Kd.R_mono HO557.out (fun _ hk => ⟨hk.1.2, hk.2⟩))), (qK BK544), (qB HB)⟩)
   rintro ⟨v550, v553, v556⟩ w22 ⟨hS_, h0_, h1_, h2_, h3_, h4_⟩
   have n0_ : Aside0 (Kd.R (Kd.int .u8) 5 w22 w.heap.size (fun k_ => some k_ ≠ (v553 : Value).ownBlock ∧ some k_ ≠ (v556 : Value).ownBlock) v550 y549) := ⟨h0_⟩
   have n1_ : Aside0 (Kd.R (Kd.int .u8) 5 w22 w.heap.size (fun k_ => some k_ ≠ (v550 : Value).ownBlock ∧ some k_ ≠ (v556 : Value).ownBlock) v553 t552) := ⟨h1_⟩
   have n2_ : Aside0 (Kd.R (Kd.int .u8) 5 w22 w.heap.size (fun k_ => some k_ ≠ (v550 : Value).ownBlock ∧ some k_ ≠ (v553 : Value).ownBlock) v556 y555) := ⟨h2_⟩
   have n3_ : Aside0 (w22.heap[gb544]? = some (.cells #[.int .i64 a0_0, .int .i64 a0_1, .int .i64 a0_2, .int .i64 a0_3, .int .i64 a0_4, .bool a0_5, .int .i64 a0_6, .slice A0_7 l0_7.length c0_7] 63 (0, 0))) := ⟨h3_⟩
   have n4_ : Aside0 (Below w.heap.size w w22) := ⟨h4_⟩
   clear BK544
   clear HB
   clear h0_ h1_ h2_ h3_ h4_
   have HO551 := n0_
   have HO554 := n1_
   have HO557 := n2_
   have BK544 := n3_
   have HB := n4_
   clear n0_ n1_ n2_ n3_ n4_
   have hHeld : w22.cell? ⟨gb544, 0, none⟩ = some (.int .i64 a0_0) ∧ w22.cell? ⟨gb544, 1, none⟩ = some (.int .i64 a0_1) ∧ w22.cell? ⟨gb544, 2, none⟩ = some (.int .i64 a0_2) ∧ w22.cell? ⟨gb544, 3, none⟩ = some (.int .i64 a0_3) ∧ w22.cell? ⟨gb544, 4, none⟩ = some (.int .i64 a0_4) ∧ w22.cell? ⟨gb544, 5, none⟩ = some (.bool a0_5) ∧ w22.cell? ⟨gb544, 6, none⟩ = some (.int .i64 a0_6) ∧ w22.cell? ⟨gb544, 7, none⟩ = some (.slice A0_7 l0_7.length c0_7) := hS_
   obtain ⟨Ao24, co24, eo24⟩ := Kd.R_slice HO557.out
   (first | subst eo24 | (injection eo24 with f1_ f2_ f3_; have f4_ := f1_.symm; have f5_ := f3_.symm; clear f1_ f2_ f3_; subst f4_; subst f5_))
   refine norm_ (a' := ?_) ?_ ?_
   rotate_left
   ·
    simp only [putAll, Act.put, List.setIfInBounds_toArray, List.set_cons_zero, List.set_cons_succ]
    rfl
   refine one_ (i := 18) (N := some 32) (rl [19,1]) rfl rfl (one_of HT_.out (by kernel_rfl)) (by decide) (fun K hK => ?_)
   refine Kd.R_append_rows_step (Kd.int .u8) (w0 := w) w.heap.size (by rfl) (.tmp 23) (.tmp 31) 70 5 (.int .u8 0) 1 rfl Try.underlying70 info5 rfl (by decide) (by omega) v553 t552 y555 _ _ _ (fun k_ => some k_ ≠ (v550 : Value).ownBlock ∧ some k_ ≠ (.slice Ao24 y555.length co24 : Value).ownBlock) (fun _ => False) rfl rfl ?aO ?aR (fun _ _ h => h) (fun _ h => h.elim) ?aF ?aB ?aS ?aL ?_
   (case aR => exact qC ((Kd.R_reads' HO557.out).2.2))
   (case aB => exact (qB HB))
   (case aF => exact (fun k_ hk => ⟨Kd.fresh' (Kd.R_lt (qR HO551)) k_ hk, Kd.fresh' (Kd.R_lt (qR HO557)) k_ hk⟩))
   (case aO => exact (qR HO554))
   (case aS => exact (below_size (qB HB)))
   (case aL => have := LMc12.out; omega)
   intro v559 w23 ho hb hg hat
   rw [← Ny558.out] at ho
   replace BK544 := am_ (blk_grown (qK BK544) hg (Kd.R_ne HO554.out BK544.out (by decide)))
   replace HO551 := am_ (Kd.R_after (ok := (fun k_ => some k_ ≠ (.slice Ao24 y555.length co24 : Value).ownBlock)) (tR (Kd.R_mono HO551.out (fun _ hk => ⟨hk.2, hk.1⟩))) hg hat)
   replace HO557 := am_ (Kd.R_after (ok := (fun k_ => some k_ ≠ (v550 : Value).ownBlock)) (qR HO557) hg hat)
   replace HB := am_ (hb)
   have HO560 := am_ (ho)
   clear HO554
   clear ho hb hg hat
   refine hK.out _ _ (cz8 BK544.out) (fun hHeld => ?_)
   clear hK K
   refine norm_ (a' := ?_) ?_ ?_
   rotate_left
   ·
    show Act.put _ (some 32) _ = _
    exact ap_
   refine pz_ (i := 19) (N := some 4) HT_ (rl [20]) rfl rfl ?_
   refine done_ (done_of HT_.out (by kernel_rfl)) ?_
   obtain ⟨Ao25, co25, eo25⟩ := Kd.R_slice HO560.out
   subst eo25
   try go_wp2
   replace HO551 := am_ (Kd.R_drew HO551.out)
   replace HO557 := am_ (Kd.R_drew HO557.out)
   replace HO560 := am_ (Kd.R_drew HO560.out)
   replace BK544 := am_ (blk_drew BK544.out)
   replace HB := am_ (below_drew1 HB.out)
   refine start_ (n := 11) (S := fun w' => w'.cell? ⟨gb544, 0, none⟩ = some (.int .i64 a0_0) ∧ w'.cell? ⟨gb544, 1, none⟩ = some (.int .i64 a0_1) ∧ w'.cell? ⟨gb544, 2, none⟩ = some (.int .i64 a0_2) ∧ w'.cell? ⟨gb544, 3, none⟩ = some (.int .i64 a0_3) ∧ w'.cell? ⟨gb544, 4, none⟩ = some (.int .i64 a0_4) ∧ w'.cell? ⟨gb544, 5, none⟩ = some (.bool a0_5) ∧ w'.cell? ⟨gb544, 6, none⟩ = some (.int .i64 a0_6) ∧ w'.cell? ⟨gb544, 7, none⟩ = some (.slice A0_7 l0_7.length c0_7)) (ds := []) #[oo,oo,oo,oo,oo,oo,oo,oo,oo,oo,oo] (by kernel_rfl) rfl rfl (cz8 BK544.out) (fun hHeld => ?_); refine with_tabW impl_PutCtl.tab7 impl_PutCtl.bits7 (fun HT_ HW_ => ?_)
   generalize w23.drew = w26 at HO551 HO557 HO560 BK544 HB hHeld ⊢
   refine pz_ (i := 0) (N := some 33) HT_ #[ii,oo,oo,oo,oo,oo,oo,oo,oo,oo,oo] rfl rfl ?_
   refine pz_ (i := 1) (N := some 34) HT_ #[ii,ii,oo,oo,oo,oo,oo,oo,oo,oo,oo] rfl rfl ?_
   refine pz_ (i := 4) (N := some 37) HT_ #[ii,ii,oo,oo,ii,oo,oo,oo,oo,oo,oo] rfl rfl ?_
   refine take_ (i := 2) (N := some 35) (v := ?_) (a' := ?_) #[ii,ii,ii,oo,ii,oo,oo,oo,oo,oo,oo] rfl rfl (take_ofW HT_.out HW_.out (by kernel_rfl)) (fun _ _ _ h => h) (Or.inl ⟨by rfl, ?_⟩) hHeld ?_ ?_
   rotate_left
   ·
    rintro w' ⟨s0, s1, s2, s3, s4, s5, s6, s7⟩
    go_simp
    with_reducible rfl
   rotate_left
   ·
    exact ap_
   refine take_ (i := 5) (N := some 38) (v := ?_) (a' := ?_) #[ii,ii,ii,oo,ii,ii,oo,oo,oo,oo,oo] rfl rfl (take_ofW HT_.out HW_.out (by kernel_rfl)) (fun _ _ _ h => h) (Or.inl ⟨by rfl, ?_⟩) hHeld ?_ ?_
   rotate_left
   ·
    rintro w' ⟨s0, s1, s2, s3, s4, s5, s6, s7⟩
    go_simp
    with_reducible rfl
   rotate_left
   ·
    exact ap_
   refine pz_ (i := 6) (N := some 39) HT_ #[ii,ii,ii,oo,ii,ii,ii,oo,oo,oo,oo] rfl rfl ?_
   refine pz_ (i := 7) (N := some 40) HT_ #[ii,ii,ii,oo,ii,ii,ii,ii,oo,oo,oo] rfl rfl ?_
   refine join_ (σ := Value × Value) 2 #[ii,ii,ii,ii,ii,ii,ii,ii,ii,oo,oo] (fun s_ => [(36, s_.1), (41, s_.2)]) (fun s_ w' => (w'.cell? ⟨gb544, 0, none⟩ = some (.int .i64 a0_0) ∧ w'.cell? ⟨gb544, 1, none⟩ = some (.int .i64 a0_1) ∧ w'.cell? ⟨gb544, 2, none⟩ = some (.int .i64 a0_2) ∧ w'.cell? ⟨gb544, 3, none⟩ = some (.int .i64 a0_3) ∧ w'.cell? ⟨gb544, 4, none⟩ = some (.int .i64 a0_4) ∧ w'.cell? ⟨gb544, 5, none⟩ = some (.bool a0_5) ∧ w'.cell? ⟨gb544, 6, none⟩ = some (.int .i64 a0_6) ∧ w'.cell? ⟨gb544, 7, none⟩ = some (.slice A0_7 l0_7.length c0_7)) ∧ (Kd.R (Kd.int .u8) 5 w' w.heap.size (fun k_ => some k_ ≠ (.slice Ao24 y555.length co24 : Value).ownBlock ∧ some k_ ≠ (.slice Ao25 y558.length co25 : Value).ownBlock ∧ some k_ ≠ (s_.1 : Value).ownBlock ∧ some k_ ≠ (s_.2 : Value).ownBlock) v550 y549) ∧ (Kd.R (Kd.int .u8) 5 w' w.heap.size (fun k_ => some k_ ≠ (v550 : Value).ownBlock ∧ some k_ ≠ (.slice Ao25 y558.length co25 : Value).ownBlock ∧ some k_ ≠ (s_.1 : Value).ownBlock ∧ some k_ ≠ (s_.2 : Value).ownBlock) (.slice Ao24 y555.length co24) y555) ∧ (Kd.R (Kd.int .u8) 5 w' w.heap.size (fun k_ => some k_ ≠ (v550 : Value).ownBlock ∧ some k_ ≠ (.slice Ao24 y555.length co24 : Value).ownBlock ∧ some k_ ≠ (s_.1 : Value).ownBlock ∧ some k_ ≠ (s_.2 : Value).ownBlock) (.slice Ao25 y558.length co25) y558) ∧ (Kd.R (Kd.int .u8) 5 w' w.heap.size (fun k_ => some k_ ≠ (v550 : Value).ownBlock ∧ some k_ ≠ (.slice Ao24 y555.length co24 : Value).ownBlock ∧ some k_ ≠ (.slice Ao25 y558.length co25 : Value).ownBlock ∧ some k_ ≠ (s_.2 : Value).ownBlock) s_.1 t561) ∧ (Kd.R (Kd.int .u8) 5 w' w.heap.size (fun k_ => some k_ ≠ (v550 : Value).ownBlock ∧ some k_ ≠ (.slice Ao24 y555.length co24 : Value).ownBlock ∧ some k_ ≠ (.slice Ao25 y558.length co25 : Value).ownBlock ∧ some k_ ≠ (s_.1 : Value).ownBlock) s_.2 y564) ∧ (w'.heap[gb544]? = some (.cells #[.int .i64 a0_0, .int .i64 a0_1, .int .i64 a0_2, .int .i64 a0_3, .int .i64 a0_4, .bool a0_5, .int .i64 a0_6, .slice A0_7 l0_7.length c0_7] 63 (0, 0))) ∧ (Below w.heap.size w w')) ?_ ?_
   rotate_left
   ·
    intro hCont
    refine two_ (i := 3) (j := 8) (Ni := some 36) (Nj := some 41) #[ii,ii,ii,ii,ii,ii,ii,ii,oo,oo,oo] #[ii,ii,ii,oo,ii,ii,ii,ii,ii,oo,oo] rfl rfl rfl rfl (two_of HT_.out (by kernel_rfl)) (by decide) (by decide) (fun K hK => ?_) (fun K hK => ?_)
    ·
     skip
     refine goes_ Try.func112 (by kernel_rfl) rfl #[.slice Ao25 y558.length co25, .int .i64 a0_6] (by rfl) rfl rfl la_ ?_
     with_reducible refine (impl_PutWord.calls _ _ y558 a0_6 t561 _ ?side1 ?side2 A13.out).mono ?_
     (case side1 => exact qC ((Kd.R_reads' HO560.out).2.2))
     (case side2 => exact (Kd.R_reads' HO560.out).2.1)
     rintro e w27 ⟨v562, rfl, ho0, hb⟩
     refine ⟨_, rfl, ?_⟩
     have HO563 := am_ (Kd.R_lower (Kd.R_new' (Kd.R_new' (Kd.R_new' ho0 (Kd.R_lt (qR HO551))) (Kd.R_lt (qR HO557))) (Kd.R_lt (qR HO560))) (below_size (qB HB)))
     replace HO551 := eA_ HO551 ho0 hb
     replace HO557 := eA_ HO557 ho0 hb
     replace HO560 := eA_ HO560 ho0 hb
     replace BK544 := bK_ BK544 hb
     replace HB := bS_ HB hb
     (try clear hb ho0)
     refine hK.out _ _ (cz8 BK544.out) (fun hHeld => ?_)
     clear hK K
     refine norm_ (a' := ?_) ?_ ?_
     rotate_left
     ·
      show Act.put _ (some 36) _ = _
      exact ap_
     refine one_ (i := 8) (N := some 41) #[ii,ii,ii,ii,ii,ii,ii,ii,ii,oo,oo] rfl rfl (one_of HT_.out (by kernel_rfl)) (by decide) (fun K hK => ?_)
     refine Kd.R_lit_step (Kd.int .u8) _ 5 ?hg (N := 41) ?hd (xs := ([((l0_7.length : Int)) % 256] : List Int)) (inner := [.int .u8 (((l0_7.length : Int)) % 256)]) (ok := fun _ => True) (okp := fun _ => True) ?hr ?hp (fun _ hk => hk) trivial (Below.refl _ _) (Nat.le_refl _) (by simp) ?_; (case hd => rfl); (case hg => rfl); (case hr => first | (go_simp; done) | (go_simp; rfl)); (case hp => exact (Reps.one (show Kd.M (Kd.int .u8) _ _ _ (((l0_7.length : Int)) % 256) [.int .u8 (((l0_7.length : Int)) % 256)] from rfl) (Reps.none _ _)))
     intro v565 w28 ho29 hb hg_ hnew_
     clear hg_ hnew_
     (first | rw [← Ny564.out] at ho29 | (simp only [Int.reduceToNat] at ho29; rw [← Ny564.out] at ho29))
     have HO566 := am_ (Kd.R_lower (Kd.R_new' (Kd.R_new' (Kd.R_new' (Kd.R_new' ho29 (Kd.R_lt (qR HO551))) (Kd.R_lt (qR HO557))) (Kd.R_lt (qR HO560))) (Kd.R_lt (qR HO563))) (below_size (qB HB)))
     replace HO551 := eA_ HO551 ho29 hb
     replace HO557 := eA_ HO557 ho29 hb
     replace HO560 := eA_ HO560 ho29 hb
     replace HO563 := eA_ HO563 ho29 hb
     replace BK544 := bK_ BK544 hb
     replace HB := bS_ HB hb
     clear hb ho29
     refine hK.out _ _ (cz8 BK544.out) (fun hHeld => ?_)
     clear hK K
     refine norm_ (a' := ?_) ?_ ?_
     rotate_left
     ·
      show Act.put _ (some 41) _ = _
      exact ap_
     exact norm_ (by simp only [putAll, Act.put, List.setIfInBounds_toArray, List.set_cons_zero, List.set_cons_succ]) (hCont (v562, v565) _ ⟨hHeld, (tR (Kd.R_mono HO551.out (fun _ hk => ⟨hk.1.1.1, ⟨hk.1.1.2, ⟨hk.1.2, hk.2⟩⟩⟩))), (tR (Kd.R_mono HO557.out (fun _ hk => ⟨hk.1.1.1, ⟨hk.1.1.2, ⟨hk.1.2, hk.2⟩⟩⟩))), (tR (Kd.R_mono HO560.out (fun _ hk => ⟨hk.1.1.1, ⟨hk.1.1.2, ⟨hk.1.2, hk.2⟩⟩⟩))), (tR (Kd.R_mono HO563.out (fun _ hk => ⟨hk.1.1.1.2, ⟨hk.1.1.2, ⟨hk.1.2, hk.2⟩⟩⟩))), (tR (Kd.R_mono HO566.out (fun _ hk => ⟨hk.1.1.1.2, ⟨hk.1.1.2, ⟨hk.1.2, hk.2⟩⟩⟩))), (qK BK544), (qB HB)⟩)
    ·
     skip
     refine Kd.R_lit_step (Kd.int .u8) _ 5 ?hg (N := 41) ?hd (xs := ([((l0_7.length : Int)) % 256] : List Int)) (inner := [.int .u8 (((l0_7.length : Int)) % 256)]) (ok := fun _ => True) (okp := fun _ => True) ?hr ?hp (fun _ hk => hk) trivial (Below.refl _ _) (Nat.le_refl _) (by simp) ?_; (case hd => rfl); (case hg => rfl); (case hr => first | (go_simp; done) | (go_simp; rfl)); (case hp => exact (Reps.one (show Kd.M (Kd.int .u8) _ _ _ (((l0_7.length : Int)) % 256) [.int .u8 (((l0_7.length : Int)) % 256)] from rfl) (Reps.none _ _)))
     intro v565 w27 ho28 hb hg_ hnew_
     clear hg_ hnew_
     (first | rw [← Ny564.out] at ho28 | (simp only [Int.reduceToNat] at ho28; rw [← Ny564.out] at ho28))
     have HO566 := am_ (Kd.R_lower (Kd.R_new' (Kd.R_new' (Kd.R_new' ho28 (Kd.R_lt (qR HO551))) (Kd.R_lt (qR HO557))) (Kd.R_lt (qR HO560))) (below_size (qB HB)))
     replace HO551 := eA_ HO551 ho28 hb
     replace HO557 := eA_ HO557 ho28 hb
     replace HO560 := eA_ HO560 ho28 hb
     replace BK544 := bK_ BK544 hb
     replace HB := bS_ HB hb
     clear hb ho28
     refine hK.out _ _ (cz8 BK544.out) (fun hHeld => ?_)
     clear hK K
     refine norm_ (a' := ?_) ?_ ?_
     rotate_left
     ·
      show Act.put _ (some 41) _ = _
      exact ap_
     refine one_ (i := 3) (N := some 36) #[ii,ii,ii,ii,ii,ii,ii,ii,ii,oo,oo] rfl rfl (one_of HT_.out (by kernel_rfl)) (by decide) (fun K hK => ?_)
     refine goes_ Try.func112 (by kernel_rfl) rfl #[.slice Ao25 y558.length co25, .int .i64 a0_6] (by rfl) rfl rfl la_ ?_
     with_reducible refine (impl_PutWord.calls _ _ y558 a0_6 t561 _ ?side1 ?side2 A13.out).mono ?_
     (case side1 => exact qC ((Kd.R_reads' HO560.out).2.2))
     (case side2 => exact (Kd.R_reads' HO560.out).2.1)
     rintro e w29 ⟨v562, rfl, ho0, hb⟩
     refine ⟨_, rfl, ?_⟩
     have HO563 := am_ (Kd.R_lower (Kd.R_new' (Kd.R_new' (Kd.R_new' (Kd.R_new' ho0 (Kd.R_lt (qR HO551))) (Kd.R_lt (qR HO557))) (Kd.R_lt (qR HO560))) (Kd.R_lt (qR HO566))) (below_size (qB HB)))
     replace HO551 := eA_ HO551 ho0 hb
     replace HO557 := eA_ HO557 ho0 hb
     replace HO560 := eA_ HO560 ho0 hb
     replace HO566 := eA_ HO566 ho0 hb
     replace BK544 := bK_ BK544 hb
     replace HB := bS_ HB hb
     (try clear hb ho0)
     refine hK.out _ _ (cz8 BK544.out) (fun hHeld => ?_)
     clear hK K
     refine norm_ (a' := ?_) ?_ ?_
     rotate_left
     ·
      show Act.put _ (some 36) _ = _
      exact ap_
     exact norm_ (by simp only [putAll, Act.put, List.setIfInBounds_toArray, List.set_cons_zero, List.set_cons_succ]) (hCont (v562, v565) _ ⟨hHeld, (tR (Kd.R_mono HO551.out (fun _ hk => ⟨hk.1.1.1, ⟨hk.1.1.2, ⟨hk.2, hk.1.2⟩⟩⟩))), (tR (Kd.R_mono HO557.out (fun _ hk => ⟨hk.1.1.1, ⟨hk.1.1.2, ⟨hk.2, hk.1.2⟩⟩⟩))), (tR (Kd.R_mono HO560.out (fun _ hk => ⟨hk.1.1.1, ⟨hk.1.1.2, ⟨hk.2, hk.1.2⟩⟩⟩))), (tR (Kd.R_mono HO563.out (fun _ hk => ⟨hk.1.1.1.2, ⟨hk.1.1.2, ⟨hk.1.2, hk.2⟩⟩⟩))), (tR (Kd.R_mono HO566.out (fun _ hk => ⟨hk.1.1.1.2, ⟨hk.1.1.2, ⟨hk.1.2, hk.2⟩⟩⟩))), (qK BK544), (qB HB)⟩)
   rintro ⟨v562, v565⟩ w30 ⟨hS_, h0_, h1_, h2_, h3_, h4_, h5_, h6_⟩
   have n0_ : Aside0 (Kd.R (Kd.int .u8) 5 w30 w.heap.size (fun k_ => some k_ ≠ (.slice Ao24 y555.length co24 : Value).ownBlock ∧ some k_ ≠ (.slice Ao25 y558.length co25 : Value).ownBlock ∧ some k_ ≠ (v562 : Value).ownBlock ∧ some k_ ≠ (v565 : Value).ownBlock) v550 y549) := ⟨h0_⟩
   have n1_ : Aside0 (Kd.R (Kd.int .u8) 5 w30 w.heap.size (fun k_ => some k_ ≠ (v550 : Value).ownBlock ∧ some k_ ≠ (.slice Ao25 y558.length co25 : Value).ownBlock ∧ some k_ ≠ (v562 : Value).ownBlock ∧ some k_ ≠ (v565 : Value).ownBlock) (.slice Ao24 y555.length co24) y555) := ⟨h1_⟩
   have n2_ : Aside0 (Kd.R (Kd.int .u8) 5 w30 w.heap.size (fun k_ => some k_ ≠ (v550 : Value).ownBlock ∧ some k_ ≠ (.slice Ao24 y555.length co24 : Value).ownBlock ∧ some k_ ≠ (v562 : Value).ownBlock ∧ some k_ ≠ (v565 : Value).ownBlock) (.slice Ao25 y558.length co25) y558) := ⟨h2_⟩
   have n3_ : Aside0 (Kd.R (Kd.int .u8) 5 w30 w.heap.size (fun k_ => some k_ ≠ (v550 : Value).ownBlock ∧ some k_ ≠ (.slice Ao24 y555.length co24 : Value).ownBlock ∧ some k_ ≠ (.slice Ao25 y558.length co25 : Value).ownBlock ∧ some k_ ≠ (v565 : Value).ownBlock) v562 t561) := ⟨h3_⟩
   have n4_ : Aside0 (Kd.R (Kd.int .u8) 5 w30 w.heap.size (fun k_ => some k_ ≠ (v550 : Value).ownBlock ∧ some k_ ≠ (.slice Ao24 y555.length co24 : Value).ownBlock ∧ some k_ ≠ (.slice Ao25 y558.length co25 : Value).ownBlock ∧ some k_ ≠ (v562 : Value).ownBlock) v565 y564) := ⟨h4_⟩
   have n5_ : Aside0 (w30.heap[gb544]? = some (.cells #[.int .i64 a0_0, .int .i64 a0_1, .int .i64 a0_2, .int .i64 a0_3, .int .i64 a0_4, .bool a0_5, .int .i64 a0_6, .slice A0_7 l0_7.length c0_7] 63 (0, 0))) := ⟨h5_⟩
   have n6_ : Aside0 (Below w.heap.size w w30) := ⟨h6_⟩
   clear HO551
   clear HO557
   clear HO560
   clear BK544
   clear HB
   clear h0_ h1_ h2_ h3_ h4_ h5_ h6_
   have HO551 := n0_
   have HO557 := n1_
   have HO560 := n2_
   have HO563 := n3_
   have HO566 := n4_
   have BK544 := n5_
   have HB := n6_
   clear n0_ n1_ n2_ n3_ n4_ n5_ n6_
   have hHeld : w30.cell? ⟨gb544, 0, none⟩ = some (.int .i64 a0_0) ∧ w30.cell? ⟨gb544, 1, none⟩ = some (.int .i64 a0_1) ∧ w30.cell? ⟨gb544, 2, none⟩ = some (.int .i64 a0_2) ∧ w30.cell? ⟨gb544, 3, none⟩ = some (.int .i64 a0_3) ∧ w30.cell? ⟨gb544, 4, none⟩ = some (.int .i64 a0_4) ∧ w30.cell? ⟨gb544, 5, none⟩ = some (.bool a0_5) ∧ w30.cell? ⟨gb544, 6, none⟩ = some (.int .i64 a0_6) ∧ w30.cell? ⟨gb544, 7, none⟩ = some (.slice A0_7 l0_7.length c0_7) := hS_
   obtain ⟨Ao32, co32, eo32⟩ := Kd.R_slice HO566.out
   (first | subst eo32 | (injection eo32 with f1_ f2_ f3_; have f4_ := f1_.symm; have f5_ := f3_.symm; clear f1_ f2_ f3_; subst f4_; subst f5_))
   refine norm_ (a' := ?_) ?_ ?_
   rotate_left
   ·
    simp only [putAll, Act.put, List.setIfInBounds_toArray, List.set_cons_zero, List.set_cons_succ]
    rfl
   refine one_ (i := 9) (N := some 42) #[ii,ii,ii,ii,ii,ii,ii,ii,ii,ii,oo] rfl rfl (one_of HT_.out (by kernel_rfl)) (by decide) (fun K hK => ?_)
   refine Kd.R_append_rows_step (Kd.int .u8) (w0 := w) w.heap.size (by rfl) (.tmp 36) (.tmp 41) 70 5 (.int .u8 0) 1 rfl Try.underlying70 info5 rfl (by decide) (by omega) v562 t561 y564 _ _ _ (fun k_ => some k_ ≠ (v550 : Value).ownBlock ∧ some k_ ≠ (.slice Ao24 y555.length co24 : Value).ownBlock ∧ some k_ ≠ (.slice Ao25 y558.length co25 : Value).ownBlock ∧ some k_ ≠ (.slice Ao32 y564.length co32 : Value).ownBlock) (fun _ => False) rfl rfl ?aO ?aR (fun _ _ h => h) (fun _ h => h.elim) ?aF ?aB ?aS ?aL ?_
   (case aR => exact qC ((Kd.R_reads' HO566.out).2.2))
   (case aB => exact (qB HB))
   (case aF => exact (fun k_ hk => ⟨Kd.fresh' (Kd.R_lt (qR HO551)) k_ hk, Kd.fresh' (Kd.R_lt (qR HO557)) k_ hk, Kd.fresh' (Kd.R_lt (qR HO560)) k_ hk, Kd.fresh' (Kd.R_lt (qR HO566)) k_ hk⟩))
   (case aO => exact (qR HO563))
   (case aS => exact (below_size (qB HB)))
   (case aL => have := LMc14.out; omega)
   intro v568 w31 ho hb hg hat
   rw [← Ny567.out] at ho
   replace BK544 := am_ (blk_grown (qK BK544) hg (Kd.R_ne HO563.out BK544.out (by decide)))
   replace HO551 := am_ (Kd.R_after (ok := (fun k_ => some k_ ≠ (.slice Ao24 y555.length co24 : Value).ownBlock ∧ some k_ ≠ (.slice Ao25 y558.length co25 : Value).ownBlock ∧ some k_ ≠ (.slice Ao32 y564.length co32 : Value).ownBlock)) (tR (Kd.R_mono HO551.out (fun _ hk => ⟨⟨hk.1, ⟨hk.2.1, hk.2.2.2⟩⟩, hk.2.2.1⟩))) hg hat)
   replace HO557 := am_ (Kd.R_after (ok := (fun k_ => some k_ ≠ (v550 : Value).ownBlock ∧ some k_ ≠ (.slice Ao25 y558.length co25 : Value).ownBlock ∧ some k_ ≠ (.slice Ao32 y564.length co32 : Value).ownBlock)) (tR (Kd.R_mono HO557.out (fun _ hk => ⟨⟨hk.1, ⟨hk.2.1, hk.2.2.2⟩⟩, hk.2.2.1⟩))) hg hat)
   replace HO560 := am_ (Kd.R_after (ok := (fun k_ => some k_ ≠ (v550 : Value).ownBlock ∧ some k_ ≠ (.slice Ao24 y555.length co24 : Value).ownBlock ∧ some k_ ≠ (.slice Ao32 y564.length co32 : Value).ownBlock)) (tR (Kd.R_mono HO560.out (fun _ hk => ⟨⟨hk.1, ⟨hk.2.1, hk.2.2.2⟩⟩, hk.2.2.1⟩))) hg hat)
   replace HO566 := am_ (Kd.R_after (ok := (fun k_ => some k_ ≠ (v550 : Value).ownBlock ∧ some k_ ≠ (.slice Ao24 y555.length co24 : Value).ownBlock ∧ some k_ ≠ (.slice Ao25 y558.length co25 : Value).ownBlock)) (tR (Kd.R_mono HO566.out (fun _ hk => ⟨⟨hk.1, ⟨hk.2.1, hk.2.2.1⟩⟩, hk.2.2.2⟩))) hg hat)
   replace HB := am_ (hb)
   have HO569 := am_ (ho)
   clear HO563
   clear ho hb hg hat
   refine hK.out _ _ (cz8 BK544.out) (fun hHeld => ?_)
   clear hK K
   refine norm_ (a' := ?_) ?_ ?_
   rotate_left
   ·
    show Act.put _ (some 42) _ = _
    exact ap_
   refine pz_ (i := 10) (N := some 4) HT_ #[ii,ii,ii,ii,ii,ii,ii,ii,ii,ii,ii] rfl rfl ?_
   refine done_ (done_of HT_.out (by kernel_rfl)) ?_
   have z33 := cz8 BK544.out
   have f33 := fz8 BK544.out
   try go_wp2
   go_loopg [4, 46] kj7 (fun kq v4 v46 w' => ∃ (x4_2 : List Int) (x46_2 : Int), v46 = .int .i64 x46_2 ∧ Aside0 (impl_PutCtl.l0 kq x4_2 l0_7 (l0_7.length : Int) x46_2 = some r) ∧ Aside0 (kq ≤ kj7) ∧ Aside0 (Kd.R (Kd.int .u8) 5 w' w.heap.size (fun _ => True) v4 x4_2) ∧ Aside0 (w'.heap[gb544]? = some (.cells #[.int .i64 a0_0, .int .i64 a0_1, .int .i64 a0_2, .int .i64 a0_3, .int .i64 a0_4, .bool a0_5, .int .i64 a0_6, (.slice A0_7 l0_7.length c0_7)] 63 (0, 0))) ∧ Aside0 (Below w.heap.size w w'))
   case atStart => exact ⟨(y567), (0), eqq_, H', ⟨Nat.le_refl _⟩, ⟨by (with_reducible repeat (first | apply Kd.R_alloc | apply Kd.R_drewN | apply Kd.R_drew)); exact Kd.R_mono HO569.out (fun _ hk => trivial)⟩, ⟨qK BK544⟩, ⟨qB HB⟩⟩
   case round =>
    clear H'
    try clear c1
    try clear p2
    try clear c11
    try clear c12
    try clear c14
    (try clear z33)
    (try clear f33)
    obtain ⟨x4_2, x46_2, rfl, HA, HK2, HO_4, BK544, HB⟩ := hrel
    cases gk with
    | zero => exact absurd HA.out (by simp [impl_PutCtl.l0])
    | succ k2 =>
     have H := HA.out
     clear HA
     simp only [impl_PutCtl.l0] at H
     by_cases c34 : x46_2 < (l0_7.length : Int)
     rotate_left
     ·
      rw [if_neg c34] at H
      have c34b0 : decide (x46_2 < (l0_7.length : Int)) = false := decide_eq_false c34
      clear c34
      replace H := bd_ H
      obtain ⟨t584, A52, H⟩ := H
      replace H := bd_ H
      obtain ⟨t585, A53, H⟩ := H
      obtain rfl := Option.some.inj H
      obtain ⟨Ao54, co54, eo54⟩ := Kd.R_slice HO_4.out
      subst eo54
      go_wp2_with (first | ((with_reducible refine gate_callee (f := 113) rfl ?_); refine goesL_ (some 63) rfl rfl Try.func113 (by kernel_rfl) rfl #[.slice Ao54 x4_2.length co54] rfl la_ ?_; (with_reducible refine (impl_Sum.calls k2 _ _ x4_2 t584 _ ?side1 ?side2 A52.out).mono ?_); (case side1 => exact qC ((Kd.R_reads' HO_4.out).2.2)); (case side2 => exact (Kd.R_reads' HO_4.out).2.1); rintro e w' ⟨rfl, ⟨nd, rfl⟩⟩; refine ⟨_, rfl, ?_⟩) | ((with_reducible refine gate_callee (f := 112) rfl ?_); refine goesL_ (some 64) rfl rfl Try.func112 (by kernel_rfl) rfl #[.slice Ao54 x4_2.length co54, .int .i64 t584] rfl la_ ?_; (with_reducible refine (impl_PutWord.calls _ _ x4_2 t584 t585 _ ?side1 ?side2 A53.out).mono ?_); (case side1 => exact qC ((Kd.R_reads' HO_4.out).2.2)); (case side2 => exact (Kd.R_reads' HO_4.out).2.1); rintro e w55 ⟨v586, rfl, ho0, hb⟩; refine ⟨_, rfl, ?_⟩; have HO587 := am_ (Kd.R_lower (Kd.R_new' ho0 (Kd.R_lt (qR HO_4))) (below_size (qB HB))); replace HO_4 := eA_ HO_4 ho0 hb; replace BK544 := bK_ BK544 hb; replace HB := bS_ HB hb; (try clear hb); (try clear ho0)))
      go_ret
      exact ⟨_, er_, by (with_reducible repeat (first | apply Kd.R_alloc | apply Kd.R_drewN | apply Kd.R_drew)); exact Kd.R_mono HO587.out (fun _ hk => trivial), qB HB⟩
     rw [if_pos c34] at H
     have c34b0 : decide (x46_2 < (l0_7.length : Int)) = true := decide_eq_true c34
     clear c34
     by_cases c35 : 0 ≤ x46_2
     case neg => exact nn_ c35 H
     rw [if_pos c35] at H
     have c35b0 : decide (0 ≤ x46_2) = true := decide_eq_true c35
     clear c35
     by_cases c36 : x46_2 < (l0_7.length : Int)
     case neg => exact nn_ c36 H
     rw [if_pos c36] at H
     have c36b0 : decide (x46_2 < (l0_7.length : Int)) = true := decide_eq_true c36
     clear c36
     replace H := bd_ H
     obtain ⟨t572, A37, H⟩ := H
     obtain ⟨y575, hy575⟩ : ∃ y_ : List Int, y_ = (([((t572.length : Int)) % 256] : List Int)) := ⟨_, rfl⟩
     replace H := mk_ H hy575
     (try dsimp only at H)
     have Ny575 := Aside0.mk hy575
     clear hy575
     by_cases c38 : x4_2.length + y575.length < 140737488355328
     case neg => exact nn_ c38 H
     rw [if_pos c38] at H
     have LMc38 := Aside0.mk c38
     clear c38
     obtain ⟨y578, hy578⟩ : ∃ y_ : List Int, y_ = (x4_2 ++ y575) := ⟨_, rfl⟩
     replace H := mk_ H hy578
     (try dsimp only at H)
     have Ny578 := Aside0.mk hy578
     clear hy578
     by_cases c39 : y578.length + t572.length < 140737488355328
     case neg => exact nn_ c39 H
     rw [if_pos c39] at H
     have LMc39 := Aside0.mk c39
     clear c39
     obtain ⟨y581, hy581⟩ : ∃ y_ : List Int, y_ = (y578 ++ t572) := ⟨_, rfl⟩
     replace H : (impl_PutCtl.l0 k2 y581 l0_7 (l0_7.length : Int) (wrap64 (x46_2 + 1))) = some r := by first | (rw [hy581]; with_reducible exact H) | (have H2_ := (Option.bind_some _ _).symm.trans H; rw [hy581]; with_reducible exact H2_) | (have H2_ := (Option.bind_some _ _).symm.trans H; with_reducible exact H2_) | with_reducible exact H | (rw [hy581]; exact H) | exact H
     have Ny581 := Aside0.mk hy581
     clear hy581
     have H' := Aside0.mk H
     clear H
     have p570 : 0 ≤ (x46_2 : Int) := od_
     have q570 : x46_2 < (l0_7.length : Int) := od_
     obtain ⟨ad570, e570, hx570_0, hx570_1, hx570_2, hx570_3, hx570_4, hx570_5, hx570_6, hx570_7, hx570_8, hx570_9, hx570_10, hx570_11, hx570_12, hx570_13, hx570_14, hx570_15⟩ := at_T126 HR0_7.out x46_2 p570 q570
     cases e570
     replace hx570_0 := lb_ HB hx570_0
     replace hx570_1 := lb_ HB hx570_1
     replace hx570_2 := lb_ HB hx570_2
     replace hx570_3 := lb_ HB hx570_3
     replace hx570_4 := lb_ HB hx570_4
     replace hx570_5 := lb_ HB hx570_5
     replace hx570_6 := lb_ HB hx570_6
     replace hx570_7 := lb_ HB hx570_7
     replace hx570_8 := lb_ HB hx570_8
     replace hx570_9 := lb_ HB hx570_9
     replace hx570_10 := lb_ HB hx570_10
     replace hx570_11 := lb_ HB hx570_11
     replace hx570_12 := lb_ HB hx570_12
     replace hx570_13 := lb_ HB hx570_13
     replace hx570_14 := lb_ HB hx570_14
     replace hx570_15 := lb_ HB hx570_15
     replace p570 := eq_true p570
     replace q570 := eq_true q570
     go_wp2_with (first | ((with_reducible refine gate_dst (N := 6) rfl ?_); refine box_event ?hg (N := 6) ?hd (cs := #[.int .i64 0, .int .i64 0, .string (⟨#[]⟩ : ByteArray), .int .i64 0, .int .i64 0, .int .i64 0, .string (⟨#[]⟩ : ByteArray), .int .i64 0, .int .i64 0, .int .i64 0, .string (⟨#[]⟩ : ByteArray), .int .i64 0, .int .i64 0, .int .i64 0, .int .i64 0, .int .i64 0]) (t := 126) ?hr ?_; (case hd => rfl); (case hg => rfl); (case hr => first | (go_simp; done) | (go_simp; rfl) | ((try (obtain ⟨_, _, rfl⟩ := Kd.R_slice HO574.out)); (try (obtain ⟨_, _, rfl⟩ := Kd.R_slice HO577.out)); (try (obtain ⟨_, _, rfl⟩ := Kd.R_slice HO580.out)); (try (obtain ⟨_, _, rfl⟩ := Kd.R_slice HO583.out)); first | (go_simp; done) | (go_simp; rfl))); intro gb571 hg w40 hbox hb; replace HO_4 := rB_ HO_4 hb; have BK571 := am_ (hbox); have GW571 := gA_ hg HB; have GE571 := GW571; have IGE571 := gI_ GE571; replace HB := bS_ HB hb; have NB544_571 := am_ ((gN_ hg (qK BK544))); have NB571_544 := am_ ((gM_ hg (qK BK544))); replace BK544 := bK_ BK544 hb; clear hb hbox hg; have hnb41 := NB571_544.out; have hnc41 := NB544_571.out; have z42 := cz16 BK571.out; have f42 := fz16 BK571.out) | ((with_reducible refine gate_store (t := 126) (p := 6) rfl ?_); refine store_event (t := 126) (p := 6) (v := ?vo_w43) (w1 := ((((((((((((((((w40.setCell ⟨gb571, 0, none⟩ (.int .i64 ((rd_T126 l0_7 x46_2).f0))).setCell ⟨gb571, 1, none⟩ (.int .i64 ((rd_T126 l0_7 x46_2).f1.f0))).setCell ⟨gb571, 2, none⟩ (.string ((rd_T126 l0_7 x46_2).f1.f1))).setCell ⟨gb571, 3, none⟩ (.int .i64 ((rd_T126 l0_7 x46_2).f1.f2))).setCell ⟨gb571, 4, none⟩ (.int .i64 ((rd_T126 l0_7 x46_2).f1.f3))).setCell ⟨gb571, 5, none⟩ (.int .i64 ((rd_T126 l0_7 x46_2).f1.f4))).setCell ⟨gb571, 6, none⟩ (.string ((rd_T126 l0_7 x46_2).f1.f5))).setCell ⟨gb571, 7, none⟩ (.int .i64 ((rd_T126 l0_7 x46_2).f1.f6))).setCell ⟨gb571, 8, none⟩ (.int .i64 ((rd_T126 l0_7 x46_2).f1.f7))).setCell ⟨gb571, 9, none⟩ (.int .i64 ((rd_T126 l0_7 x46_2).f2.f0))).setCell ⟨gb571, 10, none⟩ (.string ((rd_T126 l0_7 x46_2).f2.f1))).setCell ⟨gb571, 11, none⟩ (.int .i64 ((rd_T126 l0_7 x46_2).f2.f2))).setCell ⟨gb571, 12, none⟩ (.int .i64 ((rd_T126 l0_7 x46_2).f2.f3))).setCell ⟨gb571, 13, none⟩ (.int .i64 ((rd_T126 l0_7 x46_2).f2.f4))).setCell ⟨gb571, 14, none⟩ (.int .i64 ((rd_T126 l0_7 x46_2).f2.f5))).setCell ⟨gb571, 15, none⟩ (.int .i64 ((rd_T126 l0_7 x46_2).f2.f6)))) ?hg ?ho ?hn ?hr ?_; (case ho => rfl); (case hg => rfl); (case hn => rfl); (case hr => first | (go_simp; done) | (go_simp; rfl) | ((try (obtain ⟨_, _, rfl⟩ := Kd.R_slice HO574.out)); (try (obtain ⟨_, _, rfl⟩ := Kd.R_slice HO577.out)); (try (obtain ⟨_, _, rfl⟩ := Kd.R_slice HO580.out)); (try (obtain ⟨_, _, rfl⟩ := Kd.R_slice HO583.out)); first | (go_simp; done) | (go_simp; rfl))); intro w43 hw; have n0_ : Aside0 (Kd.R (Kd.int .u8) 5 w43 w.heap.size (fun _ => True) u4 x4_2) := ⟨(by rw [hw]; exact (by (with_reducible repeat (first | apply Kd.R_alloc | apply Kd.R_drewN | apply Kd.R_drew)); exact Kd.R_mono (R_far16 (g := gb571) (Kd.R_types HO_4.out BK571.out (by decide)) (fun _ hk => hk.2)) (fun _ hk => trivial)))⟩; have n1_ : Aside0 (w43.heap[gb544]? = some (.cells #[.int .i64 a0_0, .int .i64 a0_1, .int .i64 a0_2, .int .i64 a0_3, .int .i64 a0_4, .bool a0_5, .int .i64 a0_6, .slice (some ad570) l0_7.length c0_7] 63 (0, 0))) := ⟨(by rw [hw]; exact (by (with_reducible repeat (first | refine blk_drewN ?_ _ | refine blk_drew ?_ | refine blk_alloc ?_ _)); refine blk_far16 ?_ NB544_571.out; exact qK BK544))⟩; have n2_ : Aside0 (w43.heap[gb571]? = some (.cells #[.int .i64 ((rd_T126 l0_7 x46_2).f0), .int .i64 ((rd_T126 l0_7 x46_2).f1.f0), .string ((rd_T126 l0_7 x46_2).f1.f1), .int .i64 ((rd_T126 l0_7 x46_2).f1.f2), .int .i64 ((rd_T126 l0_7 x46_2).f1.f3), .int .i64 ((rd_T126 l0_7 x46_2).f1.f4), .string ((rd_T126 l0_7 x46_2).f1.f5), .int .i64 ((rd_T126 l0_7 x46_2).f1.f6), .int .i64 ((rd_T126 l0_7 x46_2).f1.f7), .int .i64 ((rd_T126 l0_7 x46_2).f2.f0), .string ((rd_T126 l0_7 x46_2).f2.f1), .int .i64 ((rd_T126 l0_7 x46_2).f2.f2), .int .i64 ((rd_T126 l0_7 x46_2).f2.f3), .int .i64 ((rd_T126 l0_7 x46_2).f2.f4), .int .i64 ((rd_T126 l0_7 x46_2).f2.f5), .int .i64 ((rd_T126 l0_7 x46_2).f2.f6)] 126 (0, 0))) := ⟨(by rw [hw]; exact (by exact blk_all16 (qK BK571)))⟩; have n3_ : Aside0 (Below w.heap.size w w43) := ⟨(by rw [hw]; exact (qB HB))⟩; clear hw; clear HO_4; clear BK544; clear BK571; clear HB; have HO_4 := n0_; have BK544 := n1_; have BK571 := n2_; have HB := n3_; clear n0_ n1_ n2_ n3_; have z44 := cz16 BK571.out) | ((with_reducible refine gate_callee (f := 110) rfl ?_); refine goesL_ (some 51) rfl rfl Try.func110 (by kernel_rfl) rfl #[.agg #[.int .i64 ((rd_T126 l0_7 x46_2).f0), .int .i64 ((rd_T126 l0_7 x46_2).f1.f0), .string ((rd_T126 l0_7 x46_2).f1.f1), .int .i64 ((rd_T126 l0_7 x46_2).f1.f2), .int .i64 ((rd_T126 l0_7 x46_2).f1.f3), .int .i64 ((rd_T126 l0_7 x46_2).f1.f4), .string ((rd_T126 l0_7 x46_2).f1.f5), .int .i64 ((rd_T126 l0_7 x46_2).f1.f6), .int .i64 ((rd_T126 l0_7 x46_2).f1.f7), .int .i64 ((rd_T126 l0_7 x46_2).f2.f0), .string ((rd_T126 l0_7 x46_2).f2.f1), .int .i64 ((rd_T126 l0_7 x46_2).f2.f2), .int .i64 ((rd_T126 l0_7 x46_2).f2.f3), .int .i64 ((rd_T126 l0_7 x46_2).f2.f4), .int .i64 ((rd_T126 l0_7 x46_2).f2.f5), .int .i64 ((rd_T126 l0_7 x46_2).f2.f6)]] rfl la_ ?_; (with_reducible refine (impl_PutItem.calls k2 ((rd_T126 l0_7 x46_2).f0) ((rd_T126 l0_7 x46_2).f1.f0) ((rd_T126 l0_7 x46_2).f1.f1) ((rd_T126 l0_7 x46_2).f1.f2) ((rd_T126 l0_7 x46_2).f1.f3) ((rd_T126 l0_7 x46_2).f1.f4) ((rd_T126 l0_7 x46_2).f1.f5) ((rd_T126 l0_7 x46_2).f1.f6) ((rd_T126 l0_7 x46_2).f1.f7) ((rd_T126 l0_7 x46_2).f2.f0) ((rd_T126 l0_7 x46_2).f2.f1) ((rd_T126 l0_7 x46_2).f2.f2) ((rd_T126 l0_7 x46_2).f2.f3) ((rd_T126 l0_7 x46_2).f2.f4) ((rd_T126 l0_7 x46_2).f2.f5) ((rd_T126 l0_7 x46_2).f2.f6) t572 _ A37.out).mono ?_); rintro e w45 ⟨v573, rfl, ho0, hb⟩; refine ⟨_, rfl, ?_⟩; have HO574 := am_ (Kd.R_lower (Kd.R_new' ho0 (Kd.R_lt (qR HO_4))) (below_size (qB HB))); replace HO_4 := eA_ HO_4 ho0 hb; replace BK544 := bK_ BK544 hb; replace BK571 := bK_ BK571 hb; replace HB := bS_ HB hb; (try clear hb); (try clear ho0); obtain ⟨Ao46, co46, eo46⟩ := Kd.R_slice HO574.out; subst eo46) | ((with_reducible refine gate_dst (N := 56) rfl ?_); refine Kd.R_lit (Kd.int .u8) _ 5 ?hg (N := 56) ?hd (xs := ([((t572.length : Int)) % 256] : List Int)) (inner := [.int .u8 (((t572.length : Int)) % 256)]) (ok := fun _ => True) (okp := fun _ => True) ?hr ?hp (fun _ hk => hk) trivial (Below.refl _ _) (Nat.le_refl _) (by simp) ?_; (case hd => rfl); (case hg => rfl); (case hr => first | (go_simp; done) | (go_simp; rfl) | ((try (obtain ⟨_, _, rfl⟩ := Kd.R_slice HO574.out)); (try (obtain ⟨_, _, rfl⟩ := Kd.R_slice HO577.out)); (try (obtain ⟨_, _, rfl⟩ := Kd.R_slice HO580.out)); (try (obtain ⟨_, _, rfl⟩ := Kd.R_slice HO583.out)); first | (go_simp; done) | (go_simp; rfl))); (case hp => exact (Reps.one (show Kd.M (Kd.int .u8) _ _ _ (((t572.length : Int)) % 256) [.int .u8 (((t572.length : Int)) % 256)] from rfl) (Reps.none _ _))); intro v576 w47 ho48 hb hg_ hnew_; clear hg_ hnew_; (first | rw [← Ny575.out] at ho48 | (simp only [Int.reduceToNat] at ho48; rw [← Ny575.out] at ho48)); have HO577 := am_ (Kd.R_lower (Kd.R_new' (Kd.R_new' ho48 (Kd.R_lt (qR HO_4))) (Kd.R_lt (qR HO574))) (below_size (qB HB))); replace HO_4 := eA_ HO_4 ho48 hb; replace HO574 := eA_ HO574 ho48 hb; replace BK544 := bK_ BK544 hb; replace BK571 := bK_ BK571 hb; replace HB := bS_ HB hb; clear hb ho48; obtain ⟨Ao50, co50, eo50⟩ := Kd.R_slice HO577.out; subst eo50) | ((with_reducible refine gate_builtin (b := .append) (xs := #[.tmp 52, .tmp 56]) rfl ?_); at_builtin; refine Kd.R_append_rows (Kd.int .u8) (w0 := w) w.heap.size rfl (.tmp 52) (.tmp 56) 70 5 (.int .u8 0) 1 rfl Try.underlying70 info5 rfl (by decide) (by omega) u4 x4_2 y575 _ _ _ (fun k_ => some k_ ≠ (.slice Ao46 t572.length co46 : Value).ownBlock ∧ some k_ ≠ (.slice Ao50 y575.length co50 : Value).ownBlock) (fun _ => False) rfl rfl ?aO ?aR (fun _ _ h => h) (fun _ h => h.elim) ?aF ?aB ?aS ?aL ?_; (case aR => exact qC ((Kd.R_reads' HO577.out).2.2)); (case aB => exact (qB HB)); (case aF => exact (fun k_ hk => ⟨Kd.fresh' (Kd.R_lt (qR HO574)) k_ hk, Kd.fresh' (Kd.R_lt (qR HO577)) k_ hk⟩)); (case aO => exact (tR (Kd.R_mono HO_4.out (fun _ hk => ⟨hk.1.2, hk.2⟩)))); (case aS => exact (below_size (qB HB))); (case aL => have := LMc38.out; omega); intro v579 w49 ho hb hg hat; rw [← Ny578.out] at ho; replace BK544 := am_ (blk_grown (qK BK544) hg (Kd.R_ne HO_4.out BK544.out (by decide))); replace BK571 := am_ (blk_grown (qK BK571) hg (Kd.R_ne HO_4.out BK571.out (by decide))); replace HO574 := am_ (Kd.R_after (ok := (fun k_ => some k_ ≠ (.slice Ao50 y575.length co50 : Value).ownBlock)) (tR (Kd.R_mono HO574.out (fun _ hk => ⟨hk.2, hk.1.2⟩))) hg hat); replace HO577 := am_ (Kd.R_after (ok := (fun k_ => some k_ ≠ (.slice Ao46 t572.length co46 : Value).ownBlock)) (tR (Kd.R_mono HO577.out (fun _ hk => ⟨hk.2, hk.1.2⟩))) hg hat); replace HB := am_ (hb); have HO580 := am_ (ho); clear HO_4; clear ho hb hg hat) | ((with_reducible refine gate_builtin (b := .append) (xs := #[.tmp 57, .tmp 58]) rfl ?_); at_builtin; refine Kd.R_append_rows (Kd.int .u8) (w0 := w) w.heap.size rfl (.tmp 57) (.tmp 58) 70 5 (.int .u8 0) 1 rfl Try.underlying70 info5 rfl (by decide) (by omega) v579 y578 t572 _ _ _ (fun k_ => some k_ ≠ (.slice Ao46 t572.length co46 : Value).ownBlock ∧ some k_ ≠ (.slice Ao50 y575.length co50 : Value).ownBlock) (fun _ => False) rfl rfl ?aO ?aR (fun _ _ h => h) (fun _ h => h.elim) ?aF ?aB ?aS ?aL ?_; (case aR => exact qC ((Kd.R_reads' HO574.out).2.2)); (case aB => exact (qB HB)); (case aF => exact (fun k_ hk => ⟨Kd.fresh' (Kd.R_lt (qR HO574)) k_ hk, Kd.fresh' (Kd.R_lt (qR HO577)) k_ hk⟩)); (case aO => exact (qR HO580)); (case aS => exact (below_size (qB HB))); (case aL => have := LMc39.out; omega); intro v582 w51 ho hb hg hat; rw [← Ny581.out] at ho; replace BK544 := am_ (blk_grown (qK BK544) hg (Kd.R_ne HO580.out BK544.out (by decide))); replace BK571 := am_ (blk_grown (qK BK571) hg (Kd.R_ne HO580.out BK571.out (by decide))); replace HO574 := am_ (Kd.R_after (ok := (fun k_ => some k_ ≠ (.slice Ao50 y575.length co50 : Value).ownBlock)) (qR HO574) hg hat); replace HO577 := am_ (Kd.R_after (ok := (fun k_ => some k_ ≠ (.slice Ao46 t572.length co46 : Value).ownBlock)) (qR HO577) hg hat); replace HB := am_ (hb); have HO583 := am_ (ho); clear HO580; clear ho hb hg hat))
     go_roundg k2
     case measure => have := HJ7.out; have := HK2.out; omega
     case rel => exact ⟨(y581), (wrap64 (x46_2 + 1)), eqq_, H', ⟨by have := HJ7.out; have := HK2.out; omega⟩, ⟨by (with_reducible repeat (first | apply Kd.R_alloc | apply Kd.R_drewN | apply Kd.R_drew)); exact Kd.R_mono HO583.out (fun _ hk => trivial)⟩, ⟨qK BK544⟩, ⟨qB HB⟩⟩

end Go.Proofs.Ytiffahfpfgnjnab.PFnExactSend
