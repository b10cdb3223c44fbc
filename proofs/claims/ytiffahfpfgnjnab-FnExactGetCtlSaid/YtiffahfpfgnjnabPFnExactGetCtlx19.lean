-- Written by a program of this session (myprint.py, over the kit's print): contracts of FnExactGetCtl
import Derived.Test.YtiffahfpfgnjnabPFnExactGetCtlx0
import Derived.Test.YtiffahfpfgnjnabPFnExactGetCtlx13
import Derived.Test.YtiffahfpfgnjnabPFnExactGetCtlx16
import Derived.Test.YtiffahfpfgnjnabPFnExactGetCtlx17
import Derived.Test.YtiffahfpfgnjnabPFnExactGetCtlx18
namespace Go.Proofs.Ytiffahfpfgnjnab.PFnExactGetCtl
open Go.RowKit Go.Proofs.YtiffahfpfgnjnabW.PrintWords Go.Proofs.YtiffahfpfgnjnabW.PrintLast Go.Proofs.YtiffahfpfgnjnabW.PrintMore Go.Proofs.YtiffahfpfgnjnabV
attribute [local go_sem] max2_int min2_int max_two min_two max_three min_three max_four min_four   -- for this text's walks alone
set_option linter.unusedVariables false
set_option linter.unusedSimpArgs false

/-! ### impl_PutCtl: function 76 -/
mutual
def impl_PutCtl.j0 : Nat → Int → Int → Int → Int → Int → Int → Bool → Int → List (S126) → Option (List Int)
 | 0, _, _, _, _, _, _, _, _, _ => none
 | k + 1, x3, x563000, x563001, x563002, x563003, x563004, x563005, x563006, x563007 => (impl_PutWord.f (([(x563000) % 256, (x563001) % 256] : List Int)) x563002).bind fun t570 => ((some (([(x563003) % 256, (x563004) % 256, x3] : List Int) : List Int)).bind fun y573 => (if t570.length + y573.length < 140737488355328 then ((impl_PutWord.f (t570 ++ y573) x563006).bind fun t579 => ((some (([((x563007.length : Int)) % 256] : List Int) : List Int)).bind fun y582 => (if t579.length + y582.length < 140737488355328 then (impl_PutCtl.l0 k (t579 ++ y582) x563007 (x563007.length : Int) 0) else (none)))) else (none)))
def impl_PutCtl.l0 : Nat → List Int → List (S126) → Int → Int → Option (List Int)
 | 0, _, _, _, _ => none
 | k + 1, x4, x44, x45, x46 => if x46 < x45 then (if 0 ≤ x46 then (if x46 < (x44.length : Int) then ((impl_PutItem.f k ((rd_T126 x44 x46).f0) ((rd_T126 x44 x46).f1.f0) ((rd_T126 x44 x46).f1.f1) ((rd_T126 x44 x46).f1.f2) ((rd_T126 x44 x46).f1.f3) ((rd_T126 x44 x46).f1.f4) ((rd_T126 x44 x46).f1.f5) ((rd_T126 x44 x46).f1.f6) ((rd_T126 x44 x46).f1.f7) ((rd_T126 x44 x46).f2.f0) ((rd_T126 x44 x46).f2.f1) ((rd_T126 x44 x46).f2.f2) ((rd_T126 x44 x46).f2.f3) ((rd_T126 x44 x46).f2.f4) ((rd_T126 x44 x46).f2.f5) ((rd_T126 x44 x46).f2.f6)).bind fun t590 => ((some (([((t590.length : Int)) % 256] : List Int) : List Int)).bind fun y593 => (if x4.length + y593.length < 140737488355328 then ((some (x4 ++ y593 : List Int)).bind fun y596 => (if y596.length + t590.length < 140737488355328 then (impl_PutCtl.l0 k (y596 ++ t590) x44 x45 (wrap64 (x46 + 1))) else (none))) else (none)))) else (none)) else (none)) else ((impl_Sum.f k x4).bind fun t602 => ((impl_PutWord.f x4 t602).bind fun t603 => (some t603)))
end
def impl_PutCtl.f (k : Nat) (a0_0 : Int) (a0_1 : Int) (a0_2 : Int) (a0_3 : Int) (a0_4 : Int) (a0_5 : Bool) (a0_6 : Int) (l0_7 : List (S126)) : Option (List Int) := (impl_CtlOk.f k a0_0 a0_1 a0_2 a0_3 a0_4 a0_5 a0_6 l0_7).bind fun t563 => (if t563 = true then (if a0_5 = true then (impl_PutCtl.j0 k 1 a0_0 a0_1 a0_2 a0_3 a0_4 a0_5 a0_6 l0_7) else (impl_PutCtl.j0 k 0 a0_0 a0_1 a0_2 a0_3 a0_4 a0_5 a0_6 l0_7)) else (some (([] : List Int))))
theorem impl_PutCtl.mono_l : ∀ k, (∀ y0 y1 y2 y3 y4 y5 y6 y7 y8, LeO (impl_PutCtl.j0 k y0 y1 y2 y3 y4 y5 y6 y7 y8) (impl_PutCtl.j0 (k + 1) y0 y1 y2 y3 y4 y5 y6 y7 y8)) ∧ (∀ y0 y1 y2 y3, LeO (impl_PutCtl.l0 k y0 y1 y2 y3) (impl_PutCtl.l0 (k + 1) y0 y1 y2 y3))
 | 0 => ⟨fun _ _ _ _ _ _ _ _ _ r h => by simp [impl_PutCtl.j0] at h, fun _ _ _ _ r h => by simp [impl_PutCtl.l0] at h⟩
 | k + 1 => by
  obtain ⟨ih0, ih1⟩ := impl_PutCtl.mono_l k
  refine ⟨?_, ?_⟩
  ·
   intro y0 y1 y2 y3 y4 y5 y6 y7 y8
   unfold impl_PutCtl.j0
   have m0 := @impl_CtlOk.mono; have m1 := @impl_PutItem.mono; have m2 := @impl_Sum.mono; exact mo_
  ·
   intro y0 y1 y2 y3
   unfold impl_PutCtl.l0
   have m0 := @impl_CtlOk.mono; have m1 := @impl_PutItem.mono; have m2 := @impl_Sum.mono; exact mo_
theorem impl_PutCtl.mono : ∀ a0 a1 a2 a3 a4 a5 a6 a7 k, LeO (impl_PutCtl.f k a0 a1 a2 a3 a4 a5 a6 a7) (impl_PutCtl.f (k + 1) a0 a1 a2 a3 a4 a5 a6 a7) := by
 intro a0 a1 a2 a3 a4 a5 a6 a7 k
 obtain ⟨ih0, ih1⟩ := impl_PutCtl.mono_l k
 unfold impl_PutCtl.f
 have m0 := @impl_CtlOk.mono; have m1 := @impl_PutItem.mono; have m2 := @impl_Sum.mono; exact mo_
def impl_PutCtl.T6 : Bool × List (List Nat × List Nat) := (true, [([], []), ([0], [0]), ([1], [1]), ([], []), ([3], [3]), ([4], [4]), ([2, 5], [2, 5]), ([], []), ([7], [7]), ([6, 8], [6, 8]), ([], []), ([10], [10]), ([11], [11]), ([], []), ([13], [13]), ([14], [14]), ([], []), ([12, 15, 16], [12, 15, 16]), ([9, 17, 9], [9, 17]), ([18, 18, 0, 1, 2, 3, 4, 5, 6, 7, 8, 9, 10, 11, 12, 13, 14, 15, 16, 17, 18], [18])])
def impl_PutCtl.B6 : List Nat := [0, 1, 3, 0, 8, 24, 63, 0, 128, 511, 0, 1024, 3072, 0, 8192, 24576, 0, 130048, 262143, 524287]
theorem impl_PutCtl.tab6 : rtab .any (opsOf Try.f76 6) = impl_PutCtl.T6 := by kernel_rfl
theorem impl_PutCtl.bits6 : waitsOk impl_PutCtl.T6.2 impl_PutCtl.B6 = true := by kernel_rfl
def impl_PutCtl.T7 : Bool × List (List Nat × List Nat) := (true, [([], []), ([], []), ([1], [1]), ([0, 2], [0, 2]), ([], []), ([4], [4]), ([5], [5]), ([6], [6]), ([7], [7]), ([3, 8, 3], [3, 8]), ([9, 9, 0, 1, 2, 3, 4, 5, 6, 7, 8, 9], [0, 9])])
def impl_PutCtl.B7 : List Nat := [0, 0, 2, 7, 0, 16, 48, 112, 240, 511, 1023]
theorem impl_PutCtl.tab7 : rtab .any (opsOf Try.f76 7) = impl_PutCtl.T7 := by kernel_rfl
theorem impl_PutCtl.bits7 : waitsOk impl_PutCtl.T7.2 impl_PutCtl.B7 = true := by kernel_rfl
set_option maxHeartbeats 8000000 in
set_option maxRecDepth 100000 in
theorem impl_PutCtl.calls (k : Nat) (a0_0 : Int) (a0_1 : Int) (a0_2 : Int) (a0_3 : Int) (a0_4 : Int) (a0_5 : Bool) (a0_6 : Int) (A0_7 : Option Addr) (c0_7 : Nat) (l0_7 : List (S126)) (r : List Int) (w : World) (hr0_7 : Kd.C k126 w A0_7 l0_7.length l0_7) (hc0_7 : l0_7.length ≤ c0_7) (h : impl_PutCtl.f k a0_0 a0_1 a0_2 a0_3 a0_4 a0_5 a0_6 l0_7 = some r) :
  Calls Try.prog 76 #[.agg #[.int .i64 a0_0, .int .i64 a0_1, .int .i64 a0_2, .int .i64 a0_3, .int .i64 a0_4, .bool a0_5, .int .i64 a0_6, .slice A0_7 l0_7.length c0_7]] w fun e w' => ∃ v0_ : Value, e = .returned (v0_) ∧ Kd.R (Kd.int .u8) 5 w' w.heap.size (fun _ => True) v0_ r ∧ Below w.heap.size w w' := by
 have hu63 := Try.underlying63
 have hu126 := Try.underlying126
 have HR0_7 := Aside0.mk hr0_7
 have HC0_7 := Aside0.mk hc0_7
 clear hr0_7 hc0_7
 have HB := Aside0.mk (Below.refl w.heap.size w)
 have H := h
 unfold impl_PutCtl.f at H
 clear h
 replace H := bd_ H
 obtain ⟨t563, A2, H⟩ := H
 have HC3 := Aside0.mk H
 clear H
 go_enter Try.func76, Try.ntmps76
 go_upto_if 10 with (first | ((with_reducible refine gate_dst (N := 1) rfl ?_); refine bx_ (N := 1) (cs := #[.int .i64 a0_0, .int .i64 a0_1, .int .i64 a0_2, .int .i64 a0_3, .int .i64 a0_4, .bool a0_5, .int .i64 a0_6, .slice A0_7 l0_7.length c0_7]) (t := 63) ?_; intro gb562 hg w4 hbox hb; have BK562 := am_ (hbox); have GW562 := gA_ hg HB; have GE562 := GW562; have IGE562 := gI_ GE562; replace HB := bS_ HB hb; clear hb hbox hg; (try clear zK562); have zK562 := cz8 BK562.out; (try clear fK562); have fK562 := fz8 BK562.out) | ((with_reducible refine gate_callee (f := 74) rfl ?_); refine gl_ (some 9) Try.func74 #[.agg #[.int .i64 a0_0, .int .i64 a0_1, .int .i64 a0_2, .int .i64 a0_3, .int .i64 a0_4, .bool a0_5, .int .i64 a0_6, .slice A0_7 l0_7.length c0_7]] ?_; (with_reducible refine (impl_CtlOk.calls k a0_0 a0_1 a0_2 a0_3 a0_4 a0_5 a0_6 _ _ l0_7 t563 _ ?side1 ?side2 A2.out).mono ?_); (case side1 => exact qC (Kd.C_below HR0_7.out HB.out)); (case side2 => exact HC0_7.out); rintro e w6 ⟨rfl, hb⟩; refine ⟨_, rfl, ?_⟩; replace BK562 := bK_ BK562 hb; replace HB := bS_ HB hb; (try clear hb)))
 (try simp only [Act.put, List.setIfInBounds_toArray, List.set_cons_zero, List.set_cons_succ])
 have H := HC3.out
 clear HC3
 by_cases c7 : t563 = true
 rotate_left
 ·
  replace c7 := Bool.eq_false_iff.mpr c7
  subst c7
  rw [if_neg (show ¬ (false = true) by decide)] at H
  obtain ⟨y564, hy564⟩ : ∃ y_ : List Int, y_ = (([] : List Int)) := ⟨_, rfl⟩
  rw [← hy564] at H
  have Ny564 := Aside0.mk hy564
  clear hy564
  obtain rfl := Option.some.inj H
  go_wp2_with (first | ((with_reducible refine gate_dst (N := 11) rfl ?_); refine Kd.R_lit (Kd.int .u8) _ 5 ?hg (N := 11) ?hd (xs := ([] : List Int)) (inner := []) (ok := fun _ => True) (okp := fun _ => True) ?hr ?hp (fun _ hk => hk) trivial (Below.refl _ _) (Nat.le_refl _) (by simp) ?_; (case hd => rfl); (case hg => rfl); (case hr => first | (go_simp; done) | (go_simp; rfl)); (case hp => exact (Reps.none _ _)); intro v565 w56 ho57 hb hg_ hnew_; clear hg_ hnew_; (first | rw [← Ny564.out] at ho57 | (simp only [Int.reduceToNat] at ho57; rw [← Ny564.out] at ho57)); have HO566 := am_ (Kd.R_lower ho57 (below_size (qB HB))); replace BK562 := bK_ BK562 hb; replace HB := bS_ HB hb; clear hb ho57))
  go_ret
  exact ⟨_, er_, qR HO566, qB HB⟩
 subst c7
 rw [if_pos rfl] at H
 have HC8 := Aside0.mk H
 clear H
 (try clear zK562)
 have zK562 := cz8 BK562.out
 (try clear fK562)
 have fK562 := fz8 BK562.out
 go_upto_if 13 with (fail)
 go_cut [3] (fun v3 wc => ∃ (kq : Nat) (x3_7 : Int), v3 = .int .u8 x3_7 ∧ Aside0 (impl_PutCtl.j0 kq x3_7 a0_0 a0_1 a0_2 a0_3 a0_4 a0_5 a0_6 l0_7 = some r) ∧ Aside0 (kq ≤ k) ∧ Aside0 (wc.heap[gb562]? = some (.cells #[.int .i64 a0_0, .int .i64 a0_1, .int .i64 a0_2, .int .i64 a0_3, .int .i64 a0_4, .bool a0_5, .int .i64 a0_6, (.slice A0_7 l0_7.length c0_7)] 63 (0, 0))) ∧ Aside0 (Below w.heap.size w wc))
 case first =>
  have H := HC8.out
  clear HC8
  by_cases c10 : a0_5 = true
  ·
   subst c10
   rw [if_pos rfl] at H
   have H' := Aside0.mk H
   clear H
   go_wp2
   go_meet
   case rel => exact ⟨_, (1), eqq_, H', ⟨by first | omega | exact Nat.le_refl _⟩, ⟨qK BK562⟩, ⟨qB HB⟩⟩
  replace c10 := Bool.eq_false_iff.mpr c10
  subst c10
  rw [if_neg (show ¬ (false = true) by decide)] at H
  have H' := Aside0.mk H
  clear H
  go_wp2
  go_meet
  case rel => exact ⟨_, (0), eqq_, H', ⟨by first | omega | exact Nat.le_refl _⟩, ⟨qK BK562⟩, ⟨qB HB⟩⟩
 case rest =>
  clear HC8
  try clear c1
  try clear p2
  try clear c7
  try clear c10
  (try clear zK562)
  (try clear zK562)
  (try clear fK562)
  (try clear fK562)
  obtain ⟨kq, x3_7, rfl, HA, HJ7, BK562, HB⟩ := hcut
  cases kq with
  | zero => exact absurd HA.out (by simp [impl_PutCtl.j0])
  | succ kj7 =>
   have H := HA.out
   clear HA
   simp only [impl_PutCtl.j0] at H
   obtain ⟨y567, hy567⟩ : ∃ y_ : List Int, y_ = (([(a0_0) % 256, (a0_1) % 256] : List Int)) := ⟨_, rfl⟩
   rw [← hy567] at H
   have Ny567 := Aside0.mk hy567
   clear hy567
   replace H := bd_ H
   obtain ⟨t570, A11, H⟩ := H
   obtain ⟨y573, hy573⟩ : ∃ y_ : List Int, y_ = (([(a0_3) % 256, (a0_4) % 256, x3_7] : List Int)) := ⟨_, rfl⟩
   replace H := mk_ H hy573
   (try dsimp only at H)
   have Ny573 := Aside0.mk hy573
   clear hy573
   replace H := ip_ H
   obtain ⟨c12, H, -⟩ := H
   have LMc12 := Aside0.mk c12
   clear c12
   obtain ⟨y576, hy576⟩ : ∃ y_ : List Int, y_ = (t570 ++ y573) := ⟨_, rfl⟩
   replace H : ((impl_PutWord.f y576 a0_6).bind fun t579 => ((some (([((l0_7.length : Int)) % 256] : List Int) : List Int)).bind fun y582 => (if t579.length + y582.length < 140737488355328 then (impl_PutCtl.l0 kj7 (t579 ++ y582) l0_7 (l0_7.length : Int) 0) else (none)))) = some r := by first | (rw [hy576]; with_reducible exact H) | (have H2_ := (Option.bind_some _ _).symm.trans H; rw [hy576]; with_reducible exact H2_) | (have H2_ := (Option.bind_some _ _).symm.trans H; with_reducible exact H2_) | with_reducible exact H | (rw [hy576]; exact H) | exact H
   have Ny576 := Aside0.mk hy576
   clear hy576
   replace H := bd_ H
   obtain ⟨t579, A13, H⟩ := H
   obtain ⟨y582, hy582⟩ : ∃ y_ : List Int, y_ = (([((l0_7.length : Int)) % 256] : List Int)) := ⟨_, rfl⟩
   replace H := mk_ H hy582
   (try dsimp only at H)
   have Ny582 := Aside0.mk hy582
   clear hy582
   replace H := ip_ H
   obtain ⟨c14, H, -⟩ := H
   have LMc14 := Aside0.mk c14
   clear c14
   obtain ⟨y585, hy585⟩ : ∃ y_ : List Int, y_ = (t579 ++ y582) := ⟨_, rfl⟩
   replace H : (impl_PutCtl.l0 kj7 y585 l0_7 (l0_7.length : Int) 0) = some r := by first | (rw [hy585]; with_reducible exact H) | (have H2_ := (Option.bind_some _ _).symm.trans H; rw [hy585]; with_reducible exact H2_) | (have H2_ := (Option.bind_some _ _).symm.trans H; with_reducible exact H2_) | with_reducible exact H | (rw [hy585]; exact H) | exact H
   have Ny585 := Aside0.mk hy585
   clear hy585
   have H' := Aside0.mk H
   clear H
   try go_wp2
   replace BK562 := am_ (blk_drew BK562.out)
   replace HB := am_ (below_drew1 HB.out)
   refine start_ (n := 20) (S := fun w' => w'.cell? ⟨gb562, 0, none⟩ = some (.int .i64 a0_0) ∧ w'.cell? ⟨gb562, 1, none⟩ = some (.int .i64 a0_1) ∧ w'.cell? ⟨gb562, 2, none⟩ = some (.int .i64 a0_2) ∧ w'.cell? ⟨gb562, 3, none⟩ = some (.int .i64 a0_3) ∧ w'.cell? ⟨gb562, 4, none⟩ = some (.int .i64 a0_4) ∧ w'.cell? ⟨gb562, 5, none⟩ = some (.bool a0_5) ∧ w'.cell? ⟨gb562, 6, none⟩ = some (.int .i64 a0_6) ∧ w'.cell? ⟨gb562, 7, none⟩ = some (.slice A0_7 l0_7.length c0_7)) (ds := []) (rl [0,20]) (by kernel_rfl) rfl rfl (cz8 BK562.out) (fun hHeld => ?_); refine with_tabW impl_PutCtl.tab6 impl_PutCtl.bits6 (fun HT_ HW_ => ?_)
   generalize wc.drew = w15 at BK562 HB hHeld ⊢
   refine pq_ 0 14 HT_ (rl [1,19]) ?_
   refine pq_ 3 17 HT_ (rl [1,2,1,16]) ?_
   refine pq_ 7 21 HT_ (rl [1,2,1,3,1,12]) ?_
   refine pq_ 10 24 HT_ (rl [1,2,1,3,1,2,1,9]) ?_
   refine pq_ 13 27 HT_ (rl [1,2,1,3,1,2,1,2,1,6]) ?_
   refine pq_ 16 30 HT_ (rl [1,2,1,3,1,2,1,2,1,2,1,3]) ?_
   refine tz_ (i := 1) (N := some 15) HT_ HW_ (rl [2,1,1,3,1,2,1,2,1,2,1,3]) rfl rfl hHeld ?_
   refine pq_ 2 16 HT_ (rl [4,3,1,2,1,2,1,2,1,3]) ?_
   refine tz_ (i := 4) (N := some 18) HT_ HW_ (rl [5,2,1,2,1,2,1,2,1,3]) rfl rfl hHeld ?_
   refine pq_ 5 19 HT_ (rl [6,1,1,2,1,2,1,2,1,3]) ?_
   refine tz_ (i := 8) (N := some 22) HT_ HW_ (rl [6,1,2,1,1,2,1,2,1,3]) rfl rfl hHeld ?_
   refine tz_ (i := 11) (N := some 25) HT_ HW_ (rl [6,1,2,1,2,1,1,2,1,3]) rfl rfl hHeld ?_
   refine pq_ 12 26 HT_ (rl [6,1,2,1,4,2,1,3]) ?_
   refine tz_ (i := 14) (N := some 28) HT_ HW_ (rl [6,1,2,1,5,1,1,3]) rfl rfl hHeld ?_
   refine pq_ 15 29 HT_ (rl [6,1,2,1,7,3]) ?_
   refine join_ (σ := Value × Value × Value) 2 (rl [18,2]) (fun s_ => [(20, s_.1), (23, s_.2.1), (31, s_.2.2)]) (fun s_ w' => (w'.cell? ⟨gb562, 0, none⟩ = some (.int .i64 a0_0) ∧ w'.cell? ⟨gb562, 1, none⟩ = some (.int .i64 a0_1) ∧ w'.cell? ⟨gb562, 2, none⟩ = some (.int .i64 a0_2) ∧ w'.cell? ⟨gb562, 3, none⟩ = some (.int .i64 a0_3) ∧ w'.cell? ⟨gb562, 4, none⟩ = some (.int .i64 a0_4) ∧ w'.cell? ⟨gb562, 5, none⟩ = some (.bool a0_5) ∧ w'.cell? ⟨gb562, 6, none⟩ = some (.int .i64 a0_6) ∧ w'.cell? ⟨gb562, 7, none⟩ = some (.slice A0_7 l0_7.length c0_7)) ∧ (Kd.R (Kd.int .u8) 5 w' w.heap.size (fun k_ => some k_ ≠ (s_.2.1 : Value).ownBlock ∧ some k_ ≠ (s_.2.2 : Value).ownBlock) s_.1 y567) ∧ (Kd.R (Kd.int .u8) 5 w' w.heap.size (fun k_ => some k_ ≠ (s_.1 : Value).ownBlock ∧ some k_ ≠ (s_.2.2 : Value).ownBlock) s_.2.1 t570) ∧ (Kd.R (Kd.int .u8) 5 w' w.heap.size (fun k_ => some k_ ≠ (s_.1 : Value).ownBlock ∧ some k_ ≠ (s_.2.1 : Value).ownBlock) s_.2.2 y573) ∧ (w'.heap[gb562]? = some (.cells #[.int .i64 a0_0, .int .i64 a0_1, .int .i64 a0_2, .int .i64 a0_3, .int .i64 a0_4, .bool a0_5, .int .i64 a0_6, .slice A0_7 l0_7.length c0_7] 63 (0, 0))) ∧ (Below w.heap.size w w')) ?_ ?_
   rotate_left
   ·
    intro hCont
    refine two_ (i := 6) (j := 17) (Ni := some 20) (Nj := some 31) (rl [9,1,7,3]) (rl [6,1,2,1,8,2]) rfl rfl rfl rfl (two_of HT_.out (by kernel_rfl)) (by decide) (by decide) (fun K hK => ?_) (fun K hK => ?_)
    ·
     skip
     refine Kd.R_lit_step (Kd.int .u8) _ 5 ?hg (N := 20) ?hd (xs := ([(a0_0) % 256, (a0_1) % 256] : List Int)) (inner := [.int .u8 ((a0_0) % 256), .int .u8 ((a0_1) % 256)]) (ok := fun _ => True) (okp := fun _ => True) ?hr ?hp (fun _ hk => hk) trivial (Below.refl _ _) (Nat.le_refl _) (by simp) ?_; (case hd => rfl); (case hg => rfl); (case hr => first | (go_simp; done) | (go_simp; rfl)); (case hp => exact (Reps.one (show Kd.M (Kd.int .u8) _ _ _ ((a0_0) % 256) [.int .u8 ((a0_0) % 256)] from rfl) (Reps.one (show Kd.M (Kd.int .u8) _ _ _ ((a0_1) % 256) [.int .u8 ((a0_1) % 256)] from rfl) (Reps.none _ _))))
     intro v568 w16 ho17 hb hg_ hnew_
     clear hg_ hnew_
     (first | rw [← Ny567.out] at ho17 | (simp only [Int.reduceToNat] at ho17; rw [← Ny567.out] at ho17))
     have HO569 := am_ (Kd.R_lower ho17 (below_size (qB HB)))
     replace BK562 := bK_ BK562 hb
     replace HB := bS_ HB hb
     clear hb ho17
     obtain ⟨Ao18, co18, eo18⟩ := Kd.R_slice HO569.out
     (first | subst eo18 | (injection eo18 with f1_ f2_ f3_; have f4_ := f1_.symm; have f5_ := f3_.symm; clear f1_ f2_ f3_; subst f4_; subst f5_))
     refine hK.out _ _ (cz8 BK562.out) (fun hHeld => ?_)
     clear hK K
     refine nm_ (some 20) ?_
     refine two_ (i := 9) (j := 17) (Ni := some 23) (Nj := some 31) (rl [17,3]) (rl [9,1,8,2]) rfl rfl rfl rfl (two_of HT_.out (by kernel_rfl)) (by decide) (by decide) (fun K hK => ?_) (fun K hK => ?_)
     ·
      skip
      refine goes_ Try.func112 (by kernel_rfl) rfl #[.slice Ao18 y567.length co18, .int .i64 a0_2] (by rfl) rfl rfl la_ ?_
      with_reducible refine (impl_PutWord.calls _ _ y567 a0_2 t570 _ ?side1 ?side2 A11.out).mono ?_
      (case side1 => exact qC ((Kd.R_reads' HO569.out).2.2))
      (case side2 => exact (Kd.R_reads' HO569.out).2.1)
      rintro e w19 ⟨v571, rfl, ho0, hb⟩
      refine ⟨_, rfl, ?_⟩
      have HO572 := am_ (Kd.R_lower (Kd.R_new' ho0 (Kd.R_lt (qR HO569))) (below_size (qB HB)))
      replace HO569 := eA_ HO569 ho0 hb
      replace BK562 := bK_ BK562 hb
      replace HB := bS_ HB hb
      (try clear hb ho0)
      refine hK.out _ _ (cz8 BK562.out) (fun hHeld => ?_)
      clear hK K
      refine nm_ (some 23) ?_
      refine on_ HT_ (i := 17) (N := some 31) (rl [18,2]) (fun K hK => ?_)
      refine Kd.R_lit_step (Kd.int .u8) _ 5 ?hg (N := 31) ?hd (xs := ([(a0_3) % 256, (a0_4) % 256, x3_7] : List Int)) (inner := [.int .u8 ((a0_3) % 256), .int .u8 ((a0_4) % 256), .int .u8 x3_7]) (ok := fun _ => True) (okp := fun _ => True) ?hr ?hp (fun _ hk => hk) trivial (Below.refl _ _) (Nat.le_refl _) (by simp) ?_; (case hd => rfl); (case hg => rfl); (case hr => first | (go_simp; done) | (go_simp; rfl)); (case hp => exact (Reps.one (show Kd.M (Kd.int .u8) _ _ _ ((a0_3) % 256) [.int .u8 ((a0_3) % 256)] from rfl) (Reps.one (show Kd.M (Kd.int .u8) _ _ _ ((a0_4) % 256) [.int .u8 ((a0_4) % 256)] from rfl) (Reps.one (show Kd.M (Kd.int .u8) _ _ _ x3_7 [.int .u8 x3_7] from rfl) (Reps.none _ _)))))
      intro v574 w20 ho21 hb hg_ hnew_
      clear hg_ hnew_
      (first | rw [← Ny573.out] at ho21 | (simp only [Int.reduceToNat] at ho21; rw [← Ny573.out] at ho21))
      have HO575 := am_ (Kd.R_lower (Kd.R_new' (Kd.R_new' ho21 (Kd.R_lt (qR HO569))) (Kd.R_lt (qR HO572))) (below_size (qB HB)))
      replace HO569 := eA_ HO569 ho21 hb
      replace HO572 := eA_ HO572 ho21 hb
      replace BK562 := bK_ BK562 hb
      replace HB := bS_ HB hb
      clear hb ho21
      refine hK.out _ _ (cz8 BK562.out) (fun hHeld => ?_)
      clear hK K
      refine nm_ (some 31) ?_
      exact norm_ (by simp only [putAll, Act.put, List.setIfInBounds_toArray, List.set_cons_zero, List.set_cons_succ]) (hCont (.slice Ao18 y567.length co18, v571, v574) _ ⟨hHeld, (xR1_ HO569), (xR1_ HO572), (xR1_ HO575), (qK BK562), (qB HB)⟩)
     ·
      skip
      refine Kd.R_lit_step (Kd.int .u8) _ 5 ?hg (N := 31) ?hd (xs := ([(a0_3) % 256, (a0_4) % 256, x3_7] : List Int)) (inner := [.int .u8 ((a0_3) % 256), .int .u8 ((a0_4) % 256), .int .u8 x3_7]) (ok := fun _ => True) (okp := fun _ => True) ?hr ?hp (fun _ hk => hk) trivial (Below.refl _ _) (Nat.le_refl _) (by simp) ?_; (case hd => rfl); (case hg => rfl); (case hr => first | (go_simp; done) | (go_simp; rfl)); (case hp => exact (Reps.one (show Kd.M (Kd.int .u8) _ _ _ ((a0_3) % 256) [.int .u8 ((a0_3) % 256)] from rfl) (Reps.one (show Kd.M (Kd.int .u8) _ _ _ ((a0_4) % 256) [.int .u8 ((a0_4) % 256)] from rfl) (Reps.one (show Kd.M (Kd.int .u8) _ _ _ x3_7 [.int .u8 x3_7] from rfl) (Reps.none _ _)))))
      intro v574 w18 ho19 hb hg_ hnew_
      clear hg_ hnew_
      (first | rw [← Ny573.out] at ho19 | (simp only [Int.reduceToNat] at ho19; rw [← Ny573.out] at ho19))
      have HO575 := am_ (Kd.R_lower (Kd.R_new' ho19 (Kd.R_lt (qR HO569))) (below_size (qB HB)))
      replace HO569 := eA_ HO569 ho19 hb
      replace BK562 := bK_ BK562 hb
      replace HB := bS_ HB hb
      clear hb ho19
      obtain ⟨Ao20, co20, eo20⟩ := Kd.R_slice HO569.out
      (first | subst eo20 | (injection eo20 with f1_ f2_ f3_; have f4_ := f1_.symm; have f5_ := f3_.symm; clear f1_ f2_ f3_; subst f4_; subst f5_))
      refine hK.out _ _ (cz8 BK562.out) (fun hHeld => ?_)
      clear hK K
      refine nm_ (some 31) ?_
      refine on_ HT_ (i := 9) (N := some 23) (rl [18,2]) (fun K hK => ?_)
      refine goes_ Try.func112 (by kernel_rfl) rfl #[.slice Ao20 y567.length co20, .int .i64 a0_2] (by rfl) rfl rfl la_ ?_
      with_reducible refine (impl_PutWord.calls _ _ y567 a0_2 t570 _ ?side1 ?side2 A11.out).mono ?_
      (case side1 => exact qC ((Kd.R_reads' HO569.out).2.2))
      (case side2 => exact (Kd.R_reads' HO569.out).2.1)
      rintro e w21 ⟨v571, rfl, ho0, hb⟩
      refine ⟨_, rfl, ?_⟩
      have HO572 := am_ (Kd.R_lower (Kd.R_new' (Kd.R_new' ho0 (Kd.R_lt (qR HO569))) (Kd.R_lt (qR HO575))) (below_size (qB HB)))
      replace HO569 := eA_ HO569 ho0 hb
      replace HO575 := eA_ HO575 ho0 hb
      replace BK562 := bK_ BK562 hb
      replace HB := bS_ HB hb
      (try clear hb ho0)
      refine hK.out _ _ (cz8 BK562.out) (fun hHeld => ?_)
      clear hK K
      refine nm_ (some 23) ?_
      exact norm_ (by simp only [putAll, Act.put, List.setIfInBounds_toArray, List.set_cons_zero, List.set_cons_succ]) (hCont (.slice Ao20 y567.length co20, v571, v574) _ ⟨hHeld, (xR1_ HO569), (xR1_ HO572), (xR1_ HO575), (qK BK562), (qB HB)⟩)
    ·
     skip
     refine Kd.R_lit_step (Kd.int .u8) _ 5 ?hg (N := 31) ?hd (xs := ([(a0_3) % 256, (a0_4) % 256, x3_7] : List Int)) (inner := [.int .u8 ((a0_3) % 256), .int .u8 ((a0_4) % 256), .int .u8 x3_7]) (ok := fun _ => True) (okp := fun _ => True) ?hr ?hp (fun _ hk => hk) trivial (Below.refl _ _) (Nat.le_refl _) (by simp) ?_; (case hd => rfl); (case hg => rfl); (case hr => first | (go_simp; done) | (go_simp; rfl)); (case hp => exact (Reps.one (show Kd.M (Kd.int .u8) _ _ _ ((a0_3) % 256) [.int .u8 ((a0_3) % 256)] from rfl) (Reps.one (show Kd.M (Kd.int .u8) _ _ _ ((a0_4) % 256) [.int .u8 ((a0_4) % 256)] from rfl) (Reps.one (show Kd.M (Kd.int .u8) _ _ _ x3_7 [.int .u8 x3_7] from rfl) (Reps.none _ _)))))
     intro v574 w16 ho17 hb hg_ hnew_
     clear hg_ hnew_
     (first | rw [← Ny573.out] at ho17 | (simp only [Int.reduceToNat] at ho17; rw [← Ny573.out] at ho17))
     have HO575 := am_ (Kd.R_lower ho17 (below_size (qB HB)))
     replace BK562 := bK_ BK562 hb
     replace HB := bS_ HB hb
     clear hb ho17
     refine hK.out _ _ (cz8 BK562.out) (fun hHeld => ?_)
     clear hK K
     refine nm_ (some 31) ?_
     refine on_ HT_ (i := 6) (N := some 20) (rl [9,1,8,2]) (fun K hK => ?_)
     refine Kd.R_lit_step (Kd.int .u8) _ 5 ?hg (N := 20) ?hd (xs := ([(a0_0) % 256, (a0_1) % 256] : List Int)) (inner := [.int .u8 ((a0_0) % 256), .int .u8 ((a0_1) % 256)]) (ok := fun _ => True) (okp := fun _ => True) ?hr ?hp (fun _ hk => hk) trivial (Below.refl _ _) (Nat.le_refl _) (by simp) ?_; (case hd => rfl); (case hg => rfl); (case hr => first | (go_simp; done) | (go_simp; rfl)); (case hp => exact (Reps.one (show Kd.M (Kd.int .u8) _ _ _ ((a0_0) % 256) [.int .u8 ((a0_0) % 256)] from rfl) (Reps.one (show Kd.M (Kd.int .u8) _ _ _ ((a0_1) % 256) [.int .u8 ((a0_1) % 256)] from rfl) (Reps.none _ _))))
     intro v568 w18 ho19 hb hg_ hnew_
     clear hg_ hnew_
     (first | rw [← Ny567.out] at ho19 | (simp only [Int.reduceToNat] at ho19; rw [← Ny567.out] at ho19))
     have HO569 := am_ (Kd.R_lower (Kd.R_new' ho19 (Kd.R_lt (qR HO575))) (below_size (qB HB)))
     replace HO575 := eA_ HO575 ho19 hb
     replace BK562 := bK_ BK562 hb
     replace HB := bS_ HB hb
     clear hb ho19
     obtain ⟨Ao20, co20, eo20⟩ := Kd.R_slice HO569.out
     (first | subst eo20 | (injection eo20 with f1_ f2_ f3_; have f4_ := f1_.symm; have f5_ := f3_.symm; clear f1_ f2_ f3_; subst f4_; subst f5_))
     refine hK.out _ _ (cz8 BK562.out) (fun hHeld => ?_)
     clear hK K
     refine nm_ (some 20) ?_
     refine on_ HT_ (i := 9) (N := some 23) (rl [18,2]) (fun K hK => ?_)
     refine goes_ Try.func112 (by kernel_rfl) rfl #[.slice Ao20 y567.length co20, .int .i64 a0_2] (by rfl) rfl rfl la_ ?_
     with_reducible refine (impl_PutWord.calls _ _ y567 a0_2 t570 _ ?side1 ?side2 A11.out).mono ?_
     (case side1 => exact qC ((Kd.R_reads' HO569.out).2.2))
     (case side2 => exact (Kd.R_reads' HO569.out).2.1)
     rintro e w21 ⟨v571, rfl, ho0, hb⟩
     refine ⟨_, rfl, ?_⟩
     have HO572 := am_ (Kd.R_lower (Kd.R_new' (Kd.R_new' ho0 (Kd.R_lt (qR HO575))) (Kd.R_lt (qR HO569))) (below_size (qB HB)))
     replace HO575 := eA_ HO575 ho0 hb
     replace HO569 := eA_ HO569 ho0 hb
     replace BK562 := bK_ BK562 hb
     replace HB := bS_ HB hb
     (try clear hb ho0)
     refine hK.out _ _ (cz8 BK562.out) (fun hHeld => ?_)
     clear hK K
     refine nm_ (some 23) ?_
     exact norm_ (by simp only [putAll, Act.put, List.setIfInBounds_toArray, List.set_cons_zero, List.set_cons_succ]) (hCont (.slice Ao20 y567.length co20, v571, v574) _ ⟨hHeld, (xR1_ HO569), (xR1_ HO572), (xR1_ HO575), (qK BK562), (qB HB)⟩)
   rintro ⟨v568, v571, v574⟩ w22 ⟨hS_, h0_, h1_, h2_, h3_, h4_⟩
   have n0_ : Aside0 (Kd.R (Kd.int .u8) 5 w22 w.heap.size (fun k_ => nv v571 k_ ∧ nv v574 k_) v568 y567) := ⟨h0_⟩
   have n1_ : Aside0 (Kd.R (Kd.int .u8) 5 w22 w.heap.size (fun k_ => nv v568 k_ ∧ nv v574 k_) v571 t570) := ⟨h1_⟩
   have n2_ : Aside0 (Kd.R (Kd.int .u8) 5 w22 w.heap.size (fun k_ => nv v568 k_ ∧ nv v571 k_) v574 y573) := ⟨h2_⟩
   have n3_ : Aside0 (w22.heap[gb562]? = some (.cells #[.int .i64 a0_0, .int .i64 a0_1, .int .i64 a0_2, .int .i64 a0_3, .int .i64 a0_4, .bool a0_5, .int .i64 a0_6, .slice A0_7 l0_7.length c0_7] 63 (0, 0))) := ⟨h3_⟩
   have n4_ : Aside0 (Below w.heap.size w w22) := ⟨h4_⟩
   clear BK562
   clear HB
   clear h0_ h1_ h2_ h3_ h4_
   have HO569 := n0_
   have HO572 := n1_
   have HO575 := n2_
   have BK562 := n3_
   have HB := n4_
   clear n0_ n1_ n2_ n3_ n4_
   have hHeld : w22.cell? ⟨gb562, 0, none⟩ = some (.int .i64 a0_0) ∧ w22.cell? ⟨gb562, 1, none⟩ = some (.int .i64 a0_1) ∧ w22.cell? ⟨gb562, 2, none⟩ = some (.int .i64 a0_2) ∧ w22.cell? ⟨gb562, 3, none⟩ = some (.int .i64 a0_3) ∧ w22.cell? ⟨gb562, 4, none⟩ = some (.int .i64 a0_4) ∧ w22.cell? ⟨gb562, 5, none⟩ = some (.bool a0_5) ∧ w22.cell? ⟨gb562, 6, none⟩ = some (.int .i64 a0_6) ∧ w22.cell? ⟨gb562, 7, none⟩ = some (.slice A0_7 l0_7.length c0_7) := hS_
   obtain ⟨Ao24, co24, eo24⟩ := Kd.R_slice HO575.out
   (first | subst eo24 | (injection eo24 with f1_ f2_ f3_; have f4_ := f1_.symm; have f5_ := f3_.symm; clear f1_ f2_ f3_; subst f4_; subst f5_))
   refine norm_ (a' := ?_) ?_ ?_
   rotate_left
   ·
    simp only [putAll, Act.put, List.setIfInBounds_toArray, List.set_cons_zero, List.set_cons_succ]
    rfl
   refine on_ HT_ (i := 18) (N := some 32) (rl [19,1]) (fun K hK => ?_)
   refine Kd.R_append_rows_step (Kd.int .u8) (w0 := w) w.heap.size (by rfl) (.tmp 23) (.tmp 31) 70 5 (.int .u8 0) 1 rfl Try.underlying70 info5 rfl (by decide) (by omega) v571 t570 y573 _ _ _ (fun k_ => nv v568 k_ ∧ nb Ao24 y573.length co24 k_) (fun _ => False) rfl rfl ?aO ?aR (fun _ _ h => h) (fun _ h => h.elim) ?aF ?aB ?aS ?aL ?_
   (case aR => exact qC ((Kd.R_reads' HO575.out).2.2))
   (case aB => exact (qB HB))
   (case aF => exact (fun k_ hk => ⟨Kd.fresh' (Kd.R_lt (qR HO569)) k_ hk, Kd.fresh' (Kd.R_lt (qR HO575)) k_ hk⟩))
   (case aO => exact (qR HO572))
   (case aS => exact (below_size (qB HB)))
   (case aL => have := LMc12.out; omega)
   intro v577 w23 ho hb hg hat
   rw [← Ny576.out] at ho
   replace BK562 := kG_ BK562 HO572 hg
   replace HO569 := am_ (Kd.R_after (ok := (fun k_ => nb Ao24 y573.length co24 k_)) (xR1_ HO569) hg hat)
   replace HO575 := aR_ HO575 hg hat
   replace HB := am_ (hb)
   have HO578 := am_ (ho)
   clear HO572
   clear ho hb hg hat
   refine hK.out _ _ (cz8 BK562.out) (fun hHeld => ?_)
   clear hK K
   refine nm_ (some 32) ?_
   refine pq_ 19 4 HT_ (rl [20]) ?_
   refine done_ (done_of HT_.out (by kernel_rfl)) ?_
   obtain ⟨Ao25, co25, eo25⟩ := Kd.R_slice HO578.out
   subst eo25
   try go_wp2
   replace HO569 := am_ (Kd.R_drew HO569.out)
   replace HO575 := am_ (Kd.R_drew HO575.out)
   replace HO578 := am_ (Kd.R_drew HO578.out)
   replace BK562 := am_ (blk_drew BK562.out)
   replace HB := am_ (below_drew1 HB.out)
   refine start_ (n := 11) (S := fun w' => w'.cell? ⟨gb562, 0, none⟩ = some (.int .i64 a0_0) ∧ w'.cell? ⟨gb562, 1, none⟩ = some (.int .i64 a0_1) ∧ w'.cell? ⟨gb562, 2, none⟩ = some (.int .i64 a0_2) ∧ w'.cell? ⟨gb562, 3, none⟩ = some (.int .i64 a0_3) ∧ w'.cell? ⟨gb562, 4, none⟩ = some (.int .i64 a0_4) ∧ w'.cell? ⟨gb562, 5, none⟩ = some (.bool a0_5) ∧ w'.cell? ⟨gb562, 6, none⟩ = some (.int .i64 a0_6) ∧ w'.cell? ⟨gb562, 7, none⟩ = some (.slice A0_7 l0_7.length c0_7)) (ds := []) #[oo,oo,oo,oo,oo,oo,oo,oo,oo,oo,oo] (by kernel_rfl) rfl rfl (cz8 BK562.out) (fun hHeld => ?_); refine with_tabW impl_PutCtl.tab7 impl_PutCtl.bits7 (fun HT_ HW_ => ?_)
   generalize w23.drew = w26 at HO569 HO575 HO578 BK562 HB hHeld ⊢
   refine pq_ 0 33 HT_ #[ii,oo,oo,oo,oo,oo,oo,oo,oo,oo,oo] ?_
   refine pq_ 1 34 HT_ #[ii,ii,oo,oo,oo,oo,oo,oo,oo,oo,oo] ?_
   refine pq_ 4 37 HT_ #[ii,ii,oo,oo,ii,oo,oo,oo,oo,oo,oo] ?_
   refine tz_ (i := 2) (N := some 35) HT_ HW_ #[ii,ii,ii,oo,ii,oo,oo,oo,oo,oo,oo] rfl rfl hHeld ?_
   refine tz_ (i := 5) (N := some 38) HT_ HW_ #[ii,ii,ii,oo,ii,ii,oo,oo,oo,oo,oo] rfl rfl hHeld ?_
   refine pq_ 6 39 HT_ #[ii,ii,ii,oo,ii,ii,ii,oo,oo,oo,oo] ?_
   refine pq_ 7 40 HT_ #[ii,ii,ii,oo,ii,ii,ii,ii,oo,oo,oo] ?_
   refine join_ (σ := Value × Value) 2 #[ii,ii,ii,ii,ii,ii,ii,ii,ii,oo,oo] (fun s_ => [(36, s_.1), (41, s_.2)]) (fun s_ w' => (w'.cell? ⟨gb562, 0, none⟩ = some (.int .i64 a0_0) ∧ w'.cell? ⟨gb562, 1, none⟩ = some (.int .i64 a0_1) ∧ w'.cell? ⟨gb562, 2, none⟩ = some (.int .i64 a0_2) ∧ w'.cell? ⟨gb562, 3, none⟩ = some (.int .i64 a0_3) ∧ w'.cell? ⟨gb562, 4, none⟩ = some (.int .i64 a0_4) ∧ w'.cell? ⟨gb562, 5, none⟩ = some (.bool a0_5) ∧ w'.cell? ⟨gb562, 6, none⟩ = some (.int .i64 a0_6) ∧ w'.cell? ⟨gb562, 7, none⟩ = some (.slice A0_7 l0_7.length c0_7)) ∧ (Kd.R (Kd.int .u8) 5 w' w.heap.size (fun k_ => nb Ao24 y573.length co24 k_ ∧ nb Ao25 y576.length co25 k_ ∧ some k_ ≠ (s_.1 : Value).ownBlock ∧ some k_ ≠ (s_.2 : Value).ownBlock) v568 y567) ∧ (Kd.R (Kd.int .u8) 5 w' w.heap.size (fun k_ => nv v568 k_ ∧ nb Ao25 y576.length co25 k_ ∧ some k_ ≠ (s_.1 : Value).ownBlock ∧ some k_ ≠ (s_.2 : Value).ownBlock) (.slice Ao24 y573.length co24) y573) ∧ (Kd.R (Kd.int .u8) 5 w' w.heap.size (fun k_ => nv v568 k_ ∧ nb Ao24 y573.length co24 k_ ∧ some k_ ≠ (s_.1 : Value).ownBlock ∧ some k_ ≠ (s_.2 : Value).ownBlock) (.slice Ao25 y576.length co25) y576) ∧ (Kd.R (Kd.int .u8) 5 w' w.heap.size (fun k_ => nv v568 k_ ∧ nb Ao24 y573.length co24 k_ ∧ nb Ao25 y576.length co25 k_ ∧ some k_ ≠ (s_.2 : Value).ownBlock) s_.1 t579) ∧ (Kd.R (Kd.int .u8) 5 w' w.heap.size (fun k_ => nv v568 k_ ∧ nb Ao24 y573.length co24 k_ ∧ nb Ao25 y576.length co25 k_ ∧ some k_ ≠ (s_.1 : Value).ownBlock) s_.2 y582) ∧ (w'.heap[gb562]? = some (.cells #[.int .i64 a0_0, .int .i64 a0_1, .int .i64 a0_2, .int .i64 a0_3, .int .i64 a0_4, .bool a0_5, .int .i64 a0_6, .slice A0_7 l0_7.length c0_7] 63 (0, 0))) ∧ (Below w.heap.size w w')) ?_ ?_
   rotate_left
   ·
    intro hCont
    refine two_ (i := 3) (j := 8) (Ni := some 36) (Nj := some 41) #[ii,ii,ii,ii,ii,ii,ii,ii,oo,oo,oo] #[ii,ii,ii,oo,ii,ii,ii,ii,ii,oo,oo] rfl rfl rfl rfl (two_of HT_.out (by kernel_rfl)) (by decide) (by decide) (fun K hK => ?_) (fun K hK => ?_)
    ·
     skip
     refine goes_ Try.func112 (by kernel_rfl) rfl #[.slice Ao25 y576.length co25, .int .i64 a0_6] (by rfl) rfl rfl la_ ?_
     with_reducible refine (impl_PutWord.calls _ _ y576 a0_6 t579 _ ?side1 ?side2 A13.out).mono ?_
     (case side1 => exact qC ((Kd.R_reads' HO578.out).2.2))
     (case side2 => exact (Kd.R_reads' HO578.out).2.1)
     rintro e w27 ⟨v580, rfl, ho0, hb⟩
     refine ⟨_, rfl, ?_⟩
     have HO581 := am_ (Kd.R_lower (Kd.R_new' (Kd.R_new' (Kd.R_new' ho0 (Kd.R_lt (qR HO569))) (Kd.R_lt (qR HO575))) (Kd.R_lt (qR HO578))) (below_size (qB HB)))
     replace HO569 := eA_ HO569 ho0 hb
     replace HO575 := eA_ HO575 ho0 hb
     replace HO578 := eA_ HO578 ho0 hb
     replace BK562 := bK_ BK562 hb
     replace HB := bS_ HB hb
     (try clear hb ho0)
     refine hK.out _ _ (cz8 BK562.out) (fun hHeld => ?_)
     clear hK K
     refine nm_ (some 36) ?_
     refine on_ HT_ (i := 8) (N := some 41) #[ii,ii,ii,ii,ii,ii,ii,ii,ii,oo,oo] (fun K hK => ?_)
     refine Kd.R_lit_step (Kd.int .u8) _ 5 ?hg (N := 41) ?hd (xs := ([((l0_7.length : Int)) % 256] : List Int)) (inner := [.int .u8 (((l0_7.length : Int)) % 256)]) (ok := fun _ => True) (okp := fun _ => True) ?hr ?hp (fun _ hk => hk) trivial (Below.refl _ _) (Nat.le_refl _) (by simp) ?_; (case hd => rfl); (case hg => rfl); (case hr => first | (go_simp; done) | (go_simp; rfl)); (case hp => exact (Reps.one (show Kd.M (Kd.int .u8) _ _ _ (((l0_7.length : Int)) % 256) [.int .u8 (((l0_7.length : Int)) % 256)] from rfl) (Reps.none _ _)))
     intro v583 w28 ho29 hb hg_ hnew_
     clear hg_ hnew_
     (first | rw [← Ny582.out] at ho29 | (simp only [Int.reduceToNat] at ho29; rw [← Ny582.out] at ho29))
     have HO584 := am_ (Kd.R_lower (Kd.R_new' (Kd.R_new' (Kd.R_new' (Kd.R_new' ho29 (Kd.R_lt (qR HO569))) (Kd.R_lt (qR HO575))) (Kd.R_lt (qR HO578))) (Kd.R_lt (qR HO581))) (below_size (qB HB)))
     replace HO569 := eA_ HO569 ho29 hb
     replace HO575 := eA_ HO575 ho29 hb
     replace HO578 := eA_ HO578 ho29 hb
     replace HO581 := eA_ HO581 ho29 hb
     replace BK562 := bK_ BK562 hb
     replace HB := bS_ HB hb
     clear hb ho29
     refine hK.out _ _ (cz8 BK562.out) (fun hHeld => ?_)
     clear hK K
     refine nm_ (some 41) ?_
     exact norm_ (by simp only [putAll, Act.put, List.setIfInBounds_toArray, List.set_cons_zero, List.set_cons_succ]) (hCont (v580, v583) _ ⟨hHeld, (xR1_ HO569), (xR1_ HO575), (xR1_ HO578), (xR1_ HO581), (xR1_ HO584), (qK BK562), (qB HB)⟩)
    ·
     skip
     refine Kd.R_lit_step (Kd.int .u8) _ 5 ?hg (N := 41) ?hd (xs := ([((l0_7.length : Int)) % 256] : List Int)) (inner := [.int .u8 (((l0_7.length : Int)) % 256)]) (ok := fun _ => True) (okp := fun _ => True) ?hr ?hp (fun _ hk => hk) trivial (Below.refl _ _) (Nat.le_refl _) (by simp) ?_; (case hd => rfl); (case hg => rfl); (case hr => first | (go_simp; done) | (go_simp; rfl)); (case hp => exact (Reps.one (show Kd.M (Kd.int .u8) _ _ _ (((l0_7.length : Int)) % 256) [.int .u8 (((l0_7.length : Int)) % 256)] from rfl) (Reps.none _ _)))
     intro v583 w27 ho28 hb hg_ hnew_
     clear hg_ hnew_
     (first | rw [← Ny582.out] at ho28 | (simp only [Int.reduceToNat] at ho28; rw [← Ny582.out] at ho28))
     have HO584 := am_ (Kd.R_lower (Kd.R_new' (Kd.R_new' (Kd.R_new' ho28 (Kd.R_lt (qR HO569))) (Kd.R_lt (qR HO575))) (Kd.R_lt (qR HO578))) (below_size (qB HB)))
     replace HO569 := eA_ HO569 ho28 hb
     replace HO575 := eA_ HO575 ho28 hb
     replace HO578 := eA_ HO578 ho28 hb
     replace BK562 := bK_ BK562 hb
     replace HB := bS_ HB hb
     clear hb ho28
     refine hK.out _ _ (cz8 BK562.out) (fun hHeld => ?_)
     clear hK K
     refine nm_ (some 41) ?_
     refine on_ HT_ (i := 3) (N := some 36) #[ii,ii,ii,ii,ii,ii,ii,ii,ii,oo,oo] (fun K hK => ?_)
     refine goes_ Try.func112 (by kernel_rfl) rfl #[.slice Ao25 y576.length co25, .int .i64 a0_6] (by rfl) rfl rfl la_ ?_
     with_reducible refine (impl_PutWord.calls _ _ y576 a0_6 t579 _ ?side1 ?side2 A13.out).mono ?_
     (case side1 => exact qC ((Kd.R_reads' HO578.out).2.2))
     (case side2 => exact (Kd.R_reads' HO578.out).2.1)
     rintro e w29 ⟨v580, rfl, ho0, hb⟩
     refine ⟨_, rfl, ?_⟩
     have HO581 := am_ (Kd.R_lower (Kd.R_new' (Kd.R_new' (Kd.R_new' (Kd.R_new' ho0 (Kd.R_lt (qR HO569))) (Kd.R_lt (qR HO575))) (Kd.R_lt (qR HO578))) (Kd.R_lt (qR HO584))) (below_size (qB HB)))
     replace HO569 := eA_ HO569 ho0 hb
     replace HO575 := eA_ HO575 ho0 hb
     replace HO578 := eA_ HO578 ho0 hb
     replace HO584 := eA_ HO584 ho0 hb
     replace BK562 := bK_ BK562 hb
     replace HB := bS_ HB hb
     (try clear hb ho0)
     refine hK.out _ _ (cz8 BK562.out) (fun hHeld => ?_)
     clear hK K
     refine nm_ (some 36) ?_
     exact norm_ (by simp only [putAll, Act.put, List.setIfInBounds_toArray, List.set_cons_zero, List.set_cons_succ]) (hCont (v580, v583) _ ⟨hHeld, (xR1_ HO569), (xR1_ HO575), (xR1_ HO578), (xR1_ HO581), (xR1_ HO584), (qK BK562), (qB HB)⟩)
   rintro ⟨v580, v583⟩ w30 ⟨hS_, h0_, h1_, h2_, h3_, h4_, h5_, h6_⟩
   have n0_ : Aside0 (Kd.R (Kd.int .u8) 5 w30 w.heap.size (fun k_ => nb Ao24 y573.length co24 k_ ∧ nb Ao25 y576.length co25 k_ ∧ nv v580 k_ ∧ nv v583 k_) v568 y567) := ⟨h0_⟩
   have n1_ : Aside0 (Kd.R (Kd.int .u8) 5 w30 w.heap.size (fun k_ => nv v568 k_ ∧ nb Ao25 y576.length co25 k_ ∧ nv v580 k_ ∧ nv v583 k_) (.slice Ao24 y573.length co24) y573) := ⟨h1_⟩
   have n2_ : Aside0 (Kd.R (Kd.int .u8) 5 w30 w.heap.size (fun k_ => nv v568 k_ ∧ nb Ao24 y573.length co24 k_ ∧ nv v580 k_ ∧ nv v583 k_) (.slice Ao25 y576.length co25) y576) := ⟨h2_⟩
   have n3_ : Aside0 (Kd.R (Kd.int .u8) 5 w30 w.heap.size (fun k_ => nv v568 k_ ∧ nb Ao24 y573.length co24 k_ ∧ nb Ao25 y576.length co25 k_ ∧ nv v583 k_) v580 t579) := ⟨h3_⟩
   have n4_ : Aside0 (Kd.R (Kd.int .u8) 5 w30 w.heap.size (fun k_ => nv v568 k_ ∧ nb Ao24 y573.length co24 k_ ∧ nb Ao25 y576.length co25 k_ ∧ nv v580 k_) v583 y582) := ⟨h4_⟩
   have n5_ : Aside0 (w30.heap[gb562]? = some (.cells #[.int .i64 a0_0, .int .i64 a0_1, .int .i64 a0_2, .int .i64 a0_3, .int .i64 a0_4, .bool a0_5, .int .i64 a0_6, .slice A0_7 l0_7.length c0_7] 63 (0, 0))) := ⟨h5_⟩
   have n6_ : Aside0 (Below w.heap.size w w30) := ⟨h6_⟩
   clear HO569
   clear HO575
   clear HO578
   clear BK562
   clear HB
   clear h0_ h1_ h2_ h3_ h4_ h5_ h6_
   have HO569 := n0_
   have HO575 := n1_
   have HO578 := n2_
   have HO581 := n3_
   have HO584 := n4_
   have BK562 := n5_
   have HB := n6_
   clear n0_ n1_ n2_ n3_ n4_ n5_ n6_
   have hHeld : w30.cell? ⟨gb562, 0, none⟩ = some (.int .i64 a0_0) ∧ w30.cell? ⟨gb562, 1, none⟩ = some (.int .i64 a0_1) ∧ w30.cell? ⟨gb562, 2, none⟩ = some (.int .i64 a0_2) ∧ w30.cell? ⟨gb562, 3, none⟩ = some (.int .i64 a0_3) ∧ w30.cell? ⟨gb562, 4, none⟩ = some (.int .i64 a0_4) ∧ w30.cell? ⟨gb562, 5, none⟩ = some (.bool a0_5) ∧ w30.cell? ⟨gb562, 6, none⟩ = some (.int .i64 a0_6) ∧ w30.cell? ⟨gb562, 7, none⟩ = some (.slice A0_7 l0_7.length c0_7) := hS_
   obtain ⟨Ao32, co32, eo32⟩ := Kd.R_slice HO584.out
   (first | subst eo32 | (injection eo32 with f1_ f2_ f3_; have f4_ := f1_.symm; have f5_ := f3_.symm; clear f1_ f2_ f3_; subst f4_; subst f5_))
   refine norm_ (a' := ?_) ?_ ?_
   rotate_left
   ·
    simp only [putAll, Act.put, List.setIfInBounds_toArray, List.set_cons_zero, List.set_cons_succ]
    rfl
   refine on_ HT_ (i := 9) (N := some 42) #[ii,ii,ii,ii,ii,ii,ii,ii,ii,ii,oo] (fun K hK => ?_)
   refine Kd.R_append_rows_step (Kd.int .u8) (w0 := w) w.heap.size (by rfl) (.tmp 36) (.tmp 41) 70 5 (.int .u8 0) 1 rfl Try.underlying70 info5 rfl (by decide) (by omega) v580 t579 y582 _ _ _ (fun k_ => nv v568 k_ ∧ nb Ao24 y573.length co24 k_ ∧ nb Ao25 y576.length co25 k_ ∧ nb Ao32 y582.length co32 k_) (fun _ => False) rfl rfl ?aO ?aR (fun _ _ h => h) (fun _ h => h.elim) ?aF ?aB ?aS ?aL ?_
   (case aR => exact qC ((Kd.R_reads' HO584.out).2.2))
   (case aB => exact (qB HB))
   (case aF => exact (fun k_ hk => ⟨Kd.fresh' (Kd.R_lt (qR HO569)) k_ hk, Kd.fresh' (Kd.R_lt (qR HO575)) k_ hk, Kd.fresh' (Kd.R_lt (qR HO578)) k_ hk, Kd.fresh' (Kd.R_lt (qR HO584)) k_ hk⟩))
   (case aO => exact (qR HO581))
   (case aS => exact (below_size (qB HB)))
   (case aL => have := LMc14.out; omega)
   intro v586 w31 ho hb hg hat
   rw [← Ny585.out] at ho
   replace BK562 := kG_ BK562 HO581 hg
   replace HO569 := am_ (Kd.R_after (ok := (fun k_ => nb Ao24 y573.length co24 k_ ∧ nb Ao25 y576.length co25 k_ ∧ nb Ao32 y582.length co32 k_)) (xR1_ HO569) hg hat)
   replace HO575 := am_ (Kd.R_after (ok := (fun k_ => nv v568 k_ ∧ nb Ao25 y576.length co25 k_ ∧ nb Ao32 y582.length co32 k_)) (xR1_ HO575) hg hat)
   replace HO578 := am_ (Kd.R_after (ok := (fun k_ => nv v568 k_ ∧ nb Ao24 y573.length co24 k_ ∧ nb Ao32 y582.length co32 k_)) (xR1_ HO578) hg hat)
   replace HO584 := am_ (Kd.R_after (ok := (fun k_ => nv v568 k_ ∧ nb Ao24 y573.length co24 k_ ∧ nb Ao25 y576.length co25 k_)) (xR1_ HO584) hg hat)
   replace HB := am_ (hb)
   have HO587 := am_ (ho)
   clear HO581
   clear ho hb hg hat
   refine hK.out _ _ (cz8 BK562.out) (fun hHeld => ?_)
   clear hK K
   refine nm_ (some 42) ?_
   refine pq_ 10 4 HT_ #[ii,ii,ii,ii,ii,ii,ii,ii,ii,ii,ii] ?_
   refine done_ (done_of HT_.out (by kernel_rfl)) ?_
   (try clear zK562)
   have zK562 := cz8 BK562.out
   (try clear fK562)
   have fK562 := fz8 BK562.out
   try go_wp2
   go_loopg [4, 46] kj7 (fun kq v4 v46 w' => ∃ (x4_2 : List Int) (x46_2 : Int), v46 = .int .i64 x46_2 ∧ Aside0 (impl_PutCtl.l0 kq x4_2 l0_7 (l0_7.length : Int) x46_2 = some r) ∧ Aside0 (kq ≤ kj7) ∧ Aside0 (Kd.R (Kd.int .u8) 5 w' w.heap.size (fun _ => True) v4 x4_2) ∧ Aside0 (w'.heap[gb562]? = some (.cells #[.int .i64 a0_0, .int .i64 a0_1, .int .i64 a0_2, .int .i64 a0_3, .int .i64 a0_4, .bool a0_5, .int .i64 a0_6, (.slice A0_7 l0_7.length c0_7)] 63 (0, 0))) ∧ Aside0 (Below w.heap.size w w'))
   case atStart => exact ⟨(y585), (0), eqq_, H', ⟨Nat.le_refl _⟩, xR_ HO587, ⟨qK BK562⟩, ⟨qB HB⟩⟩
   case round =>
    clear H'
    try clear c1
    try clear p2
    try clear c11
    try clear c12
    try clear c14
    (try clear zK562)
    (try clear fK562)
    obtain ⟨x4_2, x46_2, rfl, HA, HK2, HO_4, BK562, HB⟩ := hrel
    cases gk with
    | zero => exact absurd HA.out (by simp [impl_PutCtl.l0])
    | succ k2 =>
     have H := HA.out
     clear HA
     simp only [impl_PutCtl.l0] at H
     replace H := id_ H
     obtain ⟨-, H, c34b0⟩ | ⟨-, H, c34b0⟩ := H
     rotate_left
     ·
      replace H := bd_ H
      obtain ⟨t602, A52, H⟩ := H
      replace H := bd_ H
      obtain ⟨t603, A53, H⟩ := H
      obtain rfl := Option.some.inj H
      obtain ⟨Ao54, co54, eo54⟩ := Kd.R_slice HO_4.out
      subst eo54
      go_wp2_with (first | ((with_reducible refine gate_callee (f := 113) rfl ?_); refine gl_ (some 63) Try.func113 #[.slice Ao54 x4_2.length co54] ?_; (with_reducible refine (impl_Sum.calls k2 _ _ x4_2 t602 _ ?side1 ?side2 A52.out).mono ?_); (case side1 => exact qC ((Kd.R_reads' HO_4.out).2.2)); (case side2 => exact (Kd.R_reads' HO_4.out).2.1); rintro e w' ⟨rfl, ⟨nd, rfl⟩⟩; refine ⟨_, rfl, ?_⟩) | ((with_reducible refine gate_callee (f := 112) rfl ?_); refine gl_ (some 64) Try.func112 #[.slice Ao54 x4_2.length co54, .int .i64 t602] ?_; (with_reducible refine (impl_PutWord.calls _ _ x4_2 t602 t603 _ ?side1 ?side2 A53.out).mono ?_); (case side1 => exact qC ((Kd.R_reads' HO_4.out).2.2)); (case side2 => exact (Kd.R_reads' HO_4.out).2.1); rintro e w55 ⟨v604, rfl, ho0, hb⟩; refine ⟨_, rfl, ?_⟩; have HO605 := am_ (Kd.R_lower (Kd.R_new' ho0 (Kd.R_lt (qR HO_4))) (below_size (qB HB))); replace HO_4 := eA_ HO_4 ho0 hb; replace BK562 := bK_ BK562 hb; replace HB := bS_ HB hb; (try clear hb); (try clear ho0)))
      go_ret
      exact ⟨_, er_, (xR1_ HO605), qB HB⟩
     replace H := ip_ H
     obtain ⟨-, H, c35b0⟩ := H
     replace H := ip_ H
     obtain ⟨-, H, c36b0⟩ := H
     replace H := bd_ H
     obtain ⟨t590, A37, H⟩ := H
     obtain ⟨y593, hy593⟩ : ∃ y_ : List Int, y_ = (([((t590.length : Int)) % 256] : List Int)) := ⟨_, rfl⟩
     replace H := mk_ H hy593
     (try dsimp only at H)
     have Ny593 := Aside0.mk hy593
     clear hy593
     replace H := ip_ H
     obtain ⟨c38, H, -⟩ := H
     have LMc38 := Aside0.mk c38
     clear c38
     obtain ⟨y596, hy596⟩ : ∃ y_ : List Int, y_ = (x4_2 ++ y593) := ⟨_, rfl⟩
     replace H := mk_ H hy596
     (try dsimp only at H)
     have Ny596 := Aside0.mk hy596
     clear hy596
     replace H := ip_ H
     obtain ⟨c39, H, -⟩ := H
     have LMc39 := Aside0.mk c39
     clear c39
     obtain ⟨y599, hy599⟩ : ∃ y_ : List Int, y_ = (y596 ++ t590) := ⟨_, rfl⟩
     replace H : (impl_PutCtl.l0 k2 y599 l0_7 (l0_7.length : Int) (wrap64 (x46_2 + 1))) = some r := by first | (rw [hy599]; with_reducible exact H) | (have H2_ := (Option.bind_some _ _).symm.trans H; rw [hy599]; with_reducible exact H2_) | (have H2_ := (Option.bind_some _ _).symm.trans H; with_reducible exact H2_) | with_reducible exact H | (rw [hy599]; exact H) | exact H
     have Ny599 := Aside0.mk hy599
     clear hy599
     have H' := Aside0.mk H
     clear H
     have p588 : 0 ≤ (x46_2 : Int) := od_
     have q588 : x46_2 < (l0_7.length : Int) := od_
     obtain ⟨ad588, e588, hx588_0, hx588_1, hx588_2, hx588_3, hx588_4, hx588_5, hx588_6, hx588_7, hx588_8, hx588_9, hx588_10, hx588_11, hx588_12, hx588_13, hx588_14, hx588_15⟩ := at_T126 HR0_7.out x46_2 p588 q588
     cases e588
     replace hx588_0 := lb_ HB hx588_0
     replace hx588_1 := lb_ HB hx588_1
     replace hx588_2 := lb_ HB hx588_2
     replace hx588_3 := lb_ HB hx588_3
     replace hx588_4 := lb_ HB hx588_4
     replace hx588_5 := lb_ HB hx588_5
     replace hx588_6 := lb_ HB hx588_6
     replace hx588_7 := lb_ HB hx588_7
     replace hx588_8 := lb_ HB hx588_8
     replace hx588_9 := lb_ HB hx588_9
     replace hx588_10 := lb_ HB hx588_10
     replace hx588_11 := lb_ HB hx588_11
     replace hx588_12 := lb_ HB hx588_12
     replace hx588_13 := lb_ HB hx588_13
     replace hx588_14 := lb_ HB hx588_14
     replace hx588_15 := lb_ HB hx588_15
     replace p588 := eq_true p588
     replace q588 := eq_true q588
     go_wp2_with (first | ((with_reducible refine gate_dst (N := 6) rfl ?_); refine box_event ?hg (N := 6) ?hd (cs := #[.int .i64 0, .int .i64 0, .string (⟨#[]⟩ : ByteArray), .int .i64 0, .int .i64 0, .int .i64 0, .string (⟨#[]⟩ : ByteArray), .int .i64 0, .int .i64 0, .int .i64 0, .string (⟨#[]⟩ : ByteArray), .int .i64 0, .int .i64 0, .int .i64 0, .int .i64 0, .int .i64 0]) (t := 126) ?hr ?_; (case hd => rfl); (case hg => rfl); (case hr => first | (go_simp; done) | (go_simp; rfl) | ((try (obtain ⟨_, _, rfl⟩ := Kd.R_slice HO592.out)); (try (obtain ⟨_, _, rfl⟩ := Kd.R_slice HO595.out)); (try (obtain ⟨_, _, rfl⟩ := Kd.R_slice HO598.out)); (try (obtain ⟨_, _, rfl⟩ := Kd.R_slice HO601.out)); first | (go_simp; done) | (go_simp; rfl))); intro gb589 hg w40 hbox hb; replace HO_4 := rB_ HO_4 hb; have BK589 := am_ (hbox); have GW589 := gA_ hg HB; have GE589 := GW589; have IGE589 := gI_ GE589; replace HB := bS_ HB hb; have NB562_589 := am_ ((gN_ hg (qK BK562))); have NB589_562 := am_ ((gM_ hg (qK BK562))); replace BK562 := bK_ BK562 hb; clear hb hbox hg; have hnb41 := NB589_562.out; have hnc41 := NB562_589.out; (try clear zK589); have zK589 := cz16 BK589.out; (try clear fK589); have fK589 := fz16 BK589.out) | ((with_reducible refine gate_store (t := 126) (p := 6) rfl ?_); refine store_evs (t := 126) (p := 6) (j := 0) (cs := [.int .i64 ((rd_T126 l0_7 x46_2).f0), .int .i64 ((rd_T126 l0_7 x46_2).f1.f0), .string ((rd_T126 l0_7 x46_2).f1.f1), .int .i64 ((rd_T126 l0_7 x46_2).f1.f2), .int .i64 ((rd_T126 l0_7 x46_2).f1.f3), .int .i64 ((rd_T126 l0_7 x46_2).f1.f4), .string ((rd_T126 l0_7 x46_2).f1.f5), .int .i64 ((rd_T126 l0_7 x46_2).f1.f6), .int .i64 ((rd_T126 l0_7 x46_2).f1.f7), .int .i64 ((rd_T126 l0_7 x46_2).f2.f0), .string ((rd_T126 l0_7 x46_2).f2.f1), .int .i64 ((rd_T126 l0_7 x46_2).f2.f2), .int .i64 ((rd_T126 l0_7 x46_2).f2.f3), .int .i64 ((rd_T126 l0_7 x46_2).f2.f4), .int .i64 ((rd_T126 l0_7 x46_2).f2.f5), .int .i64 ((rd_T126 l0_7 x46_2).f2.f6)]) (qK BK589) ?_; intro w43 hw; have n0_ := fR0_ hw HO_4 BK589; replace BK562 := sK_ hw BK562 NB562_589; replace HB := sB_ hw HB; replace BK589 := sW_ hw BK589; clear hw; clear HO_4; have HO_4 := n0_; clear n0_; (try clear zK589); have zK589 := cz16 BK589.out) | ((with_reducible refine gate_callee (f := 110) rfl ?_); refine gl_ (some 51) Try.func110 #[.agg #[.int .i64 ((rd_T126 l0_7 x46_2).f0), .int .i64 ((rd_T126 l0_7 x46_2).f1.f0), .string ((rd_T126 l0_7 x46_2).f1.f1), .int .i64 ((rd_T126 l0_7 x46_2).f1.f2), .int .i64 ((rd_T126 l0_7 x46_2).f1.f3), .int .i64 ((rd_T126 l0_7 x46_2).f1.f4), .string ((rd_T126 l0_7 x46_2).f1.f5), .int .i64 ((rd_T126 l0_7 x46_2).f1.f6), .int .i64 ((rd_T126 l0_7 x46_2).f1.f7), .int .i64 ((rd_T126 l0_7 x46_2).f2.f0), .string ((rd_T126 l0_7 x46_2).f2.f1), .int .i64 ((rd_T126 l0_7 x46_2).f2.f2), .int .i64 ((rd_T126 l0_7 x46_2).f2.f3), .int .i64 ((rd_T126 l0_7 x46_2).f2.f4), .int .i64 ((rd_T126 l0_7 x46_2).f2.f5), .int .i64 ((rd_T126 l0_7 x46_2).f2.f6)]] ?_; (with_reducible refine (impl_PutItem.calls k2 ((rd_T126 l0_7 x46_2).f0) ((rd_T126 l0_7 x46_2).f1.f0) ((rd_T126 l0_7 x46_2).f1.f1) ((rd_T126 l0_7 x46_2).f1.f2) ((rd_T126 l0_7 x46_2).f1.f3) ((rd_T126 l0_7 x46_2).f1.f4) ((rd_T126 l0_7 x46_2).f1.f5) ((rd_T126 l0_7 x46_2).f1.f6) ((rd_T126 l0_7 x46_2).f1.f7) ((rd_T126 l0_7 x46_2).f2.f0) ((rd_T126 l0_7 x46_2).f2.f1) ((rd_T126 l0_7 x46_2).f2.f2) ((rd_T126 l0_7 x46_2).f2.f3) ((rd_T126 l0_7 x46_2).f2.f4) ((rd_T126 l0_7 x46_2).f2.f5) ((rd_T126 l0_7 x46_2).f2.f6) t590 _ A37.out).mono ?_); rintro e w45 ⟨v591, rfl, ho0, hb⟩; refine ⟨_, rfl, ?_⟩; have HO592 := am_ (Kd.R_lower (Kd.R_new' ho0 (Kd.R_lt (qR HO_4))) (below_size (qB HB))); replace HO_4 := eA_ HO_4 ho0 hb; replace BK562 := bK_ BK562 hb; replace BK589 := bK_ BK589 hb; replace HB := bS_ HB hb; (try clear hb); (try clear ho0); obtain ⟨Ao46, co46, eo46⟩ := Kd.R_slice HO592.out; subst eo46) | ((with_reducible refine gate_dst (N := 56) rfl ?_); refine Kd.R_lit (Kd.int .u8) _ 5 ?hg (N := 56) ?hd (xs := ([((t590.length : Int)) % 256] : List Int)) (inner := [.int .u8 (((t590.length : Int)) % 256)]) (ok := fun _ => True) (okp := fun _ => True) ?hr ?hp (fun _ hk => hk) trivial (Below.refl _ _) (Nat.le_refl _) (by simp) ?_; (case hd => rfl); (case hg => rfl); (case hr => first | (go_simp; done) | (go_simp; rfl) | ((try (obtain ⟨_, _, rfl⟩ := Kd.R_slice HO592.out)); (try (obtain ⟨_, _, rfl⟩ := Kd.R_slice HO595.out)); (try (obtain ⟨_, _, rfl⟩ := Kd.R_slice HO598.out)); (try (obtain ⟨_, _, rfl⟩ := Kd.R_slice HO601.out)); first | (go_simp; done) | (go_simp; rfl))); (case hp => exact (Reps.one (show Kd.M (Kd.int .u8) _ _ _ (((t590.length : Int)) % 256) [.int .u8 (((t590.length : Int)) % 256)] from rfl) (Reps.none _ _))); intro v594 w47 ho48 hb hg_ hnew_; clear hg_ hnew_; (first | rw [← Ny593.out] at ho48 | (simp only [Int.reduceToNat] at ho48; rw [← Ny593.out] at ho48)); have HO595 := am_ (Kd.R_lower (Kd.R_new' (Kd.R_new' ho48 (Kd.R_lt (qR HO_4))) (Kd.R_lt (qR HO592))) (below_size (qB HB))); replace HO_4 := eA_ HO_4 ho48 hb; replace HO592 := eA_ HO592 ho48 hb; replace BK562 := bK_ BK562 hb; replace BK589 := bK_ BK589 hb; replace HB := bS_ HB hb; clear hb ho48; obtain ⟨Ao50, co50, eo50⟩ := Kd.R_slice HO595.out; subst eo50) | ((with_reducible refine gate_builtin (b := .append) (xs := #[.tmp 52, .tmp 56]) rfl ?_); at_builtin; refine Kd.R_append_rows (Kd.int .u8) (w0 := w) w.heap.size rfl (.tmp 52) (.tmp 56) 70 5 (.int .u8 0) 1 rfl Try.underlying70 info5 rfl (by decide) (by omega) u4 x4_2 y593 _ _ _ (fun k_ => nb Ao46 t590.length co46 k_ ∧ nb Ao50 y593.length co50 k_) (fun _ => False) rfl rfl ?aO ?aR (fun _ _ h => h) (fun _ h => h.elim) ?aF ?aB ?aS ?aL ?_; (case aR => exact qC ((Kd.R_reads' HO595.out).2.2)); (case aB => exact (qB HB)); (case aF => exact (fun k_ hk => ⟨Kd.fresh' (Kd.R_lt (qR HO592)) k_ hk, Kd.fresh' (Kd.R_lt (qR HO595)) k_ hk⟩)); (case aO => exact (xR1_ HO_4)); (case aS => exact (below_size (qB HB))); (case aL => have := LMc38.out; omega); intro v597 w49 ho hb hg hat; rw [← Ny596.out] at ho; replace BK562 := kG_ BK562 HO_4 hg; replace BK589 := kG_ BK589 HO_4 hg; replace HO592 := am_ (Kd.R_after (ok := (fun k_ => nb Ao50 y593.length co50 k_)) (xR1_ HO592) hg hat); replace HO595 := am_ (Kd.R_after (ok := (fun k_ => nb Ao46 t590.length co46 k_)) (xR1_ HO595) hg hat); replace HB := am_ (hb); have HO598 := am_ (ho); clear HO_4; clear ho hb hg hat) | ((with_reducible refine gate_builtin (b := .append) (xs := #[.tmp 57, .tmp 58]) rfl ?_); at_builtin; refine Kd.R_append_rows (Kd.int .u8) (w0 := w) w.heap.size rfl (.tmp 57) (.tmp 58) 70 5 (.int .u8 0) 1 rfl Try.underlying70 info5 rfl (by decide) (by omega) v597 y596 t590 _ _ _ (fun k_ => nb Ao46 t590.length co46 k_ ∧ nb Ao50 y593.length co50 k_) (fun _ => False) rfl rfl ?aO ?aR (fun _ _ h => h) (fun _ h => h.elim) ?aF ?aB ?aS ?aL ?_; (case aR => exact qC ((Kd.R_reads' HO592.out).2.2)); (case aB => exact (qB HB)); (case aF => exact (fun k_ hk => ⟨Kd.fresh' (Kd.R_lt (qR HO592)) k_ hk, Kd.fresh' (Kd.R_lt (qR HO595)) k_ hk⟩)); (case aO => exact (qR HO598)); (case aS => exact (below_size (qB HB))); (case aL => have := LMc39.out; omega); intro v600 w51 ho hb hg hat; rw [← Ny599.out] at ho; replace BK562 := kG_ BK562 HO598 hg; replace BK589 := kG_ BK589 HO598 hg; replace HO592 := aR_ HO592 hg hat; replace HO595 := aR_ HO595 hg hat; replace HB := am_ (hb); have HO601 := am_ (ho); clear HO598; clear ho hb hg hat))
     go_roundg k2
     case measure => have := HJ7.out; have := HK2.out; omega
     case rel => exact ⟨(y599), (wrap64 (x46_2 + 1)), eqq_, H', ⟨by have := HJ7.out; have := HK2.out; omega⟩, xR_ HO601, ⟨qK BK562⟩, ⟨qB HB⟩⟩

end Go.Proofs.Ytiffahfpfgnjnab.PFnExactGetCtl
