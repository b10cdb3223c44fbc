-- Written by a program of this session (myprint.py, over the kit's print): contracts of FnExactGetCtl
import Derived.Test.YtiffahfpfgnjnabPFnExactGetCtlx0
import Derived.Test.YtiffahfpfgnjnabPFnExactGetCtlx4
import Derived.Test.YtiffahfpfgnjnabPFnExactGetCtlx7
import Derived.Test.YtiffahfpfgnjnabPFnExactGetCtlx8
namespace Go.Proofs.Ytiffahfpfgnjnab.PFnExactGetCtl
open Go.RowKit Go.Proofs.YtiffahfpfgnjnabW.PrintWords Go.Proofs.YtiffahfpfgnjnabW.PrintLast Go.Proofs.YtiffahfpfgnjnabW.PrintMore Go.Proofs.YtiffahfpfgnjnabV
attribute [local go_sem] max2_int min2_int max_two min_two max_three min_three max_four min_four   -- for this text's walks alone
set_option linter.unusedVariables false
set_option linter.unusedSimpArgs false

/-! ### spec_PutCtl: function 70 -/
mutual
def spec_PutCtl.j0 : Nat → Int → Int → Int → Int → Int → Int → Bool → Int → List (S126) → Option (List Int)
 | 0, _, _, _, _, _, _, _, _, _ => none
 | k + 1, x3, x257000, x257001, x257002, x257003, x257004, x257005, x257006, x257007 => (spec_PutWord.f (([(x257000) % 256, (x257001) % 256] : List Int)) x257002).bind fun t264 => ((some (([(x257003) % 256, (x257004) % 256, (x3) % 256] : List Int) : List Int)).bind fun y267 => (if t264.length + y267.length < 140737488355328 then ((spec_PutWord.f (t264 ++ y267) x257006).bind fun t273 => ((some (([((x257007.length : Int)) % 256] : List Int) : List Int)).bind fun y276 => (if t273.length + y276.length < 140737488355328 then (spec_PutCtl.l0 k (t273 ++ y276) 0 x257000 x257001 x257002 x257003 x257004 x257005 x257006 x257007) else (none)))) else (none)))
def spec_PutCtl.l0 : Nat → List Int → Int → Int → Int → Int → Int → Int → Bool → Int → List (S126) → Option (List Int)
 | 0, _, _, _, _, _, _, _, _, _, _ => none
 | k + 1, x4, x5, x257000, x257001, x257002, x257003, x257004, x257005, x257006, x257007 => if x5 < (x257007.length : Int) then (if 0 ≤ x5 then ((spec_PutItem.f k ((rd_T126 x257007 x5).f0) ((rd_T126 x257007 x5).f1.f0) ((rd_T126 x257007 x5).f1.f1) ((rd_T126 x257007 x5).f1.f2) ((rd_T126 x257007 x5).f1.f3) ((rd_T126 x257007 x5).f1.f4) ((rd_T126 x257007 x5).f1.f5) ((rd_T126 x257007 x5).f1.f6) ((rd_T126 x257007 x5).f1.f7) ((rd_T126 x257007 x5).f2.f0) ((rd_T126 x257007 x5).f2.f1) ((rd_T126 x257007 x5).f2.f2) ((rd_T126 x257007 x5).f2.f3) ((rd_T126 x257007 x5).f2.f4) ((rd_T126 x257007 x5).f2.f5) ((rd_T126 x257007 x5).f2.f6)).bind fun t283 => ((some (([((t283.length : Int)) % 256] : List Int) : List Int)).bind fun y286 => (if x4.length + y286.length < 140737488355328 then ((some (x4 ++ y286 : List Int)).bind fun y289 => (if y289.length + t283.length < 140737488355328 then (spec_PutCtl.l0 k (y289 ++ t283) (wrap64 (x5 + 1)) x257000 x257001 x257002 x257003 x257004 x257005 x257006 x257007) else (none))) else (none)))) else (none)) else ((spec_Sum.f k x4).bind fun t295 => ((spec_PutWord.f x4 t295).bind fun t296 => (some t296)))
end
def spec_PutCtl.f (k : Nat) (a0_0 : Int) (a0_1 : Int) (a0_2 : Int) (a0_3 : Int) (a0_4 : Int) (a0_5 : Bool) (a0_6 : Int) (l0_7 : List (S126)) : Option (List Int) := (spec_CtlOk.f k a0_0 a0_1 a0_2 a0_3 a0_4 a0_5 a0_6 l0_7).bind fun t257 => (if t257 = true then (if a0_5 = true then (spec_PutCtl.j0 k 1 a0_0 a0_1 a0_2 a0_3 a0_4 a0_5 a0_6 l0_7) else (spec_PutCtl.j0 k 0 a0_0 a0_1 a0_2 a0_3 a0_4 a0_5 a0_6 l0_7)) else (some (([] : List Int))))
theorem spec_PutCtl.mono_l : ∀ k, (∀ y0 y1 y2 y3 y4 y5 y6 y7 y8, LeO (spec_PutCtl.j0 k y0 y1 y2 y3 y4 y5 y6 y7 y8) (spec_PutCtl.j0 (k + 1) y0 y1 y2 y3 y4 y5 y6 y7 y8)) ∧ (∀ y0 y1 y2 y3 y4 y5 y6 y7 y8 y9, LeO (spec_PutCtl.l0 k y0 y1 y2 y3 y4 y5 y6 y7 y8 y9) (spec_PutCtl.l0 (k + 1) y0 y1 y2 y3 y4 y5 y6 y7 y8 y9))
 | 0 => ⟨fun _ _ _ _ _ _ _ _ _ r h => by simp [spec_PutCtl.j0] at h, fun _ _ _ _ _ _ _ _ _ _ r h => by simp [spec_PutCtl.l0] at h⟩
 | k + 1 => by
  obtain ⟨ih0, ih1⟩ := spec_PutCtl.mono_l k
  refine ⟨?_, ?_⟩
  ·
   intro y0 y1 y2 y3 y4 y5 y6 y7 y8
   unfold spec_PutCtl.j0
   have m0 := @spec_CtlOk.mono; have m1 := @spec_PutItem.mono; have m2 := @spec_Sum.mono; exact mo_
  ·
   intro y0 y1 y2 y3 y4 y5 y6 y7 y8 y9
   unfold spec_PutCtl.l0
   have m0 := @spec_CtlOk.mono; have m1 := @spec_PutItem.mono; have m2 := @spec_Sum.mono; exact mo_
theorem spec_PutCtl.mono : ∀ a0 a1 a2 a3 a4 a5 a6 a7 k, LeO (spec_PutCtl.f k a0 a1 a2 a3 a4 a5 a6 a7) (spec_PutCtl.f (k + 1) a0 a1 a2 a3 a4 a5 a6 a7) := by
 intro a0 a1 a2 a3 a4 a5 a6 a7 k
 obtain ⟨ih0, ih1⟩ := spec_PutCtl.mono_l k
 unfold spec_PutCtl.f
 have m0 := @spec_CtlOk.mono; have m1 := @spec_PutItem.mono; have m2 := @spec_Sum.mono; exact mo_
def spec_PutCtl.T7 : Bool × List (List Nat × List Nat) := (true, [([], []), ([], []), ([1], [1]), ([2], [2]), ([], []), ([4], [4]), ([5], [5]), ([], []), ([7], [7]), ([3, 6, 8], [3, 6, 8]), ([0, 9], [0, 9]), ([], []), ([11], [11]), ([10, 12, 10], [10, 12]), ([], []), ([14], [14]), ([15], [15]), ([16], [16]), ([17], [17]), ([13, 18, 13], [13, 18]), ([19, 19, 0, 1, 2, 3, 4, 5, 6, 7, 8, 9, 10, 11, 12, 13, 14, 15, 16, 17, 18, 19], [0, 19])])
def spec_PutCtl.B7 : List Nat := [0, 0, 2, 6, 0, 16, 48, 0, 128, 510, 1023, 0, 2048, 8191, 0, 16384, 49152, 114688, 245760, 524287, 1048575]
theorem spec_PutCtl.tab7 : rtab .any (opsOf Try.f70 7) = spec_PutCtl.T7 := by kernel_rfl
theorem spec_PutCtl.bits7 : waitsOk spec_PutCtl.T7.2 spec_PutCtl.B7 = true := by kernel_rfl
set_option maxHeartbeats 8000000 in
set_option maxRecDepth 100000 in
theorem spec_PutCtl.calls (k : Nat) (a0_0 : Int) (a0_1 : Int) (a0_2 : Int) (a0_3 : Int) (a0_4 : Int) (a0_5 : Bool) (a0_6 : Int) (A0_7 : Option Addr) (c0_7 : Nat) (l0_7 : List (S126)) (r : List Int) (w : World) (hr0_7 : Kd.C k126 w A0_7 l0_7.length l0_7) (hc0_7 : l0_7.length ≤ c0_7) (h : spec_PutCtl.f k a0_0 a0_1 a0_2 a0_3 a0_4 a0_5 a0_6 l0_7 = some r) :
  Calls Try.prog 70 #[.agg #[.int .i64 a0_0, .int .i64 a0_1, .int .i64 a0_2, .int .i64 a0_3, .int .i64 a0_4, .bool a0_5, .int .i64 a0_6, .slice A0_7 l0_7.length c0_7]] w fun e w' => ∃ v0_ : Value, e = .returned (v0_) ∧ Kd.R (Kd.int .u8) 5 w' w.heap.size (fun _ => True) v0_ r ∧ Below w.heap.size w w' := by
 have hu63 := Try.underlying63
 have hu126 := Try.underlying126
 have HR0_7 := Aside0.mk hr0_7
 have HC0_7 := Aside0.mk hc0_7
 clear hr0_7 hc0_7
 have HB := Aside0.mk (Below.refl w.heap.size w)
 have H := h
 unfold spec_PutCtl.f at H
 clear h
 replace H := bd_ H
 obtain ⟨t257, A2, H⟩ := H
 have HC3 := Aside0.mk H
 clear H
 go_enter Try.func70, Try.ntmps70
 go_upto_if 9 with (first | ((with_reducible refine gate_dst (N := 1) rfl ?_); refine bx_ (N := 1) (cs := #[.int .i64 a0_0, .int .i64 a0_1, .int .i64 a0_2, .int .i64 a0_3, .int .i64 a0_4, .bool a0_5, .int .i64 a0_6, .slice A0_7 l0_7.length c0_7]) (t := 63) ?_; intro gb256 hg w4 hbox hb; have BK256 := am_ (hbox); have GW256 := gA_ hg HB; have GE256 := GW256; have IGE256 := gI_ GE256; replace HB := bS_ HB hb; clear hb hbox hg; (try clear zK256); have zK256 := cz8 BK256.out; (try clear fK256); have fK256 := fz8 BK256.out) | ((with_reducible refine gate_callee (f := 69) rfl ?_); refine gl_ (some 8) Try.func69 #[.agg #[.int .i64 a0_0, .int .i64 a0_1, .int .i64 a0_2, .int .i64 a0_3, .int .i64 a0_4, .bool a0_5, .int .i64 a0_6, .slice A0_7 l0_7.length c0_7]] ?_; (with_reducible refine (spec_CtlOk.calls k a0_0 a0_1 a0_2 a0_3 a0_4 a0_5 a0_6 _ _ l0_7 t257 _ ?side1 ?side2 A2.out).mono ?_); (case side1 => exact qC (Kd.C_below HR0_7.out HB.out)); (case side2 => exact HC0_7.out); rintro e w6 ⟨rfl, hb⟩; refine ⟨_, rfl, ?_⟩; replace BK256 := bK_ BK256 hb; replace HB := bS_ HB hb; (try clear hb)))
 (try simp only [Act.put, List.setIfInBounds_toArray, List.set_cons_zero, List.set_cons_succ])
 have H := HC3.out
 clear HC3
 by_cases c7 : t257 = true
 rotate_left
 ·
  replace c7 := Bool.eq_false_iff.mpr c7
  subst c7
  rw [if_neg (show ¬ (false = true) by decide)] at H
  obtain ⟨y258, hy258⟩ : ∃ y_ : List Int, y_ = (([] : List Int)) := ⟨_, rfl⟩
  rw [← hy258] at H
  have Ny258 := Aside0.mk hy258
  clear hy258
  obtain rfl := Option.some.inj H
  go_wp2_with (first | ((with_reducible refine gate_dst (N := 10) rfl ?_); refine Kd.R_lit (Kd.int .u8) _ 5 ?hg (N := 10) ?hd (xs := ([] : List Int)) (inner := []) (ok := fun _ => True) (okp := fun _ => True) ?hr ?hp (fun _ hk => hk) trivial (Below.refl _ _) (Nat.le_refl _) (by simp) ?_; (case hd => rfl); (case hg => rfl); (case hr => first | (go_simp; done) | (go_simp; rfl)); (case hp => exact (Reps.none _ _)); intro v259 w52 ho53 hb hg_ hnew_; clear hg_ hnew_; (first | rw [← Ny258.out] at ho53 | (simp only [Int.reduceToNat] at ho53; rw [← Ny258.out] at ho53)); have HO260 := am_ (Kd.R_lower ho53 (below_size (qB HB))); replace BK256 := bK_ BK256 hb; replace HB := bS_ HB hb; clear hb ho53))
  go_ret
  exact ⟨_, er_, qR HO260, qB HB⟩
 subst c7
 rw [if_pos rfl] at H
 have HC8 := Aside0.mk H
 clear H
 (try clear zK256)
 have zK256 := cz8 BK256.out
 (try clear fK256)
 have fK256 := fz8 BK256.out
 go_upto_if 12 with (fail)
 go_cut [3] (fun v3 wc => ∃ (kq : Nat) (x3_7 : Int), v3 = .int .i64 x3_7 ∧ Aside0 (spec_PutCtl.j0 kq x3_7 a0_0 a0_1 a0_2 a0_3 a0_4 a0_5 a0_6 l0_7 = some r) ∧ Aside0 (kq ≤ k) ∧ Aside0 (wc.heap[gb256]? = some (.cells #[.int .i64 a0_0, .int .i64 a0_1, .int .i64 a0_2, .int .i64 a0_3, .int .i64 a0_4, .bool a0_5, .int .i64 a0_6, (.slice A0_7 l0_7.length c0_7)] 63 (0, 0))) ∧ Aside0 (Below w.heap.size w wc))
 case first =>
  have H := HC8.out
  clear HC8
  by_cases c10 : a0_5 = true
  ·
   subst c10
   rw [if_pos rfl] at H
   have H' := Aside0.mk H
   clear H
   go_wp2
   go_meet
   case rel => exact ⟨_, (1), eqq_, H', ⟨by first | omega | exact Nat.le_refl _⟩, ⟨qK BK256⟩, ⟨qB HB⟩⟩
  replace c10 := Bool.eq_false_iff.mpr c10
  subst c10
  rw [if_neg (show ¬ (false = true) by decide)] at H
  have H' := Aside0.mk H
  clear H
  go_wp2
  go_meet
  case rel => exact ⟨_, (0), eqq_, H', ⟨by first | omega | exact Nat.le_refl _⟩, ⟨qK BK256⟩, ⟨qB HB⟩⟩
 case rest =>
  clear HC8
  try clear c1
  try clear p2
  try clear c6
  try clear c7
  try clear c10
  (try clear zK256)
  (try clear zK256)
  (try clear fK256)
  (try clear fK256)
  obtain ⟨kq, x3_7, rfl, HA, HJ7, BK256, HB⟩ := hcut
  cases kq with
  | zero => exact absurd HA.out (by simp [spec_PutCtl.j0])
  | succ kj7 =>
   have H := HA.out
   clear HA
   simp only [spec_PutCtl.j0] at H
   obtain ⟨y261, hy261⟩ : ∃ y_ : List Int, y_ = (([(a0_0) % 256, (a0_1) % 256] : List Int)) := ⟨_, rfl⟩
   rw [← hy261] at H
   have Ny261 := Aside0.mk hy261
   clear hy261
   replace H := bd_ H
   obtain ⟨t264, A11, H⟩ := H
   obtain ⟨y267, hy267⟩ : ∃ y_ : List Int, y_ = (([(a0_3) % 256, (a0_4) % 256, (x3_7) % 256] : List Int)) := ⟨_, rfl⟩
   replace H := mk_ H hy267
   (try dsimp only at H)
   have Ny267 := Aside0.mk hy267
   clear hy267
   replace H := ip_ H
   obtain ⟨c12, H, -⟩ := H
   have LMc12 := Aside0.mk c12
   clear c12
   obtain ⟨y270, hy270⟩ : ∃ y_ : List Int, y_ = (t264 ++ y267) := ⟨_, rfl⟩
   replace H : ((spec_PutWord.f y270 a0_6).bind fun t273 => ((some (([((l0_7.length : Int)) % 256] : List Int) : List Int)).bind fun y276 => (if t273.length + y276.length < 140737488355328 then (spec_PutCtl.l0 kj7 (t273 ++ y276) 0 a0_0 a0_1 a0_2 a0_3 a0_4 a0_5 a0_6 l0_7) else (none)))) = some r := by first | (rw [hy270]; with_reducible exact H) | (have H2_ := (Option.bind_some _ _).symm.trans H; rw [hy270]; with_reducible exact H2_) | (have H2_ := (Option.bind_some _ _).symm.trans H; with_reducible exact H2_) | with_reducible exact H | (rw [hy270]; exact H) | exact H
   have Ny270 := Aside0.mk hy270
   clear hy270
   replace H := bd_ H
   obtain ⟨t273, A13, H⟩ := H
   obtain ⟨y276, hy276⟩ : ∃ y_ : List Int, y_ = (([((l0_7.length : Int)) % 256] : List Int)) := ⟨_, rfl⟩
   replace H := mk_ H hy276
   (try dsimp only at H)
   have Ny276 := Aside0.mk hy276
   clear hy276
   replace H := ip_ H
   obtain ⟨c14, H, -⟩ := H
   have LMc14 := Aside0.mk c14
   clear c14
   obtain ⟨y279, hy279⟩ : ∃ y_ : List Int, y_ = (t273 ++ y276) := ⟨_, rfl⟩
   replace H : (spec_PutCtl.l0 kj7 y279 0 a0_0 a0_1 a0_2 a0_3 a0_4 a0_5 a0_6 l0_7) = some r := by first | (rw [hy279]; with_reducible exact H) | (have H2_ := (Option.bind_some _ _).symm.trans H; rw [hy279]; with_reducible exact H2_) | (have H2_ := (Option.bind_some _ _).symm.trans H; with_reducible exact H2_) | with_reducible exact H | (rw [hy279]; exact H) | exact H
   have Ny279 := Aside0.mk hy279
   clear hy279
   have H' := Aside0.mk H
   clear H
   (try clear zK256)
   have zK256 := cz8 BK256.out
   (try clear fK256)
   have fK256 := fz8 BK256.out
   try go_wp2_with (first | ((with_reducible refine gate_dst (N := 19) rfl ?_); refine Kd.R_lit (Kd.int .u8) _ 5 ?hg (N := 19) ?hd (xs := ([(a0_0) % 256, (a0_1) % 256] : List Int)) (inner := [.int .u8 ((a0_0) % 256), .int .u8 ((a0_1) % 256)]) (ok := fun _ => True) (okp := fun _ => True) ?hr ?hp (fun _ hk => hk) trivial (Below.refl _ _) (Nat.le_refl _) (by simp) ?_; (case hd => rfl); (case hg => rfl); (case hr => first | (go_simp; done) | (go_simp; rfl)); (case hp => exact (Reps.one (show Kd.M (Kd.int .u8) _ _ _ ((a0_0) % 256) [.int .u8 ((a0_0) % 256)] from rfl) (Reps.one (show Kd.M (Kd.int .u8) _ _ _ ((a0_1) % 256) [.int .u8 ((a0_1) % 256)] from rfl) (Reps.none _ _)))); intro v262 w16 ho17 hb hg_ hnew_; clear hg_ hnew_; (first | rw [← Ny261.out] at ho17 | (simp only [Int.reduceToNat] at ho17; rw [← Ny261.out] at ho17)); have HO263 := am_ (Kd.R_lower ho17 (below_size (qB HB))); replace BK256 := bK_ BK256 hb; replace HB := bS_ HB hb; clear hb ho17; (try clear zK256); have zK256 := cz8 BK256.out; (try clear fK256); have fK256 := fz8 BK256.out; obtain ⟨Ao19, co19, eo19⟩ := Kd.R_slice HO263.out; subst eo19) | ((with_reducible refine gate_callee (f := 106) rfl ?_); refine gl_ (some 22) Try.func106 #[.slice Ao19 y261.length co19, .int .i64 a0_2] ?_; (with_reducible refine (spec_PutWord.calls _ _ y261 a0_2 t264 _ ?side1 ?side2 A11.out).mono ?_); (case side1 => exact qC ((Kd.R_reads' HO263.out).2.2)); (case side2 => exact (Kd.R_reads' HO263.out).2.1); rintro e w20 ⟨v265, rfl, ho0, hb⟩; refine ⟨_, rfl, ?_⟩; have HO266 := am_ (Kd.R_lower (Kd.R_new' ho0 (Kd.R_lt (qR HO263))) (below_size (qB HB))); replace HO263 := eA_ HO263 ho0 hb; replace BK256 := bK_ BK256 hb; replace HB := bS_ HB hb; (try clear hb); (try clear ho0); obtain ⟨Ao21, co21, eo21⟩ := Kd.R_slice HO266.out; subst eo21))
   replace HO263 := am_ (Kd.R_drew HO263.out)
   replace HO266 := am_ (Kd.R_drew HO266.out)
   replace BK256 := am_ (blk_drew BK256.out)
   replace HB := am_ (below_drew1 HB.out)
   refine start_ (n := 21) (S := fun w' => w'.cell? ⟨gb256, 0, none⟩ = some (.int .i64 a0_0) ∧ w'.cell? ⟨gb256, 1, none⟩ = some (.int .i64 a0_1) ∧ w'.cell? ⟨gb256, 2, none⟩ = some (.int .i64 a0_2) ∧ w'.cell? ⟨gb256, 3, none⟩ = some (.int .i64 a0_3) ∧ w'.cell? ⟨gb256, 4, none⟩ = some (.int .i64 a0_4) ∧ w'.cell? ⟨gb256, 5, none⟩ = some (.bool a0_5) ∧ w'.cell? ⟨gb256, 6, none⟩ = some (.int .i64 a0_6) ∧ w'.cell? ⟨gb256, 7, none⟩ = some (.slice A0_7 l0_7.length c0_7)) (ds := []) (rl [0,21]) (by kernel_rfl) rfl rfl (cz8 BK256.out) (fun hHeld => ?_); refine with_tabW spec_PutCtl.tab7 spec_PutCtl.bits7 (fun HT_ HW_ => ?_)
   generalize w20.drew = w22 at HO263 HO266 BK256 HB hHeld ⊢
   refine pq_ 0 23 HT_ (rl [1,20]) ?_
   refine pq_ 1 24 HT_ (rl [2,19]) ?_
   refine pq_ 4 27 HT_ (rl [2,2,1,16]) ?_
   refine pq_ 7 30 HT_ (rl [2,2,1,2,1,13]) ?_
   refine pq_ 8 31 HT_ (rl [2,2,1,2,2,12]) ?_
   refine pq_ 11 34 HT_ (rl [2,2,1,2,2,2,1,9]) ?_
   refine pq_ 14 37 HT_ (rl [2,2,1,2,2,2,1,2,1,6]) ?_
   refine tz_ (i := 2) (N := some 25) HT_ HW_ (rl [3,1,1,2,2,2,1,2,1,6]) rfl rfl hHeld ?_
   refine pq_ 3 26 HT_ (rl [5,2,2,2,1,2,1,6]) ?_
   refine tz_ (i := 5) (N := some 28) HT_ HW_ (rl [6,1,2,2,1,2,1,6]) rfl rfl hHeld ?_
   refine pq_ 6 29 HT_ (rl [9,2,1,2,1,6]) ?_
   refine tz_ (i := 12) (N := some 35) HT_ HW_ (rl [9,2,2,1,1,6]) rfl rfl hHeld ?_
   refine tz_ (i := 15) (N := some 38) HT_ HW_ (rl [9,2,2,1,2,5]) rfl rfl hHeld ?_
   refine pq_ 16 39 HT_ (rl [9,2,2,1,3,4]) ?_
   refine pq_ 17 40 HT_ (rl [9,2,2,1,4,3]) ?_
   refine join_ (σ := Value × Value × Value × Value) 2 (rl [19,2]) (fun s_ => [(32, s_.1), (33, s_.2.1), (36, s_.2.2.1), (41, s_.2.2.2)]) (fun s_ w' => (w'.cell? ⟨gb256, 0, none⟩ = some (.int .i64 a0_0) ∧ w'.cell? ⟨gb256, 1, none⟩ = some (.int .i64 a0_1) ∧ w'.cell? ⟨gb256, 2, none⟩ = some (.int .i64 a0_2) ∧ w'.cell? ⟨gb256, 3, none⟩ = some (.int .i64 a0_3) ∧ w'.cell? ⟨gb256, 4, none⟩ = some (.int .i64 a0_4) ∧ w'.cell? ⟨gb256, 5, none⟩ = some (.bool a0_5) ∧ w'.cell? ⟨gb256, 6, none⟩ = some (.int .i64 a0_6) ∧ w'.cell? ⟨gb256, 7, none⟩ = some (.slice A0_7 l0_7.length c0_7)) ∧ (Kd.R (Kd.int .u8) 5 w' w.heap.size (fun k_ => some k_ ≠ (s_.1 : Value).ownBlock ∧ some k_ ≠ (s_.2.1 : Value).ownBlock ∧ some k_ ≠ (s_.2.2.1 : Value).ownBlock ∧ some k_ ≠ (s_.2.2.2 : Value).ownBlock) (.slice Ao19 y261.length co19) y261) ∧ (Kd.R (Kd.int .u8) 5 w' w.heap.size (fun k_ => nb Ao19 y261.length co19 k_ ∧ some k_ ≠ (s_.2.1 : Value).ownBlock ∧ some k_ ≠ (s_.2.2.1 : Value).ownBlock ∧ some k_ ≠ (s_.2.2.2 : Value).ownBlock) s_.1 y267) ∧ (Kd.R (Kd.int .u8) 5 w' w.heap.size (fun k_ => nb Ao19 y261.length co19 k_ ∧ some k_ ≠ (s_.1 : Value).ownBlock ∧ some k_ ≠ (s_.2.2.1 : Value).ownBlock ∧ some k_ ≠ (s_.2.2.2 : Value).ownBlock) s_.2.1 y270) ∧ (Kd.R (Kd.int .u8) 5 w' w.heap.size (fun k_ => nb Ao19 y261.length co19 k_ ∧ some k_ ≠ (s_.1 : Value).ownBlock ∧ some k_ ≠ (s_.2.1 : Value).ownBlock ∧ some k_ ≠ (s_.2.2.2 : Value).ownBlock) s_.2.2.1 t273) ∧ (Kd.R (Kd.int .u8) 5 w' w.heap.size (fun k_ => nb Ao19 y261.length co19 k_ ∧ some k_ ≠ (s_.1 : Value).ownBlock ∧ some k_ ≠ (s_.2.1 : Value).ownBlock ∧ some k_ ≠ (s_.2.2.1 : Value).ownBlock) s_.2.2.2 y276) ∧ (w'.heap[gb256]? = some (.cells #[.int .i64 a0_0, .int .i64 a0_1, .int .i64 a0_2, .int .i64 a0_3, .int .i64 a0_4, .bool a0_5, .int .i64 a0_6, .slice A0_7 l0_7.length c0_7] 63 (0, 0))) ∧ (Below w.heap.size w w')) ?_ ?_
   rotate_left
   ·
    intro hCont
    refine two_ (i := 9) (j := 18) (Ni := some 32) (Nj := some 41) (rl [10,1,2,1,4,3]) (rl [9,2,2,1,5,2]) rfl rfl rfl rfl (two_of HT_.out (by kernel_rfl)) (by decide) (by decide) (fun K hK => ?_) (fun K hK => ?_)
    ·
     skip
     refine Kd.R_lit_step (Kd.int .u8) _ 5 ?hg (N := 32) ?hd (xs := ([(a0_3) % 256, (a0_4) % 256, (x3_7) % 256] : List Int)) (inner := [.int .u8 ((a0_3) % 256), .int .u8 ((a0_4) % 256), .int .u8 ((x3_7) % 256)]) (ok := fun _ => True) (okp := fun _ => True) ?hr ?hp (fun _ hk => hk) trivial (Below.refl _ _) (Nat.le_refl _) (by simp) ?_; (case hd => rfl); (case hg => rfl); (case hr => first | (go_simp; done) | (go_simp; rfl)); (case hp => exact (Reps.one (show Kd.M (Kd.int .u8) _ _ _ ((a0_3) % 256) [.int .u8 ((a0_3) % 256)] from rfl) (Reps.one (show Kd.M (Kd.int .u8) _ _ _ ((a0_4) % 256) [.int .u8 ((a0_4) % 256)] from rfl) (Reps.one (show Kd.M (Kd.int .u8) _ _ _ ((x3_7) % 256) [.int .u8 ((x3_7) % 256)] from rfl) (Reps.none _ _)))))
     intro v268 w23 ho24 hb hg_ hnew_
     clear hg_ hnew_
     (first | rw [← Ny267.out] at ho24 | (simp only [Int.reduceToNat] at ho24; rw [← Ny267.out] at ho24))
     have HO269 := am_ (Kd.R_lower (Kd.R_new' (Kd.R_new' ho24 (Kd.R_lt (qR HO263))) (Kd.R_lt (qR HO266))) (below_size (qB HB)))
     replace HO263 := eA_ HO263 ho24 hb
     replace HO266 := eA_ HO266 ho24 hb
     replace BK256 := bK_ BK256 hb
     replace HB := bS_ HB hb
     clear hb ho24
     obtain ⟨Ao26, co26, eo26⟩ := Kd.R_slice HO269.out
     (first | subst eo26 | (injection eo26 with f1_ f2_ f3_; have f4_ := f1_.symm; have f5_ := f3_.symm; clear f1_ f2_ f3_; subst f4_; subst f5_))
     refine hK.out _ _ (cz8 BK256.out) (fun hHeld => ?_)
     clear hK K
     refine nm_ (some 32) ?_
     refine two_ (i := 10) (j := 18) (Ni := some 33) (Nj := some 41) (rl [13,1,4,3]) (rl [10,1,2,1,5,2]) rfl rfl rfl rfl (two_of HT_.out (by kernel_rfl)) (by decide) (by decide) (fun K hK => ?_) (fun K hK => ?_)
     ·
      skip
      refine Kd.R_append_rows_step (Kd.int .u8) (w0 := w) w.heap.size (by rfl) (.tmp 23) (.tmp 32) 70 5 (.int .u8 0) 1 rfl Try.underlying70 info5 rfl (by decide) (by omega) (.slice Ao21 t264.length co21) t264 y267 _ _ _ (fun k_ => nb Ao19 y261.length co19 k_ ∧ nb Ao26 y267.length co26 k_) (fun _ => False) rfl rfl ?aO ?aR (fun _ _ h => h) (fun _ h => h.elim) ?aF ?aB ?aS ?aL ?_
      (case aR => exact qC ((Kd.R_reads' HO269.out).2.2))
      (case aB => exact (qB HB))
      (case aF => exact (fun k_ hk => ⟨Kd.fresh' (Kd.R_lt (qR HO263)) k_ hk, Kd.fresh' (Kd.R_lt (qR HO269)) k_ hk⟩))
      (case aO => exact (xR1_ HO266))
      (case aS => exact (below_size (qB HB)))
      (case aL => have := LMc12.out; omega)
      intro v271 w25 ho hb hg hat
      rw [← Ny270.out] at ho
      replace BK256 := kG_ BK256 HO266 hg
      replace HO263 := am_ (Kd.R_after (ok := (fun k_ => nb Ao26 y267.length co26 k_)) (xR1_ HO263) hg hat)
      replace HO269 := am_ (Kd.R_after (ok := (fun k_ => nb Ao19 y261.length co19 k_)) (xR1_ HO269) hg hat)
      replace HB := am_ (hb)
      have HO272 := am_ (ho)
      clear HO266
      clear ho hb hg hat
      obtain ⟨Ao27, co27, eo27⟩ := Kd.R_slice HO272.out
      (first | subst eo27 | (injection eo27 with f1_ f2_ f3_; have f4_ := f1_.symm; have f5_ := f3_.symm; clear f1_ f2_ f3_; subst f4_; subst f5_))
      refine hK.out _ _ (cz8 BK256.out) (fun hHeld => ?_)
      clear hK K
      refine nm_ (some 33) ?_
      refine two_ (i := 13) (j := 18) (Ni := some 36) (Nj := some 41) (rl [18,3]) (rl [13,1,5,2]) rfl rfl rfl rfl (two_of HT_.out (by kernel_rfl)) (by decide) (by decide) (fun K hK => ?_) (fun K hK => ?_)
      ·
       skip
       refine goes_ Try.func106 (by kernel_rfl) rfl #[.slice Ao27 y270.length co27, .int .i64 a0_6] (by rfl) rfl rfl la_ ?_
       with_reducible refine (spec_PutWord.calls _ _ y270 a0_6 t273 _ ?side1 ?side2 A13.out).mono ?_
       (case side1 => exact qC ((Kd.R_reads' HO272.out).2.2))
       (case side2 => exact (Kd.R_reads' HO272.out).2.1)
       rintro e w28 ⟨v274, rfl, ho0, hb⟩
       refine ⟨_, rfl, ?_⟩
       have HO275 := am_ (Kd.R_lower (Kd.R_new' (Kd.R_new' (Kd.R_new' ho0 (Kd.R_lt (qR HO263))) (Kd.R_lt (qR HO269))) (Kd.R_lt (qR HO272))) (below_size (qB HB)))
       replace HO263 := eA_ HO263 ho0 hb
       replace HO269 := eA_ HO269 ho0 hb
       replace HO272 := eA_ HO272 ho0 hb
       replace BK256 := bK_ BK256 hb
       replace HB := bS_ HB hb
       (try clear hb ho0)
       refine hK.out _ _ (cz8 BK256.out) (fun hHeld => ?_)
       clear hK K
       refine nm_ (some 36) ?_
       refine on_ HT_ (i := 18) (N := some 41) (rl [19,2]) (fun K hK => ?_)
       refine Kd.R_lit_step (Kd.int .u8) _ 5 ?hg (N := 41) ?hd (xs := ([((l0_7.length : Int)) % 256] : List Int)) (inner := [.int .u8 (((l0_7.length : Int)) % 256)]) (ok := fun _ => True) (okp := fun _ => True) ?hr ?hp (fun _ hk => hk) trivial (Below.refl _ _) (Nat.le_refl _) (by simp) ?_; (case hd => rfl); (case hg => rfl); (case hr => first | (go_simp; done) | (go_simp; rfl)); (case hp => exact (Reps.one (show Kd.M (Kd.int .u8) _ _ _ (((l0_7.length : Int)) % 256) [.int .u8 (((l0_7.length : Int)) % 256)] from rfl) (Reps.none _ _)))
       intro v277 w29 ho30 hb hg_ hnew_
       clear hg_ hnew_
       (first | rw [← Ny276.out] at ho30 | (simp only [Int.reduceToNat] at ho30; rw [← Ny276.out] at ho30))
       have HO278 := am_ (Kd.R_lower (Kd.R_new' (Kd.R_new' (Kd.R_new' (Kd.R_new' ho30 (Kd.R_lt (qR HO263))) (Kd.R_lt (qR HO269))) (Kd.R_lt (qR HO272))) (Kd.R_lt (qR HO275))) (below_size (qB HB)))
       replace HO263 := eA_ HO263 ho30 hb
       replace HO269 := eA_ HO269 ho30 hb
       replace HO272 := eA_ HO272 ho30 hb
       replace HO275 := eA_ HO275 ho30 hb
       replace BK256 := bK_ BK256 hb
       replace HB := bS_ HB hb
       clear hb ho30
       refine hK.out _ _ (cz8 BK256.out) (fun hHeld => ?_)
       clear hK K
       refine nm_ (some 41) ?_
       exact norm_ (by simp only [putAll, Act.put, List.setIfInBounds_toArray, List.set_cons_zero, List.set_cons_succ]) (hCont (.slice Ao26 y267.length co26, .slice Ao27 y270.length co27, v274, v277) _ ⟨hHeld, (xR1_ HO263), (xR1_ HO269), (xR1_ HO272), (xR1_ HO275), (xR1_ HO278), (qK BK256), (qB HB)⟩)
      ·
       skip
       refine Kd.R_lit_step (Kd.int .u8) _ 5 ?hg (N := 41) ?hd (xs := ([((l0_7.length : Int)) % 256] : List Int)) (inner := [.int .u8 (((l0_7.length : Int)) % 256)]) (ok := fun _ => True) (okp := fun _ => True) ?hr ?hp (fun _ hk => hk) trivial (Below.refl _ _) (Nat.le_refl _) (by simp) ?_; (case hd => rfl); (case hg => rfl); (case hr => first | (go_simp; done) | (go_simp; rfl)); (case hp => exact (Reps.one (show Kd.M (Kd.int .u8) _ _ _ (((l0_7.length : Int)) % 256) [.int .u8 (((l0_7.length : Int)) % 256)] from rfl) (Reps.none _ _)))
       intro v277 w27 ho28 hb hg_ hnew_
       clear hg_ hnew_
       (first | rw [← Ny276.out] at ho28 | (simp only [Int.reduceToNat] at ho28; rw [← Ny276.out] at ho28))
       have HO278 := am_ (Kd.R_lower (Kd.R_new' (Kd.R_new' (Kd.R_new' ho28 (Kd.R_lt (qR HO263))) (Kd.R_lt (qR HO269))) (Kd.R_lt (qR HO272))) (below_size (qB HB)))
       replace HO263 := eA_ HO263 ho28 hb
       replace HO269 := eA_ HO269 ho28 hb
       replace HO272 := eA_ HO272 ho28 hb
       replace BK256 := bK_ BK256 hb
       replace HB := bS_ HB hb
       clear hb ho28
       obtain ⟨Ao29, co29, eo29⟩ := Kd.R_slice HO272.out
       (first | subst eo29 | (injection eo29 with f1_ f2_ f3_; have f4_ := f1_.symm; have f5_ := f3_.symm; clear f1_ f2_ f3_; subst f4_; subst f5_))
       refine hK.out _ _ (cz8 BK256.out) (fun hHeld => ?_)
       clear hK K
       refine nm_ (some 41) ?_
       refine on_ HT_ (i := 13) (N := some 36) (rl [19,2]) (fun K hK => ?_)
       refine goes_ Try.func106 (by kernel_rfl) rfl #[.slice Ao29 y270.length co29, .int .i64 a0_6] (by rfl) rfl rfl la_ ?_
       with_reducible refine (spec_PutWord.calls _ _ y270 a0_6 t273 _ ?side1 ?side2 A13.out).mono ?_
       (case side1 => exact qC ((Kd.R_reads' HO272.out).2.2))
       (case side2 => exact (Kd.R_reads' HO272.out).2.1)
       rintro e w30 ⟨v274, rfl, ho0, hb⟩
       refine ⟨_, rfl, ?_⟩
       have HO275 := am_ (Kd.R_lower (Kd.R_new' (Kd.R_new' (Kd.R_new' (Kd.R_new' ho0 (Kd.R_lt (qR HO263))) (Kd.R_lt (qR HO269))) (Kd.R_lt (qR HO272))) (Kd.R_lt (qR HO278))) (below_size (qB HB)))
       replace HO263 := eA_ HO263 ho0 hb
       replace HO269 := eA_ HO269 ho0 hb
       replace HO272 := eA_ HO272 ho0 hb
       replace HO278 := eA_ HO278 ho0 hb
       replace BK256 := bK_ BK256 hb
       replace HB := bS_ HB hb
       (try clear hb ho0)
       refine hK.out _ _ (cz8 BK256.out) (fun hHeld => ?_)
       clear hK K
       refine nm_ (some 36) ?_
       exact norm_ (by simp only [putAll, Act.put, List.setIfInBounds_toArray, List.set_cons_zero, List.set_cons_succ]) (hCont (.slice Ao26 y267.length co26, .slice Ao29 y270.length co29, v274, v277) _ ⟨hHeld, (xR1_ HO263), (xR1_ HO269), (xR1_ HO272), (xR1_ HO275), (xR1_ HO278), (qK BK256), (qB HB)⟩)
     ·
      skip
      refine Kd.R_lit_step (Kd.int .u8) _ 5 ?hg (N := 41) ?hd (xs := ([((l0_7.length : Int)) % 256] : List Int)) (inner := [.int .u8 (((l0_7.length : Int)) % 256)]) (ok := fun _ => True) (okp := fun _ => True) ?hr ?hp (fun _ hk => hk) trivial (Below.refl _ _) (Nat.le_refl _) (by simp) ?_; (case hd => rfl); (case hg => rfl); (case hr => first | (go_simp; done) | (go_simp; rfl)); (case hp => exact (Reps.one (show Kd.M (Kd.int .u8) _ _ _ (((l0_7.length : Int)) % 256) [.int .u8 (((l0_7.length : Int)) % 256)] from rfl) (Reps.none _ _)))
      intro v277 w25 ho26 hb hg_ hnew_
      clear hg_ hnew_
      (first | rw [← Ny276.out] at ho26 | (simp only [Int.reduceToNat] at ho26; rw [← Ny276.out] at ho26))
      have HO278 := am_ (Kd.R_lower (Kd.R_new' (Kd.R_new' (Kd.R_new' ho26 (Kd.R_lt (qR HO263))) (Kd.R_lt (qR HO266))) (Kd.R_lt (qR HO269))) (below_size (qB HB)))
      replace HO263 := eA_ HO263 ho26 hb
      replace HO266 := eA_ HO266 ho26 hb
      replace HO269 := eA_ HO269 ho26 hb
      replace BK256 := bK_ BK256 hb
      replace HB := bS_ HB hb
      clear hb ho26
      obtain ⟨Ao28, co28, eo28⟩ := Kd.R_slice HO269.out
      (first | subst eo28 | (injection eo28 with f1_ f2_ f3_; have f4_ := f1_.symm; have f5_ := f3_.symm; clear f1_ f2_ f3_; subst f4_; subst f5_))
      refine hK.out _ _ (cz8 BK256.out) (fun hHeld => ?_)
      clear hK K
      refine nm_ (some 41) ?_
      refine on_ HT_ (i := 10) (N := some 33) (rl [13,1,5,2]) (fun K hK => ?_)
      refine Kd.R_append_rows_step (Kd.int .u8) (w0 := w) w.heap.size (by rfl) (.tmp 23) (.tmp 32) 70 5 (.int .u8 0) 1 rfl Try.underlying70 info5 rfl (by decide) (by omega) (.slice Ao21 t264.length co21) t264 y267 _ _ _ (fun k_ => nb Ao19 y261.length co19 k_ ∧ nb Ao28 y267.length co28 k_ ∧ nv v277 k_) (fun _ => False) rfl rfl ?aO ?aR (fun _ _ h => h) (fun _ h => h.elim) ?aF ?aB ?aS ?aL ?_
      (case aR => exact qC ((Kd.R_reads' HO269.out).2.2))
      (case aB => exact (qB HB))
      (case aF => exact (fun k_ hk => ⟨Kd.fresh' (Kd.R_lt (qR HO263)) k_ hk, Kd.fresh' (Kd.R_lt (qR HO269)) k_ hk, Kd.fresh' (Kd.R_lt (qR HO278)) k_ hk⟩))
      (case aO => exact (xR1_ HO266))
      (case aS => exact (below_size (qB HB)))
      (case aL => have := LMc12.out; omega)
      intro v271 w27 ho hb hg hat
      rw [← Ny270.out] at ho
      replace BK256 := kG_ BK256 HO266 hg
      replace HO263 := am_ (Kd.R_after (ok := (fun k_ => nb Ao28 y267.length co28 k_ ∧ nv v277 k_)) (xR1_ HO263) hg hat)
      replace HO269 := am_ (Kd.R_after (ok := (fun k_ => nb Ao19 y261.length co19 k_ ∧ nv v277 k_)) (xR1_ HO269) hg hat)
      replace HO278 := am_ (Kd.R_after (ok := (fun k_ => nb Ao19 y261.length co19 k_ ∧ nb Ao28 y267.length co28 k_)) (xR1_ HO278) hg hat)
      replace HB := am_ (hb)
      have HO272 := am_ (ho)
      clear HO266
      clear ho hb hg hat
      obtain ⟨Ao29, co29, eo29⟩ := Kd.R_slice HO272.out
      (first | subst eo29 | (injection eo29 with f1_ f2_ f3_; have f4_ := f1_.symm; have f5_ := f3_.symm; clear f1_ f2_ f3_; subst f4_; subst f5_))
      refine hK.out _ _ (cz8 BK256.out) (fun hHeld => ?_)
      clear hK K
      refine nm_ (some 33) ?_
      refine on_ HT_ (i := 13) (N := some 36) (rl [19,2]) (fun K hK => ?_)
      refine goes_ Try.func106 (by kernel_rfl) rfl #[.slice Ao29 y270.length co29, .int .i64 a0_6] (by rfl) rfl rfl la_ ?_
      with_reducible refine (spec_PutWord.calls _ _ y270 a0_6 t273 _ ?side1 ?side2 A13.out).mono ?_
      (case side1 => exact qC ((Kd.R_reads' HO272.out).2.2))
      (case side2 => exact (Kd.R_reads' HO272.out).2.1)
      rintro e w30 ⟨v274, rfl, ho0, hb⟩
      refine ⟨_, rfl, ?_⟩
      have HO275 := am_ (Kd.R_lower (Kd.R_new' (Kd.R_new' (Kd.R_new' (Kd.R_new' ho0 (Kd.R_lt (qR HO263))) (Kd.R_lt (qR HO269))) (Kd.R_lt (qR HO278))) (Kd.R_lt (qR HO272))) (below_size (qB HB)))
      replace HO263 := eA_ HO263 ho0 hb
      replace HO269 := eA_ HO269 ho0 hb
      replace HO278 := eA_ HO278 ho0 hb
      replace HO272 := eA_ HO272 ho0 hb
      replace BK256 := bK_ BK256 hb
      replace HB := bS_ HB hb
      (try clear hb ho0)
      refine hK.out _ _ (cz8 BK256.out) (fun hHeld => ?_)
      clear hK K
      refine nm_ (some 36) ?_
      exact norm_ (by simp only [putAll, Act.put, List.setIfInBounds_toArray, List.set_cons_zero, List.set_cons_succ]) (hCont (.slice Ao28 y267.length co28, .slice Ao29 y270.length co29, v274, v277) _ ⟨hHeld, (xR1_ HO263), (xR1_ HO269), (xR1_ HO272), (xR1_ HO275), (xR1_ HO278), (qK BK256), (qB HB)⟩)
    ·
     skip
     refine Kd.R_lit_step (Kd.int .u8) _ 5 ?hg (N := 41) ?hd (xs := ([((l0_7.length : Int)) % 256] : List Int)) (inner := [.int .u8 (((l0_7.length : Int)) % 256)]) (ok := fun _ => True) (okp := fun _ => True) ?hr ?hp (fun _ hk => hk) trivial (Below.refl _ _) (Nat.le_refl _) (by simp) ?_; (case hd => rfl); (case hg => rfl); (case hr => first | (go_simp; done) | (go_simp; rfl)); (case hp => exact (Reps.one (show Kd.M (Kd.int .u8) _ _ _ (((l0_7.length : Int)) % 256) [.int .u8 (((l0_7.length : Int)) % 256)] from rfl) (Reps.none _ _)))
     intro v277 w23 ho24 hb hg_ hnew_
     clear hg_ hnew_
     (first | rw [← Ny276.out] at ho24 | (simp only [Int.reduceToNat] at ho24; rw [← Ny276.out] at ho24))
     have HO278 := am_ (Kd.R_lower (Kd.R_new' (Kd.R_new' ho24 (Kd.R_lt (qR HO263))) (Kd.R_lt (qR HO266))) (below_size (qB HB)))
     replace HO263 := eA_ HO263 ho24 hb
     replace HO266 := eA_ HO266 ho24 hb
     replace BK256 := bK_ BK256 hb
     replace HB := bS_ HB hb
     clear hb ho24
     refine hK.out _ _ (cz8 BK256.out) (fun hHeld => ?_)
     clear hK K
     refine nm_ (some 41) ?_
     refine on_ HT_ (i := 9) (N := some 32) (rl [10,1,2,1,5,2]) (fun K hK => ?_)
     refine Kd.R_lit_step (Kd.int .u8) _ 5 ?hg (N := 32) ?hd (xs := ([(a0_3) % 256, (a0_4) % 256, (x3_7) % 256] : List Int)) (inner := [.int .u8 ((a0_3) % 256), .int .u8 ((a0_4) % 256), .int .u8 ((x3_7) % 256)]) (ok := fun _ => True) (okp := fun _ => True) ?hr ?hp (fun _ hk => hk) trivial (Below.refl _ _) (Nat.le_refl _) (by simp) ?_; (case hd => rfl); (case hg => rfl); (case hr => first | (go_simp; done) | (go_simp; rfl)); (case hp => exact (Reps.one (show Kd.M (Kd.int .u8) _ _ _ ((a0_3) % 256) [.int .u8 ((a0_3) % 256)] from rfl) (Reps.one (show Kd.M (Kd.int .u8) _ _ _ ((a0_4) % 256) [.int .u8 ((a0_4) % 256)] from rfl) (Reps.one (show Kd.M (Kd.int .u8) _ _ _ ((x3_7) % 256) [.int .u8 ((x3_7) % 256)] from rfl) (Reps.none _ _)))))
     intro v268 w25 ho26 hb hg_ hnew_
     clear hg_ hnew_
     (first | rw [← Ny267.out] at ho26 | (simp only [Int.reduceToNat] at ho26; rw [← Ny267.out] at ho26))
     have HO269 := am_ (Kd.R_lower (Kd.R_new' (Kd.R_new' (Kd.R_new' ho26 (Kd.R_lt (qR HO263))) (Kd.R_lt (qR HO266))) (Kd.R_lt (qR HO278))) (below_size (qB HB)))
     replace HO263 := eA_ HO263 ho26 hb
     replace HO266 := eA_ HO266 ho26 hb
     replace HO278 := eA_ HO278 ho26 hb
     replace BK256 := bK_ BK256 hb
     replace HB := bS_ HB hb
     clear hb ho26
     obtain ⟨Ao28, co28, eo28⟩ := Kd.R_slice HO269.out
     (first | subst eo28 | (injection eo28 with f1_ f2_ f3_; have f4_ := f1_.symm; have f5_ := f3_.symm; clear f1_ f2_ f3_; subst f4_; subst f5_))
     refine hK.out _ _ (cz8 BK256.out) (fun hHeld => ?_)
     clear hK K
     refine nm_ (some 32) ?_
     refine on_ HT_ (i := 10) (N := some 33) (rl [13,1,5,2]) (fun K hK => ?_)
     refine Kd.R_append_rows_step (Kd.int .u8) (w0 := w) w.heap.size (by rfl) (.tmp 23) (.tmp 32) 70 5 (.int .u8 0) 1 rfl Try.underlying70 info5 rfl (by decide) (by omega) (.slice Ao21 t264.length co21) t264 y267 _ _ _ (fun k_ => nb Ao19 y261.length co19 k_ ∧ nv v277 k_ ∧ nb Ao28 y267.length co28 k_) (fun _ => False) rfl rfl ?aO ?aR (fun _ _ h => h) (fun _ h => h.elim) ?aF ?aB ?aS ?aL ?_
     (case aR => exact qC ((Kd.R_reads' HO269.out).2.2))
     (case aB => exact (qB HB))
     (case aF => exact (fun k_ hk => ⟨Kd.fresh' (Kd.R_lt (qR HO263)) k_ hk, Kd.fresh' (Kd.R_lt (qR HO278)) k_ hk, Kd.fresh' (Kd.R_lt (qR HO269)) k_ hk⟩))
     (case aO => exact (xR1_ HO266))
     (case aS => exact (below_size (qB HB)))
     (case aL => have := LMc12.out; omega)
     intro v271 w27 ho hb hg hat
     rw [← Ny270.out] at ho
     replace BK256 := kG_ BK256 HO266 hg
     replace HO263 := am_ (Kd.R_after (ok := (fun k_ => nv v277 k_ ∧ nb Ao28 y267.length co28 k_)) (xR1_ HO263) hg hat)
     replace HO278 := am_ (Kd.R_after (ok := (fun k_ => nb Ao19 y261.length co19 k_ ∧ nb Ao28 y267.length co28 k_)) (xR1_ HO278) hg hat)
     replace HO269 := am_ (Kd.R_after (ok := (fun k_ => nb Ao19 y261.length co19 k_ ∧ nv v277 k_)) (xR1_ HO269) hg hat)
     replace HB := am_ (hb)
     have HO272 := am_ (ho)
     clear HO266
     clear ho hb hg hat
     obtain ⟨Ao29, co29, eo29⟩ := Kd.R_slice HO272.out
     (first | subst eo29 | (injection eo29 with f1_ f2_ f3_; have f4_ := f1_.symm; have f5_ := f3_.symm; clear f1_ f2_ f3_; subst f4_; subst f5_))
     refine hK.out _ _ (cz8 BK256.out) (fun hHeld => ?_)
     clear hK K
     refine nm_ (some 33) ?_
     refine on_ HT_ (i := 13) (N := some 36) (rl [19,2]) (fun K hK => ?_)
     refine goes_ Try.func106 (by kernel_rfl) rfl #[.slice Ao29 y270.length co29, .int .i64 a0_6] (by rfl) rfl rfl la_ ?_
     with_reducible refine (spec_PutWord.calls _ _ y270 a0_6 t273 _ ?side1 ?side2 A13.out).mono ?_
     (case side1 => exact qC ((Kd.R_reads' HO272.out).2.2))
     (case side2 => exact (Kd.R_reads' HO272.out).2.1)
     rintro e w30 ⟨v274, rfl, ho0, hb⟩
     refine ⟨_, rfl, ?_⟩
     have HO275 := am_ (Kd.R_lower (Kd.R_new' (Kd.R_new' (Kd.R_new' (Kd.R_new' ho0 (Kd.R_lt (qR HO263))) (Kd.R_lt (qR HO278))) (Kd.R_lt (qR HO269))) (Kd.R_lt (qR HO272))) (below_size (qB HB)))
     replace HO263 := eA_ HO263 ho0 hb
     replace HO278 := eA_ HO278 ho0 hb
     replace HO269 := eA_ HO269 ho0 hb
     replace HO272 := eA_ HO272 ho0 hb
     replace BK256 := bK_ BK256 hb
     replace HB := bS_ HB hb
     (try clear hb ho0)
     refine hK.out _ _ (cz8 BK256.out) (fun hHeld => ?_)
     clear hK K
     refine nm_ (some 36) ?_
     exact norm_ (by simp only [putAll, Act.put, List.setIfInBounds_toArray, List.set_cons_zero, List.set_cons_succ]) (hCont (.slice Ao28 y267.length co28, .slice Ao29 y270.length co29, v274, v277) _ ⟨hHeld, (xR1_ HO263), (xR1_ HO269), (xR1_ HO272), (xR1_ HO275), (xR1_ HO278), (qK BK256), (qB HB)⟩)
   rintro ⟨v268, v271, v274, v277⟩ w31 ⟨hS_, h0_, h1_, h2_, h3_, h4_, h5_, h6_⟩
   have n0_ : Aside0 (Kd.R (Kd.int .u8) 5 w31 w.heap.size (fun k_ => nv v268 k_ ∧ nv v271 k_ ∧ nv v274 k_ ∧ nv v277 k_) (.slice Ao19 y261.length co19) y261) := ⟨h0_⟩
   have n1_ : Aside0 (Kd.R (Kd.int .u8) 5 w31 w.heap.size (fun k_ => nb Ao19 y261.length co19 k_ ∧ nv v271 k_ ∧ nv v274 k_ ∧ nv v277 k_) v268 y267) := ⟨h1_⟩
   have n2_ : Aside0 (Kd.R (Kd.int .u8) 5 w31 w.heap.size (fun k_ => nb Ao19 y261.length co19 k_ ∧ nv v268 k_ ∧ nv v274 k_ ∧ nv v277 k_) v271 y270) := ⟨h2_⟩
   have n3_ : Aside0 (Kd.R (Kd.int .u8) 5 w31 w.heap.size (fun k_ => nb Ao19 y261.length co19 k_ ∧ nv v268 k_ ∧ nv v271 k_ ∧ nv v277 k_) v274 t273) := ⟨h3_⟩
   have n4_ : Aside0 (Kd.R (Kd.int .u8) 5 w31 w.heap.size (fun k_ => nb Ao19 y261.length co19 k_ ∧ nv v268 k_ ∧ nv v271 k_ ∧ nv v274 k_) v277 y276) := ⟨h4_⟩
   have n5_ : Aside0 (w31.heap[gb256]? = some (.cells #[.int .i64 a0_0, .int .i64 a0_1, .int .i64 a0_2, .int .i64 a0_3, .int .i64 a0_4, .bool a0_5, .int .i64 a0_6, .slice A0_7 l0_7.length c0_7] 63 (0, 0))) := ⟨h5_⟩
   have n6_ : Aside0 (Below w.heap.size w w31) := ⟨h6_⟩
   clear HO263
   clear HO266
   clear BK256
   clear HB
   clear h0_ h1_ h2_ h3_ h4_ h5_ h6_
   have HO263 := n0_
   have HO269 := n1_
   have HO272 := n2_
   have HO275 := n3_
   have HO278 := n4_
   have BK256 := n5_
   have HB := n6_
   clear n0_ n1_ n2_ n3_ n4_ n5_ n6_
   have hHeld : w31.cell? ⟨gb256, 0, none⟩ = some (.int .i64 a0_0) ∧ w31.cell? ⟨gb256, 1, none⟩ = some (.int .i64 a0_1) ∧ w31.cell? ⟨gb256, 2, none⟩ = some (.int .i64 a0_2) ∧ w31.cell? ⟨gb256, 3, none⟩ = some (.int .i64 a0_3) ∧ w31.cell? ⟨gb256, 4, none⟩ = some (.int .i64 a0_4) ∧ w31.cell? ⟨gb256, 5, none⟩ = some (.bool a0_5) ∧ w31.cell? ⟨gb256, 6, none⟩ = some (.int .i64 a0_6) ∧ w31.cell? ⟨gb256, 7, none⟩ = some (.slice A0_7 l0_7.length c0_7) := hS_
   obtain ⟨Ao33, co33, eo33⟩ := Kd.R_slice HO278.out
   (first | subst eo33 | (injection eo33 with f1_ f2_ f3_; have f4_ := f1_.symm; have f5_ := f3_.symm; clear f1_ f2_ f3_; subst f4_; subst f5_))
   refine norm_ (a' := ?_) ?_ ?_
   rotate_left
   ·
    simp only [putAll, Act.put, List.setIfInBounds_toArray, List.set_cons_zero, List.set_cons_succ]
    rfl
   refine on_ HT_ (i := 19) (N := some 42) (rl [20,1]) (fun K hK => ?_)
   refine Kd.R_append_rows_step (Kd.int .u8) (w0 := w) w.heap.size (by rfl) (.tmp 36) (.tmp 41) 70 5 (.int .u8 0) 1 rfl Try.underlying70 info5 rfl (by decide) (by omega) v274 t273 y276 _ _ _ (fun k_ => nb Ao19 y261.length co19 k_ ∧ nv v268 k_ ∧ nv v271 k_ ∧ nb Ao33 y276.length co33 k_) (fun _ => False) rfl rfl ?aO ?aR (fun _ _ h => h) (fun _ h => h.elim) ?aF ?aB ?aS ?aL ?_
   (case aR => exact qC ((Kd.R_reads' HO278.out).2.2))
   (case aB => exact (qB HB))
   (case aF => exact (fun k_ hk => ⟨Kd.fresh' (Kd.R_lt (qR HO263)) k_ hk, Kd.fresh' (Kd.R_lt (qR HO269)) k_ hk, Kd.fresh' (Kd.R_lt (qR HO272)) k_ hk, Kd.fresh' (Kd.R_lt (qR HO278)) k_ hk⟩))
   (case aO => exact (qR HO275))
   (case aS => exact (below_size (qB HB)))
   (case aL => have := LMc14.out; omega)
   intro v280 w32 ho hb hg hat
   rw [← Ny279.out] at ho
   replace BK256 := kG_ BK256 HO275 hg
   replace HO263 := am_ (Kd.R_after (ok := (fun k_ => nv v268 k_ ∧ nv v271 k_ ∧ nb Ao33 y276.length co33 k_)) (xR1_ HO263) hg hat)
   replace HO269 := am_ (Kd.R_after (ok := (fun k_ => nb Ao19 y261.length co19 k_ ∧ nv v271 k_ ∧ nb Ao33 y276.length co33 k_)) (xR1_ HO269) hg hat)
   replace HO272 := am_ (Kd.R_after (ok := (fun k_ => nb Ao19 y261.length co19 k_ ∧ nv v268 k_ ∧ nb Ao33 y276.length co33 k_)) (xR1_ HO272) hg hat)
   replace HO278 := am_ (Kd.R_after (ok := (fun k_ => nb Ao19 y261.length co19 k_ ∧ nv v268 k_ ∧ nv v271 k_)) (xR1_ HO278) hg hat)
   replace HB := am_ (hb)
   have HO281 := am_ (ho)
   clear HO275
   clear ho hb hg hat
   refine hK.out _ _ (cz8 BK256.out) (fun hHeld => ?_)
   clear hK K
   refine nm_ (some 42) ?_
   refine pq_ 20 4 HT_ (rl [21]) ?_
   refine done_ (done_of HT_.out (by kernel_rfl)) ?_
   try go_wp2
   go_loopg [4, 5] kj7 (fun kq v4 v5 w' => ∃ (x4_2 : List Int) (x5_2 : Int), v5 = .int .i64 x5_2 ∧ Aside0 (spec_PutCtl.l0 kq x4_2 x5_2 a0_0 a0_1 a0_2 a0_3 a0_4 a0_5 a0_6 l0_7 = some r) ∧ Aside0 (kq ≤ kj7) ∧ Aside0 (Kd.R (Kd.int .u8) 5 w' w.heap.size (fun _ => True) v4 x4_2) ∧ Aside0 (w'.heap[gb256]? = some (.cells #[.int .i64 a0_0, .int .i64 a0_1, .int .i64 a0_2, .int .i64 a0_3, .int .i64 a0_4, .bool a0_5, .int .i64 a0_6, (.slice A0_7 l0_7.length c0_7)] 63 (0, 0))) ∧ Aside0 (Below w.heap.size w w'))
   case atStart => exact ⟨(y279), (0), eqq_, H', ⟨Nat.le_refl _⟩, xR_ HO281, ⟨qK BK256⟩, ⟨qB HB⟩⟩
   case round =>
    clear H'
    try clear c1
    try clear p2
    try clear c10
    try clear c12
    try clear c14
    obtain ⟨x4_2, x5_2, rfl, HA, HK2, HO_4, BK256, HB⟩ := hrel
    cases gk with
    | zero => exact absurd HA.out (by simp [spec_PutCtl.l0])
    | succ k2 =>
     have H := HA.out
     clear HA
     simp only [spec_PutCtl.l0] at H
     replace H := id_ H
     obtain ⟨-, H, c34b0⟩ | ⟨-, H, c34b0⟩ := H
     rotate_left
     ·
      replace H := bd_ H
      obtain ⟨t295, A47, H⟩ := H
      replace H := bd_ H
      obtain ⟨t296, A48, H⟩ := H
      obtain rfl := Option.some.inj H
      (try clear zK256)
      have zK256 := cz8 BK256.out
      obtain ⟨Ao50, co50, eo50⟩ := Kd.R_slice HO_4.out
      subst eo50
      go_wp2_with (first | ((with_reducible refine gate_callee (f := 107) rfl ?_); refine gl_ (some 66) Try.func107 #[.slice Ao50 x4_2.length co50] ?_; (with_reducible refine (spec_Sum.calls k2 _ _ x4_2 t295 _ ?side1 ?side2 A47.out).mono ?_); (case side1 => exact qC ((Kd.R_reads' HO_4.out).2.2)); (case side2 => exact (Kd.R_reads' HO_4.out).2.1); rintro e w' ⟨rfl, ⟨nd, rfl⟩⟩; refine ⟨_, rfl, ?_⟩) | ((with_reducible refine gate_callee (f := 106) rfl ?_); refine gl_ (some 67) Try.func106 #[.slice Ao50 x4_2.length co50, .int .i64 t295] ?_; (with_reducible refine (spec_PutWord.calls _ _ x4_2 t295 t296 _ ?side1 ?side2 A48.out).mono ?_); (case side1 => exact qC ((Kd.R_reads' HO_4.out).2.2)); (case side2 => exact (Kd.R_reads' HO_4.out).2.1); rintro e w51 ⟨v297, rfl, ho0, hb⟩; refine ⟨_, rfl, ?_⟩; have HO298 := am_ (Kd.R_lower (Kd.R_new' ho0 (Kd.R_lt (qR HO_4))) (below_size (qB HB))); replace HO_4 := eA_ HO_4 ho0 hb; replace BK256 := bK_ BK256 hb; replace HB := bS_ HB hb; (try clear hb); (try clear ho0)))
      go_ret
      exact ⟨_, er_, (xR1_ HO298), qB HB⟩
     replace H := ip_ H
     obtain ⟨-, H, c35b0⟩ := H
     replace H := bd_ H
     obtain ⟨t283, A36, H⟩ := H
     obtain ⟨y286, hy286⟩ : ∃ y_ : List Int, y_ = (([((t283.length : Int)) % 256] : List Int)) := ⟨_, rfl⟩
     replace H := mk_ H hy286
     (try dsimp only at H)
     have Ny286 := Aside0.mk hy286
     clear hy286
     replace H := ip_ H
     obtain ⟨c37, H, -⟩ := H
     have LMc37 := Aside0.mk c37
     clear c37
     obtain ⟨y289, hy289⟩ : ∃ y_ : List Int, y_ = (x4_2 ++ y286) := ⟨_, rfl⟩
     replace H := mk_ H hy289
     (try dsimp only at H)
     have Ny289 := Aside0.mk hy289
     clear hy289
     replace H := ip_ H
     obtain ⟨c38, H, -⟩ := H
     have LMc38 := Aside0.mk c38
     clear c38
     obtain ⟨y292, hy292⟩ : ∃ y_ : List Int, y_ = (y289 ++ t283) := ⟨_, rfl⟩
     replace H : (spec_PutCtl.l0 k2 y292 (wrap64 (x5_2 + 1)) a0_0 a0_1 a0_2 a0_3 a0_4 a0_5 a0_6 l0_7) = some r := by first | (rw [hy292]; with_reducible exact H) | (have H2_ := (Option.bind_some _ _).symm.trans H; rw [hy292]; with_reducible exact H2_) | (have H2_ := (Option.bind_some _ _).symm.trans H; with_reducible exact H2_) | with_reducible exact H | (rw [hy292]; exact H) | exact H
     have Ny292 := Aside0.mk hy292
     clear hy292
     have H' := Aside0.mk H
     clear H
     (try clear zK256)
     have zK256 := cz8 BK256.out
     have p282 : 0 ≤ (x5_2 : Int) := od_
     have q282 : x5_2 < (l0_7.length : Int) := od_
     obtain ⟨ad282, e282, hx282_0, hx282_1, hx282_2, hx282_3, hx282_4, hx282_5, hx282_6, hx282_7, hx282_8, hx282_9, hx282_10, hx282_11, hx282_12, hx282_13, hx282_14, hx282_15⟩ := at_T126 HR0_7.out x5_2 p282 q282
     cases e282
     replace hx282_0 := lb_ HB hx282_0
     replace hx282_1 := lb_ HB hx282_1
     replace hx282_2 := lb_ HB hx282_2
     replace hx282_3 := lb_ HB hx282_3
     replace hx282_4 := lb_ HB hx282_4
     replace hx282_5 := lb_ HB hx282_5
     replace hx282_6 := lb_ HB hx282_6
     replace hx282_7 := lb_ HB hx282_7
     replace hx282_8 := lb_ HB hx282_8
     replace hx282_9 := lb_ HB hx282_9
     replace hx282_10 := lb_ HB hx282_10
     replace hx282_11 := lb_ HB hx282_11
     replace hx282_12 := lb_ HB hx282_12
     replace hx282_13 := lb_ HB hx282_13
     replace hx282_14 := lb_ HB hx282_14
     replace hx282_15 := lb_ HB hx282_15
     replace p282 := eq_true p282
     replace q282 := eq_true q282
     go_wp2_with (first | ((with_reducible refine gate_callee (f := 105) rfl ?_); refine gl_ (some 55) Try.func105 #[.agg #[.int .i64 ((rd_T126 l0_7 x5_2).f0), .int .i64 ((rd_T126 l0_7 x5_2).f1.f0), .string ((rd_T126 l0_7 x5_2).f1.f1), .int .i64 ((rd_T126 l0_7 x5_2).f1.f2), .int .i64 ((rd_T126 l0_7 x5_2).f1.f3), .int .i64 ((rd_T126 l0_7 x5_2).f1.f4), .string ((rd_T126 l0_7 x5_2).f1.f5), .int .i64 ((rd_T126 l0_7 x5_2).f1.f6), .int .i64 ((rd_T126 l0_7 x5_2).f1.f7), .int .i64 ((rd_T126 l0_7 x5_2).f2.f0), .string ((rd_T126 l0_7 x5_2).f2.f1), .int .i64 ((rd_T126 l0_7 x5_2).f2.f2), .int .i64 ((rd_T126 l0_7 x5_2).f2.f3), .int .i64 ((rd_T126 l0_7 x5_2).f2.f4), .int .i64 ((rd_T126 l0_7 x5_2).f2.f5), .int .i64 ((rd_T126 l0_7 x5_2).f2.f6)]] ?_; (with_reducible refine (spec_PutItem.calls k2 ((rd_T126 l0_7 x5_2).f0) ((rd_T126 l0_7 x5_2).f1.f0) ((rd_T126 l0_7 x5_2).f1.f1) ((rd_T126 l0_7 x5_2).f1.f2) ((rd_T126 l0_7 x5_2).f1.f3) ((rd_T126 l0_7 x5_2).f1.f4) ((rd_T126 l0_7 x5_2).f1.f5) ((rd_T126 l0_7 x5_2).f1.f6) ((rd_T126 l0_7 x5_2).f1.f7) ((rd_T126 l0_7 x5_2).f2.f0) ((rd_T126 l0_7 x5_2).f2.f1) ((rd_T126 l0_7 x5_2).f2.f2) ((rd_T126 l0_7 x5_2).f2.f3) ((rd_T126 l0_7 x5_2).f2.f4) ((rd_T126 l0_7 x5_2).f2.f5) ((rd_T126 l0_7 x5_2).f2.f6) t283 _ A36.out).mono ?_); rintro e w40 ⟨v284, rfl, ho0, hb⟩; refine ⟨_, rfl, ?_⟩; have HO285 := am_ (Kd.R_lower (Kd.R_new' ho0 (Kd.R_lt (qR HO_4))) (below_size (qB HB))); replace HO_4 := eA_ HO_4 ho0 hb; replace BK256 := bK_ BK256 hb; replace HB := bS_ HB hb; (try clear hb); (try clear ho0); obtain ⟨Ao41, co41, eo41⟩ := Kd.R_slice HO285.out; subst eo41) | ((with_reducible refine gate_dst (N := 60) rfl ?_); refine Kd.R_lit (Kd.int .u8) _ 5 ?hg (N := 60) ?hd (xs := ([((t283.length : Int)) % 256] : List Int)) (inner := [.int .u8 (((t283.length : Int)) % 256)]) (ok := fun _ => True) (okp := fun _ => True) ?hr ?hp (fun _ hk => hk) trivial (Below.refl _ _) (Nat.le_refl _) (by simp) ?_; (case hd => rfl); (case hg => rfl); (case hr => first | (go_simp; done) | (go_simp; rfl)); (case hp => exact (Reps.one (show Kd.M (Kd.int .u8) _ _ _ (((t283.length : Int)) % 256) [.int .u8 (((t283.length : Int)) % 256)] from rfl) (Reps.none _ _))); intro v287 w42 ho43 hb hg_ hnew_; clear hg_ hnew_; (first | rw [← Ny286.out] at ho43 | (simp only [Int.reduceToNat] at ho43; rw [← Ny286.out] at ho43)); have HO288 := am_ (Kd.R_lower (Kd.R_new' (Kd.R_new' ho43 (Kd.R_lt (qR HO_4))) (Kd.R_lt (qR HO285))) (below_size (qB HB))); replace HO_4 := eA_ HO_4 ho43 hb; replace HO285 := eA_ HO285 ho43 hb; replace BK256 := bK_ BK256 hb; replace HB := bS_ HB hb; clear hb ho43; obtain ⟨Ao45, co45, eo45⟩ := Kd.R_slice HO288.out; subst eo45) | ((with_reducible refine gate_builtin (b := .append) (xs := #[.tmp 56, .tmp 60]) rfl ?_); at_builtin; refine Kd.R_append_rows (Kd.int .u8) (w0 := w) w.heap.size rfl (.tmp 56) (.tmp 60) 70 5 (.int .u8 0) 1 rfl Try.underlying70 info5 rfl (by decide) (by omega) u4 x4_2 y286 _ _ _ (fun k_ => nb Ao41 t283.length co41 k_ ∧ nb Ao45 y286.length co45 k_) (fun _ => False) rfl rfl ?aO ?aR (fun _ _ h => h) (fun _ h => h.elim) ?aF ?aB ?aS ?aL ?_; (case aR => exact qC ((Kd.R_reads' HO288.out).2.2)); (case aB => exact (qB HB)); (case aF => exact (fun k_ hk => ⟨Kd.fresh' (Kd.R_lt (qR HO285)) k_ hk, Kd.fresh' (Kd.R_lt (qR HO288)) k_ hk⟩)); (case aO => exact (xR1_ HO_4)); (case aS => exact (below_size (qB HB))); (case aL => have := LMc37.out; omega); intro v290 w44 ho hb hg hat; rw [← Ny289.out] at ho; replace BK256 := kG_ BK256 HO_4 hg; replace HO285 := am_ (Kd.R_after (ok := (fun k_ => nb Ao45 y286.length co45 k_)) (xR1_ HO285) hg hat); replace HO288 := am_ (Kd.R_after (ok := (fun k_ => nb Ao41 t283.length co41 k_)) (xR1_ HO288) hg hat); replace HB := am_ (hb); have HO291 := am_ (ho); clear HO_4; clear ho hb hg hat) | ((with_reducible refine gate_builtin (b := .append) (xs := #[.tmp 61, .tmp 62]) rfl ?_); at_builtin; refine Kd.R_append_rows (Kd.int .u8) (w0 := w) w.heap.size rfl (.tmp 61) (.tmp 62) 70 5 (.int .u8 0) 1 rfl Try.underlying70 info5 rfl (by decide) (by omega) v290 y289 t283 _ _ _ (fun k_ => nb Ao41 t283.length co41 k_ ∧ nb Ao45 y286.length co45 k_) (fun _ => False) rfl rfl ?aO ?aR (fun _ _ h => h) (fun _ h => h.elim) ?aF ?aB ?aS ?aL ?_; (case aR => exact qC ((Kd.R_reads' HO285.out).2.2)); (case aB => exact (qB HB)); (case aF => exact (fun k_ hk => ⟨Kd.fresh' (Kd.R_lt (qR HO285)) k_ hk, Kd.fresh' (Kd.R_lt (qR HO288)) k_ hk⟩)); (case aO => exact (qR HO291)); (case aS => exact (below_size (qB HB))); (case aL => have := LMc38.out; omega); intro v293 w46 ho hb hg hat; rw [← Ny292.out] at ho; replace BK256 := kG_ BK256 HO291 hg; replace HO285 := aR_ HO285 hg hat; replace HO288 := aR_ HO288 hg hat; replace HB := am_ (hb); have HO294 := am_ (ho); clear HO291; clear ho hb hg hat))
     go_roundg k2
     case measure => have := HJ7.out; have := HK2.out; omega
     case rel => exact ⟨(y292), (wrap64 (x5_2 + 1)), eqq_, H', ⟨by have := HJ7.out; have := HK2.out; omega⟩, xR_ HO294, ⟨qK BK256⟩, ⟨qB HB⟩⟩

end Go.Proofs.Ytiffahfpfgnjnab.PFnExactGetCtl
