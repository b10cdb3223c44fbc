-- Written by a program of this session (myprint.py, over the kit's print): contracts of FnWays
import Derived.Test.YtiffahfpfgnjnaaPFnWaysx0
import Derived.Test.YtiffahfpfgnjnaaPFnWaysx5
import Derived.Test.YtiffahfpfgnjnaaPFnWaysx6
import Derived.Test.YtiffahfpfgnjnaaPFnWaysx7
import Derived.Test.YtiffahfpfgnjnaaPFnWaysx8
namespace Go.Proofs.Ytiffahfpfgnjnaa.PFnWays
open Go.RowKit Go.Proofs.YtiffahfpfgnjnaaW.PrintWords Go.Proofs.YtiffahfpfgnjnaaW.PrintLast Go.Proofs.YtiffahfpfgnjnaaW.PrintMore Go.Proofs.YtiffahfpfgnjnaaV
attribute [local go_sem] max2_int min2_int max_two min_two max_three min_three max_four min_four   -- for this text's walks alone
set_option linter.unusedVariables false
set_option linter.unusedSimpArgs false

/-! ### spec_PutCtl: function 107 -/
mutual
def spec_PutCtl.j0 : Nat → Int → Int → Int → Int → Int → Int → Bool → Int → List (S29) → Option (List Int)
 | 0, _, _, _, _, _, _, _, _, _ => none
 | k + 1, x3, x279000, x279001, x279002, x279003, x279004, x279005, x279006, x279007 => (spec_PutWord.f (([(x279000) % 256, (x279001) % 256] : List Int)) x279002).bind fun t286 => ((some (([(x279003) % 256, (x279004) % 256, (x3) % 256] : List Int) : List Int)).bind fun y289 => (if t286.length + y289.length < 140737488355328 then ((spec_PutWord.f (t286 ++ y289) x279006).bind fun t295 => ((some (([((x279007.length : Int)) % 256] : List Int) : List Int)).bind fun y298 => (if t295.length + y298.length < 140737488355328 then (spec_PutCtl.l0 k (t295 ++ y298) 0 x279000 x279001 x279002 x279003 x279004 x279005 x279006 x279007) else (none)))) else (none)))
def spec_PutCtl.l0 : Nat → List Int → Int → Int → Int → Int → Int → Int → Bool → Int → List (S29) → Option (List Int)
 | 0, _, _, _, _, _, _, _, _, _, _ => none
 | k + 1, x4, x5, x279000, x279001, x279002, x279003, x279004, x279005, x279006, x279007 => if x5 < (x279007.length : Int) then (if 0 ≤ x5 then ((spec_PutItem.f k ((rd_T29 x279007 x5).f0) ((rd_T29 x279007 x5).f1.f0) ((rd_T29 x279007 x5).f1.f1) ((rd_T29 x279007 x5).f1.f2) ((rd_T29 x279007 x5).f1.f3) ((rd_T29 x279007 x5).f1.f4) ((rd_T29 x279007 x5).f1.f5) ((rd_T29 x279007 x5).f1.f6) ((rd_T29 x279007 x5).f1.f7) ((rd_T29 x279007 x5).f2.f0) ((rd_T29 x279007 x5).f2.f1) ((rd_T29 x279007 x5).f2.f2) ((rd_T29 x279007 x5).f2.f3) ((rd_T29 x279007 x5).f2.f4) ((rd_T29 x279007 x5).f2.f5) ((rd_T29 x279007 x5).f2.f6)).bind fun t305 => ((some (([((t305.length : Int)) % 256] : List Int) : List Int)).bind fun y308 => (if x4.length + y308.length < 140737488355328 then ((some (x4 ++ y308 : List Int)).bind fun y311 => (if y311.length + t305.length < 140737488355328 then (spec_PutCtl.l0 k (y311 ++ t305) (wrap64 (x5 + 1)) x279000 x279001 x279002 x279003 x279004 x279005 x279006 x279007) else (none))) else (none)))) else (none)) else ((spec_Sum.f k x4).bind fun t317 => ((spec_PutWord.f x4 t317).bind fun t318 => (some t318)))
end
def spec_PutCtl.f (k : Nat) (a0_0 : Int) (a0_1 : Int) (a0_2 : Int) (a0_3 : Int) (a0_4 : Int) (a0_5 : Bool) (a0_6 : Int) (l0_7 : List (S29)) : Option (List Int) := (spec_CtlOk.f k a0_0 a0_1 a0_2 a0_3 a0_4 a0_5 a0_6 l0_7).bind fun t279 => (if t279 = true then (if a0_5 = true then (spec_PutCtl.j0 k 1 a0_0 a0_1 a0_2 a0_3 a0_4 a0_5 a0_6 l0_7) else (spec_PutCtl.j0 k 0 a0_0 a0_1 a0_2 a0_3 a0_4 a0_5 a0_6 l0_7)) else (some (([] : List Int))))
theorem spec_PutCtl.mono_l : ∀ k, (∀ y0 y1 y2 y3 y4 y5 y6 y7 y8, LeO (spec_PutCtl.j0 k y0 y1 y2 y3 y4 y5 y6 y7 y8) (spec_PutCtl.j0 (k + 1) y0 y1 y2 y3 y4 y5 y6 y7 y8)) ∧ (∀ y0 y1 y2 y3 y4 y5 y6 y7 y8 y9, LeO (spec_PutCtl.l0 k y0 y1 y2 y3 y4 y5 y6 y7 y8 y9) (spec_PutCtl.l0 (k + 1) y0 y1 y2 y3 y4 y5 y6 y7 y8 y9))
 | 0 => ⟨fun _ _ _ _ _ _ _ _ _ r h => by simp [spec_PutCtl.j0] at h, fun _ _ _ _ _ _ _ _ _ _ r h => by simp [spec_PutCtl.l0] at h⟩
 | k + 1 => by
  obtain ⟨ih0, ih1⟩ := spec_PutCtl.mono_l k
  refine ⟨?_, ?_⟩
  ·
   intro y0 y1 y2 y3 y4 y5 y6 y7 y8
   unfold spec_PutCtl.j0
   have m0 := @spec_CtlOk.mono; have m1 := @spec_PutItem.mono; have m2 := @spec_Sum.mono; exact mo_
  ·
   intro y0 y1 y2 y3 y4 y5 y6 y7 y8 y9
   unfold spec_PutCtl.l0
   have m0 := @spec_CtlOk.mono; have m1 := @spec_PutItem.mono; have m2 := @spec_Sum.mono; exact mo_
theorem spec_PutCtl.mono : ∀ a0 a1 a2 a3 a4 a5 a6 a7 k, LeO (spec_PutCtl.f k a0 a1 a2 a3 a4 a5 a6 a7) (spec_PutCtl.f (k + 1) a0 a1 a2 a3 a4 a5 a6 a7) := by
 intro a0 a1 a2 a3 a4 a5 a6 a7 k
 obtain ⟨ih0, ih1⟩ := spec_PutCtl.mono_l k
 unfold spec_PutCtl.f
 have m0 := @spec_CtlOk.mono; have m1 := @spec_PutItem.mono; have m2 := @spec_Sum.mono; exact mo_
def spec_PutCtl.T7 : Bool × List (List Nat × List Nat) := (true, [([], []), ([], []), ([1], [1]), ([2], [2]), ([], []), ([4], [4]), ([5], [5]), ([], []), ([7], [7]), ([3, 6, 8], [3, 6, 8]), ([0, 9], [0, 9]), ([], []), ([11], [11]), ([10, 12, 10], [10, 12]), ([], []), ([14], [14]), ([15], [15]), ([16], [16]), ([17], [17]), ([13, 18, 13], [13, 18]), ([19, 19, 0, 1, 2, 3, 4, 5, 6, 7, 8, 9, 10, 11, 12, 13, 14, 15, 16, 17, 18, 19], [0, 19])])
def spec_PutCtl.B7 : List Nat := [0, 0, 2, 6, 0, 16, 48, 0, 128, 510, 1023, 0, 2048, 8191, 0, 16384, 49152, 114688, 245760, 524287, 1048575]
theorem spec_PutCtl.tab7 : rtab .any (opsOf Try.f107 7) = spec_PutCtl.T7 := by kernel_rfl
theorem spec_PutCtl.bits7 : waitsOk spec_PutCtl.T7.2 spec_PutCtl.B7 = true := by kernel_rfl
set_option maxHeartbeats 8000000 in
set_option maxRecDepth 100000 in
theorem spec_PutCtl.calls (k : Nat) (a0_0 : Int) (a0_1 : Int) (a0_2 : Int) (a0_3 : Int) (a0_4 : Int) (a0_5 : Bool) (a0_6 : Int) (A0_7 : Option Addr) (c0_7 : Nat) (l0_7 : List (S29)) (r : List Int) (w : World) (hr0_7 : Kd.C k29 w A0_7 l0_7.length l0_7) (hc0_7 : l0_7.length ≤ c0_7) (h : spec_PutCtl.f k a0_0 a0_1 a0_2 a0_3 a0_4 a0_5 a0_6 l0_7 = some r) :
  Calls Try.prog 107 #[.agg #[.int .i64 a0_0, .int .i64 a0_1, .int .i64 a0_2, .int .i64 a0_3, .int .i64 a0_4, .bool a0_5, .int .i64 a0_6, .slice A0_7 l0_7.length c0_7]] w fun e w' => ∃ v0_ : Value, e = .returned (v0_) ∧ Kd.R (Kd.int .u8) 5 w' w.heap.size (fun _ => True) v0_ r ∧ Below w.heap.size w w' := by
 have hu75 := Try.underlying75
 have hu29 := Try.underlying29
 have HR0_7 := Aside0.mk hr0_7
 have HC0_7 := Aside0.mk hc0_7
 clear hr0_7 hc0_7
 have HB := Aside0.mk (Below.refl w.heap.size w)
 have H := h
 unfold spec_PutCtl.f at H
 clear h
 replace H := bd_ H
 obtain ⟨t279, A2, H⟩ := H
 have HC3 := Aside0.mk H
 clear H
 go_enter Try.func107, Try.ntmps107
 go_upto_if 9 with (first | ((with_reducible refine gate_dst (N := 1) rfl ?_); refine bx_ (N := 1) (cs := #[.int .i64 a0_0, .int .i64 a0_1, .int .i64 a0_2, .int .i64 a0_3, .int .i64 a0_4, .bool a0_5, .int .i64 a0_6, .slice A0_7 l0_7.length c0_7]) (t := 75) ?_; intro gb278 hg w4 hbox hb; have BK278 := am_ (hbox); have GW278 := gA_ hg HB; have GE278 := GW278; have IGE278 := gI_ GE278; replace HB := bS_ HB hb; clear hb hbox hg; (try clear zK278); have zK278 := cz8 BK278.out; (try clear fK278); have fK278 := fz8 BK278.out) | ((with_reducible refine gate_callee (f := 57) rfl ?_); refine gl_ (some 8) Try.func57 #[.agg #[.int .i64 a0_0, .int .i64 a0_1, .int .i64 a0_2, .int .i64 a0_3, .int .i64 a0_4, .bool a0_5, .int .i64 a0_6, .slice A0_7 l0_7.length c0_7]] ?_; (with_reducible refine (spec_CtlOk.calls k a0_0 a0_1 a0_2 a0_3 a0_4 a0_5 a0_6 _ _ l0_7 t279 _ ?side1 ?side2 A2.out).mono ?_); (case side1 => exact qC (Kd.C_below HR0_7.out HB.out)); (case side2 => exact HC0_7.out); rintro e w6 ⟨rfl, hb⟩; refine ⟨_, rfl, ?_⟩; replace BK278 := bK_ BK278 hb; replace HB := bS_ HB hb; (try clear hb)))
 (try simp only [Act.put, List.setIfInBounds_toArray, List.set_cons_zero, List.set_cons_succ])
 have H := HC3.out
 clear HC3
 by_cases c7 : t279 = true
 rotate_left
 ·
  replace c7 := Bool.eq_false_iff.mpr c7
  subst c7
  rw [if_neg (show ¬ (false = true) by decide)] at H
  obtain ⟨y280, hy280⟩ : ∃ y_ : List Int, y_ = (([] : List Int)) := ⟨_, rfl⟩
  rw [← hy280] at H
  have Ny280 := Aside0.mk hy280
  clear hy280
  obtain rfl := Option.some.inj H
  go_wp2_with (first | ((with_reducible refine gate_dst (N := 10) rfl ?_); refine Kd.R_lit (Kd.int .u8) _ 5 ?hg (N := 10) ?hd (xs := ([] : List Int)) (inner := []) (ok := fun _ => True) (okp := fun _ => True) ?hr ?hp (fun _ hk => hk) trivial (Below.refl _ _) (Nat.le_refl _) (by simp) ?_; (case hd => rfl); (case hg => rfl); (case hr => first | (go_simp; done) | (go_simp; rfl)); (case hp => exact (Reps.none _ _)); intro v281 w52 ho53 hb hg_ hnew_; clear hg_ hnew_; (first | rw [← Ny280.out] at ho53 | (simp only [Int.reduceToNat] at ho53; rw [← Ny280.out] at ho53)); have HO282 := am_ (Kd.R_lower ho53 (below_size (qB HB))); replace BK278 := bK_ BK278 hb; replace HB := bS_ HB hb; clear hb ho53))
  go_ret
  exact ⟨_, er_, qR HO282, qB HB⟩
 subst c7
 rw [if_pos rfl] at H
 have HC8 := Aside0.mk H
 clear H
 (try clear zK278)
 have zK278 := cz8 BK278.out
 (try clear fK278)
 have fK278 := fz8 BK278.out
 go_upto_if 12 with (fail)
 go_cut [3] (fun v3 wc => ∃ (kq : Nat) (x3_7 : Int), v3 = .int .i64 x3_7 ∧ Aside0 (spec_PutCtl.j0 kq x3_7 a0_0 a0_1 a0_2 a0_3 a0_4 a0_5 a0_6 l0_7 = some r) ∧ Aside0 (kq ≤ k) ∧ Aside0 (wc.heap[gb278]? = some (.cells #[.int .i64 a0_0, .int .i64 a0_1, .int .i64 a0_2, .int .i64 a0_3, .int .i64 a0_4, .bool a0_5, .int .i64 a0_6, (.slice A0_7 l0_7.length c0_7)] 75 (0, 0))) ∧ Aside0 (Below w.heap.size w wc))
 case first =>
  have H := HC8.out
  clear HC8
  by_cases c10 : a0_5 = true
  ·
   subst c10
   rw [if_pos rfl] at H
   have H' := Aside0.mk H
   clear H
   go_wp2
   go_meet
   case rel => exact ⟨_, (1), eqq_, H', ⟨by first | omega | exact Nat.le_refl _⟩, ⟨qK BK278⟩, ⟨qB HB⟩⟩
  replace c10 := Bool.eq_false_iff.mpr c10
  subst c10
  rw [if_neg (show ¬ (false = true) by decide)] at H
  have H' := Aside0.mk H
  clear H
  go_wp2
  go_meet
  case rel => exact ⟨_, (0), eqq_, H', ⟨by first | omega | exact Nat.le_refl _⟩, ⟨qK BK278⟩, ⟨qB HB⟩⟩
 case rest =>
  clear HC8
  try clear c1
  try clear p2
  try clear c5
  try clear c7
  try clear c10
  (try clear zK278)
  (try clear zK278)
  (try clear fK278)
  (try clear fK278)
  obtain ⟨kq, x3_7, rfl, HA, HJ7, BK278, HB⟩ := hcut
  cases kq with
  | zero => exact absurd HA.out (by simp [spec_PutCtl.j0])
  | succ kj7 =>
   have H := HA.out
   clear HA
   simp only [spec_PutCtl.j0] at H
   obtain ⟨y283, hy283⟩ : ∃ y_ : List Int, y_ = (([(a0_0) % 256, (a0_1) % 256] : List Int)) := ⟨_, rfl⟩
   rw [← hy283] at H
   have Ny283 := Aside0.mk hy283
   clear hy283
   replace H := bd_ H
   obtain ⟨t286, A11, H⟩ := H
   obtain ⟨y289, hy289⟩ : ∃ y_ : List Int, y_ = (([(a0_3) % 256, (a0_4) % 256, (x3_7) % 256] : List Int)) := ⟨_, rfl⟩
   replace H := mk_ H hy289
   (try dsimp only at H)
   have Ny289 := Aside0.mk hy289
   clear hy289
   by_cases c12 : t286.length + y289.length < 140737488355328
   case neg => exact nn_ c12 H
   rw [if_pos c12] at H
   have LMc12 := Aside0.mk c12
   clear c12
   obtain ⟨y292, hy292⟩ : ∃ y_ : List Int, y_ = (t286 ++ y289) := ⟨_, rfl⟩
   replace H : ((spec_PutWord.f y292 a0_6).bind fun t295 => ((some (([((l0_7.length : Int)) % 256] : List Int) : List Int)).bind fun y298 => (if t295.length + y298.length < 140737488355328 then (spec_PutCtl.l0 kj7 (t295 ++ y298) 0 a0_0 a0_1 a0_2 a0_3 a0_4 a0_5 a0_6 l0_7) else (none)))) = some r := by first | (rw [hy292]; with_reducible exact H) | (have H2_ := (Option.bind_some _ _).symm.trans H; rw [hy292]; with_reducible exact H2_) | (have H2_ := (Option.bind_some _ _).symm.trans H; with_reducible exact H2_) | with_reducible exact H | (rw [hy292]; exact H) | exact H
   have Ny292 := Aside0.mk hy292
   clear hy292
   replace H := bd_ H
   obtain ⟨t295, A13, H⟩ := H
   obtain ⟨y298, hy298⟩ : ∃ y_ : List Int, y_ = (([((l0_7.length : Int)) % 256] : List Int)) := ⟨_, rfl⟩
   replace H := mk_ H hy298
   (try dsimp only at H)
   have Ny298 := Aside0.mk hy298
   clear hy298
   by_cases c14 : t295.length + y298.length < 140737488355328
   case neg => exact nn_ c14 H
   rw [if_pos c14] at H
   have LMc14 := Aside0.mk c14
   clear c14
   obtain ⟨y301, hy301⟩ : ∃ y_ : List Int, y_ = (t295 ++ y298) := ⟨_, rfl⟩
   replace H : (spec_PutCtl.l0 kj7 y301 0 a0_0 a0_1 a0_2 a0_3 a0_4 a0_5 a0_6 l0_7) = some r := by first | (rw [hy301]; with_reducible exact H) | (have H2_ := (Option.bind_some _ _).symm.trans H; rw [hy301]; with_reducible exact H2_) | (have H2_ := (Option.bind_some _ _).symm.trans H; with_reducible exact H2_) | with_reducible exact H | (rw [hy301]; exact H) | exact H
   have Ny301 := Aside0.mk hy301
   clear hy301
   have H' := Aside0.mk H
   clear H
   (try clear zK278)
   have zK278 := cz8 BK278.out
   (try clear fK278)
   have fK278 := fz8 BK278.out
   try go_wp2_with (first | ((with_reducible refine gate_dst (N := 19) rfl ?_); refine Kd.R_lit (Kd.int .u8) _ 5 ?hg (N := 19) ?hd (xs := ([(a0_0) % 256, (a0_1) % 256] : List Int)) (inner := [.int .u8 ((a0_0) % 256), .int .u8 ((a0_1) % 256)]) (ok := fun _ => True) (okp := fun _ => True) ?hr ?hp (fun _ hk => hk) trivial (Below.refl _ _) (Nat.le_refl _) (by simp) ?_; (case hd => rfl); (case hg => rfl); (case hr => first | (go_simp; done) | (go_simp; rfl)); (case hp => exact (Reps.one (show Kd.M (Kd.int .u8) _ _ _ ((a0_0) % 256) [.int .u8 ((a0_0) % 256)] from rfl) (Reps.one (show Kd.M (Kd.int .u8) _ _ _ ((a0_1) % 256) [.int .u8 ((a0_1) % 256)] from rfl) (Reps.none _ _)))); intro v284 w16 ho17 hb hg_ hnew_; clear hg_ hnew_; (first | rw [← Ny283.out] at ho17 | (simp only [Int.reduceToNat] at ho17; rw [← Ny283.out] at ho17)); have HO285 := am_ (Kd.R_lower ho17 (below_size (qB HB))); replace BK278 := bK_ BK278 hb; replace HB := bS_ HB hb; clear hb ho17; (try clear zK278); have zK278 := cz8 BK278.out; (try clear fK278); have fK278 := fz8 BK278.out; obtain ⟨Ao19, co19, eo19⟩ := Kd.R_slice HO285.out; subst eo19) | ((with_reducible refine gate_callee (f := 89) rfl ?_); refine gl_ (some 22) Try.func89 #[.slice Ao19 y283.length co19, .int .i64 a0_2] ?_; (with_reducible refine (spec_PutWord.calls _ _ y283 a0_2 t286 _ ?side1 ?side2 A11.out).mono ?_); (case side1 => exact qC ((Kd.R_reads' HO285.out).2.2)); (case side2 => exact (Kd.R_reads' HO285.out).2.1); rintro e w20 ⟨v287, rfl, ho0, hb⟩; refine ⟨_, rfl, ?_⟩; have HO288 := am_ (Kd.R_lower (Kd.R_new' ho0 (Kd.R_lt (qR HO285))) (below_size (qB HB))); replace HO285 := eA_ HO285 ho0 hb; replace BK278 := bK_ BK278 hb; replace HB := bS_ HB hb; (try clear hb); (try clear ho0); obtain ⟨Ao21, co21, eo21⟩ := Kd.R_slice HO288.out; subst eo21))
   replace HO285 := am_ (Kd.R_drew HO285.out)
   replace HO288 := am_ (Kd.R_drew HO288.out)
   replace BK278 := am_ (blk_drew BK278.out)
   replace HB := am_ (below_drew1 HB.out)
   refine start_ (n := 21) (S := fun w' => w'.cell? ⟨gb278, 0, none⟩ = some (.int .i64 a0_0) ∧ w'.cell? ⟨gb278, 1, none⟩ = some (.int .i64 a0_1) ∧ w'.cell? ⟨gb278, 2, none⟩ = some (.int .i64 a0_2) ∧ w'.cell? ⟨gb278, 3, none⟩ = some (.int .i64 a0_3) ∧ w'.cell? ⟨gb278, 4, none⟩ = some (.int .i64 a0_4) ∧ w'.cell? ⟨gb278, 5, none⟩ = some (.bool a0_5) ∧ w'.cell? ⟨gb278, 6, none⟩ = some (.int .i64 a0_6) ∧ w'.cell? ⟨gb278, 7, none⟩ = some (.slice A0_7 l0_7.length c0_7)) (ds := []) (rl [0,21]) (by kernel_rfl) rfl rfl (cz8 BK278.out) (fun hHeld => ?_); refine with_tabW spec_PutCtl.tab7 spec_PutCtl.bits7 (fun HT_ HW_ => ?_)
   generalize w20.drew = w22 at HO285 HO288 BK278 HB hHeld ⊢
   refine pz_ (i := 0) (N := some 23) HT_ (rl [1,20]) rfl rfl ?_
   refine pz_ (i := 1) (N := some 24) HT_ (rl [2,19]) rfl rfl ?_
   refine pz_ (i := 4) (N := some 27) HT_ (rl [2,2,1,16]) rfl rfl ?_
   refine pz_ (i := 7) (N := some 30) HT_ (rl [2,2,1,2,1,13]) rfl rfl ?_
   refine pz_ (i := 8) (N := some 31) HT_ (rl [2,2,1,2,2,12]) rfl rfl ?_
   refine pz_ (i := 11) (N := some 34) HT_ (rl [2,2,1,2,2,2,1,9]) rfl rfl ?_
   refine pz_ (i := 14) (N := some 37) HT_ (rl [2,2,1,2,2,2,1,2,1,6]) rfl rfl ?_
   refine tz_ (i := 2) (N := some 25) HT_ HW_ (rl [3,1,1,2,2,2,1,2,1,6]) rfl rfl hHeld ?_
   refine pz_ (i := 3) (N := some 26) HT_ (rl [5,2,2,2,1,2,1,6]) rfl rfl ?_
   refine tz_ (i := 5) (N := some 28) HT_ HW_ (rl [6,1,2,2,1,2,1,6]) rfl rfl hHeld ?_
   refine pz_ (i := 6) (N := some 29) HT_ (rl [9,2,1,2,1,6]) rfl rfl ?_
   refine tz_ (i := 12) (N := some 35) HT_ HW_ (rl [9,2,2,1,1,6]) rfl rfl hHeld ?_
   refine tz_ (i := 15) (N := some 38) HT_ HW_ (rl [9,2,2,1,2,5]) rfl rfl hHeld ?_
   refine pz_ (i := 16) (N := some 39) HT_ (rl [9,2,2,1,3,4]) rfl rfl ?_
   refine pz_ (i := 17) (N := some 40) HT_ (rl [9,2,2,1,4,3]) rfl rfl ?_
   refine join_ (σ := Value × Value × Value × Value) 2 (rl [19,2]) (fun s_ => [(32, s_.1), (33, s_.2.1), (36, s_.2.2.1), (41, s_.2.2.2)]) (fun s_ w' => (w'.cell? ⟨gb278, 0, none⟩ = some (.int .i64 a0_0) ∧ w'.cell? ⟨gb278, 1, none⟩ = some (.int .i64 a0_1) ∧ w'.cell? ⟨gb278, 2, none⟩ = some (.int .i64 a0_2) ∧ w'.cell? ⟨gb278, 3, none⟩ = some (.int .i64 a0_3) ∧ w'.cell? ⟨gb278, 4, none⟩ = some (.int .i64 a0_4) ∧ w'.cell? ⟨gb278, 5, none⟩ = some (.bool a0_5) ∧ w'.cell? ⟨gb278, 6, none⟩ = some (.int .i64 a0_6) ∧ w'.cell? ⟨gb278, 7, none⟩ = some (.slice A0_7 l0_7.length c0_7)) ∧ (Kd.R (Kd.int .u8) 5 w' w.heap.size (fun k_ => some k_ ≠ (s_.1 : Value).ownBlock ∧ some k_ ≠ (s_.2.1 : Value).ownBlock ∧ some k_ ≠ (s_.2.2.1 : Value).ownBlock ∧ some k_ ≠ (s_.2.2.2 : Value).ownBlock) (.slice Ao19 y283.length co19) y283) ∧ (Kd.R (Kd.int .u8) 5 w' w.heap.size (fun k_ => some k_ ≠ (.slice Ao19 y283.length co19 : Value).ownBlock ∧ some k_ ≠ (s_.2.1 : Value).ownBlock ∧ some k_ ≠ (s_.2.2.1 : Value).ownBlock ∧ some k_ ≠ (s_.2.2.2 : Value).ownBlock) s_.1 y289) ∧ (Kd.R (Kd.int .u8) 5 w' w.heap.size (fun k_ => some k_ ≠ (.slice Ao19 y283.length co19 : Value).ownBlock ∧ some k_ ≠ (s_.1 : Value).ownBlock ∧ some k_ ≠ (s_.2.2.1 : Value).ownBlock ∧ some k_ ≠ (s_.2.2.2 : Value).ownBlock) s_.2.1 y292) ∧ (Kd.R (Kd.int .u8) 5 w' w.heap.size (fun k_ => some k_ ≠ (.slice Ao19 y283.length co19 : Value).ownBlock ∧ some k_ ≠ (s_.1 : Value).ownBlock ∧ some k_ ≠ (s_.2.1 : Value).ownBlock ∧ some k_ ≠ (s_.2.2.2 : Value).ownBlock) s_.2.2.1 t295) ∧ (Kd.R (Kd.int .u8) 5 w' w.heap.size (fun k_ => some k_ ≠ (.slice Ao19 y283.length co19 : Value).ownBlock ∧ some k_ ≠ (s_.1 : Value).ownBlock ∧ some k_ ≠ (s_.2.1 : Value).ownBlock ∧ some k_ ≠ (s_.2.2.1 : Value).ownBlock) s_.2.2.2 y298) ∧ (w'.heap[gb278]? = some (.cells #[.int .i64 a0_0, .int .i64 a0_1, .int .i64 a0_2, .int .i64 a0_3, .int .i64 a0_4, .bool a0_5, .int .i64 a0_6, .slice A0_7 l0_7.length c0_7] 75 (0, 0))) ∧ (Below w.heap.size w w')) ?_ ?_
   rotate_left
   ·
    intro hCont
    refine two_ (i := 9) (j := 18) (Ni := some 32) (Nj := some 41) (rl [10,1,2,1,4,3]) (rl [9,2,2,1,5,2]) rfl rfl rfl rfl (two_of HT_.out (by kernel_rfl)) (by decide) (by decide) (fun K hK => ?_) (fun K hK => ?_)
    ·
     skip
     refine Kd.R_lit_step (Kd.int .u8) _ 5 ?hg (N := 32) ?hd (xs := ([(a0_3) % 256, (a0_4) % 256, (x3_7) % 256] : List Int)) (inner := [.int .u8 ((a0_3) % 256), .int .u8 ((a0_4) % 256), .int .u8 ((x3_7) % 256)]) (ok := fun _ => True) (okp := fun _ => True) ?hr ?hp (fun _ hk => hk) trivial (Below.refl _ _) (Nat.le_refl _) (by simp) ?_; (case hd => rfl); (case hg => rfl); (case hr => first | (go_simp; done) | (go_simp; rfl)); (case hp => exact (Reps.one (show Kd.M (Kd.int .u8) _ _ _ ((a0_3) % 256) [.int .u8 ((a0_3) % 256)] from rfl) (Reps.one (show Kd.M (Kd.int .u8) _ _ _ ((a0_4) % 256) [.int .u8 ((a0_4) % 256)] from rfl) (Reps.one (show Kd.M (Kd.int .u8) _ _ _ ((x3_7) % 256) [.int .u8 ((x3_7) % 256)] from rfl) (Reps.none _ _)))))
     intro v290 w23 ho24 hb hg_ hnew_
     clear hg_ hnew_
     (first | rw [← Ny289.out] at ho24 | (simp only [Int.reduceToNat] at ho24; rw [← Ny289.out] at ho24))
     have HO291 := am_ (Kd.R_lower (Kd.R_new' (Kd.R_new' ho24 (Kd.R_lt (qR HO285))) (Kd.R_lt (qR HO288))) (below_size (qB HB)))
     replace HO285 := eA_ HO285 ho24 hb
     replace HO288 := eA_ HO288 ho24 hb
     replace BK278 := bK_ BK278 hb
     replace HB := bS_ HB hb
     clear hb ho24
     obtain ⟨Ao26, co26, eo26⟩ := Kd.R_slice HO291.out
     (first | subst eo26 | (injection eo26 with f1_ f2_ f3_; have f4_ := f1_.symm; have f5_ := f3_.symm; clear f1_ f2_ f3_; subst f4_; subst f5_))
     refine hK.out _ _ (cz8 BK278.out) (fun hHeld => ?_)
     clear hK K
     refine norm_ (a' := ?_) ?_ ?_
     rotate_left
     ·
      show Act.put _ (some 32) _ = _
      exact ap_
     refine two_ (i := 10) (j := 18) (Ni := some 33) (Nj := some 41) (rl [13,1,4,3]) (rl [10,1,2,1,5,2]) rfl rfl rfl rfl (two_of HT_.out (by kernel_rfl)) (by decide) (by decide) (fun K hK => ?_) (fun K hK => ?_)
     ·
      skip
      refine Kd.R_append_rows_step (Kd.int .u8) (w0 := w) w.heap.size (by rfl) (.tmp 23) (.tmp 32) 22 5 (.int .u8 0) 1 rfl Try.underlying22 info5 rfl (by decide) (by omega) (.slice Ao21 t286.length co21) t286 y289 _ _ _ (fun k_ => some k_ ≠ (.slice Ao19 y283.length co19 : Value).ownBlock ∧ some k_ ≠ (.slice Ao26 y289.length co26 : Value).ownBlock) (fun _ => False) rfl rfl ?aO ?aR (fun _ _ h => h) (fun _ h => h.elim) ?aF ?aB ?aS ?aL ?_
      (case aR => exact qC ((Kd.R_reads' HO291.out).2.2))
      (case aB => exact (qB HB))
      (case aF => exact (fun k_ hk => ⟨Kd.fresh' (Kd.R_lt (qR HO285)) k_ hk, Kd.fresh' (Kd.R_lt (qR HO291)) k_ hk⟩))
      (case aO => exact (tR (Kd.R_mono HO288.out (fun _ hk => ⟨hk.1.2, hk.2⟩))))
      (case aS => exact (below_size (qB HB)))
      (case aL => have := LMc12.out; omega)
      intro v293 w25 ho hb hg hat
      rw [← Ny292.out] at ho
      replace BK278 := am_ (blk_grown (qK BK278) hg (Kd.R_ne HO288.out BK278.out (by decide)))
      replace HO285 := am_ (Kd.R_after (ok := (fun k_ => some k_ ≠ (.slice Ao26 y289.length co26 : Value).ownBlock)) (tR (Kd.R_mono HO285.out (fun _ hk => ⟨hk.2, hk.1.2⟩))) hg hat)
      replace HO291 := am_ (Kd.R_after (ok := (fun k_ => some k_ ≠ (.slice Ao19 y283.length co19 : Value).ownBlock)) (tR (Kd.R_mono HO291.out (fun _ hk => ⟨hk.1.2, hk.2⟩))) hg hat)
      replace HB := am_ (hb)
      have HO294 := am_ (ho)
      clear HO288
      clear ho hb hg hat
      obtain ⟨Ao27, co27, eo27⟩ := Kd.R_slice HO294.out
      (first | subst eo27 | (injection eo27 with f1_ f2_ f3_; have f4_ := f1_.symm; have f5_ := f3_.symm; clear f1_ f2_ f3_; subst f4_; subst f5_))
      refine hK.out _ _ (cz8 BK278.out) (fun hHeld => ?_)
      clear hK K
      refine norm_ (a' := ?_) ?_ ?_
      rotate_left
      ·
       show Act.put _ (some 33) _ = _
       exact ap_
      refine two_ (i := 13) (j := 18) (Ni := some 36) (Nj := some 41) (rl [18,3]) (rl [13,1,5,2]) rfl rfl rfl rfl (two_of HT_.out (by kernel_rfl)) (by decide) (by decide) (fun K hK => ?_) (fun K hK => ?_)
      ·
       skip
       refine goes_ Try.func89 (by kernel_rfl) rfl #[.slice Ao27 y292.length co27, .int .i64 a0_6] (by rfl) rfl rfl la_ ?_
       with_reducible refine (spec_PutWord.calls _ _ y292 a0_6 t295 _ ?side1 ?side2 A13.out).mono ?_
       (case side1 => exact qC ((Kd.R_reads' HO294.out).2.2))
       (case side2 => exact (Kd.R_reads' HO294.out).2.1)
       rintro e w28 ⟨v296, rfl, ho0, hb⟩
       refine ⟨_, rfl, ?_⟩
       have HO297 := am_ (Kd.R_lower (Kd.R_new' (Kd.R_new' (Kd.R_new' ho0 (Kd.R_lt (qR HO285))) (Kd.R_lt (qR HO291))) (Kd.R_lt (qR HO294))) (below_size (qB HB)))
       replace HO285 := eA_ HO285 ho0 hb
       replace HO291 := eA_ HO291 ho0 hb
       replace HO294 := eA_ HO294 ho0 hb
       replace BK278 := bK_ BK278 hb
       replace HB := bS_ HB hb
       (try clear hb ho0)
       refine hK.out _ _ (cz8 BK278.out) (fun hHeld => ?_)
       clear hK K
       refine norm_ (a' := ?_) ?_ ?_
       rotate_left
       ·
        show Act.put _ (some 36) _ = _
        exact ap_
       refine one_ (i := 18) (N := some 41) (rl [19,2]) rfl rfl (one_of HT_.out (by kernel_rfl)) (by decide) (fun K hK => ?_)
       refine Kd.R_lit_step (Kd.int .u8) _ 5 ?hg (N := 41) ?hd (xs := ([((l0_7.length : Int)) % 256] : List Int)) (inner := [.int .u8 (((l0_7.length : Int)) % 256)]) (ok := fun _ => True) (okp := fun _ => True) ?hr ?hp (fun _ hk => hk) trivial (Below.refl _ _) (Nat.le_refl _) (by simp) ?_; (case hd => rfl); (case hg => rfl); (case hr => first | (go_simp; done) | (go_simp; rfl)); (case hp => exact (Reps.one (show Kd.M (Kd.int .u8) _ _ _ (((l0_7.length : Int)) % 256) [.int .u8 (((l0_7.length : Int)) % 256)] from rfl) (Reps.none _ _)))
       intro v299 w29 ho30 hb hg_ hnew_
       clear hg_ hnew_
       (first | rw [← Ny298.out] at ho30 | (simp only [Int.reduceToNat] at ho30; rw [← Ny298.out] at ho30))
       have HO300 := am_ (Kd.R_lower (Kd.R_new' (Kd.R_new' (Kd.R_new' (Kd.R_new' ho30 (Kd.R_lt (qR HO285))) (Kd.R_lt (qR HO291))) (Kd.R_lt (qR HO294))) (Kd.R_lt (qR HO297))) (below_size (qB HB)))
       replace HO285 := eA_ HO285 ho30 hb
       replace HO291 := eA_ HO291 ho30 hb
       replace HO294 := eA_ HO294 ho30 hb
       replace HO297 := eA_ HO297 ho30 hb
       replace BK278 := bK_ BK278 hb
       replace HB := bS_ HB hb
       clear hb ho30
       refine hK.out _ _ (cz8 BK278.out) (fun hHeld => ?_)
       clear hK K
       refine norm_ (a' := ?_) ?_ ?_
       rotate_left
       ·
        show Act.put _ (some 41) _ = _
        exact ap_
       exact norm_ (by simp only [putAll, Act.put, List.setIfInBounds_toArray, List.set_cons_zero, List.set_cons_succ]) (hCont (.slice Ao26 y289.length co26, .slice Ao27 y292.length co27, v296, v299) _ ⟨hHeld, (tR (Kd.R_mono HO285.out (fun _ hk => ⟨hk.1.1.1, ⟨hk.1.1.2, ⟨hk.1.2, hk.2⟩⟩⟩))), (tR (Kd.R_mono HO291.out (fun _ hk => ⟨hk.1.1.1, ⟨hk.1.1.2, ⟨hk.1.2, hk.2⟩⟩⟩))), (tR (Kd.R_mono HO294.out (fun _ hk => ⟨hk.1.1.1, ⟨hk.1.1.2, ⟨hk.1.2, hk.2⟩⟩⟩))), (tR (Kd.R_mono HO297.out (fun _ hk => ⟨hk.1.1.1.2, ⟨hk.1.1.2, ⟨hk.1.2, hk.2⟩⟩⟩))), (tR (Kd.R_mono HO300.out (fun _ hk => ⟨hk.1.1.1.2, ⟨hk.1.1.2, ⟨hk.1.2, hk.2⟩⟩⟩))), (qK BK278), (qB HB)⟩)
      ·
       skip
       refine Kd.R_lit_step (Kd.int .u8) _ 5 ?hg (N := 41) ?hd (xs := ([((l0_7.length : Int)) % 256] : List Int)) (inner := [.int .u8 (((l0_7.length : Int)) % 256)]) (ok := fun _ => True) (okp := fun _ => True) ?hr ?hp (fun _ hk => hk) trivial (Below.refl _ _) (Nat.le_refl _) (by simp) ?_; (case hd => rfl); (case hg => rfl); (case hr => first | (go_simp; done) | (go_simp; rfl)); (case hp => exact (Reps.one (show Kd.M (Kd.int .u8) _ _ _ (((l0_7.length : Int)) % 256) [.int .u8 (((l0_7.length : Int)) % 256)] from rfl) (Reps.none _ _)))
       intro v299 w27 ho28 hb hg_ hnew_
       clear hg_ hnew_
       (first | rw [← Ny298.out] at ho28 | (simp only [Int.reduceToNat] at ho28; rw [← Ny298.out] at ho28))
       have HO300 := am_ (Kd.R_lower (Kd.R_new' (Kd.R_new' (Kd.R_new' ho28 (Kd.R_lt (qR HO285))) (Kd.R_lt (qR HO291))) (Kd.R_lt (qR HO294))) (below_size (qB HB)))
       replace HO285 := eA_ HO285 ho28 hb
       replace HO291 := eA_ HO291 ho28 hb
       replace HO294 := eA_ HO294 ho28 hb
       replace BK278 := bK_ BK278 hb
       replace HB := bS_ HB hb
       clear hb ho28
       obtain ⟨Ao29, co29, eo29⟩ := Kd.R_slice HO294.out
       (first | subst eo29 | (injection eo29 with f1_ f2_ f3_; have f4_ := f1_.symm; have f5_ := f3_.symm; clear f1_ f2_ f3_; subst f4_; subst f5_))
       refine hK.out _ _ (cz8 BK278.out) (fun hHeld => ?_)
       clear hK K
       refine norm_ (a' := ?_) ?_ ?_
       rotate_left
       ·
        show Act.put _ (some 41) _ = _
        exact ap_
       refine one_ (i := 13) (N := some 36) (rl [19,2]) rfl rfl (one_of HT_.out (by kernel_rfl)) (by decide) (fun K hK => ?_)
       refine goes_ Try.func89 (by kernel_rfl) rfl #[.slice Ao29 y292.length co29, .int .i64 a0_6] (by rfl) rfl rfl la_ ?_
       with_reducible refine (spec_PutWord.calls _ _ y292 a0_6 t295 _ ?side1 ?side2 A13.out).mono ?_
       (case side1 => exact qC ((Kd.R_reads' HO294.out).2.2))
       (case side2 => exact (Kd.R_reads' HO294.out).2.1)
       rintro e w30 ⟨v296, rfl, ho0, hb⟩
       refine ⟨_, rfl, ?_⟩
       have HO297 := am_ (Kd.R_lower (Kd.R_new' (Kd.R_new' (Kd.R_new' (Kd.R_new' ho0 (Kd.R_lt (qR HO285))) (Kd.R_lt (qR HO291))) (Kd.R_lt (qR HO294))) (Kd.R_lt (qR HO300))) (below_size (qB HB)))
       replace HO285 := eA_ HO285 ho0 hb
       replace HO291 := eA_ HO291 ho0 hb
       replace HO294 := eA_ HO294 ho0 hb
       replace HO300 := eA_ HO300 ho0 hb
       replace BK278 := bK_ BK278 hb
       replace HB := bS_ HB hb
       (try clear hb ho0)
       refine hK.out _ _ (cz8 BK278.out) (fun hHeld => ?_)
       clear hK K
       refine norm_ (a' := ?_) ?_ ?_
       rotate_left
       ·
        show Act.put _ (some 36) _ = _
        exact ap_
       exact norm_ (by simp only [putAll, Act.put, List.setIfInBounds_toArray, List.set_cons_zero, List.set_cons_succ]) (hCont (.slice Ao26 y289.length co26, .slice Ao29 y292.length co29, v296, v299) _ ⟨hHeld, (tR (Kd.R_mono HO285.out (fun _ hk => ⟨hk.1.1.1, ⟨hk.1.1.2, ⟨hk.2, hk.1.2⟩⟩⟩))), (tR (Kd.R_mono HO291.out (fun _ hk => ⟨hk.1.1.1, ⟨hk.1.1.2, ⟨hk.2, hk.1.2⟩⟩⟩))), (tR (Kd.R_mono HO294.out (fun _ hk => ⟨hk.1.1.1, ⟨hk.1.1.2, ⟨hk.2, hk.1.2⟩⟩⟩))), (tR (Kd.R_mono HO297.out (fun _ hk => ⟨hk.1.1.1.2, ⟨hk.1.1.2, ⟨hk.1.2, hk.2⟩⟩⟩))), (tR (Kd.R_mono HO300.out (fun _ hk => ⟨hk.1.1.1.2, ⟨hk.1.1.2, ⟨hk.1.2, hk.2⟩⟩⟩))), (qK BK278), (qB HB)⟩)
     ·
      skip
      refine Kd.R_lit_step (Kd.int .u8) _ 5 ?hg (N := 41) ?hd (xs := ([((l0_7.length : Int)) % 256] : List Int)) (inner := [.int .u8 (((l0_7.length : Int)) % 256)]) (ok := fun _ => True) (okp := fun _ => True) ?hr ?hp (fun _ hk => hk) trivial (Below.refl _ _) (Nat.le_refl _) (by simp) ?_; (case hd => rfl); (case hg => rfl); (case hr => first | (go_simp; done) | (go_simp; rfl)); (case hp => exact (Reps.one (show Kd.M (Kd.int .u8) _ _ _ (((l0_7.length : Int)) % 256) [.int .u8 (((l0_7.length : Int)) % 256)] from rfl) (Reps.none _ _)))
      intro v299 w25 ho26 hb hg_ hnew_
      clear hg_ hnew_
      (first | rw [← Ny298.out] at ho26 | (simp only [Int.reduceToNat] at ho26; rw [← Ny298.out] at ho26))
      have HO300 := am_ (Kd.R_lower (Kd.R_new' (Kd.R_new' (Kd.R_new' ho26 (Kd.R_lt (qR HO285))) (Kd.R_lt (qR HO288))) (Kd.R_lt (qR HO291))) (below_size (qB HB)))
      replace HO285 := eA_ HO285 ho26 hb
      replace HO288 := eA_ HO288 ho26 hb
      replace HO291 := eA_ HO291 ho26 hb
      replace BK278 := bK_ BK278 hb
      replace HB := bS_ HB hb
      clear hb ho26
      obtain ⟨Ao28, co28, eo28⟩ := Kd.R_slice HO291.out
      (first | subst eo28 | (injection eo28 with f1_ f2_ f3_; have f4_ := f1_.symm; have f5_ := f3_.symm; clear f1_ f2_ f3_; subst f4_; subst f5_))
      refine hK.out _ _ (cz8 BK278.out) (fun hHeld => ?_)
      clear hK K
      refine norm_ (a' := ?_) ?_ ?_
      rotate_left
      ·
       show Act.put _ (some 41) _ = _
       exact ap_
      refine one_ (i := 10) (N := some 33) (rl [13,1,5,2]) rfl rfl (one_of HT_.out (by kernel_rfl)) (by decide) (fun K hK => ?_)
      refine Kd.R_append_rows_step (Kd.int .u8) (w0 := w) w.heap.size (by rfl) (.tmp 23) (.tmp 32) 22 5 (.int .u8 0) 1 rfl Try.underlying22 info5 rfl (by decide) (by omega) (.slice Ao21 t286.length co21) t286 y289 _ _ _ (fun k_ => some k_ ≠ (.slice Ao19 y283.length co19 : Value).ownBlock ∧ some k_ ≠ (.slice Ao28 y289.length co28 : Value).ownBlock ∧ some k_ ≠ (v299 : Value).ownBlock) (fun _ => False) rfl rfl ?aO ?aR (fun _ _ h => h) (fun _ h => h.elim) ?aF ?aB ?aS ?aL ?_
      (case aR => exact qC ((Kd.R_reads' HO291.out).2.2))
      (case aB => exact (qB HB))
      (case aF => exact (fun k_ hk => ⟨Kd.fresh' (Kd.R_lt (qR HO285)) k_ hk, Kd.fresh' (Kd.R_lt (qR HO291)) k_ hk, Kd.fresh' (Kd.R_lt (qR HO300)) k_ hk⟩))
      (case aO => exact (tR (Kd.R_mono HO288.out (fun _ hk => ⟨hk.1.1.2, ⟨hk.1.2, hk.2⟩⟩))))
      (case aS => exact (below_size (qB HB)))
      (case aL => have := LMc12.out; omega)
      intro v293 w27 ho hb hg hat
      rw [← Ny292.out] at ho
      replace BK278 := am_ (blk_grown (qK BK278) hg (Kd.R_ne HO288.out BK278.out (by decide)))
      replace HO285 := am_ (Kd.R_after (ok := (fun k_ => some k_ ≠ (.slice Ao28 y289.length co28 : Value).ownBlock ∧ some k_ ≠ (v299 : Value).ownBlock)) (tR (Kd.R_mono HO285.out (fun _ hk => ⟨⟨hk.1.2, hk.2⟩, hk.1.1.2⟩))) hg hat)
      replace HO291 := am_ (Kd.R_after (ok := (fun k_ => some k_ ≠ (.slice Ao19 y283.length co19 : Value).ownBlock ∧ some k_ ≠ (v299 : Value).ownBlock)) (tR (Kd.R_mono HO291.out (fun _ hk => ⟨⟨hk.1.1.2, hk.2⟩, hk.1.2⟩))) hg hat)
      replace HO300 := am_ (Kd.R_after (ok := (fun k_ => some k_ ≠ (.slice Ao19 y283.length co19 : Value).ownBlock ∧ some k_ ≠ (.slice Ao28 y289.length co28 : Value).ownBlock)) (tR (Kd.R_mono HO300.out (fun _ hk => ⟨⟨hk.1.1.2, hk.2⟩, hk.1.2⟩))) hg hat)
      replace HB := am_ (hb)
      have HO294 := am_ (ho)
      clear HO288
      clear ho hb hg hat
      obtain ⟨Ao29, co29, eo29⟩ := Kd.R_slice HO294.out
      (first | subst eo29 | (injection eo29 with f1_ f2_ f3_; have f4_ := f1_.symm; have f5_ := f3_.symm; clear f1_ f2_ f3_; subst f4_; subst f5_))
      refine hK.out _ _ (cz8 BK278.out) (fun hHeld => ?_)
      clear hK K
      refine norm_ (a' := ?_) ?_ ?_
      rotate_left
      ·
       show Act.put _ (some 33) _ = _
       exact ap_
      refine one_ (i := 13) (N := some 36) (rl [19,2]) rfl rfl (one_of HT_.out (by kernel_rfl)) (by decide) (fun K hK => ?_)
      refine goes_ Try.func89 (by kernel_rfl) rfl #[.slice Ao29 y292.length co29, .int .i64 a0_6] (by rfl) rfl rfl la_ ?_
      with_reducible refine (spec_PutWord.calls _ _ y292 a0_6 t295 _ ?side1 ?side2 A13.out).mono ?_
      (case side1 => exact qC ((Kd.R_reads' HO294.out).2.2))
      (case side2 => exact (Kd.R_reads' HO294.out).2.1)
      rintro e w30 ⟨v296, rfl, ho0, hb⟩
      refine ⟨_, rfl, ?_⟩
      have HO297 := am_ (Kd.R_lower (Kd.R_new' (Kd.R_new' (Kd.R_new' (Kd.R_new' ho0 (Kd.R_lt (qR HO285))) (Kd.R_lt (qR HO291))) (Kd.R_lt (qR HO300))) (Kd.R_lt (qR HO294))) (below_size (qB HB)))
      replace HO285 := eA_ HO285 ho0 hb
      replace HO291 := eA_ HO291 ho0 hb
      replace HO300 := eA_ HO300 ho0 hb
      replace HO294 := eA_ HO294 ho0 hb
      replace BK278 := bK_ BK278 hb
      replace HB := bS_ HB hb
      (try clear hb ho0)
      refine hK.out _ _ (cz8 BK278.out) (fun hHeld => ?_)
      clear hK K
      refine norm_ (a' := ?_) ?_ ?_
      rotate_left
      ·
       show Act.put _ (some 36) _ = _
       exact ap_
      exact norm_ (by simp only [putAll, Act.put, List.setIfInBounds_toArray, List.set_cons_zero, List.set_cons_succ]) (hCont (.slice Ao28 y289.length co28, .slice Ao29 y292.length co29, v296, v299) _ ⟨hHeld, (tR (Kd.R_mono HO285.out (fun _ hk => ⟨hk.1.1.1, ⟨hk.1.2, ⟨hk.2, hk.1.1.2⟩⟩⟩))), (tR (Kd.R_mono HO291.out (fun _ hk => ⟨hk.1.1.1, ⟨hk.1.2, ⟨hk.2, hk.1.1.2⟩⟩⟩))), (tR (Kd.R_mono HO294.out (fun _ hk => ⟨hk.1.1, ⟨hk.1.2.1, ⟨hk.2, hk.1.2.2⟩⟩⟩))), (tR (Kd.R_mono HO297.out (fun _ hk => ⟨hk.1.1.1.2, ⟨hk.1.1.2, ⟨hk.2, hk.1.2⟩⟩⟩))), (tR (Kd.R_mono HO300.out (fun _ hk => ⟨hk.1.1.1, ⟨hk.1.1.2, ⟨hk.1.2, hk.2⟩⟩⟩))), (qK BK278), (qB HB)⟩)
    ·
     skip
     refine Kd.R_lit_step (Kd.int .u8) _ 5 ?hg (N := 41) ?hd (xs := ([((l0_7.length : Int)) % 256] : List Int)) (inner := [.int .u8 (((l0_7.length : Int)) % 256)]) (ok := fun _ => True) (okp := fun _ => True) ?hr ?hp (fun _ hk => hk) trivial (Below.refl _ _) (Nat.le_refl _) (by simp) ?_; (case hd => rfl); (case hg => rfl); (case hr => first | (go_simp; done) | (go_simp; rfl)); (case hp => exact (Reps.one (show Kd.M (Kd.int .u8) _ _ _ (((l0_7.length : Int)) % 256) [.int .u8 (((l0_7.length : Int)) % 256)] from rfl) (Reps.none _ _)))
     intro v299 w23 ho24 hb hg_ hnew_
     clear hg_ hnew_
     (first | rw [← Ny298.out] at ho24 | (simp only [Int.reduceToNat] at ho24; rw [← Ny298.out] at ho24))
     have HO300 := am_ (Kd.R_lower (Kd.R_new' (Kd.R_new' ho24 (Kd.R_lt (qR HO285))) (Kd.R_lt (qR HO288))) (below_size (qB HB)))
     replace HO285 := eA_ HO285 ho24 hb
     replace HO288 := eA_ HO288 ho24 hb
     replace BK278 := bK_ BK278 hb
     replace HB := bS_ HB hb
     clear hb ho24
     refine hK.out _ _ (cz8 BK278.out) (fun hHeld => ?_)
     clear hK K
     refine norm_ (a' := ?_) ?_ ?_
     rotate_left
     ·
      show Act.put _ (some 41) _ = _
      exact ap_
     refine one_ (i := 9) (N := some 32) (rl [10,1,2,1,5,2]) rfl rfl (one_of HT_.out (by kernel_rfl)) (by decide) (fun K hK => ?_)
     refine Kd.R_lit_step (Kd.int .u8) _ 5 ?hg (N := 32) ?hd (xs := ([(a0_3) % 256, (a0_4) % 256, (x3_7) % 256] : List Int)) (inner := [.int .u8 ((a0_3) % 256), .int .u8 ((a0_4) % 256), .int .u8 ((x3_7) % 256)]) (ok := fun _ => True) (okp := fun _ => True) ?hr ?hp (fun _ hk => hk) trivial (Below.refl _ _) (Nat.le_refl _) (by simp) ?_; (case hd => rfl); (case hg => rfl); (case hr => first | (go_simp; done) | (go_simp; rfl)); (case hp => exact (Reps.one (show Kd.M (Kd.int .u8) _ _ _ ((a0_3) % 256) [.int .u8 ((a0_3) % 256)] from rfl) (Reps.one (show Kd.M (Kd.int .u8) _ _ _ ((a0_4) % 256) [.int .u8 ((a0_4) % 256)] from rfl) (Reps.one (show Kd.M (Kd.int .u8) _ _ _ ((x3_7) % 256) [.int .u8 ((x3_7) % 256)] from rfl) (Reps.none _ _)))))
     intro v290 w25 ho26 hb hg_ hnew_
     clear hg_ hnew_
     (first | rw [← Ny289.out] at ho26 | (simp only [Int.reduceToNat] at ho26; rw [← Ny289.out] at ho26))
     have HO291 := am_ (Kd.R_lower (Kd.R_new' (Kd.R_new' (Kd.R_new' ho26 (Kd.R_lt (qR HO285))) (Kd.R_lt (qR HO288))) (Kd.R_lt (qR HO300))) (below_size (qB HB)))
     replace HO285 := eA_ HO285 ho26 hb
     replace HO288 := eA_ HO288 ho26 hb
     replace HO300 := eA_ HO300 ho26 hb
     replace BK278 := bK_ BK278 hb
     replace HB := bS_ HB hb
     clear hb ho26
     obtain ⟨Ao28, co28, eo28⟩ := Kd.R_slice HO291.out
     (first | subst eo28 | (injection eo28 with f1_ f2_ f3_; have f4_ := f1_.symm; have f5_ := f3_.symm; clear f1_ f2_ f3_; subst f4_; subst f5_))
     refine hK.out _ _ (cz8 BK278.out) (fun hHeld => ?_)
     clear hK K
     refine norm_ (a' := ?_) ?_ ?_
     rotate_left
     ·
      show Act.put _ (some 32) _ = _
      exact ap_
     refine one_ (i := 10) (N := some 33) (rl [13,1,5,2]) rfl rfl (one_of HT_.out (by kernel_rfl)) (by decide) (fun K hK => ?_)
     refine Kd.R_append_rows_step (Kd.int .u8) (w0 := w) w.heap.size (by rfl) (.tmp 23) (.tmp 32) 22 5 (.int .u8 0) 1 rfl Try.underlying22 info5 rfl (by decide) (by omega) (.slice Ao21 t286.length co21) t286 y289 _ _ _ (fun k_ => some k_ ≠ (.slice Ao19 y283.length co19 : Value).ownBlock ∧ some k_ ≠ (v299 : Value).ownBlock ∧ some k_ ≠ (.slice Ao28 y289.length co28 : Value).ownBlock) (fun _ => False) rfl rfl ?aO ?aR (fun _ _ h => h) (fun _ h => h.elim) ?aF ?aB ?aS ?aL ?_
     (case aR => exact qC ((Kd.R_reads' HO291.out).2.2))
     (case aB => exact (qB HB))
     (case aF => exact (fun k_ hk => ⟨Kd.fresh' (Kd.R_lt (qR HO285)) k_ hk, Kd.fresh' (Kd.R_lt (qR HO300)) k_ hk, Kd.fresh' (Kd.R_lt (qR HO291)) k_ hk⟩))
     (case aO => exact (tR (Kd.R_mono HO288.out (fun _ hk => ⟨hk.1.1.2, ⟨hk.1.2, hk.2⟩⟩))))
     (case aS => exact (below_size (qB HB)))
     (case aL => have := LMc12.out; omega)
     intro v293 w27 ho hb hg hat
     rw [← Ny292.out] at ho
     replace BK278 := am_ (blk_grown (qK BK278) hg (Kd.R_ne HO288.out BK278.out (by decide)))
     replace HO285 := am_ (Kd.R_after (ok := (fun k_ => some k_ ≠ (v299 : Value).ownBlock ∧ some k_ ≠ (.slice Ao28 y289.length co28 : Value).ownBlock)) (tR (Kd.R_mono HO285.out (fun _ hk => ⟨⟨hk.1.2, hk.2⟩, hk.1.1.2⟩))) hg hat)
     replace HO300 := am_ (Kd.R_after (ok := (fun k_ => some k_ ≠ (.slice Ao19 y283.length co19 : Value).ownBlock ∧ some k_ ≠ (.slice Ao28 y289.length co28 : Value).ownBlock)) (tR (Kd.R_mono HO300.out (fun _ hk => ⟨⟨hk.1.1.2, hk.2⟩, hk.1.2⟩))) hg hat)
     replace HO291 := am_ (Kd.R_after (ok := (fun k_ => some k_ ≠ (.slice Ao19 y283.length co19 : Value).ownBlock ∧ some k_ ≠ (v299 : Value).ownBlock)) (tR (Kd.R_mono HO291.out (fun _ hk => ⟨⟨hk.1.1.2, hk.2⟩, hk.1.2⟩))) hg hat)
     replace HB := am_ (hb)
     have HO294 := am_ (ho)
     clear HO288
     clear ho hb hg hat
     obtain ⟨Ao29, co29, eo29⟩ := Kd.R_slice HO294.out
     (first | subst eo29 | (injection eo29 with f1_ f2_ f3_; have f4_ := f1_.symm; have f5_ := f3_.symm; clear f1_ f2_ f3_; subst f4_; subst f5_))
     refine hK.out _ _ (cz8 BK278.out) (fun hHeld => ?_)
     clear hK K
     refine norm_ (a' := ?_) ?_ ?_
     rotate_left
     ·
      show Act.put _ (some 33) _ = _
      exact ap_
     refine one_ (i := 13) (N := some 36) (rl [19,2]) rfl rfl (one_of HT_.out (by kernel_rfl)) (by decide) (fun K hK => ?_)
     refine goes_ Try.func89 (by kernel_rfl) rfl #[.slice Ao29 y292.length co29, .int .i64 a0_6] (by rfl) rfl rfl la_ ?_
     with_reducible refine (spec_PutWord.calls _ _ y292 a0_6 t295 _ ?side1 ?side2 A13.out).mono ?_
     (case side1 => exact qC ((Kd.R_reads' HO294.out).2.2))
     (case side2 => exact (Kd.R_reads' HO294.out).2.1)
     rintro e w30 ⟨v296, rfl, ho0, hb⟩
     refine ⟨_, rfl, ?_⟩
     have HO297 := am_ (Kd.R_lower (Kd.R_new' (Kd.R_new' (Kd.R_new' (Kd.R_new' ho0 (Kd.R_lt (qR HO285))) (Kd.R_lt (qR HO300))) (Kd.R_lt (qR HO291))) (Kd.R_lt (qR HO294))) (below_size (qB HB)))
     replace HO285 := eA_ HO285 ho0 hb
     replace HO300 := eA_ HO300 ho0 hb
     replace HO291 := eA_ HO291 ho0 hb
     replace HO294 := eA_ HO294 ho0 hb
     replace BK278 := bK_ BK278 hb
     replace HB := bS_ HB hb
     (try clear hb ho0)
     refine hK.out _ _ (cz8 BK278.out) (fun hHeld => ?_)
     clear hK K
     refine norm_ (a' := ?_) ?_ ?_
     rotate_left
     ·
      show Act.put _ (some 36) _ = _
      exact ap_
     exact norm_ (by simp only [putAll, Act.put, List.setIfInBounds_toArray, List.set_cons_zero, List.set_cons_succ]) (hCont (.slice Ao28 y289.length co28, .slice Ao29 y292.length co29, v296, v299) _ ⟨hHeld, (tR (Kd.R_mono HO285.out (fun _ hk => ⟨hk.1.1.2, ⟨hk.1.2, ⟨hk.2, hk.1.1.1⟩⟩⟩))), (tR (Kd.R_mono HO291.out (fun _ hk => ⟨hk.1.1.1, ⟨hk.1.2, ⟨hk.2, hk.1.1.2⟩⟩⟩))), (tR (Kd.R_mono HO294.out (fun _ hk => ⟨hk.1.1, ⟨hk.1.2.2, ⟨hk.2, hk.1.2.1⟩⟩⟩))), (tR (Kd.R_mono HO297.out (fun _ hk => ⟨hk.1.1.1.2, ⟨hk.1.2, ⟨hk.2, hk.1.1.2⟩⟩⟩))), (tR (Kd.R_mono HO300.out (fun _ hk => ⟨hk.1.1.1, ⟨hk.1.1.2, ⟨hk.1.2, hk.2⟩⟩⟩))), (qK BK278), (qB HB)⟩)
   rintro ⟨v290, v293, v296, v299⟩ w31 ⟨hS_, h0_, h1_, h2_, h3_, h4_, h5_, h6_⟩
   have n0_ : Aside0 (Kd.R (Kd.int .u8) 5 w31 w.heap.size (fun k_ => some k_ ≠ (v290 : Value).ownBlock ∧ some k_ ≠ (v293 : Value).ownBlock ∧ some k_ ≠ (v296 : Value).ownBlock ∧ some k_ ≠ (v299 : Value).ownBlock) (.slice Ao19 y283.length co19) y283) := ⟨h0_⟩
   have n1_ : Aside0 (Kd.R (Kd.int .u8) 5 w31 w.heap.size (fun k_ => some k_ ≠ (.slice Ao19 y283.length co19 : Value).ownBlock ∧ some k_ ≠ (v293 : Value).ownBlock ∧ some k_ ≠ (v296 : Value).ownBlock ∧ some k_ ≠ (v299 : Value).ownBlock) v290 y289) := ⟨h1_⟩
   have n2_ : Aside0 (Kd.R (Kd.int .u8) 5 w31 w.heap.size (fun k_ => some k_ ≠ (.slice Ao19 y283.length co19 : Value).ownBlock ∧ some k_ ≠ (v290 : Value).ownBlock ∧ some k_ ≠ (v296 : Value).ownBlock ∧ some k_ ≠ (v299 : Value).ownBlock) v293 y292) := ⟨h2_⟩
   have n3_ : Aside0 (Kd.R (Kd.int .u8) 5 w31 w.heap.size (fun k_ => some k_ ≠ (.slice Ao19 y283.length co19 : Value).ownBlock ∧ some k_ ≠ (v290 : Value).ownBlock ∧ some k_ ≠ (v293 : Value).ownBlock ∧ some k_ ≠ (v299 : Value).ownBlock) v296 t295) := ⟨h3_⟩
   have n4_ : Aside0 (Kd.R (Kd.int .u8) 5 w31 w.heap.size (fun k_ => some k_ ≠ (.slice Ao19 y283.length co19 : Value).ownBlock ∧ some k_ ≠ (v290 : Value).ownBlock ∧ some k_ ≠ (v293 : Value).ownBlock ∧ some k_ ≠ (v296 : Value).ownBlock) v299 y298) := ⟨h4_⟩
   have n5_ : Aside0 (w31.heap[gb278]? = some (.cells #[.int .i64 a0_0, .int .i64 a0_1, .int .i64 a0_2, .int .i64 a0_3, .int .i64 a0_4, .bool a0_5, .int .i64 a0_6, .slice A0_7 l0_7.length c0_7] 75 (0, 0))) := ⟨h5_⟩
   have n6_ : Aside0 (Below w.heap.size w w31) := ⟨h6_⟩
   clear HO285
   clear HO288
   clear BK278
   clear HB
   clear h0_ h1_ h2_ h3_ h4_ h5_ h6_
   have HO285 := n0_
   have HO291 := n1_
   have HO294 := n2_
   have HO297 := n3_
   have HO300 := n4_
   have BK278 := n5_
   have HB := n6_
   clear n0_ n1_ n2_ n3_ n4_ n5_ n6_
   have hHeld : w31.cell? ⟨gb278, 0, none⟩ = some (.int .i64 a0_0) ∧ w31.cell? ⟨gb278, 1, none⟩ = some (.int .i64 a0_1) ∧ w31.cell? ⟨gb278, 2, none⟩ = some (.int .i64 a0_2) ∧ w31.cell? ⟨gb278, 3, none⟩ = some (.int .i64 a0_3) ∧ w31.cell? ⟨gb278, 4, none⟩ = some (.int .i64 a0_4) ∧ w31.cell? ⟨gb278, 5, none⟩ = some (.bool a0_5) ∧ w31.cell? ⟨gb278, 6, none⟩ = some (.int .i64 a0_6) ∧ w31.cell? ⟨gb278, 7, none⟩ = some (.slice A0_7 l0_7.length c0_7) := hS_
   obtain ⟨Ao33, co33, eo33⟩ := Kd.R_slice HO300.out
   (first | subst eo33 | (injection eo33 with f1_ f2_ f3_; have f4_ := f1_.symm; have f5_ := f3_.symm; clear f1_ f2_ f3_; subst f4_; subst f5_))
   refine norm_ (a' := ?_) ?_ ?_
   rotate_left
   ·
    simp only [putAll, Act.put, List.setIfInBounds_toArray, List.set_cons_zero, List.set_cons_succ]
    rfl
   refine one_ (i := 19) (N := some 42) (rl [20,1]) rfl rfl (one_of HT_.out (by kernel_rfl)) (by decide) (fun K hK => ?_)
   refine Kd.R_append_rows_step (Kd.int .u8) (w0 := w) w.heap.size (by rfl) (.tmp 36) (.tmp 41) 22 5 (.int .u8 0) 1 rfl Try.underlying22 info5 rfl (by decide) (by omega) v296 t295 y298 _ _ _ (fun k_ => some k_ ≠ (.slice Ao19 y283.length co19 : Value).ownBlock ∧ some k_ ≠ (v290 : Value).ownBlock ∧ some k_ ≠ (v293 : Value).ownBlock ∧ some k_ ≠ (.slice Ao33 y298.length co33 : Value).ownBlock) (fun _ => False) rfl rfl ?aO ?aR (fun _ _ h => h) (fun _ h => h.elim) ?aF ?aB ?aS ?aL ?_
   (case aR => exact qC ((Kd.R_reads' HO300.out).2.2))
   (case aB => exact (qB HB))
   (case aF => exact (fun k_ hk => ⟨Kd.fresh' (Kd.R_lt (qR HO285)) k_ hk, Kd.fresh' (Kd.R_lt (qR HO291)) k_ hk, Kd.fresh' (Kd.R_lt (qR HO294)) k_ hk, Kd.fresh' (Kd.R_lt (qR HO300)) k_ hk⟩))
   (case aO => exact (qR HO297))
   (case aS => exact (below_size (qB HB)))
   (case aL => have := LMc14.out; omega)
   intro v302 w32 ho hb hg hat
   rw [← Ny301.out] at ho
   replace BK278 := am_ (blk_grown (qK BK278) hg (Kd.R_ne HO297.out BK278.out (by decide)))
   replace HO285 := am_ (Kd.R_after (ok := (fun k_ => some k_ ≠ (v290 : Value).ownBlock ∧ some k_ ≠ (v293 : Value).ownBlock ∧ some k_ ≠ (.slice Ao33 y298.length co33 : Value).ownBlock)) (tR (Kd.R_mono HO285.out (fun _ hk => ⟨⟨hk.1, ⟨hk.2.1, hk.2.2.2⟩⟩, hk.2.2.1⟩))) hg hat)
   replace HO291 := am_ (Kd.R_after (ok := (fun k_ => some k_ ≠ (.slice Ao19 y283.length co19 : Value).ownBlock ∧ some k_ ≠ (v293 : Value).ownBlock ∧ some k_ ≠ (.slice Ao33 y298.length co33 : Value).ownBlock)) (tR (Kd.R_mono HO291.out (fun _ hk => ⟨⟨hk.1, ⟨hk.2.1, hk.2.2.2⟩⟩, hk.2.2.1⟩))) hg hat)
   replace HO294 := am_ (Kd.R_after (ok := (fun k_ => some k_ ≠ (.slice Ao19 y283.length co19 : Value).ownBlock ∧ some k_ ≠ (v290 : Value).ownBlock ∧ some k_ ≠ (.slice Ao33 y298.length co33 : Value).ownBlock)) (tR (Kd.R_mono HO294.out (fun _ hk => ⟨⟨hk.1, ⟨hk.2.1, hk.2.2.2⟩⟩, hk.2.2.1⟩))) hg hat)
   replace HO300 := am_ (Kd.R_after (ok := (fun k_ => some k_ ≠ (.slice Ao19 y283.length co19 : Value).ownBlock ∧ some k_ ≠ (v290 : Value).ownBlock ∧ some k_ ≠ (v293 : Value).ownBlock)) (tR (Kd.R_mono HO300.out (fun _ hk => ⟨⟨hk.1, ⟨hk.2.1, hk.2.2.1⟩⟩, hk.2.2.2⟩))) hg hat)
   replace HB := am_ (hb)
   have HO303 := am_ (ho)
   clear HO297
   clear ho hb hg hat
   refine hK.out _ _ (cz8 BK278.out) (fun hHeld => ?_)
   clear hK K
   refine norm_ (a' := ?_) ?_ ?_
   rotate_left
   ·
    show Act.put _ (some 42) _ = _
    exact ap_
   refine pz_ (i := 20) (N := some 4) HT_ (rl [21]) rfl rfl ?_
   refine done_ (done_of HT_.out (by kernel_rfl)) ?_
   try go_wp2
   go_loopg [4, 5] kj7 (fun kq v4 v5 w' => ∃ (x4_2 : List Int) (x5_2 : Int), v5 = .int .i64 x5_2 ∧ Aside0 (spec_PutCtl.l0 kq x4_2 x5_2 a0_0 a0_1 a0_2 a0_3 a0_4 a0_5 a0_6 l0_7 = some r) ∧ Aside0 (kq ≤ kj7) ∧ Aside0 (Kd.R (Kd.int .u8) 5 w' w.heap.size (fun _ => True) v4 x4_2) ∧ Aside0 (w'.heap[gb278]? = some (.cells #[.int .i64 a0_0, .int .i64 a0_1, .int .i64 a0_2, .int .i64 a0_3, .int .i64 a0_4, .bool a0_5, .int .i64 a0_6, (.slice A0_7 l0_7.length c0_7)] 75 (0, 0))) ∧ Aside0 (Below w.heap.size w w'))
   case atStart => exact ⟨(y301), (0), eqq_, H', ⟨Nat.le_refl _⟩, ⟨by (with_reducible repeat (first | apply Kd.R_alloc | apply Kd.R_drewN | apply Kd.R_drew)); exact Kd.R_mono HO303.out (fun _ hk => trivial)⟩, ⟨qK BK278⟩, ⟨qB HB⟩⟩
   case round =>
    clear H'
    try clear c1
    try clear p2
    try clear c8
    try clear c12
    try clear c14
    obtain ⟨x4_2, x5_2, rfl, HA, HK2, HO_4, BK278, HB⟩ := hrel
    cases gk with
    | zero => exact absurd HA.out (by simp [spec_PutCtl.l0])
    | succ k2 =>
     have H := HA.out
     clear HA
     simp only [spec_PutCtl.l0] at H
     by_cases c34 : x5_2 < (l0_7.length : Int)
     rotate_left
     ·
      rw [if_neg c34] at H
      have c34b0 : decide (x5_2 < (l0_7.length : Int)) = false := decide_eq_false c34
      clear c34
      replace H := bd_ H
      obtain ⟨t317, A47, H⟩ := H
      replace H := bd_ H
      obtain ⟨t318, A48, H⟩ := H
      obtain rfl := Option.some.inj H
      (try clear zK278)
      have zK278 := cz8 BK278.out
      obtain ⟨Ao50, co50, eo50⟩ := Kd.R_slice HO_4.out
      subst eo50
      go_wp2_with (first | ((with_reducible refine gate_callee (f := 111) rfl ?_); refine gl_ (some 66) Try.func111 #[.slice Ao50 x4_2.length co50] ?_; (with_reducible refine (spec_Sum.calls k2 _ _ x4_2 t317 _ ?side1 ?side2 A47.out).mono ?_); (case side1 => exact qC ((Kd.R_reads' HO_4.out).2.2)); (case side2 => exact (Kd.R_reads' HO_4.out).2.1); rintro e w' ⟨rfl, ⟨nd, rfl⟩⟩; refine ⟨_, rfl, ?_⟩) | ((with_reducible refine gate_callee (f := 89) rfl ?_); refine gl_ (some 67) Try.func89 #[.slice Ao50 x4_2.length co50, .int .i64 t317] ?_; (with_reducible refine (spec_PutWord.calls _ _ x4_2 t317 t318 _ ?side1 ?side2 A48.out).mono ?_); (case side1 => exact qC ((Kd.R_reads' HO_4.out).2.2)); (case side2 => exact (Kd.R_reads' HO_4.out).2.1); rintro e w51 ⟨v319, rfl, ho0, hb⟩; refine ⟨_, rfl, ?_⟩; have HO320 := am_ (Kd.R_lower (Kd.R_new' ho0 (Kd.R_lt (qR HO_4))) (below_size (qB HB))); replace HO_4 := eA_ HO_4 ho0 hb; replace BK278 := bK_ BK278 hb; replace HB := bS_ HB hb; (try clear hb); (try clear ho0)))
      go_ret
      exact ⟨_, er_, by (with_reducible repeat (first | apply Kd.R_alloc | apply Kd.R_drewN | apply Kd.R_drew)); exact Kd.R_mono HO320.out (fun _ hk => trivial), qB HB⟩
     rw [if_pos c34] at H
     have c34b0 : decide (x5_2 < (l0_7.length : Int)) = true := decide_eq_true c34
     clear c34
     by_cases c35 : 0 ≤ x5_2
     case neg => exact nn_ c35 H
     rw [if_pos c35] at H
     have c35b0 : decide (0 ≤ x5_2) = true := decide_eq_true c35
     clear c35
     replace H := bd_ H
     obtain ⟨t305, A36, H⟩ := H
     obtain ⟨y308, hy308⟩ : ∃ y_ : List Int, y_ = (([((t305.length : Int)) % 256] : List Int)) := ⟨_, rfl⟩
     replace H := mk_ H hy308
     (try dsimp only at H)
     have Ny308 := Aside0.mk hy308
     clear hy308
     by_cases c37 : x4_2.length + y308.length < 140737488355328
     case neg => exact nn_ c37 H
     rw [if_pos c37] at H
     have LMc37 := Aside0.mk c37
     clear c37
     obtain ⟨y311, hy311⟩ : ∃ y_ : List Int, y_ = (x4_2 ++ y308) := ⟨_, rfl⟩
     replace H := mk_ H hy311
     (try dsimp only at H)
     have Ny311 := Aside0.mk hy311
     clear hy311
     by_cases c38 : y311.length + t305.length < 140737488355328
     case neg => exact nn_ c38 H
     rw [if_pos c38] at H
     have LMc38 := Aside0.mk c38
     clear c38
     obtain ⟨y314, hy314⟩ : ∃ y_ : List Int, y_ = (y311 ++ t305) := ⟨_, rfl⟩
     replace H : (spec_PutCtl.l0 k2 y314 (wrap64 (x5_2 + 1)) a0_0 a0_1 a0_2 a0_3 a0_4 a0_5 a0_6 l0_7) = some r := by first | (rw [hy314]; with_reducible exact H) | (have H2_ := (Option.bind_some _ _).symm.trans H; rw [hy314]; with_reducible exact H2_) | (have H2_ := (Option.bind_some _ _).symm.trans H; with_reducible exact H2_) | with_reducible exact H | (rw [hy314]; exact H) | exact H
     have Ny314 := Aside0.mk hy314
     clear hy314
     have H' := Aside0.mk H
     clear H
     (try clear zK278)
     have zK278 := cz8 BK278.out
     have p304 : 0 ≤ (x5_2 : Int) := od_
     have q304 : x5_2 < (l0_7.length : Int) := od_
     obtain ⟨ad304, e304, hx304_0, hx304_1, hx304_2, hx304_3, hx304_4, hx304_5, hx304_6, hx304_7, hx304_8, hx304_9, hx304_10, hx304_11, hx304_12, hx304_13, hx304_14, hx304_15⟩ := at_T29 HR0_7.out x5_2 p304 q304
     cases e304
     replace hx304_0 := lb_ HB hx304_0
     replace hx304_1 := lb_ HB hx304_1
     replace hx304_2 := lb_ HB hx304_2
     replace hx304_3 := lb_ HB hx304_3
     replace hx304_4 := lb_ HB hx304_4
     replace hx304_5 := lb_ HB hx304_5
     replace hx304_6 := lb_ HB hx304_6
     replace hx304_7 := lb_ HB hx304_7
     replace hx304_8 := lb_ HB hx304_8
     replace hx304_9 := lb_ HB hx304_9
     replace hx304_10 := lb_ HB hx304_10
     replace hx304_11 := lb_ HB hx304_11
     replace hx304_12 := lb_ HB hx304_12
     replace hx304_13 := lb_ HB hx304_13
     replace hx304_14 := lb_ HB hx304_14
     replace hx304_15 := lb_ HB hx304_15
     replace p304 := eq_true p304
     replace q304 := eq_true q304
     go_wp2_with (first | ((with_reducible refine gate_callee (f := 20) rfl ?_); refine gl_ (some 55) Try.func20 #[.agg #[.int .i64 ((rd_T29 l0_7 x5_2).f0), .int .i64 ((rd_T29 l0_7 x5_2).f1.f0), .string ((rd_T29 l0_7 x5_2).f1.f1), .int .i64 ((rd_T29 l0_7 x5_2).f1.f2), .int .i64 ((rd_T29 l0_7 x5_2).f1.f3), .int .i64 ((rd_T29 l0_7 x5_2).f1.f4), .string ((rd_T29 l0_7 x5_2).f1.f5), .int .i64 ((rd_T29 l0_7 x5_2).f1.f6), .int .i64 ((rd_T29 l0_7 x5_2).f1.f7), .int .i64 ((rd_T29 l0_7 x5_2).f2.f0), .string ((rd_T29 l0_7 x5_2).f2.f1), .int .i64 ((rd_T29 l0_7 x5_2).f2.f2), .int .i64 ((rd_T29 l0_7 x5_2).f2.f3), .int .i64 ((rd_T29 l0_7 x5_2).f2.f4), .int .i64 ((rd_T29 l0_7 x5_2).f2.f5), .int .i64 ((rd_T29 l0_7 x5_2).f2.f6)]] ?_; (with_reducible refine (spec_PutItem.calls k2 ((rd_T29 l0_7 x5_2).f0) ((rd_T29 l0_7 x5_2).f1.f0) ((rd_T29 l0_7 x5_2).f1.f1) ((rd_T29 l0_7 x5_2).f1.f2) ((rd_T29 l0_7 x5_2).f1.f3) ((rd_T29 l0_7 x5_2).f1.f4) ((rd_T29 l0_7 x5_2).f1.f5) ((rd_T29 l0_7 x5_2).f1.f6) ((rd_T29 l0_7 x5_2).f1.f7) ((rd_T29 l0_7 x5_2).f2.f0) ((rd_T29 l0_7 x5_2).f2.f1) ((rd_T29 l0_7 x5_2).f2.f2) ((rd_T29 l0_7 x5_2).f2.f3) ((rd_T29 l0_7 x5_2).f2.f4) ((rd_T29 l0_7 x5_2).f2.f5) ((rd_T29 l0_7 x5_2).f2.f6) t305 _ A36.out).mono ?_); rintro e w40 ⟨v306, rfl, ho0, hb⟩; refine ⟨_, rfl, ?_⟩; have HO307 := am_ (Kd.R_lower (Kd.R_new' ho0 (Kd.R_lt (qR HO_4))) (below_size (qB HB))); replace HO_4 := eA_ HO_4 ho0 hb; replace BK278 := bK_ BK278 hb; replace HB := bS_ HB hb; (try clear hb); (try clear ho0); obtain ⟨Ao41, co41, eo41⟩ := Kd.R_slice HO307.out; subst eo41) | ((with_reducible refine gate_dst (N := 60) rfl ?_); refine Kd.R_lit (Kd.int .u8) _ 5 ?hg (N := 60) ?hd (xs := ([((t305.length : Int)) % 256] : List Int)) (inner := [.int .u8 (((t305.length : Int)) % 256)]) (ok := fun _ => True) (okp := fun _ => True) ?hr ?hp (fun _ hk => hk) trivial (Below.refl _ _) (Nat.le_refl _) (by simp) ?_; (case hd => rfl); (case hg => rfl); (case hr => first | (go_simp; done) | (go_simp; rfl)); (case hp => exact (Reps.one (show Kd.M (Kd.int .u8) _ _ _ (((t305.length : Int)) % 256) [.int .u8 (((t305.length : Int)) % 256)] from rfl) (Reps.none _ _))); intro v309 w42 ho43 hb hg_ hnew_; clear hg_ hnew_; (first | rw [← Ny308.out] at ho43 | (simp only [Int.reduceToNat] at ho43; rw [← Ny308.out] at ho43)); have HO310 := am_ (Kd.R_lower (Kd.R_new' (Kd.R_new' ho43 (Kd.R_lt (qR HO_4))) (Kd.R_lt (qR HO307))) (below_size (qB HB))); replace HO_4 := eA_ HO_4 ho43 hb; replace HO307 := eA_ HO307 ho43 hb; replace BK278 := bK_ BK278 hb; replace HB := bS_ HB hb; clear hb ho43; obtain ⟨Ao45, co45, eo45⟩ := Kd.R_slice HO310.out; subst eo45) | ((with_reducible refine gate_builtin (b := .append) (xs := #[.tmp 56, .tmp 60]) rfl ?_); at_builtin; refine Kd.R_append_rows (Kd.int .u8) (w0 := w) w.heap.size rfl (.tmp 56) (.tmp 60) 22 5 (.int .u8 0) 1 rfl Try.underlying22 info5 rfl (by decide) (by omega) u4 x4_2 y308 _ _ _ (fun k_ => some k_ ≠ (.slice Ao41 t305.length co41 : Value).ownBlock ∧ some k_ ≠ (.slice Ao45 y308.length co45 : Value).ownBlock) (fun _ => False) rfl rfl ?aO ?aR (fun _ _ h => h) (fun _ h => h.elim) ?aF ?aB ?aS ?aL ?_; (case aR => exact qC ((Kd.R_reads' HO310.out).2.2)); (case aB => exact (qB HB)); (case aF => exact (fun k_ hk => ⟨Kd.fresh' (Kd.R_lt (qR HO307)) k_ hk, Kd.fresh' (Kd.R_lt (qR HO310)) k_ hk⟩)); (case aO => exact (tR (Kd.R_mono HO_4.out (fun _ hk => ⟨hk.1.2, hk.2⟩)))); (case aS => exact (below_size (qB HB))); (case aL => have := LMc37.out; omega); intro v312 w44 ho hb hg hat; rw [← Ny311.out] at ho; replace BK278 := am_ (blk_grown (qK BK278) hg (Kd.R_ne HO_4.out BK278.out (by decide))); replace HO307 := am_ (Kd.R_after (ok := (fun k_ => some k_ ≠ (.slice Ao45 y308.length co45 : Value).ownBlock)) (tR (Kd.R_mono HO307.out (fun _ hk => ⟨hk.2, hk.1.2⟩))) hg hat); replace HO310 := am_ (Kd.R_after (ok := (fun k_ => some k_ ≠ (.slice Ao41 t305.length co41 : Value).ownBlock)) (tR (Kd.R_mono HO310.out (fun _ hk => ⟨hk.2, hk.1.2⟩))) hg hat); replace HB := am_ (hb); have HO313 := am_ (ho); clear HO_4; clear ho hb hg hat) | ((with_reducible refine gate_builtin (b := .append) (xs := #[.tmp 61, .tmp 62]) rfl ?_); at_builtin; refine Kd.R_append_rows (Kd.int .u8) (w0 := w) w.heap.size rfl (.tmp 61) (.tmp 62) 22 5 (.int .u8 0) 1 rfl Try.underlying22 info5 rfl (by decide) (by omega) v312 y311 t305 _ _ _ (fun k_ => some k_ ≠ (.slice Ao41 t305.length co41 : Value).ownBlock ∧ some k_ ≠ (.slice Ao45 y308.length co45 : Value).ownBlock) (fun _ => False) rfl rfl ?aO ?aR (fun _ _ h => h) (fun _ h => h.elim) ?aF ?aB ?aS ?aL ?_; (case aR => exact qC ((Kd.R_reads' HO307.out).2.2)); (case aB => exact (qB HB)); (case aF => exact (fun k_ hk => ⟨Kd.fresh' (Kd.R_lt (qR HO307)) k_ hk, Kd.fresh' (Kd.R_lt (qR HO310)) k_ hk⟩)); (case aO => exact (qR HO313)); (case aS => exact (below_size (qB HB))); (case aL => have := LMc38.out; omega); intro v315 w46 ho hb hg hat; rw [← Ny314.out] at ho; replace BK278 := am_ (blk_grown (qK BK278) hg (Kd.R_ne HO313.out BK278.out (by decide))); replace HO307 := am_ (Kd.R_after (ok := (fun k_ => some k_ ≠ (.slice Ao45 y308.length co45 : Value).ownBlock)) (qR HO307) hg hat); replace HO310 := am_ (Kd.R_after (ok := (fun k_ => some k_ ≠ (.slice Ao41 t305.length co41 : Value).ownBlock)) (qR HO310) hg hat); replace HB := am_ (hb); have HO316 := am_ (ho); clear HO313; clear ho hb hg hat))
     go_roundg k2
     case measure => have := HJ7.out; have := HK2.out; omega
     case rel => exact ⟨(y314), (wrap64 (x5_2 + 1)), eqq_, H', ⟨by have := HJ7.out; have := HK2.out; omega⟩, ⟨by (with_reducible repeat (first | apply Kd.R_alloc | apply Kd.R_drewN | apply Kd.R_drew)); exact Kd.R_mono HO316.out (fun _ hk => trivial)⟩, ⟨qK BK278⟩, ⟨qB HB⟩⟩

end Go.Proofs.Ytiffahfpfgnjnaa.PFnWays
