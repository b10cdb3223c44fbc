-- Written by a program of this session (myprint.py, over the kit's print): contracts of FnFrames
import Derived.Test.YtaimfkfpglhijaaDoorPFnFramesx0
import Derived.Test.YtaimfkfpglhijaaDoorPFnFramesx1
import Derived.Test.YtaimfkfpglhijaaDoorPFnFramesx2
import Derived.Test.YtaimfkfpglhijaaDoorPFnFramesx3
import Derived.Test.YtaimfkfpglhijaaDoorPFnFramesx4
import Derived.Test.YtaimfkfpglhijaaDoorPFnFramesx5
import Derived.Test.YtaimfkfpglhijaaDoorPFnFramesx6
import Derived.Test.YtaimfkfpglhijaaDoorPFnFramesx7
namespace Go.Proofs.YtaimfkfpglhijaaDoor.PFnFrames
open Go.RowKit Go.Proofs.YtaimfkfpglhijaaDoorW.PrintWords Go.Proofs.YtaimfkfpglhijaaDoorW.PrintLast Go.Proofs.YtaimfkfpglhijaaDoorW.PrintMore Go.Proofs.YtaimfkfpglhijaaDoorV
attribute [local go_sem] max2_int min2_int max_two min_two max_three min_three max_four min_four   -- for this text's walks alone
set_option linter.unusedVariables false
set_option linter.unusedSimpArgs false

attribute [local go_sem high] eqA25
/-! ### laws_FnFrames: function 3 -/
def laws_FnFrames.j0 : Nat → List Int → List Int → Bool → Int → ByteArray → Int → Option (Bool)
 | 0, _, _, _, _, _, _ => none
 | k + 1, x0, x4, x29, x399000, x399001, x399002 => if x29 = true then (some false) else ((impl_FrameOk.f k x399000 x399001 x399002).bind fun t406 => (if t406 = true then ((spec_DrawGetFrame.f k x0).bind fun t407 => ((some (([] : List Int) : List Int)).bind fun y410 => (if y410.length + x4.length < 140737488355328 then ((some (y410 ++ x4 : List Int)).bind fun y413 => (if y413.length + t407.length < 140737488355328 then ((impl_GetFrame.f k (y413 ++ t407)).bind fun bt419 => ((laws_at.f x0 3).bind fun t425 => (if (x4.length : Int) = 0 then (none) else (if 0 ≤ (Int.tmod t425 (x4.length : Int)) then (if (Int.tmod t425 (x4.length : Int)) ≤ (x4.length : Int) then ((impl_GetFrame.f k (x4.take ((Int.tmod t425 (x4.length : Int)) : Int).toNat)).bind fun bt430 => (if bt419.2.2.2.2 = 0 then (if bt419.2.2.2.1 = (x4.length : Int) then (if (bt419.1 == x399000 && (bt419.2.1.toList == x399001.toList && (bt419.2.2.1 == x399002))) = true then (if bt430.2.2.2.2 = 1 then (some (bt430.2.2.2.1 == 0)) else (some false)) else (some false)) else (some false)) else (some false))) else (none)) else (none))))) else (none))) else (none)))) else (some ((x4.length : Int) == 0))))
def laws_FnFrames.f (k : Nat) (l0 : List Int) : Option (Bool) := (laws_big.f l0).bind fun t394 => (if t394 = true then (some true) else ((spec_DrawPutFrame.f k l0).bind fun bt395 => ((impl_PutFrame.f k bt395.1 bt395.2.1 bt395.2.2).bind fun t399 => ((impl_FrameOk.f k bt395.1 bt395.2.1 bt395.2.2).bind fun t402 => ((spec_FrameOk.f k bt395.1 bt395.2.1 bt395.2.2).bind fun t403 => (if (t402 != t403) = true then (laws_FnFrames.j0 k l0 t399 true bt395.1 bt395.2.1 bt395.2.2) else ((impl_FrameText.f k bt395.1 bt395.2.1 bt395.2.2).bind fun t404 => ((spec_FrameText.f k bt395.1 bt395.2.1 bt395.2.2).bind fun t405 => (laws_FnFrames.j0 k l0 t399 (t404.toList != t405.toList) bt395.1 bt395.2.1 bt395.2.2)))))))))
theorem laws_FnFrames.mono_l : ∀ k, (∀ y0 y1 y2 y3 y4 y5, LeO (laws_FnFrames.j0 k y0 y1 y2 y3 y4 y5) (laws_FnFrames.j0 (k + 1) y0 y1 y2 y3 y4 y5))
 | 0 => fun _ _ _ _ _ _ r h => by simp [laws_FnFrames.j0] at h
 | k + 1 => by
  have ih0 := laws_FnFrames.mono_l k
  ·
   intro y0 y1 y2 y3 y4 y5
   unfold laws_FnFrames.j0
   repeat' first
   | (with_reducible exact ih0 _ _ _ _ _ _)
   | (with_reducible exact impl_FrameOk.mono _ _ _ _)
   | (with_reducible exact impl_FrameText.mono _ _ _ _)
   | (with_reducible exact impl_GetFrame.mono _ _)
   | (with_reducible exact impl_PutFrame.mono _ _ _ _)
   | (with_reducible exact spec_DrawGetFrame.mono _ _)
   | (with_reducible exact spec_DrawPutFrame.mono _ _)
   | (with_reducible exact spec_FrameOk.mono _ _ _ _)
   | (with_reducible exact spec_FrameText.mono _ _ _ _)
   | (with_reducible exact LeO.refl _)
   | (with_reducible exact LeO.none _)
   | (with_reducible refine LeO.ite ?_ ?_)
   | (with_reducible refine LeO.bind ?_ (fun _ => ?_))
   | exact ih0 _ _ _ _ _ _
   | exact impl_FrameOk.mono _ _ _ _
   | exact impl_FrameText.mono _ _ _ _
   | exact impl_GetFrame.mono _ _
   | exact impl_PutFrame.mono _ _ _ _
   | exact spec_DrawGetFrame.mono _ _
   | exact spec_DrawPutFrame.mono _ _
   | exact spec_FrameOk.mono _ _ _ _
   | exact spec_FrameText.mono _ _ _ _
   | exact LeO.none _
   | refine LeO.ite ?_ ?_
   | refine LeO.bind ?_ (fun _ => ?_)
theorem laws_FnFrames.mono : ∀ a0 k, LeO (laws_FnFrames.f k a0) (laws_FnFrames.f (k + 1) a0) := by
 intro a0 k
 have ih0 := laws_FnFrames.mono_l k
 unfold laws_FnFrames.f
 repeat' first
   | (with_reducible exact ih0 _ _ _ _ _ _)
   | (with_reducible exact impl_FrameOk.mono _ _ _ _)
   | (with_reducible exact impl_FrameText.mono _ _ _ _)
   | (with_reducible exact impl_GetFrame.mono _ _)
   | (with_reducible exact impl_PutFrame.mono _ _ _ _)
   | (with_reducible exact spec_DrawGetFrame.mono _ _)
   | (with_reducible exact spec_DrawPutFrame.mono _ _)
   | (with_reducible exact spec_FrameOk.mono _ _ _ _)
   | (with_reducible exact spec_FrameText.mono _ _ _ _)
   | (with_reducible exact LeO.refl _)
   | (with_reducible exact LeO.none _)
   | (with_reducible refine LeO.ite ?_ ?_)
   | (with_reducible refine LeO.bind ?_ (fun _ => ?_))
   | exact ih0 _ _ _ _ _ _
   | exact impl_FrameOk.mono _ _ _ _
   | exact impl_FrameText.mono _ _ _ _
   | exact impl_GetFrame.mono _ _
   | exact impl_PutFrame.mono _ _ _ _
   | exact spec_DrawGetFrame.mono _ _
   | exact spec_DrawPutFrame.mono _ _
   | exact spec_FrameOk.mono _ _ _ _
   | exact spec_FrameText.mono _ _ _ _
   | exact LeO.none _
   | refine LeO.ite ?_ ?_
   | refine LeO.bind ?_ (fun _ => ?_)
def laws_FnFrames.T5 : Bool × List (List Nat × List Nat) := (true, [([], []), ([0], [0]), ([], []), ([2, 1], [2]), ([1, 3], [1, 3]), ([4, 3], [4]), ([5], [5]), ([6, 5, 5], [5, 6]), ([5], [5]), ([8, 7, 5], [5, 8]), ([7, 9, 5], [5, 7, 9]), ([5, 10], [5, 10])])
def laws_FnFrames.B5 : List Nat := [0, 1, 0, 7, 15, 31, 63, 127, 63, 511, 1023, 2047]
theorem laws_FnFrames.tab5 : rtab .any (opsOf Tryd.f3 5) = laws_FnFrames.T5 := by kernel_rfl
theorem laws_FnFrames.bits5 : waitsOk laws_FnFrames.T5.2 laws_FnFrames.B5 = true := by kernel_rfl
set_option maxHeartbeats 8000000 in
set_option maxRecDepth 100000 in
theorem laws_FnFrames.calls (k : Nat) (A0 : Option Addr) (c0 : Nat) (l0 : List Int) (r : Bool) (w : World) (hr0 : Kd.C (Kd.int .u8) w A0 l0.length l0) (hc0 : l0.length ≤ c0) (hr_ : Aside0 (r = true)) (h : laws_FnFrames.f k l0 = some r) :
  Calls Tryd.prog 3 #[.slice A0 l0.length c0] w fun e w' => e = .returned (.bool r) ∧ Below w.heap.size w w' := by
 have hu25 := Tryd.underlying25
 have HR0 := Aside0.mk hr0
 have HC0 := Aside0.mk hc0
 clear hr0 hc0
 have HB := Aside0.mk (Below.refl w.heap.size w)
 have H : ((laws_big.f l0).bind fun t394 => (if t394 = true then (some true) else ((spec_DrawPutFrame.f k l0).bind fun bt395 => ((impl_PutFrame.f k bt395.1 bt395.2.1 bt395.2.2).bind fun t399 => ((impl_FrameOk.f k bt395.1 bt395.2.1 bt395.2.2).bind fun t402 => ((spec_FrameOk.f k bt395.1 bt395.2.1 bt395.2.2).bind fun t403 => (if (t402 != t403) = true then (laws_FnFrames.j0 k l0 t399 true bt395.1 bt395.2.1 bt395.2.2) else ((impl_FrameText.f k bt395.1 bt395.2.1 bt395.2.2).bind fun t404 => ((spec_FrameText.f k bt395.1 bt395.2.1 bt395.2.2).bind fun t405 => (laws_FnFrames.j0 k l0 t399 (t404.toList != t405.toList) bt395.1 bt395.2.1 bt395.2.2)))))))))) = some r := h
 clear h
 obtain ⟨t394, A2, H⟩ := bd_ H
 have HC3 := Aside0.mk H
 clear H
 go_enter Tryd.func3, Tryd.ntmps3
 go_upto_if 13 with (first | ((with_reducible refine gate_callee (f := 4) rfl ?_); refine goesL_ (some 13) rfl rfl Tryd.func4 (by kernel_rfl) rfl #[.slice A0 l0.length c0] rfl la_ ?_; (with_reducible refine (laws_big.calls _ _ l0 t394 _ ?side1 ?side2 A2.out).mono ?_); (case side1 => exact qC (HR0.out)); (case side2 => exact HC0.out); rintro e w' ⟨rfl, ⟨nd, rfl⟩⟩; refine ⟨_, rfl, ?_⟩))
 (try simp only [Act.put, List.setIfInBounds_toArray, List.set_cons_zero, List.set_cons_succ])
 have H := HC3.out
 clear HC3
 by_cases c4 : t394 = true
 ·
  subst c4
  rw [if_pos rfl] at H
  obtain rfl := Option.some.inj H
  go_wp2
  go_ret
  exact ⟨by first | rfl | (simp [errW_none, errW_some] <;> rfl) | (simp [*, errW_none, errW_some] <;> rfl), qB HB⟩
 ·
  replace c4 := Bool.eq_false_iff.mpr c4
  subst c4
  rw [if_neg (show ¬ (false = true) by decide)] at H
  obtain ⟨⟨t395, t396, t397⟩, A5, H⟩ := bd_ H
  (try dsimp only at H)
  obtain ⟨t399, A6, H⟩ := bd_ H
  have HC7 := Aside0.mk H
  clear H
  go_upto_region 5 with (first | ((with_reducible refine gate_callee (f := 5) rfl ?_); refine goesL_ (some 15) rfl rfl Tryd.func5 (by kernel_rfl) rfl #[.slice A0 l0.length c0] rfl la_ ?_; (with_reducible refine (spec_DrawPutFrame.calls k _ _ l0 t395 t396 t397 _ ?side1 ?side2 A5.out).mono ?_); (case side1 => exact qC (Kd.C_below HR0.out HB.out)); (case side2 => exact HC0.out); rintro e w8 ⟨rfl, hb⟩; refine ⟨_, rfl, ?_⟩; replace HB := am_ (below_step (qB HB) hb); (try clear hb); (try clear hb2); (try clear hk); (try clear hi)) | ((with_reducible refine gate_dst (N := 3) rfl ?_); (try (refine gate_guard (by rfl) ?_; dsimp only)); refine box_event ?hg (N := 3) ?hd (cs := #[.int .i64 0, .string (⟨#[]⟩ : ByteArray), .int .i64 0]) (t := 25) ?hr ?_; (case hd => rfl); (case hg => rfl); (case hr => first | (go_simp; done) | (go_simp; rfl)); intro gb398 hg w9 hbox hb; have BK398 := am_ (hbox); have GW398 := am_ ((gG_ hg (qB HB))); have IGW398 := gI_ GW398; have GE398 := am_ ((gG_ hg (qB HB))); have IGE398 := gI_ GE398; replace HB := am_ (below_step (qB HB) hb); clear hb hbox hg; obtain ⟨z10_0, z10_1, z10_2⟩ := cz3 BK398.out; obtain ⟨f10_0, f10_1, f10_2⟩ := fz3 BK398.out) | ((with_reducible refine gate_callee (f := 6) rfl ?_); refine goesL_ (some 17) rfl rfl Tryd.func6 (by kernel_rfl) rfl #[.agg #[.int .i64 t395, .string t396, .int .i64 t397]] rfl la_ ?_; (with_reducible refine (impl_PutFrame.calls k t395 t396 t397 t399 _ A6.out).mono ?_); rintro e w11 ⟨v400, rfl, ho0, hb⟩; refine ⟨_, rfl, ?_⟩; have HO401 := am_ (Kd.R_lower ho0 (below_size (qB HB))); replace BK398 := am_ (blk_below (g := gb398) (o := .cells #[.int .i64 t395, .string t396, .int .i64 t397] 25 (0, 0)) (by (with_reducible repeat (first | refine blk_drewN ?_ _ | refine blk_drew ?_ | refine blk_alloc ?_ _)); refine Go.Proofs.YtaimfkfpglhijaaDoorV.blk_all3 (show _ = some (Go.Obj.cells #[.int .i64 0, .string (⟨#[]⟩ : ByteArray), .int .i64 0] _ (0, 0)) from ?_); (with_reducible repeat (first | refine blk_drewN ?_ _ | refine blk_drew ?_ | refine blk_alloc ?_ _)); exact BK398.out) hb); replace HB := am_ (below_step (qB HB) hb); (try clear hb); (try clear hb2); (try clear hk); (try clear hi); (try clear ho0)))
  (try simp only [Act.put, List.setIfInBounds_toArray, List.set_cons_zero, List.set_cons_succ])
  go_cut [29] (fun v29 wc => ∃ (kq : Nat) (x29_6 : Bool), v29 = .bool x29_6 ∧ Aside0 (laws_FnFrames.j0 kq l0 t399 x29_6 t395 t396 t397 = some r) ∧ Aside0 (kq ≤ k) ∧ Aside0 (Kd.R (Kd.int .u8) 5 wc w.heap.size (fun _ => True) v400 t399) ∧ Aside0 (wc.heap[gb398]? = some (.cells #[.int .i64 t395, .string t396, .int .i64 t397] 25 (0, 0))) ∧ Aside0 (Below w.heap.size w wc))
  case first =>
   have H := HC7.out
   clear HC7
   obtain ⟨t402, A12, H⟩ := bd_ H
   obtain ⟨t403, A13, H⟩ := bd_ H
   by_cases c14 : (t402 != t403) = true
   ·
    rw [if_pos c14] at H
    have c14b0 : (t402 != t403) = true := c14
    (try (have c14b1 : decide (t402 = t403) = false := by simpa using c14))
    (try (have c14b2 : (t402 == t403) = false := by simpa using c14))
    (try (have c14b3 : ¬ (t402 = t403) := by simpa using c14))
    clear c14
    (first | rw [c14b0] | rw [c14b1] | rw [c14b2] | rw [c14b3] | (simp only [i64_w, i32_w]; rw [c14b0]) | skip)
    have H' := Aside0.mk H
    clear H
    try go_wp2
    replace HO401 := am_ (Kd.R_drew HO401.out)
    replace BK398 := am_ (blk_drew BK398.out)
    replace HB := am_ (below_drew1 HB.out)
    refine start_ (n := 12) (S := fun w' => w'.cell? ⟨gb398, 0, none⟩ = some (.int .i64 t395) ∧ w'.cell? ⟨gb398, 1, none⟩ = some (.string t396) ∧ w'.cell? ⟨gb398, 2, none⟩ = some (.int .i64 t397)) (ds := []) (rl [0,12]) (by kernel_rfl) rfl rfl (cz3 BK398.out) (fun hHeld => ?_); refine with_tabW laws_FnFrames.tab5 laws_FnFrames.bits5 (fun HT_ HW_ => ?_)
    generalize w11.drew = w15 at HO401 BK398 HB hHeld ⊢
    refine take_ (i := 0) (N := some 18) (v := ?_) (a' := ?_) (rl [1,11]) rfl rfl (take_ofW HT_.out HW_.out (by kernel_rfl)) (fun _ _ _ h => h) (Or.inl ⟨by rfl, ?_⟩) hHeld ?_ ?_
    rotate_left
    ·
     rintro w' ⟨s0, s1, s2⟩
     go_simp
     with_reducible rfl
    rotate_left
    ·
     exact ap_
    refine take_ (i := 2) (N := some 20) (v := ?_) (a' := ?_) (rl [1,1,1,9]) rfl rfl (take_ofW HT_.out HW_.out (by kernel_rfl)) (fun _ _ _ h => h) (Or.inl ⟨by rfl, ?_⟩) hHeld ?_ ?_
    rotate_left
    ·
     rintro w' ⟨s0, s1, s2⟩
     go_simp
     with_reducible rfl
    rotate_left
    ·
     exact ap_
    refine one_ (i := 1) (N := some 19) (rl [3,9]) rfl rfl (one_of HT_.out (by kernel_rfl)) (by decide) (fun K hK => ?_)
    refine goes_ Tryd.func7 (by kernel_rfl) rfl #[.agg #[.int .i64 t395, .string t396, .int .i64 t397]] (by rfl) rfl rfl la_ ?_
    with_reducible refine (impl_FrameOk.calls k t395 t396 t397 t402 _ A12.out).mono ?_
    rintro e w16 ⟨rfl, hb⟩
    refine ⟨_, rfl, ?_⟩
    replace HO401 := am_ (Kd.R_below (qR HO401) hb)
    replace BK398 := am_ (blk_below (qK BK398) hb)
    replace HB := am_ (below_step (qB HB) hb)
    (try clear hb)
    refine hK.out _ _ (cz3 BK398.out) (fun hHeld => ?_)
    clear hK K
    refine norm_ (a' := ?_) ?_ ?_
    rotate_left
    ·
     show Act.put _ (some 19) _ = _
     exact ap_
    refine one_ (i := 3) (N := some 21) (rl [4,8]) rfl rfl (one_of HT_.out (by kernel_rfl)) (by decide) (fun K hK => ?_)
    refine goes_ Tryd.func8 (by kernel_rfl) rfl #[.agg #[.int .i64 t395, .string t396, .int .i64 t397]] (by rfl) rfl rfl la_ ?_
    with_reducible refine (spec_FrameOk.calls k t395 t396 t397 t403 _ A13.out).mono ?_
    rintro e w17 ⟨rfl, hb⟩
    refine ⟨_, rfl, ?_⟩
    replace HO401 := am_ (Kd.R_below (qR HO401) hb)
    replace BK398 := am_ (blk_below (qK BK398) hb)
    replace HB := am_ (below_step (qB HB) hb)
    (try clear hb)
    refine hK.out _ _ (cz3 BK398.out) (fun hHeld => ?_)
    clear hK K
    refine norm_ (a' := ?_) ?_ ?_
    rotate_left
    ·
     show Act.put _ (some 21) _ = _
     exact ap_
    refine pz_ (i := 4) (N := some 22) HT_ (rl [5,7]) rfl rfl ?_
    refine pz_ (i := 5) (N := some 23) HT_ (rl [6,6]) rfl rfl ?_
    refine pu_ (i := 6) (N := some 24) HT_ (rl [7,5]) rfl rfl ?_
    refine pu_ (i := 7) (N := some 25) HT_ (rl [8,4]) rfl rfl ?_
    refine pu_ (i := 8) (N := some 26) HT_ (rl [9,3]) rfl rfl ?_
    refine pu_ (i := 9) (N := some 27) HT_ (rl [10,2]) rfl rfl ?_
    refine pu_ (i := 10) (N := some 28) HT_ (rl [11,1]) rfl rfl ?_
    refine pz_ (i := 11) (N := some 29) HT_ (rl [12]) rfl rfl ?_
    refine done_ (done_of HT_.out (by kernel_rfl)) ?_
    try go_wp2
    go_meet
    case rel => exact ⟨_, (true), eqq_, H', ⟨by first | omega | exact Nat.le_refl _⟩, ⟨qR HO401⟩, ⟨qK BK398⟩, ⟨qB HB⟩⟩
   ·
    rw [if_neg c14] at H
    have c14b0 : (t402 != t403) = false := by simpa using c14
    (try (have c14b1 : decide (t402 = t403) = true := by simpa using c14))
    (try (have c14b2 : (t402 == t403) = true := by simpa using c14))
    clear c14
    (first | rw [c14b0] | rw [c14b1] | rw [c14b2] | (simp only [i64_w, i32_w]; rw [c14b0]) | skip)
    obtain ⟨t404, A18, H⟩ := bd_ H
    obtain ⟨t405, A19, H⟩ := bd_ H
    have H' := Aside0.mk H
    clear H
    try go_wp2
    replace HO401 := am_ (Kd.R_drew HO401.out)
    replace BK398 := am_ (blk_drew BK398.out)
    replace HB := am_ (below_drew1 HB.out)
    refine start_ (n := 12) (S := fun w' => w'.cell? ⟨gb398, 0, none⟩ = some (.int .i64 t395) ∧ w'.cell? ⟨gb398, 1, none⟩ = some (.string t396) ∧ w'.cell? ⟨gb398, 2, none⟩ = some (.int .i64 t397)) (ds := []) (rl [0,12]) (by kernel_rfl) rfl rfl (cz3 BK398.out) (fun hHeld => ?_); refine with_tabW laws_FnFrames.tab5 laws_FnFrames.bits5 (fun HT_ HW_ => ?_)
    generalize w11.drew = w20 at HO401 BK398 HB hHeld ⊢
    refine take_ (i := 0) (N := some 18) (v := ?_) (a' := ?_) (rl [1,11]) rfl rfl (take_ofW HT_.out HW_.out (by kernel_rfl)) (fun _ _ _ h => h) (Or.inl ⟨by rfl, ?_⟩) hHeld ?_ ?_
    rotate_left
    ·
     rintro w' ⟨s0, s1, s2⟩
     go_simp
     with_reducible rfl
    rotate_left
    ·
     exact ap_
    refine take_ (i := 2) (N := some 20) (v := ?_) (a' := ?_) (rl [1,1,1,9]) rfl rfl (take_ofW HT_.out HW_.out (by kernel_rfl)) (fun _ _ _ h => h) (Or.inl ⟨by rfl, ?_⟩) hHeld ?_ ?_
    rotate_left
    ·
     rintro w' ⟨s0, s1, s2⟩
     go_simp
     with_reducible rfl
    rotate_left
    ·
     exact ap_
    refine one_ (i := 1) (N := some 19) (rl [3,9]) rfl rfl (one_of HT_.out (by kernel_rfl)) (by decide) (fun K hK => ?_)
    refine goes_ Tryd.func7 (by kernel_rfl) rfl #[.agg #[.int .i64 t395, .string t396, .int .i64 t397]] (by rfl) rfl rfl la_ ?_
    with_reducible refine (impl_FrameOk.calls k t395 t396 t397 t402 _ A12.out).mono ?_
    rintro e w21 ⟨rfl, hb⟩
    refine ⟨_, rfl, ?_⟩
    replace HO401 := am_ (Kd.R_below (qR HO401) hb)
    replace BK398 := am_ (blk_below (qK BK398) hb)
    replace HB := am_ (below_step (qB HB) hb)
    (try clear hb)
    refine hK.out _ _ (cz3 BK398.out) (fun hHeld => ?_)
    clear hK K
    refine norm_ (a' := ?_) ?_ ?_
    rotate_left
    ·
     show Act.put _ (some 19) _ = _
     exact ap_
    refine one_ (i := 3) (N := some 21) (rl [4,8]) rfl rfl (one_of HT_.out (by kernel_rfl)) (by decide) (fun K hK => ?_)
    refine goes_ Tryd.func8 (by kernel_rfl) rfl #[.agg #[.int .i64 t395, .string t396, .int .i64 t397]] (by rfl) rfl rfl la_ ?_
    with_reducible refine (spec_FrameOk.calls k t395 t396 t397 t403 _ A13.out).mono ?_
    rintro e w22 ⟨rfl, hb⟩
    refine ⟨_, rfl, ?_⟩
    replace HO401 := am_ (Kd.R_below (qR HO401) hb)
    replace BK398 := am_ (blk_below (qK BK398) hb)
    replace HB := am_ (below_step (qB HB) hb)
    (try clear hb)
    refine hK.out _ _ (cz3 BK398.out) (fun hHeld => ?_)
    clear hK K
    refine norm_ (a' := ?_) ?_ ?_
    rotate_left
    ·
     show Act.put _ (some 21) _ = _
     exact ap_
    refine pz_ (i := 4) (N := some 22) HT_ (rl [5,7]) rfl rfl ?_
    refine pz_ (i := 5) (N := some 23) HT_ (rl [6,6]) rfl rfl ?_
    refine take_ (i := 6) (N := some 24) (v := ?_) (a' := ?_) (rl [7,5]) rfl rfl (take_ofW HT_.out HW_.out (by kernel_rfl)) (fun _ _ _ h => h) (Or.inl ⟨by rfl, ?_⟩) hHeld ?_ ?_
    rotate_left
    ·
     rintro w' ⟨s0, s1, s2⟩
     go_simp
     with_reducible rfl
    rotate_left
    ·
     exact ap_
    refine take_ (i := 8) (N := some 26) (v := ?_) (a' := ?_) (rl [7,1,1,3]) rfl rfl (take_ofW HT_.out HW_.out (by kernel_rfl)) (fun _ _ _ h => h) (Or.inl ⟨by rfl, ?_⟩) hHeld ?_ ?_
    rotate_left
    ·
     rintro w' ⟨s0, s1, s2⟩
     go_simp
     with_reducible rfl
    rotate_left
    ·
     exact ap_
    refine one_ (i := 7) (N := some 25) (rl [9,3]) rfl rfl (one_of HT_.out (by kernel_rfl)) (by decide) (fun K hK => ?_)
    refine goes_ Tryd.func9 (by kernel_rfl) rfl #[.agg #[.int .i64 t395, .string t396, .int .i64 t397]] (by rfl) rfl rfl la_ ?_
    with_reducible refine (impl_FrameText.calls k t395 t396 t397 t404 _ A18.out).mono ?_
    rintro e w23 ⟨rfl, hb⟩
    refine ⟨_, rfl, ?_⟩
    replace HO401 := am_ (Kd.R_below (qR HO401) hb)
    replace BK398 := am_ (blk_below (qK BK398) hb)
    replace HB := am_ (below_step (qB HB) hb)
    (try clear hb)
    refine hK.out _ _ (cz3 BK398.out) (fun hHeld => ?_)
    clear hK K
    refine norm_ (a' := ?_) ?_ ?_
    rotate_left
    ·
     show Act.put _ (some 25) _ = _
     exact ap_
    refine one_ (i := 9) (N := some 27) (rl [10,2]) rfl rfl (one_of HT_.out (by kernel_rfl)) (by decide) (fun K hK => ?_)
    refine goes_ Tryd.func10 (by kernel_rfl) rfl #[.agg #[.int .i64 t395, .string t396, .int .i64 t397]] (by rfl) rfl rfl la_ ?_
    with_reducible refine (spec_FrameText.calls k t395 t396 t397 t405 _ A19.out).mono ?_
    rintro e w24 ⟨rfl, hb⟩
    refine ⟨_, rfl, ?_⟩
    replace HO401 := am_ (Kd.R_below (qR HO401) hb)
    replace BK398 := am_ (blk_below (qK BK398) hb)
    replace HB := am_ (below_step (qB HB) hb)
    (try clear hb)
    refine hK.out _ _ (cz3 BK398.out) (fun hHeld => ?_)
    clear hK K
    refine norm_ (a' := ?_) ?_ ?_
    rotate_left
    ·
     show Act.put _ (some 27) _ = _
     exact ap_
    refine pz_ (i := 10) (N := some 28) HT_ (rl [11,1]) rfl rfl ?_
    refine pz_ (i := 11) (N := some 29) HT_ (rl [12]) rfl rfl ?_
    refine done_ (done_of HT_.out (by kernel_rfl)) ?_
    try go_wp2
    go_meet
    case rel => exact ⟨_, ((t404.toList != t405.toList)), eqq_, H', ⟨by first | omega | exact Nat.le_refl _⟩, ⟨qR HO401⟩, ⟨qK BK398⟩, ⟨qB HB⟩⟩
  case rest =>
   clear HC7
   try clear c1
   try clear p2
   try clear c3
   try clear c4
   try clear c5
   try clear c6
   try clear c7
   try clear c8
   try clear c9
   try clear c10
   try clear c14
   try clear c14b0
   try clear c14b1
   try clear c14b2
   (try clear z10_0 z10_1 z10_2)
   (try clear f10_0 f10_1 f10_2)
   obtain ⟨kq, x29_6, rfl, HA, HJ6, HO_4, BK398, HB⟩ := hcut
   cases kq with
   | zero => exact absurd HA.out (by simp [laws_FnFrames.j0])
   | succ kj6 =>
    have H := HA.out
    clear HA
    simp only [laws_FnFrames.j0] at H
    by_cases c25 : x29_6 = true
    ·
     subst c25
     rw [if_pos rfl] at H
     exact absurd (hr_.out ▸ H) (by simp)
    ·
     replace c25 := Bool.eq_false_iff.mpr c25
     subst c25
     rw [if_neg (show ¬ (false = true) by decide)] at H
     obtain ⟨t406, A26, H⟩ := bd_ H
     have HC27 := Aside0.mk H
     clear H
     obtain ⟨z28_0, z28_1, z28_2⟩ := cz3 BK398.out
     obtain ⟨f28_0, f28_1, f28_2⟩ := fz3 BK398.out
     go_upto_if 32 with (first | ((with_reducible refine gate_callee (f := 7) rfl ?_); refine goesL_ (some 31) rfl rfl Tryd.func7 (by kernel_rfl) rfl #[.agg #[.int .i64 t395, .string t396, .int .i64 t397]] rfl la_ ?_; (with_reducible refine (impl_FrameOk.calls kj6 t395 t396 t397 t406 _ A26.out).mono ?_); rintro e w29 ⟨rfl, hb⟩; refine ⟨_, rfl, ?_⟩; replace HO_4 := am_ (Kd.R_below (qR HO_4) hb); replace BK398 := am_ (blk_below (qK BK398) hb); replace HB := am_ (below_step (qB HB) hb); (try clear hb); (try clear hb2); (try clear hk); (try clear hi)))
     (try simp only [Act.put, List.setIfInBounds_toArray, List.set_cons_zero, List.set_cons_succ])
     have H := HC27.out
     clear HC27
     by_cases c30 : t406 = true
     ·
      subst c30
      rw [if_pos rfl] at H
      obtain ⟨t407, A31, H⟩ := bd_ H
      obtain ⟨y410, hy410⟩ : ∃ y_ : List Int, y_ = (([] : List Int)) := ⟨_, rfl⟩
      replace H := mk_ H hy410
      (try dsimp only at H)
      have Ny410 := Aside0.mk hy410
      clear hy410
      by_cases c32 : y410.length + t399.length < 140737488355328
      ·
       rw [if_pos c32] at H
       have LMc32 := Aside0.mk c32
       clear c32
       obtain ⟨y413, hy413⟩ : ∃ y_ : List Int, y_ = (y410 ++ t399) := ⟨_, rfl⟩
       replace H := mk_ H hy413
       (try dsimp only at H)
       have Ny413 := Aside0.mk hy413
       clear hy413
       by_cases c33 : y413.length + t407.length < 140737488355328
       ·
        rw [if_pos c33] at H
        have LMc33 := Aside0.mk c33
        clear c33
        obtain ⟨y416, hy416⟩ : ∃ y_ : List Int, y_ = (y413 ++ t407) := ⟨_, rfl⟩
        replace H : ((impl_GetFrame.f kj6 y416).bind fun bt419 => ((laws_at.f l0 3).bind fun t425 => (if (t399.length : Int) = 0 then (none) else (if 0 ≤ (Int.tmod t425 (t399.length : Int)) then (if (Int.tmod t425 (t399.length : Int)) ≤ (t399.length : Int) then ((impl_GetFrame.f kj6 (t399.take ((Int.tmod t425 (t399.length : Int)) : Int).toNat)).bind fun bt430 => (if bt419.2.2.2.2 = 0 then (if bt419.2.2.2.1 = (t399.length : Int) then (if (bt419.1 == t395 && (bt419.2.1.toList == t396.toList && (bt419.2.2.1 == t397))) = true then (if bt430.2.2.2.2 = 1 then (some (bt430.2.2.2.1 == 0)) else (some false)) else (some false)) else (some false)) else (some false))) else (none)) else (none))))) = some r := by first | (rw [hy416]; with_reducible exact H) | (have H2_ := (Option.bind_some _ _).symm.trans H; rw [hy416]; with_reducible exact H2_) | (have H2_ := (Option.bind_some _ _).symm.trans H; with_reducible exact H2_) | with_reducible exact H | (rw [hy416]; exact H) | exact H
        have Ny416 := Aside0.mk hy416
        clear hy416
        obtain ⟨⟨t419, t420, t421, t422, t423⟩, A34, H⟩ := bd_ H
        (try dsimp only at H)
        obtain ⟨t425, A35, H⟩ := bd_ H
        by_cases c36 : (t399.length : Int) = 0
        ·
         rw [if_pos c36] at H
         exact absurd H (by simp)
        ·
         rw [if_neg c36] at H
         have c36b0 : ((t399.length : Int) == 0) = false := beq_eq_false_iff_ne.mpr c36
         have c36b1 : ((t399.length : Int) != 0) = true := bne_iff_ne.mpr c36
         have c36b2 : ¬ (t399 = []) := fun h_ => c36 (by rw [h_]; rfl)
         (first | rw [c36b0] | rw [c36b1] | rw [c36b2] | (simp only [i64_w, i32_w]; rw [c36b0]) | skip)
         obtain ⟨ji37, hji37⟩ : ∃ j_ : Int, (Int.tmod t425 (t399.length : Int)) = j_ := ⟨_, rfl⟩
         replace H : (if 0 ≤ (ji37) then (if (ji37) ≤ (t399.length : Int) then ((impl_GetFrame.f kj6 (t399.take ((ji37) : Int).toNat)).bind fun bt430 => (if t423 = 0 then (if t422 = (t399.length : Int) then (if (t419 == t395 && (t420.toList == t396.toList && (t421 == t397))) = true then (if bt430.2.2.2.2 = 1 then (some (bt430.2.2.2.1 == 0)) else (some false)) else (some false)) else (some false)) else (some false))) else (none)) else (none)) = some r := by first | (rw [hji37] at H; exact H) | (simp only [hji37] at H ⊢; exact H)
         (try rw [hji37] at A31)
         (try rw [hji37] at A34)
         (try rw [hji37] at A35)
         by_cases c38 : 0 ≤ (ji37)
         ·
          rw [if_pos c38] at H
          have c38b0 := eq_true c38
          have c38b1 : decide (0 ≤ (ji37)) = true := decide_eq_true c38
          clear c38
          by_cases c39 : (ji37) ≤ (t399.length : Int)
          ·
           rw [if_pos c39] at H
           have c39b0 := eq_true c39
           have c39b1 : decide ((ji37) ≤ (t399.length : Int)) = true := decide_eq_true c39
           clear c39
           obtain ⟨y426, hy426⟩ : ∃ y_ : List Int, y_ = (t399.take ((ji37) : Int).toNat) := ⟨_, rfl⟩
           rw [← hy426] at H
           have Ny426 := Aside0.mk hy426
           clear hy426
           obtain ⟨⟨t430, t431, t432, t433, t434⟩, A40, H⟩ := bd_ H
           (try dsimp only at H)
           by_cases c41 : t423 = 0
           ·
            rw [if_pos c41] at H
            have c41b0 : (t423 == 0) = true := beq_iff_eq.mpr c41
            have c41b1 : (t423 != 0) = false := bne_eq_false_iff_eq.mpr c41
            clear c41
            by_cases c42 : t422 = (t399.length : Int)
            ·
             rw [if_pos c42] at H
             have c42b0 : (t422 == (t399.length : Int)) = true := beq_iff_eq.mpr c42
             have c42b1 : (t422 != (t399.length : Int)) = false := bne_eq_false_iff_eq.mpr c42
             clear c42
             by_cases c43 : (t419 == t395 && (t420.toList == t396.toList && (t421 == t397))) = true
             ·
              rw [if_pos c43] at H
              have c43b0 : (t419 == t395 && (t420.toList == t396.toList && (t421 == t397))) = true := c43
              (try (have c43b1 : decide (t419 = t395 && (t420.toList == t396.toList && (t421 == t397))) = true := by simpa using c43))
              (try (have c43b2 : (t419 == t395 && (t420.toList == t396.toList && (t421 == t397))) = true := by simpa using c43))
              clear c43
              by_cases c44 : t434 = 1
              ·
               rw [if_pos c44] at H
               have c44b0 : (t434 == 1) = true := beq_iff_eq.mpr c44
               have c44b1 : (t434 != 1) = false := bne_eq_false_iff_eq.mpr c44
               clear c44
               obtain rfl := Option.some.inj H
               go_wp2_with (first | ((with_reducible refine gate_callee (f := 11) rfl ?_); refine goesL_ (some 37) rfl rfl Tryd.func11 (by kernel_rfl) rfl #[.slice A0 l0.length c0] rfl la_ ?_; (with_reducible refine (spec_DrawGetFrame.calls kj6 _ _ l0 t407 _ ?side1 ?side2 A31.out).mono ?_); (case side1 => exact qC (Kd.C_below HR0.out HB.out)); (case side2 => exact HC0.out); rintro e w45 ⟨v408, rfl, ho0, hb⟩; refine ⟨_, rfl, ?_⟩; have HO409 := am_ (Kd.R_lower (Kd.R_new' ho0 (Kd.R_lt (qR HO_4))) (below_size (qB HB))); replace HO_4 := am_ (eR HO_4 ho0 hb); replace BK398 := am_ (blk_below (qK BK398) hb); replace HB := am_ (below_step (qB HB) hb); (try clear hb); (try clear hb2); (try clear hk); (try clear hi); (try clear ho0)) | ((with_reducible refine gate_dst (N := 39) rfl ?_); (try (refine gate_guard (by rfl) ?_; dsimp only)); refine Kd.R_lit (Kd.int .u8) _ 5 ?hg (N := 39) ?hd (xs := ([] : List Int)) (inner := []) (ok := fun _ => True) (okp := fun _ => True) ?hr ?hp (fun _ hk => hk) trivial (Below.refl _ _) (Nat.le_refl _) (by simp) ?_; (case hd => rfl); (case hg => rfl); (case hr => first | (go_simp; done) | (go_simp; rfl) | ((try (obtain ⟨_, _, rfl⟩ := Kd.R_slice HO409.out)); (try (obtain ⟨_, _, rfl⟩ := Kd.R_slice HO412.out)); (try (obtain ⟨_, _, rfl⟩ := Kd.R_slice HO415.out)); (try (obtain ⟨_, _, rfl⟩ := Kd.R_slice HO418.out)); first | (go_simp; done) | (go_simp; rfl))); (case hp => exact (Reps.none _ _)); intro v411 w46 ho47 hb hg_ hnew_; clear hg_ hnew_; (first | rw [← Ny410.out] at ho47 | (simp only [Int.reduceToNat] at ho47; rw [← Ny410.out] at ho47)); have HO412 := am_ (Kd.R_lower (Kd.R_new' (Kd.R_new' ho47 (Kd.R_lt (qR HO_4))) (Kd.R_lt (qR HO409))) (below_size (qB HB))); replace HO_4 := am_ (eR HO_4 ho47 hb); replace HO409 := am_ (eR HO409 ho47 hb); replace BK398 := am_ (blk_below (qK BK398) hb); replace HB := am_ (below_step (qB HB) hb); clear hb ho47; obtain ⟨Ao49, co49, eo49⟩ := Kd.R_slice HO_4.out; subst eo49) | ((with_reducible refine gate_builtin (b := .append) (xs := #[.tmp 39, .tmp 40]) rfl ?_); (try (refine gate_guard (by rfl) ?_; dsimp only)); at_builtin; refine Kd.R_append_rows (Kd.int .u8) (w0 := w) w.heap.size rfl (.tmp 39) (.tmp 40) 22 5 (.int .u8 0) 1 rfl Tryd.underlying22 info5 rfl (by decide) (by omega) v411 y410 t399 _ _ _ (fun k_ => some k_ ≠ (.slice Ao49 t399.length co49 : Value).ownBlock ∧ some k_ ≠ (v408 : Value).ownBlock) (fun _ => False) rfl rfl ?aO ?aR (fun _ _ h => h) (fun _ h => h.elim) ?aF ?aB ?aS ?aL ?_; (case aR => exact qC ((Kd.R_reads' HO_4.out).2.2)); (case aB => exact (qB HB)); (case aF => exact (fun k_ hk => ⟨Kd.fresh' (Kd.R_lt (qR HO_4)) k_ hk, Kd.fresh' (Kd.R_lt (qR HO409)) k_ hk⟩)); (case aO => exact (tR (Kd.R_mono HO412.out (fun _ hk => ⟨hk.1.2, hk.2⟩)))); (case aS => exact (below_size (qB HB))); (case aL => have := LMc32.out; omega); intro v414 w48 ho hb hg hat; rw [← Ny413.out] at ho; replace HO_4 := am_ (Kd.R_after (ok := (fun k_ => some k_ ≠ (v408 : Value).ownBlock)) (tR (Kd.R_mono HO_4.out (fun _ hk => ⟨hk.1.2, hk.2⟩))) hg hat); replace BK398 := am_ (blk_grown (qK BK398) hg (Kd.R_ne HO412.out BK398.out (by decide))); replace HO409 := am_ (Kd.R_after (ok := (fun k_ => some k_ ≠ (.slice Ao49 t399.length co49 : Value).ownBlock)) (tR (Kd.R_mono HO409.out (fun _ hk => ⟨hk.1.2, hk.2⟩))) hg hat); replace HB := am_ (hb); have HO415 := am_ (ho); clear HO412; clear ho hb hg hat; obtain ⟨Ao51, co51, eo51⟩ := Kd.R_slice HO409.out; subst eo51) | ((with_reducible refine gate_builtin (b := .append) (xs := #[.tmp 41, .tmp 42]) rfl ?_); (try (refine gate_guard (by rfl) ?_; dsimp only)); at_builtin; refine Kd.R_append_rows (Kd.int .u8) (w0 := w) w.heap.size rfl (.tmp 41) (.tmp 42) 22 5 (.int .u8 0) 1 rfl Tryd.underlying22 info5 rfl (by decide) (by omega) v414 y413 t407 _ _ _ (fun k_ => some k_ ≠ (.slice Ao49 t399.length co49 : Value).ownBlock ∧ some k_ ≠ (.slice Ao51 t407.length co51 : Value).ownBlock) (fun _ => False) rfl rfl ?aO ?aR (fun _ _ h => h) (fun _ h => h.elim) ?aF ?aB ?aS ?aL ?_; (case aR => exact qC ((Kd.R_reads' HO409.out).2.2)); (case aB => exact (qB HB)); (case aF => exact (fun k_ hk => ⟨Kd.fresh' (Kd.R_lt (qR HO_4)) k_ hk, Kd.fresh' (Kd.R_lt (qR HO409)) k_ hk⟩)); (case aO => exact (qR HO415)); (case aS => exact (below_size (qB HB))); (case aL => have := LMc33.out; omega); intro v417 w50 ho hb hg hat; rw [← Ny416.out] at ho; replace HO_4 := am_ (Kd.R_after (ok := (fun k_ => some k_ ≠ (.slice Ao51 t407.length co51 : Value).ownBlock)) (qR HO_4) hg hat); replace BK398 := am_ (blk_grown (qK BK398) hg (Kd.R_ne HO415.out BK398.out (by decide))); replace HO409 := am_ (Kd.R_after (ok := (fun k_ => some k_ ≠ (.slice Ao49 t399.length co49 : Value).ownBlock)) (qR HO409) hg hat); replace HB := am_ (hb); have HO418 := am_ (ho); clear HO415; clear ho hb hg hat; obtain ⟨Ao52, co52, eo52⟩ := Kd.R_slice HO418.out; subst eo52) | ((with_reducible refine gate_callee (f := 12) rfl ?_); refine goesL_ (some 44) rfl rfl Tryd.func12 (by kernel_rfl) rfl #[.slice Ao52 y416.length co52] rfl la_ ?_; (with_reducible refine (impl_GetFrame.calls kj6 _ _ y416 t419 t420 t421 t422 t423 _ ?side1 ?side2 A34.out).mono ?_); (case side1 => exact qC ((Kd.R_reads' HO418.out).2.2)); (case side2 => exact (Kd.R_reads' HO418.out).2.1); rintro e w53 ⟨rfl, hb⟩; refine ⟨_, rfl, ?_⟩; replace HO_4 := am_ (Kd.R_below (qR HO_4) hb); replace HO409 := am_ (Kd.R_below (qR HO409) hb); replace HO418 := am_ (Kd.R_below (qR HO418) hb); replace BK398 := am_ (blk_below (qK BK398) hb); replace HB := am_ (below_step (qB HB) hb); (try clear hb); (try clear hb2); (try clear hk); (try clear hi)) | ((with_reducible refine gate_dst (N := 6) rfl ?_); (try (refine gate_guard (by rfl) ?_; dsimp only)); refine box_event ?hg (N := 6) ?hd (cs := #[.int .i64 0, .string (⟨#[]⟩ : ByteArray), .int .i64 0]) (t := 25) ?hr ?_; (case hd => rfl); (case hg => rfl); (case hr => first | (go_simp; done) | (go_simp; rfl) | ((try (obtain ⟨_, _, rfl⟩ := Kd.R_slice HO409.out)); (try (obtain ⟨_, _, rfl⟩ := Kd.R_slice HO412.out)); (try (obtain ⟨_, _, rfl⟩ := Kd.R_slice HO415.out)); (try (obtain ⟨_, _, rfl⟩ := Kd.R_slice HO418.out)); first | (go_simp; done) | (go_simp; rfl))); intro gb424 hg w54 hbox hb; replace HO_4 := am_ (Kd.R_below (qR HO_4) hb); replace HO409 := am_ (Kd.R_below (qR HO409) hb); replace HO418 := am_ (Kd.R_below (qR HO418) hb); have BK424 := am_ (hbox); have GW424 := am_ ((gG_ hg (qB HB))); have IGW424 := gI_ GW424; have GE424 := am_ ((gG_ hg (qB HB))); have IGE424 := gI_ GE424; replace HB := am_ (below_step (qB HB) hb); have NB398_424 := am_ ((gN_ hg (qK BK398))); have NB424_398 := am_ ((gM_ hg (qK BK398))); replace BK398 := am_ (blk_below (qK BK398) hb); clear hb hbox hg; have hnb55 := NB424_398.out; have hnc55 := NB398_424.out; obtain ⟨z56_0, z56_1, z56_2⟩ := cz3 BK424.out; obtain ⟨f56_0, f56_1, f56_2⟩ := fz3 BK424.out) | ((with_reducible refine gate_store (t := 25) (p := 6) rfl ?_); refine store_event (t := 25) (p := 6) (v := ?vo_w57) (w1 := (((w54.setCell ⟨gb424, 0, none⟩ (.int .i64 t419)).setCell ⟨gb424, 1, none⟩ (.string t420)).setCell ⟨gb424, 2, none⟩ (.int .i64 t421))) ?hg ?ho ?hn ?hr ?_; (case ho => rfl); (case hg => rfl); (case hn => rfl); (case hr => first | (go_simp; done) | (go_simp; rfl) | ((try (obtain ⟨_, _, rfl⟩ := Kd.R_slice HO409.out)); (try (obtain ⟨_, _, rfl⟩ := Kd.R_slice HO412.out)); (try (obtain ⟨_, _, rfl⟩ := Kd.R_slice HO415.out)); (try (obtain ⟨_, _, rfl⟩ := Kd.R_slice HO418.out)); first | (go_simp; done) | (go_simp; rfl))); intro w57 hw; have n0_ : Aside0 (Kd.R (Kd.int .u8) 5 w57 w.heap.size (fun k_ => some k_ ≠ (.slice Ao51 t407.length co51 : Value).ownBlock ∧ some k_ ≠ (.slice Ao52 y416.length co52 : Value).ownBlock) (.slice Ao49 t399.length co49) t399) := ⟨(by rw [hw]; exact (by (with_reducible repeat (first | apply Kd.R_alloc | apply Kd.R_drewN | apply Kd.R_drew)); exact Kd.R_mono (Go.Proofs.YtaimfkfpglhijaaDoorV.R_far3 (g := gb424) (Kd.R_types HO_4.out BK424.out (by decide)) (fun _ hk => hk.2)) (fun _ hk => ⟨hk.1.1, hk.1.2⟩)))⟩; have n1_ : Aside0 (Kd.R (Kd.int .u8) 5 w57 w.heap.size (fun k_ => some k_ ≠ (.slice Ao49 t399.length co49 : Value).ownBlock ∧ some k_ ≠ (.slice Ao52 y416.length co52 : Value).ownBlock) (.slice Ao51 t407.length co51) t407) := ⟨(by rw [hw]; exact (by (with_reducible repeat (first | apply Kd.R_alloc | apply Kd.R_drewN | apply Kd.R_drew)); exact Kd.R_mono (Go.Proofs.YtaimfkfpglhijaaDoorV.R_far3 (g := gb424) (Kd.R_types HO409.out BK424.out (by decide)) (fun _ hk => hk.2)) (fun _ hk => ⟨hk.1.1, hk.1.2⟩)))⟩; have n2_ : Aside0 (Kd.R (Kd.int .u8) 5 w57 w.heap.size (fun k_ => some k_ ≠ (.slice Ao49 t399.length co49 : Value).ownBlock ∧ some k_ ≠ (.slice Ao51 t407.length co51 : Value).ownBlock) (.slice Ao52 y416.length co52) y416) := ⟨(by rw [hw]; exact (by (with_reducible repeat (first | apply Kd.R_alloc | apply Kd.R_drewN | apply Kd.R_drew)); exact Kd.R_mono (Go.Proofs.YtaimfkfpglhijaaDoorV.R_far3 (g := gb424) (Kd.R_types HO418.out BK424.out (by decide)) (fun _ hk => hk.2)) (fun _ hk => ⟨hk.1.1, hk.1.2⟩)))⟩; have n3_ : Aside0 (w57.heap[gb398]? = some (.cells #[.int .i64 t395, .string t396, .int .i64 t397] 25 (0, 0))) := ⟨(by rw [hw]; exact (by (with_reducible repeat (first | refine blk_drewN ?_ _ | refine blk_drew ?_ | refine blk_alloc ?_ _)); refine Go.Proofs.YtaimfkfpglhijaaDoorV.blk_far3 ?_ NB398_424.out; (with_reducible repeat (first | refine blk_drewN ?_ _ | refine blk_drew ?_ | refine blk_alloc ?_ _)); exact BK398.out))⟩; have n4_ : Aside0 (w57.heap[gb424]? = some (.cells #[.int .i64 t419, .string t420, .int .i64 t421] 25 (0, 0))) := ⟨(by rw [hw]; exact (by (with_reducible repeat (first | refine blk_drewN ?_ _ | refine blk_drew ?_ | refine blk_alloc ?_ _)); refine Go.Proofs.YtaimfkfpglhijaaDoorV.blk_all3 (show _ = some (Go.Obj.cells #[.int .i64 0, .string (⟨#[]⟩ : ByteArray), .int .i64 0] _ (0, 0)) from ?_); (with_reducible repeat (first | refine blk_drewN ?_ _ | refine blk_drew ?_ | refine blk_alloc ?_ _)); exact BK424.out))⟩; have n5_ : Aside0 (Below w.heap.size w w57) := ⟨(by rw [hw]; exact (qB HB))⟩; clear hw; clear HO_4; clear HO409; clear HO418; clear BK398; clear BK424; clear HB; have HO_4 := n0_; have HO409 := n1_; have HO418 := n2_; have BK398 := n3_; have BK424 := n4_; have HB := n5_; clear n0_ n1_ n2_ n3_ n4_ n5_) | ((with_reducible refine gate_callee (f := 13) rfl ?_); refine goesL_ (some 51) rfl rfl Tryd.func13 (by kernel_rfl) rfl #[.slice A0 l0.length c0, .int .i64 3] rfl la_ ?_; (with_reducible refine (laws_at.calls _ _ l0 3 t425 _ ?side1 ?side2 A35.out).mono ?_); (case side1 => exact qC (Kd.C_below HR0.out HB.out)); (case side2 => exact HC0.out); rintro e w' ⟨rfl, ⟨nd, rfl⟩⟩; refine ⟨_, rfl, ?_⟩; (try (rw [drewN_self w57]; generalize hq_ : World.drewN w57 _ = w57; have n0_ : Aside0 (Kd.R (Kd.int .u8) 5 w57 w.heap.size (fun k_ => some k_ ≠ (.slice Ao52 y416.length co52 : Value).ownBlock ∧ some k_ ≠ (.slice Ao49 t399.length co49 : Value).ownBlock) (.slice Ao51 t407.length co51) t407) := ⟨by rw [← hq_]; exact (tR (Kd.R_mono HO409.out (fun _ hk => ⟨hk.2, hk.1⟩)))⟩; have n1_ : Aside0 (Kd.R (Kd.int .u8) 5 w57 w.heap.size (fun k_ => some k_ ≠ (.slice Ao51 t407.length co51 : Value).ownBlock ∧ some k_ ≠ (.slice Ao49 t399.length co49 : Value).ownBlock) (.slice Ao52 y416.length co52) y416) := ⟨by rw [← hq_]; exact (tR (Kd.R_mono HO418.out (fun _ hk => ⟨hk.2, hk.1⟩)))⟩; have n2_ : Aside0 (Kd.R (Kd.int .u8) 5 w57 w.heap.size (fun k_ => some k_ ≠ (.slice Ao51 t407.length co51 : Value).ownBlock ∧ some k_ ≠ (.slice Ao52 y416.length co52 : Value).ownBlock) (.slice Ao49 t399.length co49) t399) := ⟨by rw [← hq_]; exact (qR HO_4)⟩; have n3_ : Aside0 (w57.heap[gb398]? = some (.cells #[.int .i64 t395, .string t396, .int .i64 t397] 25 (0, 0))) := ⟨by rw [← hq_]; exact (qK BK398)⟩; have n4_ : Aside0 (w57.heap[gb424]? = some (.cells #[.int .i64 t419, .string t420, .int .i64 t421] 25 (0, 0))) := ⟨by rw [← hq_]; exact (qK BK424)⟩; have n5_ : Aside0 (Below w.heap.size w w57) := ⟨by rw [← hq_]; exact (qB HB)⟩; clear HO409 HO418 HO_4 BK398 BK424 HB hq_; have HO409 := n0_; have HO418 := n1_; have HO_4 := n2_; have BK398 := n3_; have BK424 := n4_; have HB := n5_; clear n0_ n1_ n2_ n3_ n4_ n5_)); have q58 : ((ji37) : Int) ≤ ((t399.length : Int) : Int) := od_; obtain ⟨i058, hi058, _, hsz58, _⟩ := info_parts info5; have hroom58 : t399.length ≤ co49 := (Kd.R_reads' HO_4.out).2.1; have hC58 : Kd.C (Kd.int .u8) _ Ao49 t399.length t399 := (Kd.R_reads' HO_4.out).2.2; have hcut58 := cut_to (P := Tryd.prog) 22 5 .i64 Tryd.underlying22 hi058 Ao49 t399.length co49 (ji37) od_ q58 hroom58; have hr58 := Kd.C_take (m := ((ji37) : Int).toNat) hC58 (by omega); have hy58 : y426.length = ((ji37) : Int).toNat := (by rw [Ny426.out, List.length_take]; omega); rw [← Ny426.out] at hr58; rw [← hy58] at hcut58; have HR429 := Aside0.mk hr58; have HC429 := Aside0.mk (show y426.length ≤ co49 from by omega); clear hr58 hC58 hroom58 hi058 hsz58; have KY58 := Aside0.mk hy58; clear hy58; have KL58 := Aside0.mk (show ((ji37) : Int).toNat ≤ t399.length from by omega); replace q58 := eq_true q58) | ((with_reducible refine gate_callee (f := 12) rfl ?_); refine goesL_ (some 56) rfl rfl Tryd.func12 (by kernel_rfl) rfl #[.slice Ao49 y426.length co49] rfl la_ ?_; (with_reducible refine (impl_GetFrame.calls kj6 _ _ y426 t430 t431 t432 t433 t434 _ ?side1 ?side2 A40.out).mono ?_); (case side1 => repeat (first | exact (by repeat (first | (with_reducible exact HR429.out) | (with_reducible refine Kd.C_alloc ?_ _) | (with_reducible refine Kd.C_drewN ?_ _) | (with_reducible refine Kd.C_drew ?_) | exact HR429.out)) | (with_reducible refine Kd.C_alloc ?_ _) | (with_reducible refine Kd.C_drewN ?_ _) | (with_reducible refine Kd.C_drew ?_))); (case side2 => exact HC429.out); rintro e w59 ⟨rfl, hb⟩; refine ⟨_, rfl, ?_⟩; replace HO_4 := am_ (Kd.R_below (qR HO_4) hb); replace HO409 := am_ (Kd.R_below (qR HO409) hb); replace HO418 := am_ (Kd.R_below (qR HO418) hb); replace BK398 := am_ (blk_below (qK BK398) hb); replace BK424 := am_ (blk_below (qK BK424) hb); replace HR429 := am_ (Kd.C_below (by repeat (first | (with_reducible exact HR429.out) | (with_reducible refine Kd.C_alloc ?_ _) | (with_reducible refine Kd.C_drewN ?_ _) | (with_reducible refine Kd.C_drew ?_) | exact HR429.out)) hb); replace HB := am_ (below_step (qB HB) hb); (try clear hb); (try clear hb2); (try clear hk); (try clear hi)) | ((with_reducible refine gate_dst (N := 9) rfl ?_); (try (refine gate_guard (by rfl) ?_; dsimp only)); refine box_event ?hg (N := 9) ?hd (cs := #[.int .i64 0, .string (⟨#[]⟩ : ByteArray), .int .i64 0]) (t := 25) ?hr ?_; (case hd => rfl); (case hg => rfl); (case hr => first | (go_simp; done) | (go_simp; rfl) | ((try (obtain ⟨_, _, rfl⟩ := Kd.R_slice HO409.out)); (try (obtain ⟨_, _, rfl⟩ := Kd.R_slice HO412.out)); (try (obtain ⟨_, _, rfl⟩ := Kd.R_slice HO415.out)); (try (obtain ⟨_, _, rfl⟩ := Kd.R_slice HO418.out)); first | (go_simp; done) | (go_simp; rfl))); intro gb435 hg w60 hbox hb; replace HO_4 := am_ (Kd.R_below (qR HO_4) hb); replace HO409 := am_ (Kd.R_below (qR HO409) hb); replace HO418 := am_ (Kd.R_below (qR HO418) hb); replace HR429 := am_ (Kd.C_below (by repeat (first | (with_reducible exact HR429.out) | (with_reducible refine Kd.C_alloc ?_ _) | (with_reducible refine Kd.C_drewN ?_ _) | (with_reducible refine Kd.C_drew ?_) | exact HR429.out)) hb); have BK435 := am_ (hbox); have GW435 := am_ ((gG_ hg (qB HB))); have IGW435 := gI_ GW435; have GE435 := am_ ((gG_ hg (qB HB))); have IGE435 := gI_ GE435; replace HB := am_ (below_step (qB HB) hb); have NB398_435 := am_ ((gN_ hg (qK BK398))); have NB435_398 := am_ ((gM_ hg (qK BK398))); replace BK398 := am_ (blk_below (qK BK398) hb); have NB424_435 := am_ ((gN_ hg (qK BK424))); have NB435_424 := am_ ((gM_ hg (qK BK424))); replace BK424 := am_ (blk_below (qK BK424) hb); clear hb hbox hg; have hnb61 := NB435_398.out; have hnc61 := NB398_435.out; have hnb62 := NB435_424.out; have hnc62 := NB424_435.out; obtain ⟨z63_0, z63_1, z63_2⟩ := cz3 BK435.out; obtain ⟨f63_0, f63_1, f63_2⟩ := fz3 BK435.out; obtain ⟨z64_0, z64_1, z64_2⟩ := cz3 BK424.out; obtain ⟨f64_0, f64_1, f64_2⟩ := fz3 BK424.out; obtain ⟨z65_0, z65_1, z65_2⟩ := cz3 BK398.out; obtain ⟨f65_0, f65_1, f65_2⟩ := fz3 BK398.out))
               go_ret
               exact ⟨by first | rfl | (simp [errW_none, errW_some] <;> rfl) | (simp only [← hji37]; first | rfl | (simp [errW_none, errW_some] <;> rfl)) | (simp [*, errW_none, errW_some] <;> rfl), qB HB⟩
              ·
               rw [if_neg c44] at H
               have c44b0 : (t434 == 1) = false := beq_eq_false_iff_ne.mpr c44
               have c44b1 : (t434 != 1) = true := bne_iff_ne.mpr c44
               exact absurd (hr_.out ▸ H) (by simp)
             ·
              rw [if_neg c43] at H
              have c43b0 : (t419 == t395 && (t420.toList == t396.toList && (t421 == t397))) = false := by simpa using c43
              (try (have c43b1 : decide (t419 = t395 && (t420.toList == t396.toList && (t421 == t397))) = false := by simpa using c43))
              (try (have c43b2 : (t419 == t395 && (t420.toList == t396.toList && (t421 == t397))) = false := by simpa using c43))
              (try (have c43b3 : ¬ (t419 = t395 && (t420.toList == t396.toList && (t421 == t397))) := by simpa using c43))
              clear c43
              exact absurd (hr_.out ▸ H) (by simp)
            ·
             rw [if_neg c42] at H
             have c42b0 : (t422 == (t399.length : Int)) = false := beq_eq_false_iff_ne.mpr c42
             have c42b1 : (t422 != (t399.length : Int)) = true := bne_iff_ne.mpr c42
             exact absurd (hr_.out ▸ H) (by simp)
           ·
            rw [if_neg c41] at H
            have c41b0 : (t423 == 0) = false := beq_eq_false_iff_ne.mpr c41
            have c41b1 : (t423 != 0) = true := bne_iff_ne.mpr c41
            exact absurd (hr_.out ▸ H) (by simp)
          ·
           rw [if_neg c39] at H
           exact absurd H (by simp)
         ·
          rw [if_neg c38] at H
          exact absurd H (by simp)
       ·
        rw [if_neg c33] at H
        exact absurd H (by simp)
      ·
       rw [if_neg c32] at H
       exact absurd H (by simp)
     ·
      replace c30 := Bool.eq_false_iff.mpr c30
      subst c30
      rw [if_neg (show ¬ (false = true) by decide)] at H
      obtain rfl := Option.some.inj H
      obtain ⟨Ao66, co66, eo66⟩ := Kd.R_slice HO_4.out
      subst eo66
      go_wp2
      go_ret
      exact ⟨by first | rfl | (simp [errW_none, errW_some] <;> rfl) | (simp [*, errW_none, errW_some] <;> rfl), qB HB⟩

/-- THE ONE PURE STATEMENT of laws_FnFrames: yours. -/
def laws_FnFrames.Pure : Prop := ∀ (l0 : List Int), l0.length ≤ maxLen → l0.length * 1 ≤ 140737488351232 → (∀ x ∈ l0, (Lit.int .u8 x).wf = true) → ∃ k, laws_FnFrames.f k l0 = some true
theorem laws_FnFrames.walk (P : laws_FnFrames.Pure) (a0 : Option Addr) (len0 cap0 : Nat) (z0 : List Int) (w : World) (w0 : (a0 = none ∧ len0 = 0 ∧ cap0 = 0 ∧ z0 = []) ∨ ∃ x, a0 = some x ∧ len0 ≤ cap0 ∧ cap0 ≤ maxLen ∧ z0.length = cap0 ∧ (∀ i, i < z0.length → w.cell? (x.add i) = some (.int .u8 (z0.getD i 0))) ∧ ∀ n ∈ z0, (Lit.int .u8 n).wf = true) (y0 : len0 * 1 ≤ 140737488351232) :
  Calls Tryd.prog 3 #[.slice a0 len0 cap0] w fun e w' => e = .returned (.bool true) ∧ Below w.heap.size w w' := by
 obtain ⟨l0, rfl, hr0, hm0, hw0, hc0⟩ := ReadsInt.ofRowC w0
 obtain ⟨k, h⟩ := P l0 hm0 y0 hw0
 refine (laws_FnFrames.calls k _ _ l0 true w (Kd.C_of_reads (d := (0 : Int)) (h1 := fun _ => rfl) hr0) hc0 ⟨rfl⟩ h).mono ?_
 rintro e w' ⟨rfl, hd⟩
 exact ⟨rfl, hd⟩

end Go.Proofs.YtaimfkfpglhijaaDoor.PFnFrames
