-- Written by a program of this session (myprint.py, over the kit's print): contracts of FnExactGetItem
import Derived.Test.YtahfemlfdpbkkaaPFnExactGetItemx0
import Derived.Test.YtahfemlfdpbkkaaPFnExactGetItemx9
import Derived.Test.YtahfemlfdpbkkaaPFnExactGetItemx10
namespace Go.Proofs.Ytahfemlfdpbkkaa.PFnExactGetItem
open Go.RowKit Go.Proofs.YtahfemlfdpbkkaaW.PrintWords Go.Proofs.YtahfemlfdpbkkaaW.PrintLast Go.Proofs.YtahfemlfdpbkkaaW.PrintMore Go.Proofs.YtahfemlfdpbkkaaV
attribute [local go_sem] max2_int min2_int max_two min_two max_three min_three max_four min_four   -- for this text's walks alone
set_option linter.unusedVariables false
set_option linter.unusedSimpArgs false

/-! ### impl_PutText: function 81 -/
def impl_PutText.f (k : Nat) (l0 : List Int) (a1 : ByteArray) : Option (List Int) := (slices_Clone_byte.f l0).bind fun t324 => ((impl_TextOk.f k a1).bind fun t327 => (if t327 = true then (if t324.length < 140737488355328 then ((some (t324 ++ [((a1.size : Int)) % 256] : List Int)).bind fun y328 => (if y328.length + a1.size < 140737488355328 then (some (y328 ++ bytesOf a1)) else (none))) else (none)) else (some t324)))
theorem impl_PutText.mono : ∀ a0 a1 k, LeO (impl_PutText.f k a0 a1) (impl_PutText.f (k + 1) a0 a1) := by
 intro a0 a1 k
 unfold impl_PutText.f
 repeat' first
   | (with_reducible exact impl_TextOk.mono _ _)
   | (with_reducible exact LeO.refl _)
   | (with_reducible exact LeO.none _)
   | (with_reducible refine LeO.ite ?_ ?_)
   | (with_reducible refine LeO.bind ?_ (fun _ => ?_))
   | exact impl_TextOk.mono _ _
   | exact LeO.none _
   | refine LeO.ite ?_ ?_
   | refine LeO.bind ?_ (fun _ => ?_)
set_option maxHeartbeats 8000000 in
set_option maxRecDepth 100000 in
theorem impl_PutText.calls (k : Nat) (A0 : Option Addr) (c0 : Nat) (l0 : List Int) (a1 : ByteArray) (r : List Int) (w : World) (hr0 : Kd.C (Kd.int .u8) w A0 l0.length l0) (hc0 : l0.length ≤ c0) (h : impl_PutText.f k l0 a1 = some r) :
  Calls Try.prog 81 #[.slice A0 l0.length c0, .string a1] w fun e w' => ∃ v0_ : Value, e = .returned (v0_) ∧ Kd.R (Kd.int .u8) 5 w' w.heap.size (fun _ => True) v0_ r ∧ Below w.heap.size w w' := by
 have HR0 := Aside0.mk hr0
 have HC0 := Aside0.mk hc0
 clear hr0 hc0
 have HB := Aside0.mk (Below.refl w.heap.size w)
 have H : ((slices_Clone_byte.f l0).bind fun t324 => ((impl_TextOk.f k a1).bind fun t327 => (if t327 = true then (if t324.length < 140737488355328 then ((some (t324 ++ [((a1.size : Int)) % 256] : List Int)).bind fun y328 => (if y328.length + a1.size < 140737488355328 then (some (y328 ++ bytesOf a1)) else (none))) else (none)) else (some t324)))) = some r := h
 clear h
 obtain ⟨t324, A3, H⟩ := bd_ H
 obtain ⟨t327, A4, H⟩ := bd_ H
 have HC5 := Aside0.mk H
 clear H
 go_enter Try.func81, Try.ntmps81
 go_upto_if 10 with (first | ((with_reducible refine gate_callee (f := 141) rfl ?_); refine goesL_ (some 7) rfl rfl Try.func141 (by kernel_rfl) rfl #[.slice A0 l0.length c0] rfl la_ ?_; (with_reducible refine (slices_Clone_byte.calls _ _ l0 t324 _ ?side1 ?side2 A3.out).mono ?_); (case side1 => exact qC (HR0.out)); (case side2 => exact HC0.out); rintro e w6 ⟨v325, rfl, ho0, hb⟩; refine ⟨_, rfl, ?_⟩; have HO326 := am_ (Kd.R_lower ho0 (below_size (qB HB))); replace HB := am_ (below_step (qB HB) hb); (try clear hb); (try clear hb2); (try clear hk); (try clear hi); (try clear ho0)) | ((with_reducible refine gate_callee (f := 147) rfl ?_); refine goesL_ (some 9) rfl rfl Try.func147 (by kernel_rfl) rfl #[.string a1] rfl la_ ?_; (with_reducible refine (impl_TextOk.calls k a1 t327 _ A4.out).mono ?_); rintro e w' ⟨rfl, ⟨nd, rfl⟩⟩; refine ⟨_, rfl, ?_⟩))
 (try simp only [Act.put, List.setIfInBounds_toArray, List.set_cons_zero, List.set_cons_succ])
 (try (rw [drewN_self w6]; generalize hq_ : World.drewN w6 _ = w6; have n0_ : Aside0 (Kd.R (Kd.int .u8) 5 w6 w.heap.size (fun _ => True) v325 t324) := ⟨by rw [← hq_]; exact (qR HO326)⟩; have n1_ : Aside0 (Below w.heap.size w w6) := ⟨by rw [← hq_]; exact (qB HB)⟩; clear HO326 HB hq_; have HO326 := n0_; have HB := n1_; clear n0_ n1_))
 have H := HC5.out
 clear HC5
 by_cases c7 : t327 = true
 ·
  subst c7
  rw [if_pos rfl] at H
  by_cases c8 : t324.length < 140737488355328
  ·
   rw [if_pos c8] at H
   have LMc8 := Aside0.mk c8
   clear c8
   obtain ⟨y328, hy328⟩ : ∃ y_ : List Int, y_ = (t324 ++ [((a1.size : Int)) % 256]) := ⟨_, rfl⟩
   replace H := mk_ H hy328
   (try dsimp only at H)
   have Ny328 := Aside0.mk hy328
   clear hy328
   by_cases c9 : y328.length + a1.size < 140737488355328
   ·
    rw [if_pos c9] at H
    have LMc9 := Aside0.mk c9
    clear c9
    obtain ⟨y331, hy331⟩ : ∃ y_ : List Int, y_ = (y328 ++ bytesOf a1) := ⟨_, rfl⟩
    rw [← hy331] at H
    have Ny331 := Aside0.mk hy331
    clear hy331
    obtain rfl := Option.some.inj H
    go_wp2_with (first | ((with_reducible refine gate_builtin (b := .append) (xs := #[.tmp 12, .tmp 16]) rfl ?_); at_builtin; refine Kd.R_append (Kd.int .u8) (w0 := w) w.heap.size rfl (.tmp 12) (.tmp 16) 22 5 (.int .u8 0) 1 rfl Try.underlying22 info5 rfl (by decide) (by omega) v325 t324 (((a1.size : Int)) % 256) [.int .u8 (((a1.size : Int)) % 256)] (fun _ => True) (fun _ => False) rfl rfl ?aP (fun _ hk => hk.elim) ?aF ?aO ?aB ?aS ?aL ?_; (case aP => exact rfl); (case aB => exact (qB HB)); (case aF => exact (fun _ _ => trivial)); (case aO => exact (qR HO326)); (case aS => exact (below_size (qB HB))); (case aL => have := LMc8.out; omega); intro v329 w10 ho hb hg hat; rw [← Ny328.out] at ho; replace HB := am_ (hb); have HO330 := am_ (ho); clear HO326; clear ho hb hg hat) | (at_builtin; refine print_append_str (w0 := w) w.heap.size rfl (.tmp 17) _ 22 9 5 rfl Try.underlying22 Try.underlying9 info5 v329 y328 a1 rfl rfl ?aO ?aB ?aS ?aL ?_; (case aB => exact (qB HB)); (case aO => exact (Kd.own_of_R (qR HO330))); (case aS => exact (below_size (qB HB))); (case aL => have := LMc9.out; omega); intro v332 w11 ho0 hb hg; have ho := Kd.R_of_own (h1 := fun _ => rfl) (ok := fun _ => True) ho0 (fun _ _ => trivial); clear ho0; have hat := True.intro; rw [← Ny331.out] at ho; change Kd.R (Kd.int .u8) 5 w11 w.heap.size (fun _ => True) v332 y331 at ho; replace HB := am_ (hb); have HO333 := am_ (ho); clear HO330; clear ho hb hg hat))
    go_ret
    exact ⟨_, by first | rfl | (simp [errW_none, errW_some] <;> rfl) | (simp [*, errW_none, errW_some] <;> rfl), qR HO333, qB HB⟩
   ·
    rw [if_neg c9] at H
    exact absurd H (by simp)
  ·
   rw [if_neg c8] at H
   exact absurd H (by simp)
 ·
  replace c7 := Bool.eq_false_iff.mpr c7
  subst c7
  rw [if_neg (show ¬ (false = true) by decide)] at H
  obtain rfl := Option.some.inj H
  go_wp2
  go_ret
  exact ⟨_, by first | rfl | (simp [errW_none, errW_some] <;> rfl) | (simp [*, errW_none, errW_some] <;> rfl), qR HO326, qB HB⟩

/-! ### impl_PutWord: function 82 -/
def impl_PutWord.f (l0 : List Int) (a1 : Int) : Option (List Int) := (slices_Clone_byte.f l0).bind fun t334 => ((some (([(a1 / 256) % 256, (a1) % 256] : List Int) : List Int)).bind fun y337 => (if t334.length + y337.length < 140737488355328 then (some (t334 ++ y337)) else (none)))
set_option maxHeartbeats 8000000 in
set_option maxRecDepth 100000 in
theorem impl_PutWord.calls (A0 : Option Addr) (c0 : Nat) (l0 : List Int) (a1 : Int) (r : List Int) (w : World) (hr0 : Kd.C (Kd.int .u8) w A0 l0.length l0) (hc0 : l0.length ≤ c0) (h : impl_PutWord.f l0 a1 = some r) :
  Calls Try.prog 82 #[.slice A0 l0.length c0, .int .i64 a1] w fun e w' => ∃ v0_ : Value, e = .returned (v0_) ∧ Kd.R (Kd.int .u8) 5 w' w.heap.size (fun _ => True) v0_ r ∧ Below w.heap.size w w' := by
 have HR0 := Aside0.mk hr0
 have HC0 := Aside0.mk hc0
 clear hr0 hc0
 have HB := Aside0.mk (Below.refl w.heap.size w)
 have H : ((slices_Clone_byte.f l0).bind fun t334 => ((some (([(a1 / 256) % 256, (a1) % 256] : List Int) : List Int)).bind fun y337 => (if t334.length + y337.length < 140737488355328 then (some (t334 ++ y337)) else (none)))) = some r := h
 clear h
 obtain ⟨t334, A3, H⟩ := bd_ H
 obtain ⟨y337, hy337⟩ : ∃ y_ : List Int, y_ = (([(a1 / 256) % 256, (a1) % 256] : List Int)) := ⟨_, rfl⟩
 replace H := mk_ H hy337
 (try dsimp only at H)
 have Ny337 := Aside0.mk hy337
 clear hy337
 by_cases c4 : t334.length + y337.length < 140737488355328
 ·
  rw [if_pos c4] at H
  have LMc4 := Aside0.mk c4
  clear c4
  obtain ⟨y340, hy340⟩ : ∃ y_ : List Int, y_ = (t334 ++ y337) := ⟨_, rfl⟩
  replace H : (some y340) = some r := by first | (rw [hy340]; with_reducible exact H) | (have H2_ := (Option.bind_some _ _).symm.trans H; rw [hy340]; with_reducible exact H2_) | (have H2_ := (Option.bind_some _ _).symm.trans H; with_reducible exact H2_) | with_reducible exact H | (rw [hy340]; exact H) | exact H
  have Ny340 := Aside0.mk hy340
  clear hy340
  obtain rfl := Option.some.inj H
  go_enter Try.func82, Try.ntmps82
  go_wp2_with (first | ((with_reducible refine gate_callee (f := 141) rfl ?_); refine goesL_ (some 6) rfl rfl Try.func141 (by kernel_rfl) rfl #[.slice A0 l0.length c0] rfl la_ ?_; (with_reducible refine (slices_Clone_byte.calls _ _ l0 t334 _ ?side1 ?side2 A3.out).mono ?_); (case side1 => exact qC (HR0.out)); (case side2 => exact HC0.out); rintro e w5 ⟨v335, rfl, ho0, hb⟩; refine ⟨_, rfl, ?_⟩; have HO336 := am_ (Kd.R_lower ho0 (below_size (qB HB))); replace HB := am_ (below_step (qB HB) hb); (try clear hb); (try clear hb2); (try clear hk); (try clear hi); (try clear ho0)) | ((with_reducible refine gate_dst (N := 12) rfl ?_); refine Kd.R_lit (Kd.int .u8) _ 5 ?hg (N := 12) ?hd (xs := ([(a1 / 256) % 256, (a1) % 256] : List Int)) (inner := [.int .u8 ((a1 / 256) % 256), .int .u8 ((a1) % 256)]) (ok := fun _ => True) (okp := fun _ => True) ?hr ?hp (fun _ hk => hk) trivial (Below.refl _ _) (Nat.le_refl _) (by simp) ?_; (case hd => rfl); (case hg => rfl); (case hr => first | (go_simp; done) | (go_simp; rfl)); (case hp => exact (Reps.one (show Kd.M (Kd.int .u8) _ _ _ ((a1 / 256) % 256) [.int .u8 ((a1 / 256) % 256)] from rfl) (Reps.one (show Kd.M (Kd.int .u8) _ _ _ ((a1) % 256) [.int .u8 ((a1) % 256)] from rfl) (Reps.none _ _)))); intro v338 w6 ho7 hb hg_ hnew_; clear hg_ hnew_; (first | rw [← Ny337.out] at ho7 | (simp only [Int.reduceToNat] at ho7; rw [← Ny337.out] at ho7)); have HO339 := am_ (Kd.R_lower (Kd.R_new' ho7 (Kd.R_lt (qR HO336))) (below_size (qB HB))); replace HO336 := am_ (eR HO336 ho7 hb); replace HB := am_ (below_step (qB HB) hb); clear hb ho7; obtain ⟨Ao9, co9, eo9⟩ := Kd.R_slice HO339.out; subst eo9) | ((with_reducible refine gate_builtin (b := .append) (xs := #[.tmp 6, .tmp 12]) rfl ?_); at_builtin; refine Kd.R_append_rows (Kd.int .u8) (w0 := w) w.heap.size rfl (.tmp 6) (.tmp 12) 22 5 (.int .u8 0) 1 rfl Try.underlying22 info5 rfl (by decide) (by omega) v335 t334 y337 _ _ _ (fun k_ => some k_ ≠ (.slice Ao9 y337.length co9 : Value).ownBlock) (fun _ => False) rfl rfl ?aO ?aR (fun _ _ h => h) (fun _ h => h.elim) ?aF ?aB ?aS ?aL ?_; (case aR => exact qC ((Kd.R_reads' HO339.out).2.2)); (case aB => exact (qB HB)); (case aF => exact (fun k_ hk => Kd.fresh' (Kd.R_lt (qR HO339)) k_ hk)); (case aO => exact (tR (Kd.R_mono HO336.out (fun _ hk => hk.2)))); (case aS => exact (below_size (qB HB))); (case aL => have := LMc4.out; omega); intro v341 w8 ho hb hg hat; rw [← Ny340.out] at ho; replace HO339 := am_ (Kd.R_after (ok := (fun _ => True)) (qR HO339) hg hat); replace HB := am_ (hb); have HO342 := am_ (ho); clear HO336; clear ho hb hg hat))
  go_ret
  exact ⟨_, by first | rfl | (simp [errW_none, errW_some] <;> rfl) | (simp [*, errW_none, errW_some] <;> rfl), by (with_reducible repeat (first | apply Kd.R_alloc | apply Kd.R_drewN | apply Kd.R_drew)); exact Kd.R_mono HO342.out (fun _ hk => trivial), qB HB⟩
 ·
  rw [if_neg c4] at H
  exact absurd H (by simp)

/-! ### impl_putSince: function 83 -/
def impl_putSince.f (l0 : List Int) (a1 : Int) : Option (List Int) := (impl_PutWord.f l0 (wrap64 (Int.tdiv a1 256))).bind fun t343 => (if t343.length < 140737488355328 then (some (t343 ++ [(Int.tmod a1 256) % 256])) else (none))
set_option maxHeartbeats 8000000 in
set_option maxRecDepth 100000 in
theorem impl_putSince.calls (A0 : Option Addr) (c0 : Nat) (l0 : List Int) (a1 : Int) (r : List Int) (w : World) (hr0 : Kd.C (Kd.int .u8) w A0 l0.length l0) (hc0 : l0.length ≤ c0) (h : impl_putSince.f l0 a1 = some r) :
  Calls Try.prog 83 #[.slice A0 l0.length c0, .int .i64 a1] w fun e w' => ∃ v0_ : Value, e = .returned (v0_) ∧ Kd.R (Kd.int .u8) 5 w' w.heap.size (fun _ => True) v0_ r ∧ Below w.heap.size w w' := by
 have HR0 := Aside0.mk hr0
 have HC0 := Aside0.mk hc0
 clear hr0 hc0
 have HB := Aside0.mk (Below.refl w.heap.size w)
 have H : ((impl_PutWord.f l0 (wrap64 (Int.tdiv a1 256))).bind fun t343 => (if t343.length < 140737488355328 then (some (t343 ++ [(Int.tmod a1 256) % 256])) else (none))) = some r := h
 clear h
 obtain ⟨t343, A3, H⟩ := bd_ H
 by_cases c4 : t343.length < 140737488355328
 ·
  rw [if_pos c4] at H
  have LMc4 := Aside0.mk c4
  clear c4
  obtain ⟨y346, hy346⟩ : ∃ y_ : List Int, y_ = (t343 ++ [(Int.tmod a1 256) % 256]) := ⟨_, rfl⟩
  rw [← hy346] at H
  have Ny346 := Aside0.mk hy346
  clear hy346
  obtain rfl := Option.some.inj H
  go_enter Try.func83, Try.ntmps83
  go_wp2_with (first | ((with_reducible refine gate_callee (f := 82) rfl ?_); refine goesL_ (some 8) rfl rfl Try.func82 (by kernel_rfl) rfl #[.slice A0 l0.length c0, .int .i64 (wrap64 (Int.tdiv a1 256))] rfl la_ ?_; (with_reducible refine (impl_PutWord.calls _ _ l0 (wrap64 (Int.tdiv a1 256)) t343 _ ?side1 ?side2 A3.out).mono ?_); (case side1 => exact qC (HR0.out)); (case side2 => exact HC0.out); rintro e w5 ⟨v344, rfl, ho0, hb⟩; refine ⟨_, rfl, ?_⟩; have HO345 := am_ (Kd.R_lower ho0 (below_size (qB HB))); replace HB := am_ (below_step (qB HB) hb); (try clear hb); (try clear hb2); (try clear hk); (try clear hi); (try clear ho0)) | ((with_reducible refine gate_builtin (b := .append) (xs := #[.tmp 8, .tmp 12]) rfl ?_); at_builtin; refine Kd.R_append (Kd.int .u8) (w0 := w) w.heap.size rfl (.tmp 8) (.tmp 12) 22 5 (.int .u8 0) 1 rfl Try.underlying22 info5 rfl (by decide) (by omega) v344 t343 ((Int.tmod a1 256) % 256) [.int .u8 ((Int.tmod a1 256) % 256)] (fun _ => True) (fun _ => False) rfl rfl ?aP (fun _ hk => hk.elim) ?aF ?aO ?aB ?aS ?aL ?_; (case aP => exact rfl); (case aB => exact (qB HB)); (case aF => exact (fun _ _ => trivial)); (case aO => exact (qR HO345)); (case aS => exact (below_size (qB HB))); (case aL => have := LMc4.out; omega); intro v347 w6 ho hb hg hat; rw [← Ny346.out] at ho; replace HB := am_ (hb); have HO348 := am_ (ho); clear HO345; clear ho hb hg hat))
  go_ret
  exact ⟨_, by first | rfl | (simp [errW_none, errW_some] <;> rfl) | (simp [*, errW_none, errW_some] <;> rfl), qR HO348, qB HB⟩
 ·
  rw [if_neg c4] at H
  exact absurd H (by simp)

/-! ### impl_LineOk: function 84 -/
def impl_LineOk.j0 : Nat → Bool → Int → ByteArray → Int → Int → Int → Int → Int → Option (Bool)
 | 0, _, _, _, _, _, _, _, _ => none
 | k + 1, x18, x350000, x350001, x350002, x350003, x350004, x350005, x350006 => if x18 = true then (some false) else (if x350003 = 0 then ((impl_sinceOk.f x350004).bind fun t353 => (if t353 = true then (if x350005 = 0 then (some (x350006 == 0)) else (some false)) else (some false))) else (if x350003 = 1 then (if x350004 = 0 then ((impl_sockIdOk.f x350005).bind fun t354 => (if t354 = true then (some (decide (x350006 ≥ 1))) else (some false))) else (some false)) else (if x350003 = 2 then (if x350004 = 0 then ((impl_sockIdOk.f x350005).bind fun t355 => (if t355 = true then (some (decide (x350006 ≥ 1))) else (some false))) else (some false)) else (some false))))
def impl_LineOk.f (k : Nat) (a0_0 : Int) (a0_1 : ByteArray) (a0_2 : Int) (a0_3 : Int) (a0_4 : Int) (a0_5 : Int) (a0_6 : Int) : Option (Bool) := (impl_sockIdOk.f a0_0).bind fun t350 => (if t350 = true then ((impl_nameOk.f k a0_1).bind fun t351 => (if t351 = true then ((impl_isIn.f a0_2 1 60000).bind fun t352 => (impl_LineOk.j0 k (!t352) a0_0 a0_1 a0_2 a0_3 a0_4 a0_5 a0_6)) else (impl_LineOk.j0 k true a0_0 a0_1 a0_2 a0_3 a0_4 a0_5 a0_6))) else (impl_LineOk.j0 k true a0_0 a0_1 a0_2 a0_3 a0_4 a0_5 a0_6))
theorem impl_LineOk.mono_l : ∀ k, (∀ y0 y1 y2 y3 y4 y5 y6 y7, LeO (impl_LineOk.j0 k y0 y1 y2 y3 y4 y5 y6 y7) (impl_LineOk.j0 (k + 1) y0 y1 y2 y3 y4 y5 y6 y7))
 | 0 => fun _ _ _ _ _ _ _ _ r h => by simp [impl_LineOk.j0] at h
 | k + 1 => by
  have ih0 := impl_LineOk.mono_l k
  ·
   intro y0 y1 y2 y3 y4 y5 y6 y7
   unfold impl_LineOk.j0
   repeat' first
   | (with_reducible exact ih0 _ _ _ _ _ _ _ _)
   | (with_reducible exact impl_nameOk.mono _ _)
   | (with_reducible exact LeO.refl _)
   | (with_reducible exact LeO.none _)
   | (with_reducible refine LeO.ite ?_ ?_)
   | (with_reducible refine LeO.bind ?_ (fun _ => ?_))
   | exact ih0 _ _ _ _ _ _ _ _
   | exact impl_nameOk.mono _ _
   | exact LeO.none _
   | refine LeO.ite ?_ ?_
   | refine LeO.bind ?_ (fun _ => ?_)
theorem impl_LineOk.mono : ∀ a0 a1 a2 a3 a4 a5 a6 k, LeO (impl_LineOk.f k a0 a1 a2 a3 a4 a5 a6) (impl_LineOk.f (k + 1) a0 a1 a2 a3 a4 a5 a6) := by
 intro a0 a1 a2 a3 a4 a5 a6 k
 have ih0 := impl_LineOk.mono_l k
 unfold impl_LineOk.f
 repeat' first
   | (with_reducible exact ih0 _ _ _ _ _ _ _ _)
   | (with_reducible exact impl_nameOk.mono _ _)
   | (with_reducible exact LeO.refl _)
   | (with_reducible exact LeO.none _)
   | (with_reducible refine LeO.ite ?_ ?_)
   | (with_reducible refine LeO.bind ?_ (fun _ => ?_))
   | exact ih0 _ _ _ _ _ _ _ _
   | exact impl_nameOk.mono _ _
   | exact LeO.none _
   | refine LeO.ite ?_ ?_
   | refine LeO.bind ?_ (fun _ => ?_)
set_option maxHeartbeats 8000000 in
set_option maxRecDepth 100000 in
theorem impl_LineOk.calls (k : Nat) (a0_0 : Int) (a0_1 : ByteArray) (a0_2 : Int) (a0_3 : Int) (a0_4 : Int) (a0_5 : Int) (a0_6 : Int) (r : Bool) (w : World) (h : impl_LineOk.f k a0_0 a0_1 a0_2 a0_3 a0_4 a0_5 a0_6 = some r) :
  Calls Try.prog 84 #[.agg #[.int .i64 a0_0, .string a0_1, .int .i64 a0_2, .int .i64 a0_3, .int .i64 a0_4, .int .i64 a0_5, .int .i64 a0_6]] w fun e w' => e = .returned (.bool r) ∧ Below w.heap.size w w' := by
 have hu46 := Try.underlying46
 have HB := Aside0.mk (Below.refl w.heap.size w)
 have H : ((impl_sockIdOk.f a0_0).bind fun t350 => (if t350 = true then ((impl_nameOk.f k a0_1).bind fun t351 => (if t351 = true then ((impl_isIn.f a0_2 1 60000).bind fun t352 => (impl_LineOk.j0 k (!t352) a0_0 a0_1 a0_2 a0_3 a0_4 a0_5 a0_6)) else (impl_LineOk.j0 k true a0_0 a0_1 a0_2 a0_3 a0_4 a0_5 a0_6))) else (impl_LineOk.j0 k true a0_0 a0_1 a0_2 a0_3 a0_4 a0_5 a0_6))) = some r := h
 clear h
 have HC2 := Aside0.mk H
 clear H
 go_enter Try.func84, Try.ntmps84
 go_upto_region 1 with (first | ((with_reducible refine gate_dst (N := 1) rfl ?_); refine box_event ?hg (N := 1) ?hd (cs := #[.int .i64 a0_0, .string a0_1, .int .i64 a0_2, .int .i64 a0_3, .int .i64 a0_4, .int .i64 a0_5, .int .i64 a0_6]) (t := 46) ?hr ?_; (case hd => rfl); (case hg => rfl); (case hr => first | (go_simp; done) | (go_simp; rfl)); intro gb349 hg w3 hbox hb; have BK349 := am_ (hbox); have GW349 := am_ ((gG_ hg (qB HB))); have IGW349 := gI_ GW349; have GE349 := am_ ((gG_ hg (qB HB))); have IGE349 := gI_ GE349; replace HB := am_ (below_step (qB HB) hb); clear hb hbox hg))
 (try simp only [Act.put, List.setIfInBounds_toArray, List.set_cons_zero, List.set_cons_succ])
 go_cut [18] (fun v18 wc => ∃ (kq : Nat) (x18_1 : Bool), v18 = .bool x18_1 ∧ Aside0 (impl_LineOk.j0 kq x18_1 a0_0 a0_1 a0_2 a0_3 a0_4 a0_5 a0_6 = some r) ∧ Aside0 (kq ≤ k) ∧ Aside0 (wc.heap[gb349]? = some (.cells #[.int .i64 a0_0, .string a0_1, .int .i64 a0_2, .int .i64 a0_3, .int .i64 a0_4, .int .i64 a0_5, .int .i64 a0_6] 46 (0, 0))) ∧ Aside0 (Below w.heap.size w wc))
 case first =>
  have H := HC2.out
  clear HC2
  obtain ⟨t350, A4, H⟩ := bd_ H
  by_cases c5 : t350 = true
  ·
   subst c5
   rw [if_pos rfl] at H
   obtain ⟨t351, A6, H⟩ := bd_ H
   by_cases c7 : t351 = true
   ·
    subst c7
    rw [if_pos rfl] at H
    obtain ⟨t352, A8, H⟩ := bd_ H
    have H' := Aside0.mk H
    clear H
    obtain ⟨z9_0, z9_1, z9_2, z9_3, z9_4, z9_5, z9_6⟩ := cz7 BK349.out
    obtain ⟨f9_0, f9_1, f9_2, f9_3, f9_4, f9_5, f9_6⟩ := fz7 BK349.out
    go_wp2_with (first | ((with_reducible refine gate_callee (f := 142) rfl ?_); refine goesL_ (some 5) rfl rfl Try.func142 (by kernel_rfl) rfl #[.int .i64 a0_0] rfl la_ ?_; (with_reducible refine (impl_sockIdOk.calls a0_0 true _ A4.out).mono ?_); rintro e w' ⟨rfl, ⟨nd, rfl⟩⟩; refine ⟨_, rfl, ?_⟩) | (go_at_call 146; (with_reducible refine (impl_nameOk.calls k a0_1 true _ A6.out).mono ?_); rintro e w' ⟨rfl, ⟨nd, rfl⟩⟩) | (go_at_call 112; (with_reducible refine (impl_isIn.calls a0_2 1 60000 t352 _ A8.out).mono ?_); rintro e w' ⟨rfl, ⟨nd, rfl⟩⟩))
    go_meet
    case rel => exact ⟨_, (!t352), eqq_, H', ⟨by first | omega | exact Nat.le_refl _⟩, ⟨qK BK349⟩, ⟨qB HB⟩⟩
   ·
    replace c7 := Bool.eq_false_iff.mpr c7
    subst c7
    rw [if_neg (show ¬ (false = true) by decide)] at H
    have H' := Aside0.mk H
    clear H
    obtain ⟨z10_0, z10_1, z10_2, z10_3, z10_4, z10_5, z10_6⟩ := cz7 BK349.out
    obtain ⟨f10_0, f10_1, f10_2, f10_3, f10_4, f10_5, f10_6⟩ := fz7 BK349.out
    go_wp2_with (first | ((with_reducible refine gate_callee (f := 142) rfl ?_); refine goesL_ (some 5) rfl rfl Try.func142 (by kernel_rfl) rfl #[.int .i64 a0_0] rfl la_ ?_; (with_reducible refine (impl_sockIdOk.calls a0_0 true _ A4.out).mono ?_); rintro e w' ⟨rfl, ⟨nd, rfl⟩⟩; refine ⟨_, rfl, ?_⟩) | (go_at_call 146; (with_reducible refine (impl_nameOk.calls k a0_1 false _ A6.out).mono ?_); rintro e w' ⟨rfl, ⟨nd, rfl⟩⟩))
    go_meet
    case rel => exact ⟨_, (true), eqq_, H', ⟨by first | omega | exact Nat.le_refl _⟩, ⟨qK BK349⟩, ⟨qB HB⟩⟩
  ·
   replace c5 := Bool.eq_false_iff.mpr c5
   subst c5
   rw [if_neg (show ¬ (false = true) by decide)] at H
   have H' := Aside0.mk H
   clear H
   obtain ⟨z11_0, z11_1, z11_2, z11_3, z11_4, z11_5, z11_6⟩ := cz7 BK349.out
   obtain ⟨f11_0, f11_1, f11_2, f11_3, f11_4, f11_5, f11_6⟩ := fz7 BK349.out
   go_wp2_with (first | ((with_reducible refine gate_callee (f := 142) rfl ?_); refine goesL_ (some 5) rfl rfl Try.func142 (by kernel_rfl) rfl #[.int .i64 a0_0] rfl la_ ?_; (with_reducible refine (impl_sockIdOk.calls a0_0 false _ A4.out).mono ?_); rintro e w' ⟨rfl, ⟨nd, rfl⟩⟩; refine ⟨_, rfl, ?_⟩))
   go_meet
   case rel => exact ⟨_, (true), eqq_, H', ⟨by first | omega | exact Nat.le_refl _⟩, ⟨qK BK349⟩, ⟨qB HB⟩⟩
 case rest =>
  clear HC2
  try clear c1
  try clear p2
  try clear c5
  try clear c7
  try clear c8
  (try clear z10_0 z10_1 z10_2 z10_3 z10_4 z10_5 z10_6)
  (try clear z11_0 z11_1 z11_2 z11_3 z11_4 z11_5 z11_6)
  (try clear z9_0 z9_1 z9_2 z9_3 z9_4 z9_5 z9_6)
  (try clear f10_0 f10_1 f10_2 f10_3 f10_4 f10_5 f10_6)
  (try clear f11_0 f11_1 f11_2 f11_3 f11_4 f11_5 f11_6)
  (try clear f9_0 f9_1 f9_2 f9_3 f9_4 f9_5 f9_6)
  obtain ⟨kq, x18_1, rfl, HA, HJ1, BK349, HB⟩ := hcut
  cases kq with
  | zero => exact absurd HA.out (by simp [impl_LineOk.j0])
  | succ kj1 =>
   have H := HA.out
   clear HA
   simp only [impl_LineOk.j0] at H
   by_cases c12 : x18_1 = true
   ·
    subst c12
    rw [if_pos rfl] at H
    obtain rfl := Option.some.inj H
    go_wp2
    go_ret
    exact ⟨by first | rfl | (simp [errW_none, errW_some] <;> rfl) | (simp [*, errW_none, errW_some] <;> rfl), qB HB⟩
   ·
    replace c12 := Bool.eq_false_iff.mpr c12
    subst c12
    rw [if_neg (show ¬ (false = true) by decide)] at H
    by_cases c13 : a0_3 = 0
    ·
     rw [if_pos c13] at H
     have c13b0 : (a0_3 == 0) = true := beq_iff_eq.mpr c13
     have c13b1 : (a0_3 != 0) = false := bne_eq_false_iff_eq.mpr c13
     clear c13
     obtain ⟨t353, A14, H⟩ := bd_ H
     by_cases c15 : t353 = true
     ·
      subst c15
      rw [if_pos rfl] at H
      by_cases c16 : a0_5 = 0
      ·
       rw [if_pos c16] at H
       have c16b0 : (a0_5 == 0) = true := beq_iff_eq.mpr c16
       have c16b1 : (a0_5 != 0) = false := bne_eq_false_iff_eq.mpr c16
       clear c16
       obtain rfl := Option.some.inj H
       obtain ⟨z17_0, z17_1, z17_2, z17_3, z17_4, z17_5, z17_6⟩ := cz7 BK349.out
       obtain ⟨f17_0, f17_1, f17_2, f17_3, f17_4, f17_5, f17_6⟩ := fz7 BK349.out
       go_wp2_with (first | ((with_reducible refine gate_callee (f := 136) rfl ?_); refine goesL_ (some 25) rfl rfl Try.func136 (by kernel_rfl) rfl #[.int .i64 a0_4] rfl la_ ?_; (with_reducible refine (impl_sinceOk.calls a0_4 true _ A14.out).mono ?_); rintro e w' ⟨rfl, ⟨nd, rfl⟩⟩; refine ⟨_, rfl, ?_⟩))
       go_ret
       exact ⟨by first | rfl | (simp [errW_none, errW_some] <;> rfl) | (simp [*, errW_none, errW_some] <;> rfl), qB HB⟩
      ·
       rw [if_neg c16] at H
       have c16b0 : (a0_5 == 0) = false := beq_eq_false_iff_ne.mpr c16
       have c16b1 : (a0_5 != 0) = true := bne_iff_ne.mpr c16
       obtain rfl := Option.some.inj H
       obtain ⟨z18_0, z18_1, z18_2, z18_3, z18_4, z18_5, z18_6⟩ := cz7 BK349.out
       obtain ⟨f18_0, f18_1, f18_2, f18_3, f18_4, f18_5, f18_6⟩ := fz7 BK349.out
       go_wp2_with (first | ((with_reducible refine gate_callee (f := 136) rfl ?_); refine goesL_ (some 25) rfl rfl Try.func136 (by kernel_rfl) rfl #[.int .i64 a0_4] rfl la_ ?_; (with_reducible refine (impl_sinceOk.calls a0_4 true _ A14.out).mono ?_); rintro e w' ⟨rfl, ⟨nd, rfl⟩⟩; refine ⟨_, rfl, ?_⟩))
       go_ret
       exact ⟨by first | rfl | (simp [errW_none, errW_some] <;> rfl) | (simp [*, errW_none, errW_some] <;> rfl), qB HB⟩
     ·
      replace c15 := Bool.eq_false_iff.mpr c15
      subst c15
      rw [if_neg (show ¬ (false = true) by decide)] at H
      obtain rfl := Option.some.inj H
      obtain ⟨z19_0, z19_1, z19_2, z19_3, z19_4, z19_5, z19_6⟩ := cz7 BK349.out
      obtain ⟨f19_0, f19_1, f19_2, f19_3, f19_4, f19_5, f19_6⟩ := fz7 BK349.out
      go_wp2_with (first | ((with_reducible refine gate_callee (f := 136) rfl ?_); refine goesL_ (some 25) rfl rfl Try.func136 (by kernel_rfl) rfl #[.int .i64 a0_4] rfl la_ ?_; (with_reducible refine (impl_sinceOk.calls a0_4 false _ A14.out).mono ?_); rintro e w' ⟨rfl, ⟨nd, rfl⟩⟩; refine ⟨_, rfl, ?_⟩))
      go_ret
      exact ⟨by first | rfl | (simp [errW_none, errW_some] <;> rfl) | (simp [*, errW_none, errW_some] <;> rfl), qB HB⟩
    ·
     rw [if_neg c13] at H
     have c13b0 : (a0_3 == 0) = false := beq_eq_false_iff_ne.mpr c13
     have c13b1 : (a0_3 != 0) = true := bne_iff_ne.mpr c13
     by_cases c20 : a0_3 = 1
     ·
      rw [if_pos c20] at H
      have c20b0 : (a0_3 == 1) = true := beq_iff_eq.mpr c20
      have c20b1 : (a0_3 != 1) = false := bne_eq_false_iff_eq.mpr c20
      clear c20
      by_cases c21 : a0_4 = 0
      ·
       rw [if_pos c21] at H
       have c21b0 : (a0_4 == 0) = true := beq_iff_eq.mpr c21
       have c21b1 : (a0_4 != 0) = false := bne_eq_false_iff_eq.mpr c21
       clear c21
       obtain ⟨t354, A22, H⟩ := bd_ H
       by_cases c23 : t354 = true
       ·
        subst c23
        rw [if_pos rfl] at H
        obtain rfl := Option.some.inj H
        obtain ⟨z24_0, z24_1, z24_2, z24_3, z24_4, z24_5, z24_6⟩ := cz7 BK349.out
        obtain ⟨f24_0, f24_1, f24_2, f24_3, f24_4, f24_5, f24_6⟩ := fz7 BK349.out
        go_wp2_with (first | (go_at_call 142; (with_reducible refine (impl_sockIdOk.calls a0_5 true _ A22.out).mono ?_); rintro e w' ⟨rfl, ⟨nd, rfl⟩⟩))
        go_ret
        exact ⟨by first | rfl | (simp [errW_none, errW_some] <;> rfl) | (simp [*, errW_none, errW_some] <;> rfl), qB HB⟩
       ·
        replace c23 := Bool.eq_false_iff.mpr c23
        subst c23
        rw [if_neg (show ¬ (false = true) by decide)] at H
        obtain rfl := Option.some.inj H
        obtain ⟨z25_0, z25_1, z25_2, z25_3, z25_4, z25_5, z25_6⟩ := cz7 BK349.out
        obtain ⟨f25_0, f25_1, f25_2, f25_3, f25_4, f25_5, f25_6⟩ := fz7 BK349.out
        go_wp2_with (first | (go_at_call 142; (with_reducible refine (impl_sockIdOk.calls a0_5 false _ A22.out).mono ?_); rintro e w' ⟨rfl, ⟨nd, rfl⟩⟩))
        go_ret
        exact ⟨by first | rfl | (simp [errW_none, errW_some] <;> rfl) | (simp [*, errW_none, errW_some] <;> rfl), qB HB⟩
      ·
       rw [if_neg c21] at H
       have c21b0 : (a0_4 == 0) = false := beq_eq_false_iff_ne.mpr c21
       have c21b1 : (a0_4 != 0) = true := bne_iff_ne.mpr c21
       obtain rfl := Option.some.inj H
       obtain ⟨z26_0, z26_1, z26_2, z26_3, z26_4, z26_5, z26_6⟩ := cz7 BK349.out
       obtain ⟨f26_0, f26_1, f26_2, f26_3, f26_4, f26_5, f26_6⟩ := fz7 BK349.out
       go_wp2
       go_ret
       exact ⟨by first | rfl | (simp [errW_none, errW_some] <;> rfl) | (simp [*, errW_none, errW_some] <;> rfl), qB HB⟩
     ·
      rw [if_neg c20] at H
      have c20b0 : (a0_3 == 1) = false := beq_eq_false_iff_ne.mpr c20
      have c20b1 : (a0_3 != 1) = true := bne_iff_ne.mpr c20
      by_cases c27 : a0_3 = 2
      ·
       rw [if_pos c27] at H
       have c27b0 : (a0_3 == 2) = true := beq_iff_eq.mpr c27
       have c27b1 : (a0_3 != 2) = false := bne_eq_false_iff_eq.mpr c27
       clear c27
       by_cases c28 : a0_4 = 0
       ·
        rw [if_pos c28] at H
        have c28b0 : (a0_4 == 0) = true := beq_iff_eq.mpr c28
        have c28b1 : (a0_4 != 0) = false := bne_eq_false_iff_eq.mpr c28
        clear c28
        obtain ⟨t355, A29, H⟩ := bd_ H
        by_cases c30 : t355 = true
        ·
         subst c30
         rw [if_pos rfl] at H
         obtain rfl := Option.some.inj H
         obtain ⟨z31_0, z31_1, z31_2, z31_3, z31_4, z31_5, z31_6⟩ := cz7 BK349.out
         obtain ⟨f31_0, f31_1, f31_2, f31_3, f31_4, f31_5, f31_6⟩ := fz7 BK349.out
         go_wp2_with (first | (go_at_call 142; (with_reducible refine (impl_sockIdOk.calls a0_5 true _ A29.out).mono ?_); rintro e w' ⟨rfl, ⟨nd, rfl⟩⟩))
         go_ret
         exact ⟨by first | rfl | (simp [errW_none, errW_some] <;> rfl) | (simp [*, errW_none, errW_some] <;> rfl), qB HB⟩
        ·
         replace c30 := Bool.eq_false_iff.mpr c30
         subst c30
         rw [if_neg (show ¬ (false = true) by decide)] at H
         obtain rfl := Option.some.inj H
         obtain ⟨z32_0, z32_1, z32_2, z32_3, z32_4, z32_5, z32_6⟩ := cz7 BK349.out
         obtain ⟨f32_0, f32_1, f32_2, f32_3, f32_4, f32_5, f32_6⟩ := fz7 BK349.out
         go_wp2_with (first | (go_at_call 142; (with_reducible refine (impl_sockIdOk.calls a0_5 false _ A29.out).mono ?_); rintro e w' ⟨rfl, ⟨nd, rfl⟩⟩))
         go_ret
         exact ⟨by first | rfl | (simp [errW_none, errW_some] <;> rfl) | (simp [*, errW_none, errW_some] <;> rfl), qB HB⟩
       ·
        rw [if_neg c28] at H
        have c28b0 : (a0_4 == 0) = false := beq_eq_false_iff_ne.mpr c28
        have c28b1 : (a0_4 != 0) = true := bne_iff_ne.mpr c28
        obtain rfl := Option.some.inj H
        obtain ⟨z33_0, z33_1, z33_2, z33_3, z33_4, z33_5, z33_6⟩ := cz7 BK349.out
        obtain ⟨f33_0, f33_1, f33_2, f33_3, f33_4, f33_5, f33_6⟩ := fz7 BK349.out
        go_wp2
        go_ret
        exact ⟨by first | rfl | (simp [errW_none, errW_some] <;> rfl) | (simp [*, errW_none, errW_some] <;> rfl), qB HB⟩
      ·
       rw [if_neg c27] at H
       have c27b0 : (a0_3 == 2) = false := beq_eq_false_iff_ne.mpr c27
       have c27b1 : (a0_3 != 2) = true := bne_iff_ne.mpr c27
       obtain rfl := Option.some.inj H
       obtain ⟨z34_0, z34_1, z34_2, z34_3, z34_4, z34_5, z34_6⟩ := cz7 BK349.out
       obtain ⟨f34_0, f34_1, f34_2, f34_3, f34_4, f34_5, f34_6⟩ := fz7 BK349.out
       go_wp2
       go_ret
       exact ⟨by first | rfl | (simp [errW_none, errW_some] <;> rfl) | (simp [*, errW_none, errW_some] <;> rfl), qB HB⟩

end Go.Proofs.Ytahfemlfdpbkkaa.PFnExactGetItem
