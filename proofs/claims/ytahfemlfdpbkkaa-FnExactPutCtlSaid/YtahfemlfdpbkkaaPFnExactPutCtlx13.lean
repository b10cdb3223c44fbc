-- Written by a program of this session (myprint.py, over the kit's print): contracts of FnExactPutCtl
import Derived.Test.YtahfemlfdpbkkaaPFnExactPutCtlx0
import Derived.Test.YtahfemlfdpbkkaaPFnExactPutCtlx11
import Derived.Test.YtahfemlfdpbkkaaPFnExactPutCtlx12
namespace Go.Proofs.Ytahfemlfdpbkkaa.PFnExactPutCtl
open Go.RowKit Go.Proofs.YtahfemlfdpbkkaaW.PrintWords Go.Proofs.YtahfemlfdpbkkaaW.PrintLast Go.Proofs.YtahfemlfdpbkkaaW.PrintMore Go.Proofs.YtahfemlfdpbkkaaV
attribute [local go_sem] max2_int min2_int max_two min_two max_three min_three max_four min_four   -- for this text's walks alone
set_option linter.unusedVariables false
set_option linter.unusedSimpArgs false

/-! ### impl_PutText: function 81 -/
def impl_PutText.f (k : Nat) (l0 : List Int) (a1 : ByteArray) : Option (List Int) := (slices_Clone_byte.f l0).bind fun t376 => ((impl_TextOk.f k a1).bind fun t379 => (if t379 = true then (if t376.length < 140737488355328 then ((some (t376 ++ [((a1.size : Int)) % 256] : List Int)).bind fun y380 => (if y380.length + a1.size < 140737488355328 then (some (y380 ++ bytesOf a1)) else (none))) else (none)) else (some t376)))
theorem impl_PutText.mono : ∀ a0 a1 k, LeO (impl_PutText.f k a0 a1) (impl_PutText.f (k + 1) a0 a1) := by
 intro a0 a1 k
 unfold impl_PutText.f
 repeat' first
   | (with_reducible exact impl_TextOk.mono _ _)
   | (with_reducible exact LeO.refl _)
   | (with_reducible exact LeO.none _)
   | (with_reducible refine LeO.ite ?_ ?_)
   | (with_reducible refine LeO.bind ?_ (fun _ => ?_))
   | exact impl_TextOk.mono _ _
   | exact LeO.none _
   | refine LeO.ite ?_ ?_
   | refine LeO.bind ?_ (fun _ => ?_)
set_option maxHeartbeats 8000000 in
set_option maxRecDepth 100000 in
theorem impl_PutText.calls (k : Nat) (A0 : Option Addr) (c0 : Nat) (l0 : List Int) (a1 : ByteArray) (r : List Int) (w : World) (hr0 : Kd.C (Kd.int .u8) w A0 l0.length l0) (hc0 : l0.length ≤ c0) (h : impl_PutText.f k l0 a1 = some r) :
  Calls Try.prog 81 #[.slice A0 l0.length c0, .string a1] w fun e w' => ∃ v0_ : Value, e = .returned (v0_) ∧ Kd.R (Kd.int .u8) 5 w' w.heap.size (fun _ => True) v0_ r ∧ Below w.heap.size w w' := by
 have HR0 := Aside0.mk hr0
 have HC0 := Aside0.mk hc0
 clear hr0 hc0
 have HB := Aside0.mk (Below.refl w.heap.size w)
 have H : ((slices_Clone_byte.f l0).bind fun t376 => ((impl_TextOk.f k a1).bind fun t379 => (if t379 = true then (if t376.length < 140737488355328 then ((some (t376 ++ [((a1.size : Int)) % 256] : List Int)).bind fun y380 => (if y380.length + a1.size < 140737488355328 then (some (y380 ++ bytesOf a1)) else (none))) else (none)) else (some t376)))) = some r := h
 clear h
 obtain ⟨t376, A3, H⟩ := bd_ H
 obtain ⟨t379, A4, H⟩ := bd_ H
 have HC5 := Aside0.mk H
 clear H
 go_enter Try.func81, Try.ntmps81
 go_upto_if 10 with (first | ((with_reducible refine gate_callee (f := 141) rfl ?_); refine goesL_ (some 7) rfl rfl Try.func141 (by kernel_rfl) rfl #[.slice A0 l0.length c0] rfl la_ ?_; (with_reducible refine (slices_Clone_byte.calls _ _ l0 t376 _ ?side1 ?side2 A3.out).mono ?_); (case side1 => exact qC (HR0.out)); (case side2 => exact HC0.out); rintro e w6 ⟨v377, rfl, ho0, hb⟩; refine ⟨_, rfl, ?_⟩; have HO378 := am_ (Kd.R_lower ho0 (below_size (qB HB))); replace HB := am_ (below_step (qB HB) hb); (try clear hb); (try clear hb2); (try clear hk); (try clear hi); (try clear ho0)) | ((with_reducible refine gate_callee (f := 147) rfl ?_); refine goesL_ (some 9) rfl rfl Try.func147 (by kernel_rfl) rfl #[.string a1] rfl la_ ?_; (with_reducible refine (impl_TextOk.calls k a1 t379 _ A4.out).mono ?_); rintro e w' ⟨rfl, ⟨nd, rfl⟩⟩; refine ⟨_, rfl, ?_⟩))
 (try simp only [Act.put, List.setIfInBounds_toArray, List.set_cons_zero, List.set_cons_succ])
 (try (rw [drewN_self w6]; generalize hq_ : World.drewN w6 _ = w6; have n0_ : Aside0 (Kd.R (Kd.int .u8) 5 w6 w.heap.size (fun _ => True) v377 t376) := ⟨by rw [← hq_]; exact (qR HO378)⟩; have n1_ : Aside0 (Below w.heap.size w w6) := ⟨by rw [← hq_]; exact (qB HB)⟩; clear HO378 HB hq_; have HO378 := n0_; have HB := n1_; clear n0_ n1_))
 have H := HC5.out
 clear HC5
 by_cases c7 : t379 = true
 ·
  subst c7
  rw [if_pos rfl] at H
  by_cases c8 : t376.length < 140737488355328
  ·
   rw [if_pos c8] at H
   have LMc8 := Aside0.mk c8
   clear c8
   obtain ⟨y380, hy380⟩ : ∃ y_ : List Int, y_ = (t376 ++ [((a1.size : Int)) % 256]) := ⟨_, rfl⟩
   replace H := mk_ H hy380
   (try dsimp only at H)
   have Ny380 := Aside0.mk hy380
   clear hy380
   by_cases c9 : y380.length + a1.size < 140737488355328
   ·
    rw [if_pos c9] at H
    have LMc9 := Aside0.mk c9
    clear c9
    obtain ⟨y383, hy383⟩ : ∃ y_ : List Int, y_ = (y380 ++ bytesOf a1) := ⟨_, rfl⟩
    rw [← hy383] at H
    have Ny383 := Aside0.mk hy383
    clear hy383
    obtain rfl := Option.some.inj H
    go_wp2_with (first | ((with_reducible refine gate_builtin (b := .append) (xs := #[.tmp 12, .tmp 16]) rfl ?_); at_builtin; refine Kd.R_append (Kd.int .u8) (w0 := w) w.heap.size rfl (.tmp 12) (.tmp 16) 22 5 (.int .u8 0) 1 rfl Try.underlying22 info5 rfl (by decide) (by omega) v377 t376 (((a1.size : Int)) % 256) [.int .u8 (((a1.size : Int)) % 256)] (fun _ => True) (fun _ => False) rfl rfl ?aP (fun _ hk => hk.elim) ?aF ?aO ?aB ?aS ?aL ?_; (case aP => exact rfl); (case aB => exact (qB HB)); (case aF => exact (fun _ _ => trivial)); (case aO => exact (qR HO378)); (case aS => exact (below_size (qB HB))); (case aL => have := LMc8.out; omega); intro v381 w10 ho hb hg hat; rw [← Ny380.out] at ho; replace HB := am_ (hb); have HO382 := am_ (ho); clear HO378; clear ho hb hg hat) | (at_builtin; refine print_append_str (w0 := w) w.heap.size rfl (.tmp 17) _ 22 9 5 rfl Try.underlying22 Try.underlying9 info5 v381 y380 a1 rfl rfl ?aO ?aB ?aS ?aL ?_; (case aB => exact (qB HB)); (case aO => exact (Kd.own_of_R (qR HO382))); (case aS => exact (below_size (qB HB))); (case aL => have := LMc9.out; omega); intro v384 w11 ho0 hb hg; have ho := Kd.R_of_own (h1 := fun _ => rfl) (ok := fun _ => True) ho0 (fun _ _ => trivial); clear ho0; have hat := True.intro; rw [← Ny383.out] at ho; change Kd.R (Kd.int .u8) 5 w11 w.heap.size (fun _ => True) v384 y383 at ho; replace HB := am_ (hb); have HO385 := am_ (ho); clear HO382; clear ho hb hg hat))
    go_ret
    exact ⟨_, by first | rfl | (simp [errW_none, errW_some] <;> rfl) | (simp [*, errW_none, errW_some] <;> rfl), qR HO385, qB HB⟩
   ·
    rw [if_neg c9] at H
    exact absurd H (by simp)
  ·
   rw [if_neg c8] at H
   exact absurd H (by simp)
 ·
  replace c7 := Bool.eq_false_iff.mpr c7
  subst c7
  rw [if_neg (show ¬ (false = true) by decide)] at H
  obtain rfl := Option.some.inj H
  go_wp2
  go_ret
  exact ⟨_, by first | rfl | (simp [errW_none, errW_some] <;> rfl) | (simp [*, errW_none, errW_some] <;> rfl), qR HO378, qB HB⟩

/-! ### impl_PutWord: function 82 -/
def impl_PutWord.f (l0 : List Int) (a1 : Int) : Option (List Int) := (slices_Clone_byte.f l0).bind fun t386 => ((some (([(a1 / 256) % 256, (a1) % 256] : List Int) : List Int)).bind fun y389 => (if t386.length + y389.length < 140737488355328 then (some (t386 ++ y389)) else (none)))
set_option maxHeartbeats 8000000 in
set_option maxRecDepth 100000 in
theorem impl_PutWord.calls (A0 : Option Addr) (c0 : Nat) (l0 : List Int) (a1 : Int) (r : List Int) (w : World) (hr0 : Kd.C (Kd.int .u8) w A0 l0.length l0) (hc0 : l0.length ≤ c0) (h : impl_PutWord.f l0 a1 = some r) :
  Calls Try.prog 82 #[.slice A0 l0.length c0, .int .i64 a1] w fun e w' => ∃ v0_ : Value, e = .returned (v0_) ∧ Kd.R (Kd.int .u8) 5 w' w.heap.size (fun _ => True) v0_ r ∧ Below w.heap.size w w' := by
 have HR0 := Aside0.mk hr0
 have HC0 := Aside0.mk hc0
 clear hr0 hc0
 have HB := Aside0.mk (Below.refl w.heap.size w)
 have H : ((slices_Clone_byte.f l0).bind fun t386 => ((some (([(a1 / 256) % 256, (a1) % 256] : List Int) : List Int)).bind fun y389 => (if t386.length + y389.length < 140737488355328 then (some (t386 ++ y389)) else (none)))) = some r := h
 clear h
 obtain ⟨t386, A3, H⟩ := bd_ H
 obtain ⟨y389, hy389⟩ : ∃ y_ : List Int, y_ = (([(a1 / 256) % 256, (a1) % 256] : List Int)) := ⟨_, rfl⟩
 replace H := mk_ H hy389
 (try dsimp only at H)
 have Ny389 := Aside0.mk hy389
 clear hy389
 by_cases c4 : t386.length + y389.length < 140737488355328
 ·
  rw [if_pos c4] at H
  have LMc4 := Aside0.mk c4
  clear c4
  obtain ⟨y392, hy392⟩ : ∃ y_ : List Int, y_ = (t386 ++ y389) := ⟨_, rfl⟩
  replace H : (some y392) = some r := by first | (rw [hy392]; with_reducible exact H) | (have H2_ := (Option.bind_some _ _).symm.trans H; rw [hy392]; with_reducible exact H2_) | (have H2_ := (Option.bind_some _ _).symm.trans H; with_reducible exact H2_) | with_reducible exact H | (rw [hy392]; exact H) | exact H
  have Ny392 := Aside0.mk hy392
  clear hy392
  obtain rfl := Option.some.inj H
  go_enter Try.func82, Try.ntmps82
  go_wp2_with (first | ((with_reducible refine gate_callee (f := 141) rfl ?_); refine goesL_ (some 6) rfl rfl Try.func141 (by kernel_rfl) rfl #[.slice A0 l0.length c0] rfl la_ ?_; (with_reducible refine (slices_Clone_byte.calls _ _ l0 t386 _ ?side1 ?side2 A3.out).mono ?_); (case side1 => exact qC (HR0.out)); (case side2 => exact HC0.out); rintro e w5 ⟨v387, rfl, ho0, hb⟩; refine ⟨_, rfl, ?_⟩; have HO388 := am_ (Kd.R_lower ho0 (below_size (qB HB))); replace HB := am_ (below_step (qB HB) hb); (try clear hb); (try clear hb2); (try clear hk); (try clear hi); (try clear ho0)) | ((with_reducible refine gate_dst (N := 12) rfl ?_); refine Kd.R_lit (Kd.int .u8) _ 5 ?hg (N := 12) ?hd (xs := ([(a1 / 256) % 256, (a1) % 256] : List Int)) (inner := [.int .u8 ((a1 / 256) % 256), .int .u8 ((a1) % 256)]) (ok := fun _ => True) (okp := fun _ => True) ?hr ?hp (fun _ hk => hk) trivial (Below.refl _ _) (Nat.le_refl _) (by simp) ?_; (case hd => rfl); (case hg => rfl); (case hr => first | (go_simp; done) | (go_simp; rfl)); (case hp => exact (Reps.one (show Kd.M (Kd.int .u8) _ _ _ ((a1 / 256) % 256) [.int .u8 ((a1 / 256) % 256)] from rfl) (Reps.one (show Kd.M (Kd.int .u8) _ _ _ ((a1) % 256) [.int .u8 ((a1) % 256)] from rfl) (Reps.none _ _)))); intro v390 w6 ho7 hb hg_ hnew_; clear hg_ hnew_; (first | rw [← Ny389.out] at ho7 | (simp only [Int.reduceToNat] at ho7; rw [← Ny389.out] at ho7)); have HO391 := am_ (Kd.R_lower (Kd.R_new' ho7 (Kd.R_lt (qR HO388))) (below_size (qB HB))); replace HO388 := am_ (eR HO388 ho7 hb); replace HB := am_ (below_step (qB HB) hb); clear hb ho7; obtain ⟨Ao9, co9, eo9⟩ := Kd.R_slice HO391.out; subst eo9) | ((with_reducible refine gate_builtin (b := .append) (xs := #[.tmp 6, .tmp 12]) rfl ?_); at_builtin; refine Kd.R_append_rows (Kd.int .u8) (w0 := w) w.heap.size rfl (.tmp 6) (.tmp 12) 22 5 (.int .u8 0) 1 rfl Try.underlying22 info5 rfl (by decide) (by omega) v387 t386 y389 _ _ _ (fun k_ => some k_ ≠ (.slice Ao9 y389.length co9 : Value).ownBlock) (fun _ => False) rfl rfl ?aO ?aR (fun _ _ h => h) (fun _ h => h.elim) ?aF ?aB ?aS ?aL ?_; (case aR => exact qC ((Kd.R_reads' HO391.out).2.2)); (case aB => exact (qB HB)); (case aF => exact (fun k_ hk => Kd.fresh' (Kd.R_lt (qR HO391)) k_ hk)); (case aO => exact (tR (Kd.R_mono HO388.out (fun _ hk => hk.2)))); (case aS => exact (below_size (qB HB))); (case aL => have := LMc4.out; omega); intro v393 w8 ho hb hg hat; rw [← Ny392.out] at ho; replace HO391 := am_ (Kd.R_after (ok := (fun _ => True)) (qR HO391) hg hat); replace HB := am_ (hb); have HO394 := am_ (ho); clear HO388; clear ho hb hg hat))
  go_ret
  exact ⟨_, by first | rfl | (simp [errW_none, errW_some] <;> rfl) | (simp [*, errW_none, errW_some] <;> rfl), by (with_reducible repeat (first | apply Kd.R_alloc | apply Kd.R_drewN | apply Kd.R_drew)); exact Kd.R_mono HO394.out (fun _ hk => trivial), qB HB⟩
 ·
  rw [if_neg c4] at H
  exact absurd H (by simp)

/-! ### impl_putSince: function 83 -/
def impl_putSince.f (l0 : List Int) (a1 : Int) : Option (List Int) := (impl_PutWord.f l0 (wrap64 (Int.tdiv a1 256))).bind fun t395 => (if t395.length < 140737488355328 then (some (t395 ++ [(Int.tmod a1 256) % 256])) else (none))
set_option maxHeartbeats 8000000 in
set_option maxRecDepth 100000 in
theorem impl_putSince.calls (A0 : Option Addr) (c0 : Nat) (l0 : List Int) (a1 : Int) (r : List Int) (w : World) (hr0 : Kd.C (Kd.int .u8) w A0 l0.length l0) (hc0 : l0.length ≤ c0) (h : impl_putSince.f l0 a1 = some r) :
  Calls Try.prog 83 #[.slice A0 l0.length c0, .int .i64 a1] w fun e w' => ∃ v0_ : Value, e = .returned (v0_) ∧ Kd.R (Kd.int .u8) 5 w' w.heap.size (fun _ => True) v0_ r ∧ Below w.heap.size w w' := by
 have HR0 := Aside0.mk hr0
 have HC0 := Aside0.mk hc0
 clear hr0 hc0
 have HB := Aside0.mk (Below.refl w.heap.size w)
 have H : ((impl_PutWord.f l0 (wrap64 (Int.tdiv a1 256))).bind fun t395 => (if t395.length < 140737488355328 then (some (t395 ++ [(Int.tmod a1 256) % 256])) else (none))) = some r := h
 clear h
 obtain ⟨t395, A3, H⟩ := bd_ H
 by_cases c4 : t395.length < 140737488355328
 ·
  rw [if_pos c4] at H
  have LMc4 := Aside0.mk c4
  clear c4
  obtain ⟨y398, hy398⟩ : ∃ y_ : List Int, y_ = (t395 ++ [(Int.tmod a1 256) % 256]) := ⟨_, rfl⟩
  rw [← hy398] at H
  have Ny398 := Aside0.mk hy398
  clear hy398
  obtain rfl := Option.some.inj H
  go_enter Try.func83, Try.ntmps83
  go_wp2_with (first | ((with_reducible refine gate_callee (f := 82) rfl ?_); refine goesL_ (some 8) rfl rfl Try.func82 (by kernel_rfl) rfl #[.slice A0 l0.length c0, .int .i64 (wrap64 (Int.tdiv a1 256))] rfl la_ ?_; (with_reducible refine (impl_PutWord.calls _ _ l0 (wrap64 (Int.tdiv a1 256)) t395 _ ?side1 ?side2 A3.out).mono ?_); (case side1 => exact qC (HR0.out)); (case side2 => exact HC0.out); rintro e w5 ⟨v396, rfl, ho0, hb⟩; refine ⟨_, rfl, ?_⟩; have HO397 := am_ (Kd.R_lower ho0 (below_size (qB HB))); replace HB := am_ (below_step (qB HB) hb); (try clear hb); (try clear hb2); (try clear hk); (try clear hi); (try clear ho0)) | ((with_reducible refine gate_builtin (b := .append) (xs := #[.tmp 8, .tmp 12]) rfl ?_); at_builtin; refine Kd.R_append (Kd.int .u8) (w0 := w) w.heap.size rfl (.tmp 8) (.tmp 12) 22 5 (.int .u8 0) 1 rfl Try.underlying22 info5 rfl (by decide) (by omega) v396 t395 ((Int.tmod a1 256) % 256) [.int .u8 ((Int.tmod a1 256) % 256)] (fun _ => True) (fun _ => False) rfl rfl ?aP (fun _ hk => hk.elim) ?aF ?aO ?aB ?aS ?aL ?_; (case aP => exact rfl); (case aB => exact (qB HB)); (case aF => exact (fun _ _ => trivial)); (case aO => exact (qR HO397)); (case aS => exact (below_size (qB HB))); (case aL => have := LMc4.out; omega); intro v399 w6 ho hb hg hat; rw [← Ny398.out] at ho; replace HB := am_ (hb); have HO400 := am_ (ho); clear HO397; clear ho hb hg hat))
  go_ret
  exact ⟨_, by first | rfl | (simp [errW_none, errW_some] <;> rfl) | (simp [*, errW_none, errW_some] <;> rfl), qR HO400, qB HB⟩
 ·
  rw [if_neg c4] at H
  exact absurd H (by simp)

/-! ### impl_LineOk: function 84 -/
def impl_LineOk.j0 : Nat → Bool → Int → ByteArray → Int → Int → Int → Int → Int → Option (Bool)
 | 0, _, _, _, _, _, _, _, _ => none
 | k + 1, x18, x402000, x402001, x402002, x402003, x402004, x402005, x402006 => if x18 = true then (some false) else (if x402003 = 0 then ((impl_sinceOk.f x402004).bind fun t405 => (if t405 = true then (if x402005 = 0 then (some (x402006 == 0)) else (some false)) else (some false))) else (if x402003 = 1 then (if x402004 = 0 then ((impl_sockIdOk.f x402005).bind fun t406 => (if t406 = true then (some (decide (x402006 ≥ 1))) else (some false))) else (some false)) else (if x402003 = 2 then (if x402004 = 0 then ((impl_sockIdOk.f x402005).bind fun t407 => (if t407 = true then (some (decide (x402006 ≥ 1))) else (some false))) else (some false)) else (some false))))
def impl_LineOk.f (k : Nat) (a0_0 : Int) (a0_1 : ByteArray) (a0_2 : Int) (a0_3 : Int) (a0_4 : Int) (a0_5 : Int) (a0_6 : Int) : Option (Bool) := (impl_sockIdOk.f a0_0).bind fun t402 => (if t402 = true then ((impl_nameOk.f k a0_1).bind fun t403 => (if t403 = true then ((impl_isIn.f a0_2 1 60000).bind fun t404 => (impl_LineOk.j0 k (!t404) a0_0 a0_1 a0_2 a0_3 a0_4 a0_5 a0_6)) else (impl_LineOk.j0 k true a0_0 a0_1 a0_2 a0_3 a0_4 a0_5 a0_6))) else (impl_LineOk.j0 k true a0_0 a0_1 a0_2 a0_3 a0_4 a0_5 a0_6))
theorem impl_LineOk.mono_l : ∀ k, (∀ y0 y1 y2 y3 y4 y5 y6 y7, LeO (impl_LineOk.j0 k y0 y1 y2 y3 y4 y5 y6 y7) (impl_LineOk.j0 (k + 1) y0 y1 y2 y3 y4 y5 y6 y7))
 | 0 => fun _ _ _ _ _ _ _ _ r h => by simp [impl_LineOk.j0] at h
 | k + 1 => by
  have ih0 := impl_LineOk.mono_l k
  ·
   intro y0 y1 y2 y3 y4 y5 y6 y7
   unfold impl_LineOk.j0
   repeat' first
   | (with_reducible exact ih0 _ _ _ _ _ _ _ _)
   | (with_reducible exact impl_nameOk.mono _ _)
   | (with_reducible exact LeO.refl _)
   | (with_reducible exact LeO.none _)
   | (with_reducible refine LeO.ite ?_ ?_)
   | (with_reducible refine LeO.bind ?_ (fun _ => ?_))
   | exact ih0 _ _ _ _ _ _ _ _
   | exact impl_nameOk.mono _ _
   | exact LeO.none _
   | refine LeO.ite ?_ ?_
   | refine LeO.bind ?_ (fun _ => ?_)
theorem impl_LineOk.mono : ∀ a0 a1 a2 a3 a4 a5 a6 k, LeO (impl_LineOk.f k a0 a1 a2 a3 a4 a5 a6) (impl_LineOk.f (k + 1) a0 a1 a2 a3 a4 a5 a6) := by
 intro a0 a1 a2 a3 a4 a5 a6 k
 have ih0 := impl_LineOk.mono_l k
 unfold impl_LineOk.f
 repeat' first
   | (with_reducible exact ih0 _ _ _ _ _ _ _ _)
   | (with_reducible exact impl_nameOk.mono _ _)
   | (with_reducible exact LeO.refl _)
   | (with_reducible exact LeO.none _)
   | (with_reducible refine LeO.ite ?_ ?_)
   | (with_reducible refine LeO.bind ?_ (fun _ => ?_))
   | exact ih0 _ _ _ _ _ _ _ _
   | exact impl_nameOk.mono _ _
   | exact LeO.none _
   | refine LeO.ite ?_ ?_
   | refine LeO.bind ?_ (fun _ => ?_)
set_option maxHeartbeats 8000000 in
set_option maxRecDepth 100000 in
theorem impl_LineOk.calls (k : Nat) (a0_0 : Int) (a0_1 : ByteArray) (a0_2 : Int) (a0_3 : Int) (a0_4 : Int) (a0_5 : Int) (a0_6 : Int) (r : Bool) (w : World) (h : impl_LineOk.f k a0_0 a0_1 a0_2 a0_3 a0_4 a0_5 a0_6 = some r) :
  Calls Try.prog 84 #[.agg #[.int .i64 a0_0, .string a0_1, .int .i64 a0_2, .int .i64 a0_3, .int .i64 a0_4, .int .i64 a0_5, .int .i64 a0_6]] w fun e w' => e = .returned (.bool r) ∧ Below w.heap.size w w' := by
 have hu46 := Try.underlying46
 have HB := Aside0.mk (Below.refl w.heap.size w)
 have H : ((impl_sockIdOk.f a0_0).bind fun t402 => (if t402 = true then ((impl_nameOk.f k a0_1).bind fun t403 => (if t403 = true then ((impl_isIn.f a0_2 1 60000).bind fun t404 => (impl_LineOk.j0 k (!t404) a0_0 a0_1 a0_2 a0_3 a0_4 a0_5 a0_6)) else (impl_LineOk.j0 k true a0_0 a0_1 a0_2 a0_3 a0_4 a0_5 a0_6))) else (impl_LineOk.j0 k true a0_0 a0_1 a0_2 a0_3 a0_4 a0_5 a0_6))) = some r := h
 clear h
 have HC2 := Aside0.mk H
 clear H
 go_enter Try.func84, Try.ntmps84
 go_upto_region 1 with (first | ((with_reducible refine gate_dst (N := 1) rfl ?_); refine box_event ?hg (N := 1) ?hd (cs := #[.int .i64 a0_0, .string a0_1, .int .i64 a0_2, .int .i64 a0_3, .int .i64 a0_4, .int .i64 a0_5, .int .i64 a0_6]) (t := 46) ?hr ?_; (case hd => rfl); (case hg => rfl); (case hr => first | (go_simp; done) | (go_simp; rfl)); intro gb401 hg w3 hbox hb; have BK401 := am_ (hbox); have GW401 := am_ ((gG_ hg (qB HB))); have IGW401 := gI_ GW401; have GE401 := am_ ((gG_ hg (qB HB))); have IGE401 := gI_ GE401; replace HB := am_ (below_step (qB HB) hb); clear hb hbox hg))
 (try simp only [Act.put, List.setIfInBounds_toArray, List.set_cons_zero, List.set_cons_succ])
 go_cut [18] (fun v18 wc => ∃ (kq : Nat) (x18_1 : Bool), v18 = .bool x18_1 ∧ Aside0 (impl_LineOk.j0 kq x18_1 a0_0 a0_1 a0_2 a0_3 a0_4 a0_5 a0_6 = some r) ∧ Aside0 (kq ≤ k) ∧ Aside0 (wc.heap[gb401]? = some (.cells #[.int .i64 a0_0, .string a0_1, .int .i64 a0_2, .int .i64 a0_3, .int .i64 a0_4, .int .i64 a0_5, .int .i64 a0_6] 46 (0, 0))) ∧ Aside0 (Below w.heap.size w wc))
 case first =>
  have H := HC2.out
  clear HC2
  obtain ⟨t402, A4, H⟩ := bd_ H
  by_cases c5 : t402 = true
  ·
   subst c5
   rw [if_pos rfl] at H
   obtain ⟨t403, A6, H⟩ := bd_ H
   by_cases c7 : t403 = true
   ·
    subst c7
    rw [if_pos rfl] at H
    obtain ⟨t404, A8, H⟩ := bd_ H
    have H' := Aside0.mk H
    clear H
    obtain ⟨z9_0, z9_1, z9_2, z9_3, z9_4, z9_5, z9_6⟩ := cz7 BK401.out
    obtain ⟨f9_0, f9_1, f9_2, f9_3, f9_4, f9_5, f9_6⟩ := fz7 BK401.out
    go_wp2_with (first | ((with_reducible refine gate_callee (f := 142) rfl ?_); refine goesL_ (some 5) rfl rfl Try.func142 (by kernel_rfl) rfl #[.int .i64 a0_0] rfl la_ ?_; (with_reducible refine (impl_sockIdOk.calls a0_0 true _ A4.out).mono ?_); rintro e w' ⟨rfl, ⟨nd, rfl⟩⟩; refine ⟨_, rfl, ?_⟩) | (go_at_call 146; (with_reducible refine (impl_nameOk.calls k a0_1 true _ A6.out).mono ?_); rintro e w' ⟨rfl, ⟨nd, rfl⟩⟩) | (go_at_call 112; (with_reducible refine (impl_isIn.calls a0_2 1 60000 t404 _ A8.out).mono ?_); rintro e w' ⟨rfl, ⟨nd, rfl⟩⟩))
    go_meet
    case rel => exact ⟨_, (!t404), eqq_, H', ⟨by first | omega | exact Nat.le_refl _⟩, ⟨qK BK401⟩, ⟨qB HB⟩⟩
   ·
    replace c7 := Bool.eq_false_iff.mpr c7
    subst c7
    rw [if_neg (show ¬ (false = true) by decide)] at H
    have H' := Aside0.mk H
    clear H
    obtain ⟨z10_0, z10_1, z10_2, z10_3, z10_4, z10_5, z10_6⟩ := cz7 BK401.out
    obtain ⟨f10_0, f10_1, f10_2, f10_3, f10_4, f10_5, f10_6⟩ := fz7 BK401.out
    go_wp2_with (first | ((with_reducible refine gate_callee (f := 142) rfl ?_); refine goesL_ (some 5) rfl rfl Try.func142 (by kernel_rfl) rfl #[.int .i64 a0_0] rfl la_ ?_; (with_reducible refine (impl_sockIdOk.calls a0_0 true _ A4.out).mono ?_); rintro e w' ⟨rfl, ⟨nd, rfl⟩⟩; refine ⟨_, rfl, ?_⟩) | (go_at_call 146; (with_reducible refine (impl_nameOk.calls k a0_1 false _ A6.out).mono ?_); rintro e w' ⟨rfl, ⟨nd, rfl⟩⟩))
    go_meet
    case rel => exact ⟨_, (true), eqq_, H', ⟨by first | omega | exact Nat.le_refl _⟩, ⟨qK BK401⟩, ⟨qB HB⟩⟩
  ·
   replace c5 := Bool.eq_false_iff.mpr c5
   subst c5
   rw [if_neg (show ¬ (false = true) by decide)] at H
   have H' := Aside0.mk H
   clear H
   obtain ⟨z11_0, z11_1, z11_2, z11_3, z11_4, z11_5, z11_6⟩ := cz7 BK401.out
   obtain ⟨f11_0, f11_1, f11_2, f11_3, f11_4, f11_5, f11_6⟩ := fz7 BK401.out
   go_wp2_with (first | ((with_reducible refine gate_callee (f := 142) rfl ?_); refine goesL_ (some 5) rfl rfl Try.func142 (by kernel_rfl) rfl #[.int .i64 a0_0] rfl la_ ?_; (with_reducible refine (impl_sockIdOk.calls a0_0 false _ A4.out).mono ?_); rintro e w' ⟨rfl, ⟨nd, rfl⟩⟩; refine ⟨_, rfl, ?_⟩))
   go_meet
   case rel => exact ⟨_, (true), eqq_, H', ⟨by first | omega | exact Nat.le_refl _⟩, ⟨qK BK401⟩, ⟨qB HB⟩⟩
 case rest =>
  clear HC2
  try clear c1
  try clear p2
  try clear c5
  try clear c7
  try clear c8
  (try clear z10_0 z10_1 z10_2 z10_3 z10_4 z10_5 z10_6)
  (try clear z11_0 z11_1 z11_2 z11_3 z11_4 z11_5 z11_6)
  (try clear z9_0 z9_1 z9_2 z9_3 z9_4 z9_5 z9_6)
  (try clear f10_0 f10_1 f10_2 f10_3 f10_4 f10_5 f10_6)
  (try clear f11_0 f11_1 f11_2 f11_3 f11_4 f11_5 f11_6)
  (try clear f9_0 f9_1 f9_2 f9_3 f9_4 f9_5 f9_6)
  obtain ⟨kq, x18_1, rfl, HA, HJ1, BK401, HB⟩ := hcut
  cases kq with
  | zero => exact absurd HA.out (by simp [impl_LineOk.j0])
  | succ kj1 =>
   have H := HA.out
   clear HA
   simp only [impl_LineOk.j0] at H
   by_cases c12 : x18_1 = true
   ·
    subst c12
    rw [if_pos rfl] at H
    obtain rfl := Option.some.inj H
    go_wp2
    go_ret
    exact ⟨by first | rfl | (simp [errW_none, errW_some] <;> rfl) | (simp [*, errW_none, errW_some] <;> rfl), qB HB⟩
   ·
    replace c12 := Bool.eq_false_iff.mpr c12
    subst c12
    rw [if_neg (show ¬ (false = true) by decide)] at H
    by_cases c13 : a0_3 = 0
    ·
     rw [if_pos c13] at H
     have c13b0 : (a0_3 == 0) = true := beq_iff_eq.mpr c13
     have c13b1 : (a0_3 != 0) = false := bne_eq_false_iff_eq.mpr c13
     clear c13
     obtain ⟨t405, A14, H⟩ := bd_ H
     by_cases c15 : t405 = true
     ·
      subst c15
      rw [if_pos rfl] at H
      by_cases c16 : a0_5 = 0
      ·
       rw [if_pos c16] at H
       have c16b0 : (a0_5 == 0) = true := beq_iff_eq.mpr c16
       have c16b1 : (a0_5 != 0) = false := bne_eq_false_iff_eq.mpr c16
       clear c16
       obtain rfl := Option.some.inj H
       obtain ⟨z17_0, z17_1, z17_2, z17_3, z17_4, z17_5, z17_6⟩ := cz7 BK401.out
       obtain ⟨f17_0, f17_1, f17_2, f17_3, f17_4, f17_5, f17_6⟩ := fz7 BK401.out
       go_wp2_with (first | ((with_reducible refine gate_callee (f := 136) rfl ?_); refine goesL_ (some 25) rfl rfl Try.func136 (by kernel_rfl) rfl #[.int .i64 a0_4] rfl la_ ?_; (with_reducible refine (impl_sinceOk.calls a0_4 true _ A14.out).mono ?_); rintro e w' ⟨rfl, ⟨nd, rfl⟩⟩; refine ⟨_, rfl, ?_⟩))
       go_ret
       exact ⟨by first | rfl | (simp [errW_none, errW_some] <;> rfl) | (simp [*, errW_none, errW_some] <;> rfl), qB HB⟩
      ·
       rw [if_neg c16] at H
       have c16b0 : (a0_5 == 0) = false := beq_eq_false_iff_ne.mpr c16
       have c16b1 : (a0_5 != 0) = true := bne_iff_ne.mpr c16
       obtain rfl := Option.some.inj H
       obtain ⟨z18_0, z18_1, z18_2, z18_3, z18_4, z18_5, z18_6⟩ := cz7 BK401.out
       obtain ⟨f18_0, f18_1, f18_2, f18_3, f18_4, f18_5, f18_6⟩ := fz7 BK401.out
       go_wp2_with (first | ((with_reducible refine gate_callee (f := 136) rfl ?_); refine goesL_ (some 25) rfl rfl Try.func136 (by kernel_rfl) rfl #[.int .i64 a0_4] rfl la_ ?_; (with_reducible refine (impl_sinceOk.calls a0_4 true _ A14.out).mono ?_); rintro e w' ⟨rfl, ⟨nd, rfl⟩⟩; refine ⟨_, rfl, ?_⟩))
       go_ret
       exact ⟨by first | rfl | (simp [errW_none, errW_some] <;> rfl) | (simp [*, errW_none, errW_some] <;> rfl), qB HB⟩
     ·
      replace c15 := Bool.eq_false_iff.mpr c15
      subst c15
      rw [if_neg (show ¬ (false = true) by decide)] at H
      obtain rfl := Option.some.inj H
      obtain ⟨z19_0, z19_1, z19_2, z19_3, z19_4, z19_5, z19_6⟩ := cz7 BK401.out
      obtain ⟨f19_0, f19_1, f19_2, f19_3, f19_4, f19_5, f19_6⟩ := fz7 BK401.out
      go_wp2_with (first | ((with_reducible refine gate_callee (f := 136) rfl ?_); refine goesL_ (some 25) rfl rfl Try.func136 (by kernel_rfl) rfl #[.int .i64 a0_4] rfl la_ ?_; (with_reducible refine (impl_sinceOk.calls a0_4 false _ A14.out).mono ?_); rintro e w' ⟨rfl, ⟨nd, rfl⟩⟩; refine ⟨_, rfl, ?_⟩))
      go_ret
      exact ⟨by first | rfl | (simp [errW_none, errW_some] <;> rfl) | (simp [*, errW_none, errW_some] <;> rfl), qB HB⟩
    ·
     rw [if_neg c13] at H
     have c13b0 : (a0_3 == 0) = false := beq_eq_false_iff_ne.mpr c13
     have c13b1 : (a0_3 != 0) = true := bne_iff_ne.mpr c13
     by_cases c20 : a0_3 = 1
     ·
      rw [if_pos c20] at H
      have c20b0 : (a0_3 == 1) = true := beq_iff_eq.mpr c20
      have c20b1 : (a0_3 != 1) = false := bne_eq_false_iff_eq.mpr c20
      clear c20
      by_cases c21 : a0_4 = 0
      ·
       rw [if_pos c21] at H
       have c21b0 : (a0_4 == 0) = true := beq_iff_eq.mpr c21
       have c21b1 : (a0_4 != 0) = false := bne_eq_false_iff_eq.mpr c21
       clear c21
       obtain ⟨t406, A22, H⟩ := bd_ H
       by_cases c23 : t406 = true
       ·
        subst c23
        rw [if_pos rfl] at H
        obtain rfl := Option.some.inj H
        obtain ⟨z24_0, z24_1, z24_2, z24_3, z24_4, z24_5, z24_6⟩ := cz7 BK401.out
        obtain ⟨f24_0, f24_1, f24_2, f24_3, f24_4, f24_5, f24_6⟩ := fz7 BK401.out
        go_wp2_with (first | (go_at_call 142; (with_reducible refine (impl_sockIdOk.calls a0_5 true _ A22.out).mono ?_); rintro e w' ⟨rfl, ⟨nd, rfl⟩⟩))
        go_ret
        exact ⟨by first | rfl | (simp [errW_none, errW_some] <;> rfl) | (simp [*, errW_none, errW_some] <;> rfl), qB HB⟩
       ·
        replace c23 := Bool.eq_false_iff.mpr c23
        subst c23
        rw [if_neg (show ¬ (false = true) by decide)] at H
        obtain rfl := Option.some.inj H
        obtain ⟨z25_0, z25_1, z25_2, z25_3, z25_4, z25_5, z25_6⟩ := cz7 BK401.out
        obtain ⟨f25_0, f25_1, f25_2, f25_3, f25_4, f25_5, f25_6⟩ := fz7 BK401.out
        go_wp2_with (first | (go_at_call 142; (with_reducible refine (impl_sockIdOk.calls a0_5 false _ A22.out).mono ?_); rintro e w' ⟨rfl, ⟨nd, rfl⟩⟩))
        go_ret
        exact ⟨by first | rfl | (simp [errW_none, errW_some] <;> rfl) | (simp [*, errW_none, errW_some] <;> rfl), qB HB⟩
      ·
       rw [if_neg c21] at H
       have c21b0 : (a0_4 == 0) = false := beq_eq_false_iff_ne.mpr c21
       have c21b1 : (a0_4 != 0) = true := bne_iff_ne.mpr c21
       obtain rfl := Option.some.inj H
       obtain ⟨z26_0, z26_1, z26_2, z26_3, z26_4, z26_5, z26_6⟩ := cz7 BK401.out
       obtain ⟨f26_0, f26_1, f26_2, f26_3, f26_4, f26_5, f26_6⟩ := fz7 BK401.out
       go_wp2
       go_ret
       exact ⟨by first | rfl | (simp [errW_none, errW_some] <;> rfl) | (simp [*, errW_none, errW_some] <;> rfl), qB HB⟩
     ·
      rw [if_neg c20] at H
      have c20b0 : (a0_3 == 1) = false := beq_eq_false_iff_ne.mpr c20
      have c20b1 : (a0_3 != 1) = true := bne_iff_ne.mpr c20
      by_cases c27 : a0_3 = 2
      ·
       rw [if_pos c27] at H
       have c27b0 : (a0_3 == 2) = true := beq_iff_eq.mpr c27
       have c27b1 : (a0_3 != 2) = false := bne_eq_false_iff_eq.mpr c27
       clear c27
       by_cases c28 : a0_4 = 0
       ·
        rw [if_pos c28] at H
        have c28b0 : (a0_4 == 0) = true := beq_iff_eq.mpr c28
        have c28b1 : (a0_4 != 0) = false := bne_eq_false_iff_eq.mpr c28
        clear c28
        obtain ⟨t407, A29, H⟩ := bd_ H
        by_cases c30 : t407 = true
        ·
         subst c30
         rw [if_pos rfl] at H
         obtain rfl := Option.some.inj H
         obtain ⟨z31_0, z31_1, z31_2, z31_3, z31_4, z31_5, z31_6⟩ := cz7 BK401.out
         obtain ⟨f31_0, f31_1, f31_2, f31_3, f31_4, f31_5, f31_6⟩ := fz7 BK401.out
         go_wp2_with (first | (go_at_call 142; (with_reducible refine (impl_sockIdOk.calls a0_5 true _ A29.out).mono ?_); rintro e w' ⟨rfl, ⟨nd, rfl⟩⟩))
         go_ret
         exact ⟨by first | rfl | (simp [errW_none, errW_some] <;> rfl) | (simp [*, errW_none, errW_some] <;> rfl), qB HB⟩
        ·
         replace c30 := Bool.eq_false_iff.mpr c30
         subst c30
         rw [if_neg (show ¬ (false = true) by decide)] at H
         obtain rfl := Option.some.inj H
         obtain ⟨z32_0, z32_1, z32_2, z32_3, z32_4, z32_5, z32_6⟩ := cz7 BK401.out
         obtain ⟨f32_0, f32_1, f32_2, f32_3, f32_4, f32_5, f32_6⟩ := fz7 BK401.out
         go_wp2_with (first | (go_at_call 142; (with_reducible refine (impl_sockIdOk.calls a0_5 false _ A29.out).mono ?_); rintro e w' ⟨rfl, ⟨nd, rfl⟩⟩))
         go_ret
         exact ⟨by first | rfl | (simp [errW_none, errW_some] <;> rfl) | (simp [*, errW_none, errW_some] <;> rfl), qB HB⟩
       ·
        rw [if_neg c28] at H
        have c28b0 : (a0_4 == 0) = false := beq_eq_false_iff_ne.mpr c28
        have c28b1 : (a0_4 != 0) = true := bne_iff_ne.mpr c28
        obtain rfl := Option.some.inj H
        obtain ⟨z33_0, z33_1, z33_2, z33_3, z33_4, z33_5, z33_6⟩ := cz7 BK401.out
        obtain ⟨f33_0, f33_1, f33_2, f33_3, f33_4, f33_5, f33_6⟩ := fz7 BK401.out
        go_wp2
        go_ret
        exact ⟨by first | rfl | (simp [errW_none, errW_some] <;> rfl) | (simp [*, errW_none, errW_some] <;> rfl), qB HB⟩
      ·
       rw [if_neg c27] at H
       have c27b0 : (a0_3 == 2) = false := beq_eq_false_iff_ne.mpr c27
       have c27b1 : (a0_3 != 2) = true := bne_iff_ne.mpr c27
       obtain rfl := Option.some.inj H
       obtain ⟨z34_0, z34_1, z34_2, z34_3, z34_4, z34_5, z34_6⟩ := cz7 BK401.out
       obtain ⟨f34_0, f34_1, f34_2, f34_3, f34_4, f34_5, f34_6⟩ := fz7 BK401.out
       go_wp2
       go_ret
       exact ⟨by first | rfl | (simp [errW_none, errW_some] <;> rfl) | (simp [*, errW_none, errW_some] <;> rfl), qB HB⟩

end Go.Proofs.Ytahfemlfdpbkkaa.PFnExactPutCtl
