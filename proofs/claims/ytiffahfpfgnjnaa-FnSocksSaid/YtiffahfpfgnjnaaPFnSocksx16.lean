-- Written by a program of this session (myprint.py, over the kit's print): contracts of FnSocks
import Derived.Test.YtiffahfpfgnjnaaPFnSocksx0
import Derived.Test.YtiffahfpfgnjnaaPFnSocksx2
import Derived.Test.YtiffahfpfgnjnaaPFnSocksx6
import Derived.Test.YtiffahfpfgnjnaaPFnSocksx7
import Derived.Test.YtiffahfpfgnjnaaPFnSocksx8
namespace Go.Proofs.Ytiffahfpfgnjnaa.PFnSocks
open Go.RowKit Go.Proofs.YtiffahfpfgnjnaaW.PrintWords Go.Proofs.YtiffahfpfgnjnaaW.PrintLast Go.Proofs.YtiffahfpfgnjnaaW.PrintMore Go.Proofs.YtiffahfpfgnjnaaV
attribute [local go_sem] max2_int min2_int max_two min_two max_three min_three max_four min_four   -- for this text's walks alone
set_option linter.unusedVariables false
set_option linter.unusedSimpArgs false

/-! ### impl_PutText: function 66 -/
def impl_PutText.f (k : Nat) (l0 : List Int) (a1 : ByteArray) : Option (List Int) := (slices_Clone_byte.f l0).bind fun t696 => ((impl_TextOk.f k a1).bind fun t699 => (if t699 = true then (if t696.length < 140737488355328 then ((some (t696 ++ [((a1.size : Int)) % 256] : List Int)).bind fun y700 => (if y700.length + a1.size < 140737488355328 then (some (y700 ++ bytesOf a1)) else (none))) else (none)) else (some t696)))
theorem impl_PutText.mono : ∀ a0 a1 k, LeO (impl_PutText.f k a0 a1) (impl_PutText.f (k + 1) a0 a1) := by
 intro a0 a1 k
 unfold impl_PutText.f
 have m0 := @impl_TextOk.mono; exact mo_
set_option maxHeartbeats 8000000 in
set_option maxRecDepth 100000 in
theorem impl_PutText.calls (k : Nat) (A0 : Option Addr) (c0 : Nat) (l0 : List Int) (a1 : ByteArray) (r : List Int) (w : World) (hr0 : Kd.C (Kd.int .u8) w A0 l0.length l0) (hc0 : l0.length ≤ c0) (h : impl_PutText.f k l0 a1 = some r) :
  Calls Try.prog 66 #[.slice A0 l0.length c0, .string a1] w fun e w' => ∃ v0_ : Value, e = .returned (v0_) ∧ Kd.R (Kd.int .u8) 5 w' w.heap.size (fun _ => True) v0_ r ∧ Below w.heap.size w w' := by
 have HR0 := Aside0.mk hr0
 have HC0 := Aside0.mk hc0
 clear hr0 hc0
 have HB := Aside0.mk (Below.refl w.heap.size w)
 have H := h
 unfold impl_PutText.f at H
 clear h
 replace H := bd_ H
 obtain ⟨t696, A3, H⟩ := H
 replace H := bd_ H
 obtain ⟨t699, A4, H⟩ := H
 have HC5 := Aside0.mk H
 clear H
 go_enter Try.func66, Try.ntmps66
 go_upto_if 10 with (first | ((with_reducible refine gate_callee (f := 118) rfl ?_); refine gl_ (some 7) Try.func118 #[.slice A0 l0.length c0] ?_; (with_reducible refine (slices_Clone_byte.calls _ _ l0 t696 _ ?side1 ?side2 A3.out).mono ?_); (case side1 => exact qC (HR0.out)); (case side2 => exact HC0.out); rintro e w6 ⟨v697, rfl, ho0, hb⟩; refine ⟨_, rfl, ?_⟩; have HO698 := am_ (Kd.R_lower ho0 (below_size (qB HB))); replace HB := bS_ HB hb; (try clear hb); (try clear ho0)) | ((with_reducible refine gate_callee (f := 82) rfl ?_); refine gl_ (some 9) Try.func82 #[.string a1] ?_; (with_reducible refine (impl_TextOk.calls k a1 t699 _ A4.out).mono ?_); rintro e w' ⟨rfl, ⟨nd, rfl⟩⟩; refine ⟨_, rfl, ?_⟩))
 (try simp only [Act.put, List.setIfInBounds_toArray, List.set_cons_zero, List.set_cons_succ])
 (try (rw [drewN_self w6]; generalize hq_ : World.drewN w6 _ = w6; have n0_ : Aside0 (Kd.R (Kd.int .u8) 5 w6 w.heap.size (fun _ => True) v697 t696) := ⟨by rw [← hq_]; exact (qR HO698)⟩; have n1_ : Aside0 (Below w.heap.size w w6) := ⟨by rw [← hq_]; exact (qB HB)⟩; clear HO698 HB hq_; have HO698 := n0_; have HB := n1_; clear n0_ n1_))
 have H := HC5.out
 clear HC5
 by_cases c7 : t699 = true
 rotate_left
 ·
  replace c7 := Bool.eq_false_iff.mpr c7
  subst c7
  rw [if_neg (show ¬ (false = true) by decide)] at H
  obtain rfl := Option.some.inj H
  go_wp2
  go_ret
  exact ⟨_, er_, qR HO698, qB HB⟩
 subst c7
 rw [if_pos rfl] at H
 by_cases c8 : t696.length < 140737488355328
 case neg => exact nn_ c8 H
 rw [if_pos c8] at H
 have LMc8 := Aside0.mk c8
 clear c8
 obtain ⟨y700, hy700⟩ : ∃ y_ : List Int, y_ = (t696 ++ [((a1.size : Int)) % 256]) := ⟨_, rfl⟩
 replace H := mk_ H hy700
 (try dsimp only at H)
 have Ny700 := Aside0.mk hy700
 clear hy700
 by_cases c9 : y700.length + a1.size < 140737488355328
 case neg => exact nn_ c9 H
 rw [if_pos c9] at H
 have LMc9 := Aside0.mk c9
 clear c9
 obtain ⟨y703, hy703⟩ : ∃ y_ : List Int, y_ = (y700 ++ bytesOf a1) := ⟨_, rfl⟩
 rw [← hy703] at H
 have Ny703 := Aside0.mk hy703
 clear hy703
 obtain rfl := Option.some.inj H
 go_wp2_with (first | ((with_reducible refine gate_builtin (b := .append) (xs := #[.tmp 12, .tmp 16]) rfl ?_); at_builtin; refine Kd.R_append (Kd.int .u8) (w0 := w) w.heap.size rfl (.tmp 12) (.tmp 16) 22 5 (.int .u8 0) 1 rfl Try.underlying22 info5 rfl (by decide) (by omega) v697 t696 (((a1.size : Int)) % 256) [.int .u8 (((a1.size : Int)) % 256)] (fun _ => True) (fun _ => False) rfl rfl ?aP (fun _ hk => hk.elim) ?aF ?aO ?aB ?aS ?aL ?_; (case aP => exact rfl); (case aB => exact (qB HB)); (case aF => exact (fun _ _ => trivial)); (case aO => exact (qR HO698)); (case aS => exact (below_size (qB HB))); (case aL => have := LMc8.out; omega); intro v701 w10 ho hb hg hat; rw [← Ny700.out] at ho; replace HB := am_ (hb); have HO702 := am_ (ho); clear HO698; clear ho hb hg hat) | (at_builtin; refine print_append_str (w0 := w) w.heap.size rfl (.tmp 17) _ 22 9 5 rfl Try.underlying22 Try.underlying9 info5 v701 y700 a1 rfl rfl ?aO ?aB ?aS ?aL ?_; (case aB => exact (qB HB)); (case aO => exact (Kd.own_of_R (qR HO702))); (case aS => exact (below_size (qB HB))); (case aL => have := LMc9.out; omega); intro v704 w11 ho0 hb hg; have ho := Kd.R_of_own (h1 := fun _ => rfl) (ok := fun _ => True) ho0 (fun _ _ => trivial); clear ho0; have hat := True.intro; rw [← Ny703.out] at ho; change Kd.R (Kd.int .u8) 5 w11 w.heap.size (fun _ => True) v704 y703 at ho; replace HB := am_ (hb); have HO705 := am_ (ho); clear HO702; clear ho hb hg hat))
 go_ret
 exact ⟨_, er_, qR HO705, qB HB⟩

/-! ### impl_PutFrame: function 37 -/
def impl_PutFrame.f (k : Nat) (a0_0 : Int) (a0_1 : ByteArray) (a0_2 : Int) : Option (List Int) := (impl_FrameOk.f k a0_0 a0_1 a0_2).bind fun t707 => (if t707 = true then ((some (([(a0_0) % 256] : List Int) : List Int)).bind fun y711 => (if a0_0 = 5 then (if y711.length < 140737488355328 then (some (y711 ++ [(a0_2) % 256])) else (none)) else (if a0_0 = 3 then (some y711) else ((impl_PutText.f k y711 a0_1).bind fun t717 => (some t717))))) else (some (([] : List Int))))
theorem impl_PutFrame.mono : ∀ a0 a1 a2 k, LeO (impl_PutFrame.f k a0 a1 a2) (impl_PutFrame.f (k + 1) a0 a1 a2) := by
 intro a0 a1 a2 k
 unfold impl_PutFrame.f
 have m0 := @impl_FrameOk.mono; have m1 := @impl_PutText.mono; exact mo_
set_option maxHeartbeats 8000000 in
set_option maxRecDepth 100000 in
theorem impl_PutFrame.calls (k : Nat) (a0_0 : Int) (a0_1 : ByteArray) (a0_2 : Int) (r : List Int) (w : World) (h : impl_PutFrame.f k a0_0 a0_1 a0_2 = some r) :
  Calls Try.prog 37 #[.agg #[.int .i64 a0_0, .string a0_1, .int .i64 a0_2]] w fun e w' => ∃ v0_ : Value, e = .returned (v0_) ∧ Kd.R (Kd.int .u8) 5 w' w.heap.size (fun _ => True) v0_ r ∧ Below w.heap.size w w' := by
 have hu49 := Try.underlying49
 have HB := Aside0.mk (Below.refl w.heap.size w)
 have H := h
 unfold impl_PutFrame.f at H
 clear h
 replace H := bd_ H
 obtain ⟨t707, A2, H⟩ := H
 have HC3 := Aside0.mk H
 clear H
 go_enter Try.func37, Try.ntmps37
 go_upto_if 6 with (first | ((with_reducible refine gate_dst (N := 1) rfl ?_); refine bx_ (N := 1) (cs := #[.int .i64 a0_0, .string a0_1, .int .i64 a0_2]) (t := 49) ?_; intro gb706 hg w4 hbox hb; have BK706 := am_ (hbox); have GW706 := gA_ hg HB; have GE706 := GW706; have IGE706 := gI_ GE706; replace HB := bS_ HB hb; clear hb hbox hg; (try clear zK706); have zK706 := cz3 BK706.out) | ((with_reducible refine gate_callee (f := 98) rfl ?_); refine gl_ (some 5) Try.func98 #[.agg #[.int .i64 a0_0, .string a0_1, .int .i64 a0_2]] ?_; (with_reducible refine (impl_FrameOk.calls k a0_0 a0_1 a0_2 t707 _ A2.out).mono ?_); rintro e w6 ⟨rfl, hb⟩; refine ⟨_, rfl, ?_⟩; replace BK706 := bK_ BK706 hb; replace HB := bS_ HB hb; (try clear hb)))
 (try simp only [Act.put, List.setIfInBounds_toArray, List.set_cons_zero, List.set_cons_succ])
 have H := HC3.out
 clear HC3
 by_cases c7 : t707 = true
 rotate_left
 ·
  replace c7 := Bool.eq_false_iff.mpr c7
  subst c7
  rw [if_neg (show ¬ (false = true) by decide)] at H
  obtain ⟨y708, hy708⟩ : ∃ y_ : List Int, y_ = (([] : List Int)) := ⟨_, rfl⟩
  rw [← hy708] at H
  have Ny708 := Aside0.mk hy708
  clear hy708
  obtain rfl := Option.some.inj H
  go_wp2_with (first | ((with_reducible refine gate_dst (N := 7) rfl ?_); refine Kd.R_lit (Kd.int .u8) _ 5 ?hg (N := 7) ?hd (xs := ([] : List Int)) (inner := []) (ok := fun _ => True) (okp := fun _ => True) ?hr ?hp (fun _ hk => hk) trivial (Below.refl _ _) (Nat.le_refl _) (by simp) ?_; (case hd => rfl); (case hg => rfl); (case hr => first | (go_simp; done) | (go_simp; rfl)); (case hp => exact (Reps.none _ _)); intro v709 w22 ho23 hb hg_ hnew_; clear hg_ hnew_; (first | rw [← Ny708.out] at ho23 | (simp only [Int.reduceToNat] at ho23; rw [← Ny708.out] at ho23)); have HO710 := am_ (Kd.R_lower ho23 (below_size (qB HB))); replace BK706 := bK_ BK706 hb; replace HB := bS_ HB hb; clear hb ho23))
  go_ret
  exact ⟨_, er_, qR HO710, qB HB⟩
 subst c7
 rw [if_pos rfl] at H
 obtain ⟨y711, hy711⟩ : ∃ y_ : List Int, y_ = (([(a0_0) % 256] : List Int)) := ⟨_, rfl⟩
 replace H := mk_ H hy711
 (try dsimp only at H)
 have Ny711 := Aside0.mk hy711
 clear hy711
 have HC8 := Aside0.mk H
 clear H
 (try clear zK706)
 have zK706 := cz3 BK706.out
 go_upto_if 14 with (first | ((with_reducible refine gate_dst (N := 11) rfl ?_); refine Kd.R_lit (Kd.int .u8) _ 5 ?hg (N := 11) ?hd (xs := ([(a0_0) % 256] : List Int)) (inner := [.int .u8 ((a0_0) % 256)]) (ok := fun _ => True) (okp := fun _ => True) ?hr ?hp (fun _ hk => hk) trivial (Below.refl _ _) (Nat.le_refl _) (by simp) ?_; (case hd => rfl); (case hg => rfl); (case hr => first | (go_simp; done) | (go_simp; rfl)); (case hp => exact (Reps.one (show Kd.M (Kd.int .u8) _ _ _ ((a0_0) % 256) [.int .u8 ((a0_0) % 256)] from rfl) (Reps.none _ _))); intro v712 w10 ho11 hb hg_ hnew_; clear hg_ hnew_; (first | rw [← Ny711.out] at ho11 | (simp only [Int.reduceToNat] at ho11; rw [← Ny711.out] at ho11)); have HO713 := am_ (Kd.R_lower ho11 (below_size (qB HB))); replace BK706 := bK_ BK706 hb; replace HB := bS_ HB hb; clear hb ho11; (try clear zK706); have zK706 := cz3 BK706.out))
 (try simp only [Act.put, List.setIfInBounds_toArray, List.set_cons_zero, List.set_cons_succ])
 have H := HC8.out
 clear HC8
 by_cases c13 : a0_0 = 5
 ·
  rw [if_pos c13] at H
  have c13b0 : (a0_0 == 5) = true := beq_iff_eq.mpr c13
  have c13b1 : (a0_0 != 5) = false := bne_eq_false_iff_eq.mpr c13
  clear c13
  (first | rw [c13b0] | rw [c13b1] | (simp only [i64_w, i32_w]; rw [c13b0]) | skip)
  by_cases c14 : y711.length < 140737488355328
  case neg => exact nn_ c14 H
  rw [if_pos c14] at H
  have LMc14 := Aside0.mk c14
  clear c14
  obtain ⟨y714, hy714⟩ : ∃ y_ : List Int, y_ = (y711 ++ [(a0_2) % 256]) := ⟨_, rfl⟩
  rw [← hy714] at H
  have Ny714 := Aside0.mk hy714
  clear hy714
  obtain rfl := Option.some.inj H
  (try clear zK706)
  have zK706 := cz3 BK706.out
  go_wp2_with (first | ((with_reducible refine gate_builtin (b := .append) (xs := #[.tmp 16, .tmp 20]) rfl ?_); at_builtin; refine Kd.R_append (Kd.int .u8) (w0 := w) w.heap.size rfl (.tmp 16) (.tmp 20) 22 5 (.int .u8 0) 1 rfl Try.underlying22 info5 rfl (by decide) (by omega) v712 y711 ((a0_2) % 256) [.int .u8 ((a0_2) % 256)] (fun _ => True) (fun _ => False) rfl rfl ?aP (fun _ hk => hk.elim) ?aF ?aO ?aB ?aS ?aL ?_; (case aP => exact rfl); (case aB => exact (qB HB)); (case aF => exact (fun _ _ => trivial)); (case aO => exact (qR HO713)); (case aS => exact (below_size (qB HB))); (case aL => have := LMc14.out; omega); intro v715 w16 ho hb hg hat; rw [← Ny714.out] at ho; replace BK706 := kG_ BK706 HO713 hg; replace HB := am_ (hb); have HO716 := am_ (ho); clear HO713; clear ho hb hg hat))
  go_ret
  exact ⟨_, er_, qR HO716, qB HB⟩
 rw [if_neg c13] at H
 have c13b0 : (a0_0 == 5) = false := beq_eq_false_iff_ne.mpr c13
 have c13b1 : (a0_0 != 5) = true := bne_iff_ne.mpr c13
 (first | rw [c13b0] | rw [c13b1] | (simp only [i64_w, i32_w]; rw [c13b0]) | skip)
 by_cases c17 : a0_0 = 3
 ·
  rw [if_pos c17] at H
  have c17b0 : (a0_0 == 3) = true := beq_iff_eq.mpr c17
  have c17b1 : (a0_0 != 3) = false := bne_eq_false_iff_eq.mpr c17
  clear c17
  obtain rfl := Option.some.inj H
  go_wp2
  go_ret
  exact ⟨_, er_, qR HO713, qB HB⟩
 rw [if_neg c17] at H
 have c17b0 : (a0_0 == 3) = false := beq_eq_false_iff_ne.mpr c17
 have c17b1 : (a0_0 != 3) = true := bne_iff_ne.mpr c17
 replace H := bd_ H
 obtain ⟨t717, A18, H⟩ := H
 obtain rfl := Option.some.inj H
 (try clear zK706)
 have zK706 := cz3 BK706.out
 obtain ⟨Ao20, co20, eo20⟩ := Kd.R_slice HO713.out
 subst eo20
 go_wp2_with (first | ((with_reducible refine gate_callee (f := 66) rfl ?_); refine gl_ (some 28) Try.func66 #[.slice Ao20 y711.length co20, .string a0_1] ?_; (with_reducible refine (impl_PutText.calls k _ _ y711 a0_1 t717 _ ?side1 ?side2 A18.out).mono ?_); (case side1 => exact qC ((Kd.R_reads' HO713.out).2.2)); (case side2 => exact (Kd.R_reads' HO713.out).2.1); rintro e w21 ⟨v718, rfl, ho0, hb⟩; refine ⟨_, rfl, ?_⟩; have HO719 := am_ (Kd.R_lower (Kd.R_new' ho0 (Kd.R_lt (qR HO713))) (below_size (qB HB))); replace HO713 := eA_ HO713 ho0 hb; replace BK706 := bK_ BK706 hb; replace HB := bS_ HB hb; (try clear hb); (try clear ho0)))
 go_ret
 exact ⟨_, er_, (xR1_ HO719), qB HB⟩

/-! ### spec_l1Text: function 117 -/
def spec_l1Text.l0 : Nat → ByteArray → List Int → Int → Int → Option (ByteArray × Int × Int)
 | 0, _, _, _, _ => none
 | k + 1, x3, x1000, x1001, x1002 => (spec_l1Int.f x1000 x1001 x1002 (([100, 101, 60] : List Int))).bind fun bt726 => (if (x3.size : Int) < bt726.1 then (if x3.size + 1 ≤ 9223372036854775807 then (spec_l1Text.l0 k (x3 ++ (⟨#[120]⟩ : ByteArray)) x1000 bt726.2.1 bt726.2.2) else (none)) else (some (x3, bt726.2.1, bt726.2.2)))
def spec_l1Text.f (k : Nat) (s0_0 : List Int) (s0_1 : Int) (s0_2 : Int) : Option (ByteArray × Int × Int) := (spec_l1Once.f s0_0 s0_1 s0_2 8).bind fun bt720 => (if bt720.1 = true then (spec_l1Text.l0 k (⟨#[]⟩ : ByteArray) s0_0 bt720.2.1 bt720.2.2) else ((spec_l1Str.f s0_0 bt720.2.1 bt720.2.2 (([(⟨#[]⟩ : ByteArray), (⟨#[97]⟩ : ByteArray), (⟨#[104, 101, 108, 108, 111]⟩ : ByteArray), (⟨#[98, 101, 103, 105, 110]⟩ : ByteArray), (⟨#[97, 32, 98]⟩ : ByteArray), (⟨#[127]⟩ : ByteArray), (⟨#[31]⟩ : ByteArray), (⟨#[126]⟩ : ByteArray)] : List ByteArray))).bind fun bt732 => (some (bt732.1, bt732.2.1, bt732.2.2))))
theorem spec_l1Text.mono_l : ∀ k, (∀ y0 y1 y2 y3, LeO (spec_l1Text.l0 k y0 y1 y2 y3) (spec_l1Text.l0 (k + 1) y0 y1 y2 y3))
 | 0 => fun _ _ _ _ r h => by simp [spec_l1Text.l0] at h
 | k + 1 => by
  have ih0 := spec_l1Text.mono_l k
  ·
   intro y0 y1 y2 y3
   unfold spec_l1Text.l0
   exact mo_
theorem spec_l1Text.mono : ∀ a0 a1 a2 k, LeO (spec_l1Text.f k a0 a1 a2) (spec_l1Text.f (k + 1) a0 a1 a2) := by
 intro a0 a1 a2 k
 have ih0 := spec_l1Text.mono_l k
 unfold spec_l1Text.f
 exact mo_
set_option maxHeartbeats 8000000 in
set_option maxRecDepth 100000 in
theorem spec_l1Text.calls (k : Nat) (g : Nat) (s0_0 : List Int) (s0_1 : Int) (s0_2 : Int) (r1 : ByteArray) (r2 : Int) (r3 : Int) (w0 w : World) (hI : IsS128 w0 w g s0_0 s0_1 s0_2) (hB : Below w0.heap.size w0 w) (h : spec_l1Text.f k s0_0 s0_1 s0_2 = some (r1, r2, r3)) :
  Calls Try.prog 117 #[.pointer (some ⟨g, 0, none⟩)] w fun e w' => e = .returned (.string r1) ∧ IsS128 w0 w' g s0_0 r2 r3 ∧ Below w0.heap.size w0 w' ∧ KeepBut w w' g none := by
 have HI0 := Aside0.mk hI
 have IGHI0 := iG_ HI0.out.ge
 have HK := Aside0.mk (KeepBut.refl w g none)
 have HL := Aside0.mk hB.size
 clear hI
 have HW0 := Aside0.mk hB.size
 have HB := Aside0.mk hB
 clear hB
 have H := h
 unfold spec_l1Text.f at H
 clear h
 replace H := bf_ H
 obtain ⟨f_, hf_, ⟨t720, t721, t722⟩, A2, H⟩ := H
 subst hf_
 (try dsimp only at H)
 by_cases c3 : t720 = true
 rotate_left
 ·
  replace c3 := Bool.eq_false_iff.mpr c3
  subst c3
  rw [if_neg (show ¬ (false = true) by decide)] at H
  obtain ⟨y729, hy729⟩ : ∃ y_ : List ByteArray, y_ = (([(⟨#[]⟩ : ByteArray), (⟨#[97]⟩ : ByteArray), (⟨#[104, 101, 108, 108, 111]⟩ : ByteArray), (⟨#[98, 101, 103, 105, 110]⟩ : ByteArray), (⟨#[97, 32, 98]⟩ : ByteArray), (⟨#[127]⟩ : ByteArray), (⟨#[31]⟩ : ByteArray), (⟨#[126]⟩ : ByteArray)] : List ByteArray)) := ⟨_, rfl⟩
  rw [← hy729] at H
  have Ny729 := Aside0.mk hy729
  clear hy729
  replace H := bf_ H
  obtain ⟨f_, hf_, ⟨t732, t733, t734⟩, A16, H⟩ := H
  subst hf_
  (try dsimp only at H)
  simp only [Option.some.injEq, Prod.mk.injEq] at H
  obtain ⟨rfl, rfl, rfl⟩ := H
  go_enter Try.func117, Try.ntmps117
  go_wp2_with (first | ((with_reducible refine gate_callee (f := 110) rfl ?_); refine gl_ (some 5) Try.func110 #[.pointer (some ⟨g, 0, none⟩), .int .i64 8] ?_; (with_reducible refine (spec_l1Once.calls g s0_0 s0_1 s0_2 8 false t721 t722 w0 _ ?side1 ?side2 A2.out).mono ?_); (case side1 => exact IsS128.q HI0); (case side2 => exact qB HB); rintro e w17 ⟨rfl, hi, hb, hk⟩; refine ⟨_, rfl, ?_⟩; replace HK := kT_ HK hk; replace HB := am_ (hb); replace HI0 := am_ (hi); (try clear hb); (try clear hk); (try clear hi)) | ((with_reducible refine gate_dst (N := 16) rfl ?_); refine Kd.R_lit Kd.string _ 9 ?hg (N := 16) ?hd (xs := ([(⟨#[]⟩ : ByteArray), (⟨#[97]⟩ : ByteArray), (⟨#[104, 101, 108, 108, 111]⟩ : ByteArray), (⟨#[98, 101, 103, 105, 110]⟩ : ByteArray), (⟨#[97, 32, 98]⟩ : ByteArray), (⟨#[127]⟩ : ByteArray), (⟨#[31]⟩ : ByteArray), (⟨#[126]⟩ : ByteArray)] : List ByteArray)) (inner := [.string (⟨#[]⟩ : ByteArray), .string (⟨#[97]⟩ : ByteArray), .string (⟨#[104, 101, 108, 108, 111]⟩ : ByteArray), .string (⟨#[98, 101, 103, 105, 110]⟩ : ByteArray), .string (⟨#[97, 32, 98]⟩ : ByteArray), .string (⟨#[127]⟩ : ByteArray), .string (⟨#[31]⟩ : ByteArray), .string (⟨#[126]⟩ : ByteArray)]) (ok := fun _ => True) (okp := fun _ => True) ?hr ?hp (fun _ hk => hk) trivial (Below.refl _ _) (Nat.le_refl _) (by simp) ?_; (case hd => rfl); (case hg => rfl); (case hr => first | (go_simp; done) | (go_simp; rfl)); (case hp => exact (Reps.one (show Kd.M Kd.string _ _ _ (⟨#[]⟩ : ByteArray) [.string (⟨#[]⟩ : ByteArray)] from rfl) (Reps.one (show Kd.M Kd.string _ _ _ (⟨#[97]⟩ : ByteArray) [.string (⟨#[97]⟩ : ByteArray)] from rfl) (Reps.one (show Kd.M Kd.string _ _ _ (⟨#[104, 101, 108, 108, 111]⟩ : ByteArray) [.string (⟨#[104, 101, 108, 108, 111]⟩ : ByteArray)] from rfl) (Reps.one (show Kd.M Kd.string _ _ _ (⟨#[98, 101, 103, 105, 110]⟩ : ByteArray) [.string (⟨#[98, 101, 103, 105, 110]⟩ : ByteArray)] from rfl) (Reps.one (show Kd.M Kd.string _ _ _ (⟨#[97, 32, 98]⟩ : ByteArray) [.string (⟨#[97, 32, 98]⟩ : ByteArray)] from rfl) (Reps.one (show Kd.M Kd.string _ _ _ (⟨#[127]⟩ : ByteArray) [.string (⟨#[127]⟩ : ByteArray)] from rfl) (Reps.one (show Kd.M Kd.string _ _ _ (⟨#[31]⟩ : ByteArray) [.string (⟨#[31]⟩ : ByteArray)] from rfl) (Reps.one (show Kd.M Kd.string _ _ _ (⟨#[126]⟩ : ByteArray) [.string (⟨#[126]⟩ : ByteArray)] from rfl) (Reps.none _ _)))))))))); intro v730 w18 ho19 hb hg_ hnew_; clear hg_ hnew_; (first | rw [← Ny729.out] at ho19 | (simp only [Int.reduceToNat] at ho19; rw [← Ny729.out] at ho19)); have HO731 := am_ (Kd.R_lower ho19 (keep_size (w := w) (g := g) (row := none) (qP HK))); replace HK := kL_ HK hb; replace HB := bS_ HB hb; replace HI0 := am_ (IsS128.below (IsS128.q HI0) hb); clear hb ho19; obtain ⟨Ao20, co20, eo20⟩ := Kd.R_slice HO731.out; subst eo20) | ((with_reducible refine gate_callee (f := 116) rfl ?_); refine gl_ (some 17) Try.func116 #[.pointer (some ⟨g, 0, none⟩), .slice Ao20 y729.length co20] ?_; (with_reducible refine (spec_l1Str.calls g s0_0 t721 t722 _ _ y729 t732 t733 t734 w0 _ ?side1 ?side2 ?side3 ?side4 ?side5 A16.out).mono ?_); (case side1 => exact IsS128.q HI0); (case side2 => exact qB HB); (case side3 => exact qC ((Kd.R_reads' HO731.out).2.2)); (case side4 => exact (Kd.R_reads' HO731.out).2.1); (case side5 => exact far_slice (IsS128.own_ne HI0.out HO731.out (by decide))); rintro e w21 ⟨rfl, hi, hb, hk⟩; refine ⟨_, rfl, ?_⟩; replace HO731 := am_ (Kd.R_mono (Kd.R_keep (IsS128.apart (show IsS128 w0 _ g s0_0 t721 t722 from IsS128.q HI0) (qR HO731) (by decide)) hk (fun _ h => h.2)) (fun _ h => h.1)); replace HK := kT_ HK hk; replace HB := am_ (hb); replace HI0 := am_ (hi); (try clear hb); (try clear hk); (try clear hi)))
  go_ret
  exact ⟨er_, IsS128.q HI0, qB HB, qP HK⟩
 subst c3
 rw [if_pos rfl] at H
 have H' := Aside0.mk H
 clear H
 go_enter Try.func117, Try.ntmps117
 go_wp2_with (first | ((with_reducible refine gate_callee (f := 110) rfl ?_); refine gl_ (some 5) Try.func110 #[.pointer (some ⟨g, 0, none⟩), .int .i64 8] ?_; (with_reducible refine (spec_l1Once.calls g s0_0 s0_1 s0_2 8 true t721 t722 w0 _ ?side1 ?side2 A2.out).mono ?_); (case side1 => exact IsS128.q HI0); (case side2 => exact qB HB); rintro e w4 ⟨rfl, hi, hb, hk⟩; refine ⟨_, rfl, ?_⟩; replace HK := kT_ HK hk; replace HB := am_ (hb); replace HI0 := am_ (hi); (try clear hb); (try clear hk); (try clear hi)))
 go_loopg [3] k (fun kq v3 w' => ∃ (x3_1 : ByteArray) (x1001_1 : Int) (x1002_1 : Int), v3 = .string x3_1 ∧ Aside0 (spec_l1Text.l0 kq x3_1 s0_0 x1001_1 x1002_1 = some (r1, r2, r3)) ∧ Aside0 (kq ≤ k) ∧ Aside0 (IsS128 w0 w' g s0_0 x1001_1 x1002_1) ∧ Aside0 (KeepBut w w' g none) ∧ Aside0 (Below w0.heap.size w0 w'))
 case atStart => exact ⟨((⟨#[]⟩ : ByteArray)), (t721), (t722), eqq_, H', ⟨Nat.le_refl _⟩, ⟨IsS128.q HI0⟩, ⟨qP HK⟩, ⟨qB HB⟩⟩
 case round =>
  clear H'
  try clear c1
  try clear p2
  try clear c3
  obtain ⟨x3_1, x1001_1, x1002_1, rfl, HA, HK1, HI0, HK, HB⟩ := hrel
  cases gk with
  | zero => exact absurd HA.out (by simp [spec_l1Text.l0])
  | succ k1 =>
   have H := HA.out
   clear HA
   simp only [spec_l1Text.l0] at H
   obtain ⟨y723, hy723⟩ : ∃ y_ : List Int, y_ = (([100, 101, 60] : List Int)) := ⟨_, rfl⟩
   rw [← hy723] at H
   have Ny723 := Aside0.mk hy723
   clear hy723
   replace H := bf_ H
   obtain ⟨f_, hf_, ⟨t726, t727, t728⟩, A5, H⟩ := H
   subst hf_
   (try dsimp only at H)
   by_cases c6 : (x3_1.size : Int) < t726
   rotate_left
   ·
    rw [if_neg c6] at H
    have c6b0 : decide ((x3_1.size : Int) < t726) = false := decide_eq_false c6
    clear c6
    simp only [Option.some.injEq, Prod.mk.injEq] at H
    obtain ⟨rfl, rfl, rfl⟩ := H
    go_wp2_with (first | ((with_reducible refine gate_dst (N := 9) rfl ?_); refine Kd.R_lit (Kd.int .i64) _ 3 ?hg (N := 9) ?hd (xs := ([100, 101, 60] : List Int)) (inner := [.int .i64 100, .int .i64 101, .int .i64 60]) (ok := fun _ => True) (okp := fun _ => True) ?hr ?hp (fun _ hk => hk) trivial (Below.refl _ _) (Nat.le_refl _) (by simp) ?_; (case hd => rfl); (case hg => rfl); (case hr => first | (go_simp; done) | (go_simp; rfl)); (case hp => exact (Reps.one (show Kd.M (Kd.int .i64) _ _ _ 100 [.int .i64 100] from rfl) (Reps.one (show Kd.M (Kd.int .i64) _ _ _ 101 [.int .i64 101] from rfl) (Reps.one (show Kd.M (Kd.int .i64) _ _ _ 60 [.int .i64 60] from rfl) (Reps.none _ _))))); intro v724 w12 ho13 hb hg_ hnew_; clear hg_ hnew_; (first | rw [← Ny723.out] at ho13 | (simp only [Int.reduceToNat] at ho13; rw [← Ny723.out] at ho13)); have HO725 := am_ (Kd.R_lower ho13 (keep_size (w := w) (g := g) (row := none) (qP HK))); replace HK := kL_ HK hb; replace HB := bS_ HB hb; replace HI0 := am_ (IsS128.below (IsS128.q HI0) hb); clear hb ho13; obtain ⟨Ao14, co14, eo14⟩ := Kd.R_slice HO725.out; subst eo14) | ((with_reducible refine gate_callee (f := 62) rfl ?_); refine gl_ (some 10) Try.func62 #[.pointer (some ⟨g, 0, none⟩), .slice Ao14 y723.length co14] ?_; (with_reducible refine (spec_l1Int.calls g s0_0 x1001_1 x1002_1 _ _ y723 t726 t727 t728 w0 _ ?side1 ?side2 ?side3 ?side4 ?side5 A5.out).mono ?_); (case side1 => exact IsS128.q HI0); (case side2 => exact qB HB); (case side3 => exact qC ((Kd.R_reads' HO725.out).2.2)); (case side4 => exact (Kd.R_reads' HO725.out).2.1); (case side5 => exact far_slice (IsS128.own_ne HI0.out HO725.out (by decide))); rintro e w15 ⟨rfl, hi, hb, hk⟩; refine ⟨_, rfl, ?_⟩; replace HO725 := am_ (Kd.R_mono (Kd.R_keep (IsS128.apart (show IsS128 w0 _ g s0_0 x1001_1 x1002_1 from IsS128.q HI0) (qR HO725) (by decide)) hk (fun _ h => h.2)) (fun _ h => h.1)); replace HK := kT_ HK hk; replace HB := am_ (hb); replace HI0 := am_ (hi); (try clear hb); (try clear hk); (try clear hi)))
    go_ret
    exact ⟨er_, IsS128.q HI0, qB HB, qP HK⟩
   rw [if_pos c6] at H
   have c6b0 : decide ((x3_1.size : Int) < t726) = true := decide_eq_true c6
   clear c6
   by_cases c7 : x3_1.size + 1 ≤ 9223372036854775807
   case neg => exact nn_ c7 H
   rw [if_pos c7] at H
   have c7b0 := eq_true c7
   have c7b1 : decide (x3_1.size + 1 ≤ 9223372036854775807) = true := decide_eq_true c7
   try have c7b2 : (9223372036854775807 < x3_1.size + 1) = False := eq_false (Nat.not_lt.2 c7)
   have H' := Aside0.mk H
   clear H
   go_wp2_with (first | ((with_reducible refine gate_dst (N := 9) rfl ?_); refine Kd.R_lit (Kd.int .i64) _ 3 ?hg (N := 9) ?hd (xs := ([100, 101, 60] : List Int)) (inner := [.int .i64 100, .int .i64 101, .int .i64 60]) (ok := fun _ => True) (okp := fun _ => True) ?hr ?hp (fun _ hk => hk) trivial (Below.refl _ _) (Nat.le_refl _) (by simp) ?_; (case hd => rfl); (case hg => rfl); (case hr => first | (go_simp; done) | (go_simp; rfl)); (case hp => exact (Reps.one (show Kd.M (Kd.int .i64) _ _ _ 100 [.int .i64 100] from rfl) (Reps.one (show Kd.M (Kd.int .i64) _ _ _ 101 [.int .i64 101] from rfl) (Reps.one (show Kd.M (Kd.int .i64) _ _ _ 60 [.int .i64 60] from rfl) (Reps.none _ _))))); intro v724 w8 ho9 hb hg_ hnew_; clear hg_ hnew_; (first | rw [← Ny723.out] at ho9 | (simp only [Int.reduceToNat] at ho9; rw [← Ny723.out] at ho9)); have HO725 := am_ (Kd.R_lower ho9 (keep_size (w := w) (g := g) (row := none) (qP HK))); replace HK := kL_ HK hb; replace HB := bS_ HB hb; replace HI0 := am_ (IsS128.below (IsS128.q HI0) hb); clear hb ho9; obtain ⟨Ao10, co10, eo10⟩ := Kd.R_slice HO725.out; subst eo10) | ((with_reducible refine gate_callee (f := 62) rfl ?_); refine gl_ (some 10) Try.func62 #[.pointer (some ⟨g, 0, none⟩), .slice Ao10 y723.length co10] ?_; (with_reducible refine (spec_l1Int.calls g s0_0 x1001_1 x1002_1 _ _ y723 t726 t727 t728 w0 _ ?side1 ?side2 ?side3 ?side4 ?side5 A5.out).mono ?_); (case side1 => exact IsS128.q HI0); (case side2 => exact qB HB); (case side3 => exact qC ((Kd.R_reads' HO725.out).2.2)); (case side4 => exact (Kd.R_reads' HO725.out).2.1); (case side5 => exact far_slice (IsS128.own_ne HI0.out HO725.out (by decide))); rintro e w11 ⟨rfl, hi, hb, hk⟩; refine ⟨_, rfl, ?_⟩; replace HO725 := am_ (Kd.R_mono (Kd.R_keep (IsS128.apart (show IsS128 w0 _ g s0_0 x1001_1 x1002_1 from IsS128.q HI0) (qR HO725) (by decide)) hk (fun _ h => h.2)) (fun _ h => h.1)); replace HK := kT_ HK hk; replace HB := am_ (hb); replace HI0 := am_ (hi); (try clear hb); (try clear hk); (try clear hi)))
   go_roundg k1
   case measure => have := HK1.out; omega
   case rel => exact ⟨(x3_1 ++ (⟨#[120]⟩ : ByteArray)), (t727), (t728), eqq_, H', ⟨by have := HK1.out; omega⟩, ⟨IsS128.q HI0⟩, ⟨qP HK⟩, ⟨qB HB⟩⟩

/-! ### spec_l6Any: function 99 -/
def spec_l6Any.f (k : Nat) (s0_0 : List Int) (s0_1 : Int) (s0_2 : Int) : Option (Int × ByteArray × Int × Int × Int) := (spec_l6Draw.f k s0_0 s0_1 s0_2).bind fun bt736 => ((spec_l1Below.f s0_0 bt736.2.2.2.1 bt736.2.2.2.2 10).bind fun bt742 => (if bt742.1 = 0 then ((spec_l1Int.f s0_0 bt742.2.1 bt742.2.2 (([0, 1, 2, 5, 7, (-1)] : List Int))).bind fun bt748 => (some (bt748.1, bt736.2.1, bt736.2.2.1, bt748.2.1, bt748.2.2))) else (if bt742.1 = 1 then ((spec_l1Text.f k s0_0 bt742.2.1 bt742.2.2).bind fun bt751 => (some (bt736.1, bt751.1, bt736.2.2.1, bt751.2.1, bt751.2.2))) else (if bt742.1 = 2 then ((spec_l1Int.f s0_0 bt742.2.1 bt742.2.2 (([1, 2, 3, (-1)] : List Int))).bind fun bt757 => (some (bt736.1, bt736.2.1, bt757.1, bt757.2.1, bt757.2.2))) else (some (bt736.1, bt736.2.1, bt736.2.2.1, bt742.2.1, bt742.2.2))))))
theorem spec_l6Any.mono : ∀ a0 a1 a2 k, LeO (spec_l6Any.f k a0 a1 a2) (spec_l6Any.f (k + 1) a0 a1 a2) := by
 intro a0 a1 a2 k
 unfold spec_l6Any.f
 have m0 := @spec_l1Text.mono; have m1 := @spec_l6Draw.mono; exact mo_
set_option maxHeartbeats 8000000 in
set_option maxRecDepth 100000 in
theorem spec_l6Any.calls (k : Nat) (g : Nat) (s0_0 : List Int) (s0_1 : Int) (s0_2 : Int) (r1 : Int) (r2 : ByteArray) (r3 : Int) (r4 : Int) (r5 : Int) (w0 w : World) (hI : IsS128 w0 w g s0_0 s0_1 s0_2) (hB : Below w0.heap.size w0 w) (h : spec_l6Any.f k s0_0 s0_1 s0_2 = some (r1, r2, r3, r4, r5)) :
  Calls Try.prog 99 #[.pointer (some ⟨g, 0, none⟩)] w fun e w' => e = .returned (.agg #[.int .i64 r1, .string r2, .int .i64 r3]) ∧ IsS128 w0 w' g s0_0 r4 r5 ∧ Below w0.heap.size w0 w' ∧ KeepBut w w' g none := by
 have hu49 := Try.underlying49
 have HI0 := Aside0.mk hI
 have IGHI0 := iG_ HI0.out.ge
 have HK := Aside0.mk (KeepBut.refl w g none)
 have HL := Aside0.mk hB.size
 clear hI
 have HW0 := Aside0.mk hB.size
 have HB := Aside0.mk hB
 clear hB
 have H := h
 unfold spec_l6Any.f at H
 clear h
 replace H := bf_ H
 obtain ⟨f_, hf_, ⟨t736, t737, t738, t739, t740⟩, A2, H⟩ := H
 subst hf_
 (try dsimp only at H)
 replace H := bf_ H
 obtain ⟨f_, hf_, ⟨t742, t743, t744⟩, A3, H⟩ := H
 subst hf_
 (try dsimp only at H)
 by_cases c4 : t742 = 0
 ·
  rw [if_pos c4] at H
  have c4b0 : (t742 == 0) = true := beq_iff_eq.mpr c4
  have c4b1 : (t742 != 0) = false := bne_eq_false_iff_eq.mpr c4
  clear c4
  obtain ⟨y745, hy745⟩ : ∃ y_ : List Int, y_ = (([0, 1, 2, 5, 7, (-1)] : List Int)) := ⟨_, rfl⟩
  rw [← hy745] at H
  have Ny745 := Aside0.mk hy745
  clear hy745
  replace H := bf_ H
  obtain ⟨f_, hf_, ⟨t748, t749, t750⟩, A5, H⟩ := H
  subst hf_
  (try dsimp only at H)
  simp only [Option.some.injEq, Prod.mk.injEq] at H
  obtain ⟨rfl, rfl, rfl, rfl, rfl⟩ := H
  go_enter Try.func99, Try.ntmps99
  go_wp2_with (first | ((with_reducible refine gate_dst (N := 2) rfl ?_); refine bx_ (N := 2) (cs := #[.int .i64 0, .string (⟨#[]⟩ : ByteArray), .int .i64 0]) (t := 49) ?_; intro gb735 hg w6 hbox hb; replace HB := bS_ HB hb; have BK735 := am_ (hbox); have GW735 := am_ ((gK_ hg (qP HK))); have IGW735 := gI_ GW735; have GE735 := am_ ((Nat.le_trans HW0.out (gK_ hg (qP HK)))); have IGE735 := gI_ GE735; replace HK := kL_ HK hb; have NB0_735 := am_ ((nG_ hg (IsS128.lt (IsS128.q HI0)))); have INB0_735 := nI_ NB0_735; have NB735_0 := am_ (((nG_ hg (IsS128.lt (IsS128.q HI0))).symm)); replace HI0 := am_ (IsS128.below (IsS128.q HI0) hb); clear hb hbox hg) | ((with_reducible refine gate_callee (f := 124) rfl ?_); refine gl_ (some 5) Try.func124 #[.pointer (some ⟨g, 0, none⟩)] ?_; (with_reducible refine (spec_l6Draw.calls k g s0_0 s0_1 s0_2 t736 t737 t738 t739 t740 w0 _ ?side1 ?side2 A2.out).mono ?_); (case side1 => exact IsS128.q HI0); (case side2 => exact qB HB); rintro e w7 ⟨rfl, hi, hb, hk⟩; refine ⟨_, rfl, ?_⟩; replace BK735 := kB_ BK735 hk NB735_0; replace HK := kT_ HK hk; replace HB := am_ (hb); replace HI0 := am_ (hi); (try clear hb); (try clear hk); (try clear hi)) | ((with_reducible refine gate_dst (N := 3) rfl ?_); refine bx_ (N := 3) (cs := #[.int .i64 0, .string (⟨#[]⟩ : ByteArray), .int .i64 0]) (t := 49) ?_; intro gb741 hg w8 hbox hb; replace HB := bS_ HB hb; have BK741 := am_ (hbox); have GW741 := am_ ((gK_ hg (qP HK))); have IGW741 := gI_ GW741; have GE741 := am_ ((Nat.le_trans HW0.out (gK_ hg (qP HK)))); have IGE741 := gI_ GE741; replace HK := kL_ HK hb; have NB735_741 := am_ ((gN_ hg (qK BK735))); have NB741_735 := am_ ((gM_ hg (qK BK735))); replace BK735 := bK_ BK735 hb; have NB0_741 := am_ ((nG_ hg (IsS128.lt (IsS128.q HI0)))); have INB0_741 := nI_ NB0_741; have NB741_0 := am_ (((nG_ hg (IsS128.lt (IsS128.q HI0))).symm)); replace HI0 := am_ (IsS128.below (IsS128.q HI0) hb); clear hb hbox hg; have hnb9 := NB741_735.out; have hnc9 := NB735_741.out; have hnb10 := NB741_0.out; have hnc10 := NB0_741.out; (try clear zK741); have zK741 := cz3 BK741.out; (try clear fK741); have fK741 := fz3 BK741.out) | ((with_reducible refine gate_callee (f := 61) rfl ?_); refine gl_ (some 7) Try.func61 #[.pointer (some ⟨g, 0, none⟩), .int .i64 10] ?_; (with_reducible refine (spec_l1Below.calls g s0_0 t739 t740 10 t742 t743 t744 w0 _ ?side1 ?side2 A3.out).mono ?_); (case side1 => exact IsS128.q HI0); (case side2 => exact qB HB); rintro e w12 ⟨rfl, hi, hb, hk⟩; refine ⟨_, rfl, ?_⟩; replace BK735 := am_ (KeepBut.blk hk (g' := gb735) (o := .cells #[.int .i64 0, .string (⟨#[]⟩ : ByteArray), .int .i64 0] 49 (0, 0)) (by (with_reducible repeat (first | refine blk_drewN ?_ _ | refine blk_drew ?_ | refine blk_alloc ?_ _)); refine blk_far3 ?_ NB735_741.out; exact qK BK735) NB735_0.out (by simp)); replace BK741 := am_ (KeepBut.blk hk (g' := gb741) (o := .cells #[.int .i64 t736, .string t737, .int .i64 t738] 49 (0, 0)) (by exact blk_all3 (qK BK741)) NB741_0.out (by simp)); replace HK := kT_ HK hk; replace HB := am_ (hb); replace HI0 := am_ (hi); (try clear hb); (try clear hk); (try clear hi)) | ((with_reducible refine gate_dst (N := 11) rfl ?_); refine Kd.R_lit (Kd.int .i64) _ 3 ?hg (N := 11) ?hd (xs := ([0, 1, 2, 5, 7, (-1)] : List Int)) (inner := [.int .i64 0, .int .i64 1, .int .i64 2, .int .i64 5, .int .i64 7, .int .i64 (-1)]) (ok := fun _ => True) (okp := fun _ => True) ?hr ?hp (fun _ hk => hk) trivial (Below.refl _ _) (Nat.le_refl _) (by simp) ?_; (case hd => rfl); (case hg => rfl); (case hr => first | (go_simp; done) | (go_simp; rfl)); (case hp => exact (Reps.one (show Kd.M (Kd.int .i64) _ _ _ 0 [.int .i64 0] from rfl) (Reps.one (show Kd.M (Kd.int .i64) _ _ _ 1 [.int .i64 1] from rfl) (Reps.one (show Kd.M (Kd.int .i64) _ _ _ 2 [.int .i64 2] from rfl) (Reps.one (show Kd.M (Kd.int .i64) _ _ _ 5 [.int .i64 5] from rfl) (Reps.one (show Kd.M (Kd.int .i64) _ _ _ 7 [.int .i64 7] from rfl) (Reps.one (show Kd.M (Kd.int .i64) _ _ _ (-1) [.int .i64 (-1)] from rfl) (Reps.none _ _)))))))); intro v746 w13 ho14 hb hg_ hnew_; clear hg_ hnew_; (first | rw [← Ny745.out] at ho14 | (simp only [Int.reduceToNat] at ho14; rw [← Ny745.out] at ho14)); have HO747 := am_ (Kd.R_lower ho14 (keep_size (w := w) (g := g) (row := none) (qP HK))); replace BK735 := bK_ BK735 hb; replace BK741 := bK_ BK741 hb; replace HK := kL_ HK hb; replace HB := bS_ HB hb; replace HI0 := am_ (IsS128.below (IsS128.q HI0) hb); clear hb ho14; obtain ⟨Ao15, co15, eo15⟩ := Kd.R_slice HO747.out; subst eo15) | ((with_reducible refine gate_callee (f := 62) rfl ?_); refine gl_ (some 12) Try.func62 #[.pointer (some ⟨g, 0, none⟩), .slice Ao15 y745.length co15] ?_; (with_reducible refine (spec_l1Int.calls g s0_0 t743 t744 _ _ y745 t748 t749 t750 w0 _ ?side1 ?side2 ?side3 ?side4 ?side5 A5.out).mono ?_); (case side1 => exact IsS128.q HI0); (case side2 => exact qB HB); (case side3 => exact qC ((Kd.R_reads' HO747.out).2.2)); (case side4 => exact (Kd.R_reads' HO747.out).2.1); (case side5 => exact far_slice (IsS128.own_ne HI0.out HO747.out (by decide))); rintro e w16 ⟨rfl, hi, hb, hk⟩; refine ⟨_, rfl, ?_⟩; replace BK735 := kB_ BK735 hk NB735_0; replace BK741 := kB_ BK741 hk NB741_0; replace HO747 := am_ (Kd.R_mono (Kd.R_keep (IsS128.apart (show IsS128 w0 _ g s0_0 t743 t744 from IsS128.q HI0) (qR HO747) (by decide)) hk (fun _ h => h.2)) (fun _ h => h.1)); replace HK := kT_ HK hk; replace HB := am_ (hb); replace HI0 := am_ (hi); (try clear hb); (try clear hk); (try clear hi); (try clear zK741); have zK741 := cz3 BK741.out; (try clear fK741); have fK741 := fz3 BK741.out; have hnb18 := NB735_0.out; have hnc18 := NB0_735.out; (try clear zK735); have zK735 := cz3 BK735.out; (try clear fK735); have fK735 := fz3 BK735.out))
  refine bodyPost_ret (results_cell_row rfl _ _ gb735 49 #[.int .i64 t748, .string t737, .int .i64 t738] (0, 0) _ rfl (by exact blk_all3 (blk_far1 (qK BK735) NB735_741.out)) Try.underlying49 rfl (by kernel_rfl)) rfl ?_
  exact ⟨er_, IsS128.q HI0, qB HB, qP HK⟩
 rw [if_neg c4] at H
 have c4b0 : (t742 == 0) = false := beq_eq_false_iff_ne.mpr c4
 have c4b1 : (t742 != 0) = true := bne_iff_ne.mpr c4
 by_cases c20 : t742 = 1
 ·
  rw [if_pos c20] at H
  have c20b0 : (t742 == 1) = true := beq_iff_eq.mpr c20
  have c20b1 : (t742 != 1) = false := bne_eq_false_iff_eq.mpr c20
  clear c20
  replace H := bf_ H
  obtain ⟨f_, hf_, ⟨t751, t752, t753⟩, A21, H⟩ := H
  subst hf_
  (try dsimp only at H)
  simp only [Option.some.injEq, Prod.mk.injEq] at H
  obtain ⟨rfl, rfl, rfl, rfl, rfl⟩ := H
  go_enter Try.func99, Try.ntmps99
  go_wp2_with (first | ((with_reducible refine gate_dst (N := 2) rfl ?_); refine bx_ (N := 2) (cs := #[.int .i64 0, .string (⟨#[]⟩ : ByteArray), .int .i64 0]) (t := 49) ?_; intro gb735 hg w22 hbox hb; replace HB := bS_ HB hb; have BK735 := am_ (hbox); have GW735 := am_ ((gK_ hg (qP HK))); have IGW735 := gI_ GW735; have GE735 := am_ ((Nat.le_trans HW0.out (gK_ hg (qP HK)))); have IGE735 := gI_ GE735; replace HK := kL_ HK hb; have NB0_735 := am_ ((nG_ hg (IsS128.lt (IsS128.q HI0)))); have INB0_735 := nI_ NB0_735; have NB735_0 := am_ (((nG_ hg (IsS128.lt (IsS128.q HI0))).symm)); replace HI0 := am_ (IsS128.below (IsS128.q HI0) hb); clear hb hbox hg) | ((with_reducible refine gate_callee (f := 124) rfl ?_); refine gl_ (some 5) Try.func124 #[.pointer (some ⟨g, 0, none⟩)] ?_; (with_reducible refine (spec_l6Draw.calls k g s0_0 s0_1 s0_2 t736 t737 t738 t739 t740 w0 _ ?side1 ?side2 A2.out).mono ?_); (case side1 => exact IsS128.q HI0); (case side2 => exact qB HB); rintro e w23 ⟨rfl, hi, hb, hk⟩; refine ⟨_, rfl, ?_⟩; replace BK735 := kB_ BK735 hk NB735_0; replace HK := kT_ HK hk; replace HB := am_ (hb); replace HI0 := am_ (hi); (try clear hb); (try clear hk); (try clear hi)) | ((with_reducible refine gate_dst (N := 3) rfl ?_); refine bx_ (N := 3) (cs := #[.int .i64 0, .string (⟨#[]⟩ : ByteArray), .int .i64 0]) (t := 49) ?_; intro gb741 hg w24 hbox hb; replace HB := bS_ HB hb; have BK741 := am_ (hbox); have GW741 := am_ ((gK_ hg (qP HK))); have IGW741 := gI_ GW741; have GE741 := am_ ((Nat.le_trans HW0.out (gK_ hg (qP HK)))); have IGE741 := gI_ GE741; replace HK := kL_ HK hb; have NB735_741 := am_ ((gN_ hg (qK BK735))); have NB741_735 := am_ ((gM_ hg (qK BK735))); replace BK735 := bK_ BK735 hb; have NB0_741 := am_ ((nG_ hg (IsS128.lt (IsS128.q HI0)))); have INB0_741 := nI_ NB0_741; have NB741_0 := am_ (((nG_ hg (IsS128.lt (IsS128.q HI0))).symm)); replace HI0 := am_ (IsS128.below (IsS128.q HI0) hb); clear hb hbox hg; have hnb25 := NB741_735.out; have hnc25 := NB735_741.out; have hnb26 := NB741_0.out; have hnc26 := NB0_741.out; (try clear zK741); have zK741 := cz3 BK741.out; (try clear fK741); have fK741 := fz3 BK741.out) | ((with_reducible refine gate_callee (f := 61) rfl ?_); refine gl_ (some 7) Try.func61 #[.pointer (some ⟨g, 0, none⟩), .int .i64 10] ?_; (with_reducible refine (spec_l1Below.calls g s0_0 t739 t740 10 t742 t743 t744 w0 _ ?side1 ?side2 A3.out).mono ?_); (case side1 => exact IsS128.q HI0); (case side2 => exact qB HB); rintro e w28 ⟨rfl, hi, hb, hk⟩; refine ⟨_, rfl, ?_⟩; replace BK735 := am_ (KeepBut.blk hk (g' := gb735) (o := .cells #[.int .i64 0, .string (⟨#[]⟩ : ByteArray), .int .i64 0] 49 (0, 0)) (by (with_reducible repeat (first | refine blk_drewN ?_ _ | refine blk_drew ?_ | refine blk_alloc ?_ _)); refine blk_far3 ?_ NB735_741.out; exact qK BK735) NB735_0.out (by simp)); replace BK741 := am_ (KeepBut.blk hk (g' := gb741) (o := .cells #[.int .i64 t736, .string t737, .int .i64 t738] 49 (0, 0)) (by exact blk_all3 (qK BK741)) NB741_0.out (by simp)); replace HK := kT_ HK hk; replace HB := am_ (hb); replace HI0 := am_ (hi); (try clear hb); (try clear hk); (try clear hi)) | ((with_reducible refine gate_callee (f := 117) rfl ?_); refine gl_ (some 17) Try.func117 #[.pointer (some ⟨g, 0, none⟩)] ?_; (with_reducible refine (spec_l1Text.calls k g s0_0 t743 t744 t751 t752 t753 w0 _ ?side1 ?side2 A21.out).mono ?_); (case side1 => exact IsS128.q HI0); (case side2 => exact qB HB); rintro e w29 ⟨rfl, hi, hb, hk⟩; refine ⟨_, rfl, ?_⟩; replace BK735 := kB_ BK735 hk NB735_0; replace BK741 := kB_ BK741 hk NB741_0; replace HK := kT_ HK hk; replace HB := am_ (hb); replace HI0 := am_ (hi); (try clear hb); (try clear hk); (try clear hi); (try clear zK741); have zK741 := cz3 BK741.out; (try clear fK741); have fK741 := fz3 BK741.out; have hnb31 := NB735_0.out; have hnc31 := NB0_735.out; (try clear zK735); have zK735 := cz3 BK735.out; (try clear fK735); have fK735 := fz3 BK735.out))
  refine bodyPost_ret (results_cell_row rfl _ _ gb735 49 #[.int .i64 t736, .string t751, .int .i64 t738] (0, 0) _ rfl (by exact blk_all3 (blk_far1 (qK BK735) NB735_741.out)) Try.underlying49 rfl (by kernel_rfl)) rfl ?_
  exact ⟨er_, IsS128.q HI0, qB HB, qP HK⟩
 rw [if_neg c20] at H
 have c20b0 : (t742 == 1) = false := beq_eq_false_iff_ne.mpr c20
 have c20b1 : (t742 != 1) = true := bne_iff_ne.mpr c20
 by_cases c33 : t742 = 2
 rotate_left
 ·
  rw [if_neg c33] at H
  have c33b0 : (t742 == 2) = false := beq_eq_false_iff_ne.mpr c33
  have c33b1 : (t742 != 2) = true := bne_iff_ne.mpr c33
  simp only [Option.some.injEq, Prod.mk.injEq] at H
  obtain ⟨rfl, rfl, rfl, rfl, rfl⟩ := H
  go_enter Try.func99, Try.ntmps99
  go_wp2_with (first | ((with_reducible refine gate_dst (N := 2) rfl ?_); refine bx_ (N := 2) (cs := #[.int .i64 0, .string (⟨#[]⟩ : ByteArray), .int .i64 0]) (t := 49) ?_; intro gb735 hg w49 hbox hb; replace HB := bS_ HB hb; have BK735 := am_ (hbox); have GW735 := am_ ((gK_ hg (qP HK))); have IGW735 := gI_ GW735; have GE735 := am_ ((Nat.le_trans HW0.out (gK_ hg (qP HK)))); have IGE735 := gI_ GE735; replace HK := kL_ HK hb; have NB0_735 := am_ ((nG_ hg (IsS128.lt (IsS128.q HI0)))); have INB0_735 := nI_ NB0_735; have NB735_0 := am_ (((nG_ hg (IsS128.lt (IsS128.q HI0))).symm)); replace HI0 := am_ (IsS128.below (IsS128.q HI0) hb); clear hb hbox hg) | ((with_reducible refine gate_callee (f := 124) rfl ?_); refine gl_ (some 5) Try.func124 #[.pointer (some ⟨g, 0, none⟩)] ?_; (with_reducible refine (spec_l6Draw.calls k g s0_0 s0_1 s0_2 t736 t737 t738 t739 t740 w0 _ ?side1 ?side2 A2.out).mono ?_); (case side1 => exact IsS128.q HI0); (case side2 => exact qB HB); rintro e w50 ⟨rfl, hi, hb, hk⟩; refine ⟨_, rfl, ?_⟩; replace BK735 := kB_ BK735 hk NB735_0; replace HK := kT_ HK hk; replace HB := am_ (hb); replace HI0 := am_ (hi); (try clear hb); (try clear hk); (try clear hi)) | ((with_reducible refine gate_dst (N := 3) rfl ?_); refine bx_ (N := 3) (cs := #[.int .i64 0, .string (⟨#[]⟩ : ByteArray), .int .i64 0]) (t := 49) ?_; intro gb741 hg w51 hbox hb; replace HB := bS_ HB hb; have BK741 := am_ (hbox); have GW741 := am_ ((gK_ hg (qP HK))); have IGW741 := gI_ GW741; have GE741 := am_ ((Nat.le_trans HW0.out (gK_ hg (qP HK)))); have IGE741 := gI_ GE741; replace HK := kL_ HK hb; have NB735_741 := am_ ((gN_ hg (qK BK735))); have NB741_735 := am_ ((gM_ hg (qK BK735))); replace BK735 := bK_ BK735 hb; have NB0_741 := am_ ((nG_ hg (IsS128.lt (IsS128.q HI0)))); have INB0_741 := nI_ NB0_741; have NB741_0 := am_ (((nG_ hg (IsS128.lt (IsS128.q HI0))).symm)); replace HI0 := am_ (IsS128.below (IsS128.q HI0) hb); clear hb hbox hg; have hnb52 := NB741_735.out; have hnc52 := NB735_741.out; have hnb53 := NB741_0.out; have hnc53 := NB0_741.out; (try clear zK741); have zK741 := cz3 BK741.out; (try clear fK741); have fK741 := fz3 BK741.out) | ((with_reducible refine gate_callee (f := 61) rfl ?_); refine gl_ (some 7) Try.func61 #[.pointer (some ⟨g, 0, none⟩), .int .i64 10] ?_; (with_reducible refine (spec_l1Below.calls g s0_0 t739 t740 10 t742 t743 t744 w0 _ ?side1 ?side2 A3.out).mono ?_); (case side1 => exact IsS128.q HI0); (case side2 => exact qB HB); rintro e w55 ⟨rfl, hi, hb, hk⟩; refine ⟨_, rfl, ?_⟩; replace BK735 := am_ (KeepBut.blk hk (g' := gb735) (o := .cells #[.int .i64 0, .string (⟨#[]⟩ : ByteArray), .int .i64 0] 49 (0, 0)) (by (with_reducible repeat (first | refine blk_drewN ?_ _ | refine blk_drew ?_ | refine blk_alloc ?_ _)); refine blk_far3 ?_ NB735_741.out; exact qK BK735) NB735_0.out (by simp)); replace BK741 := am_ (KeepBut.blk hk (g' := gb741) (o := .cells #[.int .i64 t736, .string t737, .int .i64 t738] 49 (0, 0)) (by exact blk_all3 (qK BK741)) NB741_0.out (by simp)); replace HK := kT_ HK hk; replace HB := am_ (hb); replace HI0 := am_ (hi); (try clear hb); (try clear hk); (try clear hi); (try clear zK741); have zK741 := cz3 BK741.out; (try clear fK741); have fK741 := fz3 BK741.out; have hnb57 := NB735_0.out; have hnc57 := NB0_735.out; (try clear zK735); have zK735 := cz3 BK735.out; (try clear fK735); have fK735 := fz3 BK735.out))
  refine bodyPost_ret (results_cell_row rfl _ _ gb735 49 #[.int .i64 t736, .string t737, .int .i64 t738] (0, 0) _ rfl (by exact blk_all3 (qK BK735)) Try.underlying49 rfl (by kernel_rfl)) rfl ?_
  exact ⟨er_, IsS128.q HI0, qB HB, qP HK⟩
 rw [if_pos c33] at H
 have c33b0 : (t742 == 2) = true := beq_iff_eq.mpr c33
 have c33b1 : (t742 != 2) = false := bne_eq_false_iff_eq.mpr c33
 clear c33
 obtain ⟨y754, hy754⟩ : ∃ y_ : List Int, y_ = (([1, 2, 3, (-1)] : List Int)) := ⟨_, rfl⟩
 rw [← hy754] at H
 have Ny754 := Aside0.mk hy754
 clear hy754
 replace H := bf_ H
 obtain ⟨f_, hf_, ⟨t757, t758, t759⟩, A34, H⟩ := H
 subst hf_
 (try dsimp only at H)
 simp only [Option.some.injEq, Prod.mk.injEq] at H
 obtain ⟨rfl, rfl, rfl, rfl, rfl⟩ := H
 go_enter Try.func99, Try.ntmps99
 go_wp2_with (first | ((with_reducible refine gate_dst (N := 2) rfl ?_); refine bx_ (N := 2) (cs := #[.int .i64 0, .string (⟨#[]⟩ : ByteArray), .int .i64 0]) (t := 49) ?_; intro gb735 hg w35 hbox hb; replace HB := bS_ HB hb; have BK735 := am_ (hbox); have GW735 := am_ ((gK_ hg (qP HK))); have IGW735 := gI_ GW735; have GE735 := am_ ((Nat.le_trans HW0.out (gK_ hg (qP HK)))); have IGE735 := gI_ GE735; replace HK := kL_ HK hb; have NB0_735 := am_ ((nG_ hg (IsS128.lt (IsS128.q HI0)))); have INB0_735 := nI_ NB0_735; have NB735_0 := am_ (((nG_ hg (IsS128.lt (IsS128.q HI0))).symm)); replace HI0 := am_ (IsS128.below (IsS128.q HI0) hb); clear hb hbox hg) | ((with_reducible refine gate_callee (f := 124) rfl ?_); refine gl_ (some 5) Try.func124 #[.pointer (some ⟨g, 0, none⟩)] ?_; (with_reducible refine (spec_l6Draw.calls k g s0_0 s0_1 s0_2 t736 t737 t738 t739 t740 w0 _ ?side1 ?side2 A2.out).mono ?_); (case side1 => exact IsS128.q HI0); (case side2 => exact qB HB); rintro e w36 ⟨rfl, hi, hb, hk⟩; refine ⟨_, rfl, ?_⟩; replace BK735 := kB_ BK735 hk NB735_0; replace HK := kT_ HK hk; replace HB := am_ (hb); replace HI0 := am_ (hi); (try clear hb); (try clear hk); (try clear hi)) | ((with_reducible refine gate_dst (N := 3) rfl ?_); refine bx_ (N := 3) (cs := #[.int .i64 0, .string (⟨#[]⟩ : ByteArray), .int .i64 0]) (t := 49) ?_; intro gb741 hg w37 hbox hb; replace HB := bS_ HB hb; have BK741 := am_ (hbox); have GW741 := am_ ((gK_ hg (qP HK))); have IGW741 := gI_ GW741; have GE741 := am_ ((Nat.le_trans HW0.out (gK_ hg (qP HK)))); have IGE741 := gI_ GE741; replace HK := kL_ HK hb; have NB735_741 := am_ ((gN_ hg (qK BK735))); have NB741_735 := am_ ((gM_ hg (qK BK735))); replace BK735 := bK_ BK735 hb; have NB0_741 := am_ ((nG_ hg (IsS128.lt (IsS128.q HI0)))); have INB0_741 := nI_ NB0_741; have NB741_0 := am_ (((nG_ hg (IsS128.lt (IsS128.q HI0))).symm)); replace HI0 := am_ (IsS128.below (IsS128.q HI0) hb); clear hb hbox hg; have hnb38 := NB741_735.out; have hnc38 := NB735_741.out; have hnb39 := NB741_0.out; have hnc39 := NB0_741.out; (try clear zK741); have zK741 := cz3 BK741.out; (try clear fK741); have fK741 := fz3 BK741.out) | ((with_reducible refine gate_callee (f := 61) rfl ?_); refine gl_ (some 7) Try.func61 #[.pointer (some ⟨g, 0, none⟩), .int .i64 10] ?_; (with_reducible refine (spec_l1Below.calls g s0_0 t739 t740 10 t742 t743 t744 w0 _ ?side1 ?side2 A3.out).mono ?_); (case side1 => exact IsS128.q HI0); (case side2 => exact qB HB); rintro e w41 ⟨rfl, hi, hb, hk⟩; refine ⟨_, rfl, ?_⟩; replace BK735 := am_ (KeepBut.blk hk (g' := gb735) (o := .cells #[.int .i64 0, .string (⟨#[]⟩ : ByteArray), .int .i64 0] 49 (0, 0)) (by (with_reducible repeat (first | refine blk_drewN ?_ _ | refine blk_drew ?_ | refine blk_alloc ?_ _)); refine blk_far3 ?_ NB735_741.out; exact qK BK735) NB735_0.out (by simp)); replace BK741 := am_ (KeepBut.blk hk (g' := gb741) (o := .cells #[.int .i64 t736, .string t737, .int .i64 t738] 49 (0, 0)) (by exact blk_all3 (qK BK741)) NB741_0.out (by simp)); replace HK := kT_ HK hk; replace HB := am_ (hb); replace HI0 := am_ (hi); (try clear hb); (try clear hk); (try clear hi)) | ((with_reducible refine gate_dst (N := 22) rfl ?_); refine Kd.R_lit (Kd.int .i64) _ 3 ?hg (N := 22) ?hd (xs := ([1, 2, 3, (-1)] : List Int)) (inner := [.int .i64 1, .int .i64 2, .int .i64 3, .int .i64 (-1)]) (ok := fun _ => True) (okp := fun _ => True) ?hr ?hp (fun _ hk => hk) trivial (Below.refl _ _) (Nat.le_refl _) (by simp) ?_; (case hd => rfl); (case hg => rfl); (case hr => first | (go_simp; done) | (go_simp; rfl)); (case hp => exact (Reps.one (show Kd.M (Kd.int .i64) _ _ _ 1 [.int .i64 1] from rfl) (Reps.one (show Kd.M (Kd.int .i64) _ _ _ 2 [.int .i64 2] from rfl) (Reps.one (show Kd.M (Kd.int .i64) _ _ _ 3 [.int .i64 3] from rfl) (Reps.one (show Kd.M (Kd.int .i64) _ _ _ (-1) [.int .i64 (-1)] from rfl) (Reps.none _ _)))))); intro v755 w42 ho43 hb hg_ hnew_; clear hg_ hnew_; (first | rw [← Ny754.out] at ho43 | (simp only [Int.reduceToNat] at ho43; rw [← Ny754.out] at ho43)); have HO756 := am_ (Kd.R_lower ho43 (keep_size (w := w) (g := g) (row := none) (qP HK))); replace BK735 := bK_ BK735 hb; replace BK741 := bK_ BK741 hb; replace HK := kL_ HK hb; replace HB := bS_ HB hb; replace HI0 := am_ (IsS128.below (IsS128.q HI0) hb); clear hb ho43; obtain ⟨Ao44, co44, eo44⟩ := Kd.R_slice HO756.out; subst eo44) | ((with_reducible refine gate_callee (f := 62) rfl ?_); refine gl_ (some 23) Try.func62 #[.pointer (some ⟨g, 0, none⟩), .slice Ao44 y754.length co44] ?_; (with_reducible refine (spec_l1Int.calls g s0_0 t743 t744 _ _ y754 t757 t758 t759 w0 _ ?side1 ?side2 ?side3 ?side4 ?side5 A34.out).mono ?_); (case side1 => exact IsS128.q HI0); (case side2 => exact qB HB); (case side3 => exact qC ((Kd.R_reads' HO756.out).2.2)); (case side4 => exact (Kd.R_reads' HO756.out).2.1); (case side5 => exact far_slice (IsS128.own_ne HI0.out HO756.out (by decide))); rintro e w45 ⟨rfl, hi, hb, hk⟩; refine ⟨_, rfl, ?_⟩; replace BK735 := kB_ BK735 hk NB735_0; replace BK741 := kB_ BK741 hk NB741_0; replace HO756 := am_ (Kd.R_mono (Kd.R_keep (IsS128.apart (show IsS128 w0 _ g s0_0 t743 t744 from IsS128.q HI0) (qR HO756) (by decide)) hk (fun _ h => h.2)) (fun _ h => h.1)); replace HK := kT_ HK hk; replace HB := am_ (hb); replace HI0 := am_ (hi); (try clear hb); (try clear hk); (try clear hi); (try clear zK741); have zK741 := cz3 BK741.out; (try clear fK741); have fK741 := fz3 BK741.out; have hnb47 := NB735_0.out; have hnc47 := NB0_735.out; (try clear zK735); have zK735 := cz3 BK735.out; (try clear fK735); have fK735 := fz3 BK735.out))
 refine bodyPost_ret (results_cell_row rfl _ _ gb735 49 #[.int .i64 t736, .string t737, .int .i64 t757] (0, 0) _ rfl (by exact blk_all3 (blk_far1 (qK BK735) NB735_741.out)) Try.underlying49 rfl (by kernel_rfl)) rfl ?_
 exact ⟨er_, IsS128.q HI0, qB HB, qP HK⟩

/-! ### spec_DrawTell: function 38 -/
def spec_DrawTell.f (k : Nat) (l0 : List Int) : Option (Int × Int × Int × Bool × List Int × List Int × Int × Int × Int × ByteArray × Int) := (spec_l1New.f k l0).bind fun bt762 => ((spec_l8Any.f k bt762.1 bt762.2.1 bt762.2.2).bind fun bt766 => ((spec_l6Any.f k bt762.1 bt766.2.2.2.2.2.2.2.2.1 bt766.2.2.2.2.2.2.2.2.2).bind fun bt781 => (some (bt766.1, bt766.2.1, bt766.2.2.1, bt766.2.2.2.1, bt766.2.2.2.2.1, bt766.2.2.2.2.2.1, bt766.2.2.2.2.2.2.1, bt766.2.2.2.2.2.2.2.1, bt781.1, bt781.2.1, bt781.2.2.1))))
theorem spec_DrawTell.mono : ∀ a0 k, LeO (spec_DrawTell.f k a0) (spec_DrawTell.f (k + 1) a0) := by
 intro a0 k
 unfold spec_DrawTell.f
 have m0 := @spec_l1New.mono; have m1 := @spec_l6Any.mono; have m2 := @spec_l8Any.mono; exact mo_
set_option maxHeartbeats 8000000 in
set_option maxRecDepth 100000 in
theorem spec_DrawTell.calls (k : Nat) (A0 : Option Addr) (c0 : Nat) (l0 : List Int) (r1 : Int) (r2 : Int) (r3 : Int) (r4 : Bool) (r5 : List Int) (r6 : List Int) (r7 : Int) (r8 : Int) (r9 : Int) (r10 : ByteArray) (r11 : Int) (w : World) (hr0 : Kd.C (Kd.int .u8) w A0 l0.length l0) (hc0 : l0.length ≤ c0) (h : spec_DrawTell.f k l0 = some (r1, r2, r3, r4, r5, r6, r7, r8, r9, r10, r11)) :
  Calls Try.prog 38 #[.slice A0 l0.length c0] w fun e w' => ∃ v4_ v5_ : Value, e = .returned (.tuple #[.agg #[.int .i64 r1, .int .i64 r2, .int .i64 r3, .bool r4, v4_, v5_, .int .i64 r7, .int .i64 r8], .agg #[.int .i64 r9, .string r10, .int .i64 r11]]) ∧ Kd.R (Kd.int .u8) 5 w' w.heap.size (fun k_ => nv v5_ k_) v4_ r5 ∧ Kd.R (Kd.int .u8) 5 w' w.heap.size (fun k_ => nv v4_ k_) v5_ r6 ∧ Below w.heap.size w w' := by
 have hu41 := Try.underlying41
 have hu49 := Try.underlying49
 have HR0 := Aside0.mk hr0
 have HC0 := Aside0.mk hc0
 clear hr0 hc0
 have HB := Aside0.mk (Below.refl w.heap.size w)
 have H := h
 unfold spec_DrawTell.f at H
 clear h
 replace H := bf_ H
 obtain ⟨f_, hf_, ⟨t762, t763, t764⟩, A2, H⟩ := H
 subst hf_
 (try dsimp only at H)
 replace H := bf_ H
 obtain ⟨f_, hf_, ⟨t766, t767, t768, t769, t770, t773, t776, t777, t778, t779⟩, A3, H⟩ := H
 subst hf_
 (try dsimp only at H)
 replace H := bf_ H
 obtain ⟨f_, hf_, ⟨t781, t782, t783, t784, t785⟩, A4, H⟩ := H
 subst hf_
 (try dsimp only at H)
 simp only [Option.some.injEq, Prod.mk.injEq] at H
 obtain ⟨rfl, rfl, rfl, rfl, rfl, rfl, rfl, rfl, rfl, rfl, rfl⟩ := H
 go_enter Try.func38, Try.ntmps38
 try go_wp2_with (first | ((with_reducible refine gate_dst (N := 2) rfl ?_); refine bx_ (N := 2) (cs := #[.int .i64 0, .int .i64 0, .int .i64 0, .bool false, .slice none 0 0, .slice none 0 0, .int .i64 0, .int .i64 0]) (t := 41) ?_; intro gb760 hg w5 hbox hb; have BK760 := am_ (hbox); have GW760 := gA_ hg HB; have GE760 := GW760; have IGE760 := gI_ GE760; replace HB := bS_ HB hb; clear hb hbox hg) | ((with_reducible refine gate_dst (N := 3) rfl ?_); refine bx_ (N := 3) (cs := #[.int .i64 0, .string (⟨#[]⟩ : ByteArray), .int .i64 0]) (t := 49) ?_; intro gb761 hg w6 hbox hb; have BK761 := am_ (hbox); have GW761 := gA_ hg HB; have GE761 := GW761; have IGE761 := gI_ GE761; replace HB := bS_ HB hb; have NB760_761 := am_ ((gN_ hg (qK BK760))); have NB761_760 := am_ ((gM_ hg (qK BK760))); replace BK760 := bK_ BK760 hb; clear hb hbox hg) | ((with_reducible refine gate_callee (f := 59) rfl ?_); refine gl_ (some 7) Try.func59 #[.slice A0 l0.length c0] ?_; (with_reducible refine (spec_l1New.calls k _ _ l0 t762 t763 t764 w _ ?side1 ?side2 ?side3 A2.out).mono ?_); (case side1 => exact qB HB); (case side2 => exact HR0.out); (case side3 => exact HC0.out); rintro e w7 ⟨g765, rfl, hi, hb, hb2⟩; refine ⟨_, rfl, ?_⟩; replace HB := am_ (hb); have HI765 := am_ (hi); have IGHI765 := iG_ HI765.out.ge; have NB765_760 := am_ (IsS128.ne_blk hi (blk_below (qK BK760) hb2) (by decide)); have NB760_765 := am_ (Ne.symm (IsS128.ne_blk hi (blk_below (qK BK760) hb2) (by decide))); replace BK760 := am_ (blk_below (qK BK760) hb2); have NB765_761 := am_ (IsS128.ne_blk hi (blk_below (qK BK761) hb2) (by decide)); have NB761_765 := am_ (Ne.symm (IsS128.ne_blk hi (blk_below (qK BK761) hb2) (by decide))); replace BK761 := am_ (blk_below (qK BK761) hb2); (try clear hb); (try clear hb2); (try clear hi)) | ((with_reducible refine gate_callee (f := 90) rfl ?_); refine gl_ (some 9) Try.func90 #[.pointer (some ⟨g765, 0, none⟩)] ?_; (with_reducible refine (spec_l8Any.calls k g765 t762 t763 t764 t766 t767 t768 t769 t770 t773 t776 t777 t778 t779 w _ ?side1 ?side2 A3.out).mono ?_); (case side1 => repeat (first | (with_reducible first | exact HI765.out | apply IsS128.alloc | apply IsS128.drewN | apply IsS128.drew | apply IsS128.set_1 | apply IsS128.set_2 | refine IsS128.far ?_ NB765_760.out _ | refine IsS128.far ?_ NB765_761.out _) | exact HI765.out)); (case side2 => exact qB HB); rintro e w8 ⟨v771, v774, rfl, ho0, ho1, hi, hb, hk⟩; refine ⟨_, rfl, ?_⟩; replace BK760 := kB_ BK760 hk NB760_765; replace BK761 := kB_ BK761 hk NB761_765; have HO772 := am_ (Kd.R_lower ho0 (below_size (qB HB))); have HO775 := am_ (Kd.R_lower ho1 (below_size (qB HB))); replace HB := am_ (hb); replace HI765 := am_ (hi); (try clear hb); (try clear hk); (try clear hi); (try clear ho0); (try clear ho1)) | ((with_reducible refine gate_dst (N := 5) rfl ?_); refine bx_ (N := 5) (cs := #[.int .i64 0, .int .i64 0, .int .i64 0, .bool false, .slice none 0 0, .slice none 0 0, .int .i64 0, .int .i64 0]) (t := 41) ?_; intro gb780 hg w9 hbox hb; replace HO772 := rB_ HO772 hb; replace HO775 := rB_ HO775 hb; have BK780 := am_ (hbox); have GW780 := am_ ((by rw [hg]; exact (below_size (qB HB)) : w.heap.size ≤ gb780)); have IGW780 := gI_ GW780; have GE780 := am_ ((by rw [hg]; exact (below_size (qB HB)) : w.heap.size ≤ gb780)); have IGE780 := gI_ GE780; replace HB := bS_ HB hb; have NB760_780 := am_ ((gN_ hg (qK BK760))); have NB780_760 := am_ ((gM_ hg (qK BK760))); replace BK760 := bK_ BK760 hb; have NB761_780 := am_ ((gN_ hg (qK BK761))); have NB780_761 := am_ ((gM_ hg (qK BK761))); replace BK761 := bK_ BK761 hb; have NB765_780 := am_ ((by rw [hg]; exact Nat.ne_of_lt (IsS128.lt (show IsS128 w _ g765 t762 t778 t779 from by repeat (first | (with_reducible first | exact HI765.out | apply IsS128.alloc | apply IsS128.drewN | apply IsS128.drew | apply IsS128.set_1 | apply IsS128.set_2 | refine IsS128.far ?_ NB765_760.out _ | refine IsS128.far ?_ NB765_761.out _) | exact HI765.out))) : g765 ≠ gb780)); have NB780_765 := am_ ((by rw [hg]; exact Nat.ne_of_gt (IsS128.lt (show IsS128 w _ g765 t762 t778 t779 from by repeat (first | (with_reducible first | exact HI765.out | apply IsS128.alloc | apply IsS128.drewN | apply IsS128.drew | apply IsS128.set_1 | apply IsS128.set_2 | refine IsS128.far ?_ NB765_760.out _ | refine IsS128.far ?_ NB765_761.out _) | exact HI765.out))) : gb780 ≠ g765)); replace HI765 := am_ (IsS128.below (by repeat (first | (with_reducible first | exact HI765.out | apply IsS128.alloc | apply IsS128.drewN | apply IsS128.drew | apply IsS128.set_1 | apply IsS128.set_2 | refine IsS128.far ?_ NB765_760.out _ | refine IsS128.far ?_ NB765_761.out _) | exact HI765.out)) hb); clear hb hbox hg; have hnb10 := NB780_760.out; have hnc10 := NB760_780.out; have hnb11 := NB780_761.out; have hnc11 := NB761_780.out; have hnb12 := NB780_765.out; have hnc12 := NB765_780.out; (try clear zK780); have zK780 := cz8 BK780.out; (try clear fK780); have fK780 := fz8 BK780.out; obtain ⟨Ao14, co14, eo14⟩ := Kd.R_slice HO772.out; subst eo14; obtain ⟨Ao15, co15, eo15⟩ := Kd.R_slice HO775.out; subst eo15))
 have n0_ : Aside0 (Kd.R (Kd.int .u8) 5 ((((((((w9.setCell ⟨gb780, 0, none⟩ (.int .i64 t766)).setCell ⟨gb780, 1, none⟩ (.int .i64 t767)).setCell ⟨gb780, 2, none⟩ (.int .i64 t768)).setCell ⟨gb780, 3, none⟩ (.bool t769)).setCell ⟨gb780, 4, none⟩ (.slice Ao14 t770.length co14)).setCell ⟨gb780, 5, none⟩ (.slice Ao15 t773.length co15)).setCell ⟨gb780, 6, none⟩ (.int .i64 t776)).setCell ⟨gb780, 7, none⟩ (.int .i64 t777)) w.heap.size (fun k_ => nb Ao15 t773.length co15 k_) (.slice Ao14 t770.length co14) t770) := fR3_ HO772 BK780
 have n1_ : Aside0 (Kd.R (Kd.int .u8) 5 ((((((((w9.setCell ⟨gb780, 0, none⟩ (.int .i64 t766)).setCell ⟨gb780, 1, none⟩ (.int .i64 t767)).setCell ⟨gb780, 2, none⟩ (.int .i64 t768)).setCell ⟨gb780, 3, none⟩ (.bool t769)).setCell ⟨gb780, 4, none⟩ (.slice Ao14 t770.length co14)).setCell ⟨gb780, 5, none⟩ (.slice Ao15 t773.length co15)).setCell ⟨gb780, 6, none⟩ (.int .i64 t776)).setCell ⟨gb780, 7, none⟩ (.int .i64 t777)) w.heap.size (fun k_ => nb Ao14 t770.length co14 k_) (.slice Ao15 t773.length co15) t773) := fR3_ HO775 BK780
 have n2_ : Aside0 (((((((((w9.setCell ⟨gb780, 0, none⟩ (.int .i64 t766)).setCell ⟨gb780, 1, none⟩ (.int .i64 t767)).setCell ⟨gb780, 2, none⟩ (.int .i64 t768)).setCell ⟨gb780, 3, none⟩ (.bool t769)).setCell ⟨gb780, 4, none⟩ (.slice Ao14 t770.length co14)).setCell ⟨gb780, 5, none⟩ (.slice Ao15 t773.length co15)).setCell ⟨gb780, 6, none⟩ (.int .i64 t776)).setCell ⟨gb780, 7, none⟩ (.int .i64 t777)).heap[gb760]? = some (.cells #[.int .i64 0, .int .i64 0, .int .i64 0, .bool false, .slice none 0 0, .slice none 0 0, .int .i64 0, .int .i64 0] 41 (0, 0))) := ⟨by (with_reducible repeat (first | refine blk_drewN ?_ _ | refine blk_drew ?_ | refine blk_alloc ?_ _)); refine blk_far8 ?_ NB760_780.out; exact qK BK760⟩
 have n3_ : Aside0 (((((((((w9.setCell ⟨gb780, 0, none⟩ (.int .i64 t766)).setCell ⟨gb780, 1, none⟩ (.int .i64 t767)).setCell ⟨gb780, 2, none⟩ (.int .i64 t768)).setCell ⟨gb780, 3, none⟩ (.bool t769)).setCell ⟨gb780, 4, none⟩ (.slice Ao14 t770.length co14)).setCell ⟨gb780, 5, none⟩ (.slice Ao15 t773.length co15)).setCell ⟨gb780, 6, none⟩ (.int .i64 t776)).setCell ⟨gb780, 7, none⟩ (.int .i64 t777)).heap[gb761]? = some (.cells #[.int .i64 0, .string (⟨#[]⟩ : ByteArray), .int .i64 0] 49 (0, 0))) := ⟨by (with_reducible repeat (first | refine blk_drewN ?_ _ | refine blk_drew ?_ | refine blk_alloc ?_ _)); refine blk_far8 ?_ NB761_780.out; exact qK BK761⟩
 have n4_ : Aside0 (((((((((w9.setCell ⟨gb780, 0, none⟩ (.int .i64 t766)).setCell ⟨gb780, 1, none⟩ (.int .i64 t767)).setCell ⟨gb780, 2, none⟩ (.int .i64 t768)).setCell ⟨gb780, 3, none⟩ (.bool t769)).setCell ⟨gb780, 4, none⟩ (.slice Ao14 t770.length co14)).setCell ⟨gb780, 5, none⟩ (.slice Ao15 t773.length co15)).setCell ⟨gb780, 6, none⟩ (.int .i64 t776)).setCell ⟨gb780, 7, none⟩ (.int .i64 t777)).heap[gb780]? = some (.cells #[.int .i64 t766, .int .i64 t767, .int .i64 t768, .bool t769, .slice Ao14 t770.length co14, .slice Ao15 t773.length co15, .int .i64 t776, .int .i64 t777] 41 (0, 0))) := ⟨by (with_reducible repeat (first | refine blk_drewN ?_ _ | refine blk_drew ?_ | refine blk_alloc ?_ _)); refine blk_all8 (show _ = some (Go.Obj.cells #[.int .i64 0, .int .i64 0, .int .i64 0, .bool false, .slice none 0 0, .slice none 0 0, .int .i64 0, .int .i64 0] _ (0, 0)) from ?_); exact qK BK780⟩
 have n5_ : Aside0 (IsS128 w ((((((((w9.setCell ⟨gb780, 0, none⟩ (.int .i64 t766)).setCell ⟨gb780, 1, none⟩ (.int .i64 t767)).setCell ⟨gb780, 2, none⟩ (.int .i64 t768)).setCell ⟨gb780, 3, none⟩ (.bool t769)).setCell ⟨gb780, 4, none⟩ (.slice Ao14 t770.length co14)).setCell ⟨gb780, 5, none⟩ (.slice Ao15 t773.length co15)).setCell ⟨gb780, 6, none⟩ (.int .i64 t776)).setCell ⟨gb780, 7, none⟩ (.int .i64 t777)) g765 t762 t778 t779) := ⟨by repeat (first | (with_reducible first | exact HI765.out | apply IsS128.alloc | apply IsS128.drewN | apply IsS128.drew | apply IsS128.set_1 | apply IsS128.set_2 | refine IsS128.far ?_ NB765_760.out _ | refine IsS128.far ?_ NB765_761.out _ | refine IsS128.far ?_ NB765_780.out _) | exact HI765.out)⟩
 have n6_ : Aside0 (Below w.heap.size w ((((((((w9.setCell ⟨gb780, 0, none⟩ (.int .i64 t766)).setCell ⟨gb780, 1, none⟩ (.int .i64 t767)).setCell ⟨gb780, 2, none⟩ (.int .i64 t768)).setCell ⟨gb780, 3, none⟩ (.bool t769)).setCell ⟨gb780, 4, none⟩ (.slice Ao14 t770.length co14)).setCell ⟨gb780, 5, none⟩ (.slice Ao15 t773.length co15)).setCell ⟨gb780, 6, none⟩ (.int .i64 t776)).setCell ⟨gb780, 7, none⟩ (.int .i64 t777))) := ⟨qB HB⟩
 (try clear HO772)
 (try clear HO775)
 (try clear BK760)
 (try clear BK761)
 (try clear BK780)
 (try clear HI765)
 (try clear HB)
 generalize ((((((((w9.setCell ⟨gb780, 0, none⟩ (.int .i64 t766)).setCell ⟨gb780, 1, none⟩ (.int .i64 t767)).setCell ⟨gb780, 2, none⟩ (.int .i64 t768)).setCell ⟨gb780, 3, none⟩ (.bool t769)).setCell ⟨gb780, 4, none⟩ (.slice Ao14 t770.length co14)).setCell ⟨gb780, 5, none⟩ (.slice Ao15 t773.length co15)).setCell ⟨gb780, 6, none⟩ (.int .i64 t776)).setCell ⟨gb780, 7, none⟩ (.int .i64 t777)) = w16 at n0_ n1_ n2_ n3_ n4_ n5_ n6_ ⊢
 have HO772 := n0_
 have HO775 := n1_
 have BK760 := n2_
 have BK761 := n3_
 have BK780 := n4_
 have HI765 := n5_
 have HB := n6_
 clear n0_ n1_ n2_ n3_ n4_ n5_ n6_
 replace HO772 := am_ (Kd.R_drew HO772.out)
 replace HO775 := am_ (Kd.R_drew HO775.out)
 replace BK760 := am_ (blk_drew BK760.out)
 replace BK761 := am_ (blk_drew BK761.out)
 replace BK780 := am_ (blk_drew BK780.out)
 replace HI765 := am_ (IsS128.drew HI765.out)
 replace HB := am_ (below_drew1 HB.out)
 refine start_ (n := 5) (S := fun w' => w'.cell? ⟨gb780, 0, none⟩ = some (.int .i64 t766) ∧ w'.cell? ⟨gb780, 1, none⟩ = some (.int .i64 t767) ∧ w'.cell? ⟨gb780, 2, none⟩ = some (.int .i64 t768) ∧ w'.cell? ⟨gb780, 3, none⟩ = some (.bool t769) ∧ w'.cell? ⟨gb780, 4, none⟩ = some (.slice Ao14 t770.length co14) ∧ w'.cell? ⟨gb780, 5, none⟩ = some (.slice Ao15 t773.length co15) ∧ w'.cell? ⟨gb780, 6, none⟩ = some (.int .i64 t776) ∧ w'.cell? ⟨gb780, 7, none⟩ = some (.int .i64 t777)) (ds := []) #[oo,oo,oo,oo,oo] (by kernel_rfl) rfl rfl (cz8 BK780.out) (fun hHeld => ?_)
 generalize w16.drew = w17 at HO772 HO775 BK760 BK761 BK780 HI765 HB hHeld ⊢
 refine pure_ (i := 1) (N := some 11) (v := ?_) (a' := ?_) #[oo,ii,oo,oo,oo] rfl rfl (by kernel_rfl) (fun _ _ _ h => h) (Or.inl ⟨by rfl, ?_⟩) ?_ ?_
 rotate_left
 ·
  intro w'
  go_simp
  with_reducible rfl
 rotate_left
 ·
  exact ap_
 refine take_ (i := 0) (N := some 10) (v := ?_) (a' := ?_) #[ii,ii,oo,oo,oo] rfl rfl (by kernel_rfl) (fun _ _ _ h => h) (Or.inl ⟨by rfl, ?_⟩) hHeld ?_ ?_
 rotate_left
 ·
  rintro w' ⟨s0, s1, s2, s3, s4, s5, s6, s7⟩
  go_simp
  with_reducible rfl
 rotate_left
 ·
  exact ap_
 refine one_ (i := 2) (N := some 12) #[ii,ii,ii,oo,oo] rfl rfl (by kernel_rfl) (by decide) (fun K hK => ?_)
 refine goes_ Try.func99 (by kernel_rfl) rfl #[.pointer (some ⟨g765, 0, none⟩)] (by rfl) rfl rfl la_ ?_
 with_reducible refine (spec_l6Any.calls k g765 t762 t778 t779 t781 t782 t783 t784 t785 w _ ?side1 ?side2 A4.out).mono ?_
 (case side1 => repeat (first | (with_reducible first | exact HI765.out | apply IsS128.alloc | apply IsS128.drewN | apply IsS128.drew | apply IsS128.set_1 | apply IsS128.set_2 | refine IsS128.far ?_ NB765_760.out _ | refine IsS128.far ?_ NB765_761.out _ | refine IsS128.far ?_ NB765_780.out _) | exact HI765.out))
 (case side2 => exact qB HB)
 rintro e w18 ⟨rfl, hi, hb, hk⟩
 refine ⟨_, rfl, ?_⟩
 replace BK760 := kB_ BK760 hk NB760_765
 replace BK761 := kB_ BK761 hk NB761_765
 replace HO772 := am_ (Kd.R_mono (Kd.R_keep (IsS128.apart (show IsS128 w _ g765 t762 t778 t779 from by repeat (first | (with_reducible first | exact HI765.out | apply IsS128.alloc | apply IsS128.drewN | apply IsS128.drew | apply IsS128.set_1 | apply IsS128.set_2 | refine IsS128.far ?_ NB765_760.out _ | refine IsS128.far ?_ NB765_761.out _ | refine IsS128.far ?_ NB765_780.out _) | exact HI765.out)) (qR HO772) (by decide)) hk (fun _ h => h.2)) (fun _ h => h.1))
 replace HO775 := am_ (Kd.R_mono (Kd.R_keep (IsS128.apart (show IsS128 w _ g765 t762 t778 t779 from by repeat (first | (with_reducible first | exact HI765.out | apply IsS128.alloc | apply IsS128.drewN | apply IsS128.drew | apply IsS128.set_1 | apply IsS128.set_2 | refine IsS128.far ?_ NB765_760.out _ | refine IsS128.far ?_ NB765_761.out _ | refine IsS128.far ?_ NB765_780.out _) | exact HI765.out)) (qR HO775) (by decide)) hk (fun _ h => h.2)) (fun _ h => h.1))
 replace BK780 := kB_ BK780 hk NB780_765
 replace HB := am_ (hb)
 replace HI765 := am_ (hi)
 (try clear hb hk hi)
 refine hK.out _ _ (cz8 BK780.out) (fun hHeld => ?_)
 clear hK K
 refine nm_ (some 12) ?_
 refine one_ (i := 3) (N := none) #[ii,ii,ii,ii,oo] rfl rfl (by kernel_rfl) (by decide) (fun K hK => ?_)
 have hs19 : w18.cell? ⟨gb760, 0, none⟩ = some (.int .i64 0) := (blk_cell BK760.out 0).trans rfl
 have hfs19 := blk_frozen BK760.out 0
 have hns19_1 := NB761_760.out
 have hns19_2 := NB780_760.out
 have hms19_1 := NB760_761.out
 have hms19_2 := NB760_780.out
 have hs20 : w18.cell? ⟨gb760, 1, none⟩ = some (.int .i64 0) := (blk_cell BK760.out 1).trans rfl
 have hfs20 := blk_frozen BK760.out 1
 have hns20_1 := NB761_760.out
 have hns20_2 := NB780_760.out
 have hms20_1 := NB760_761.out
 have hms20_2 := NB760_780.out
 have hs21 : w18.cell? ⟨gb760, 2, none⟩ = some (.int .i64 0) := (blk_cell BK760.out 2).trans rfl
 have hfs21 := blk_frozen BK760.out 2
 have hns21_1 := NB761_760.out
 have hns21_2 := NB780_760.out
 have hms21_1 := NB760_761.out
 have hms21_2 := NB760_780.out
 have hs22 : w18.cell? ⟨gb760, 3, none⟩ = some (.bool false) := (blk_cell BK760.out 3).trans rfl
 have hfs22 := blk_frozen BK760.out 3
 have hns22_1 := NB761_760.out
 have hns22_2 := NB780_760.out
 have hms22_1 := NB760_761.out
 have hms22_2 := NB760_780.out
 have hs23 : w18.cell? ⟨gb760, 4, none⟩ = some (.slice none 0 0) := (blk_cell BK760.out 4).trans rfl
 have hfs23 := blk_frozen BK760.out 4
 have hns23_1 := NB761_760.out
 have hns23_2 := NB780_760.out
 have hms23_1 := NB760_761.out
 have hms23_2 := NB760_780.out
 have hs24 : w18.cell? ⟨gb760, 5, none⟩ = some (.slice none 0 0) := (blk_cell BK760.out 5).trans rfl
 have hfs24 := blk_frozen BK760.out 5
 have hns24_1 := NB761_760.out
 have hns24_2 := NB780_760.out
 have hms24_1 := NB760_761.out
 have hms24_2 := NB760_780.out
 have hs25 : w18.cell? ⟨gb760, 6, none⟩ = some (.int .i64 0) := (blk_cell BK760.out 6).trans rfl
 have hfs25 := blk_frozen BK760.out 6
 have hns25_1 := NB761_760.out
 have hns25_2 := NB780_760.out
 have hms25_1 := NB760_761.out
 have hms25_2 := NB760_780.out
 have hs26 : w18.cell? ⟨gb760, 7, none⟩ = some (.int .i64 0) := (blk_cell BK760.out 7).trans rfl
 have hfs26 := blk_frozen BK760.out 7
 have hns26_1 := NB761_760.out
 have hns26_2 := NB780_760.out
 have hms26_1 := NB760_761.out
 have hms26_2 := NB760_780.out
 refine no_implicit_lambda% (skip_ (w1 := ?_) ?_ ?_ ?_ ?_)
 rotate_left
 · rfl
 · rfl
 ·
  go_simp
  rfl
 refine hK.out _ _ ⟨((cell_far (p := ⟨gb760, _, none⟩) NB780_760.out _).trans (((cell_far (p := ⟨gb760, _, none⟩) NB780_760.out _).trans (((cell_far (p := ⟨gb760, _, none⟩) NB780_760.out _).trans (((cell_far (p := ⟨gb760, _, none⟩) NB780_760.out _).trans (((cell_far (p := ⟨gb760, _, none⟩) NB780_760.out _).trans (((cell_far (p := ⟨gb760, _, none⟩) NB780_760.out _).trans (((cell_far (p := ⟨gb760, _, none⟩) NB780_760.out _).trans (((cell_far (p := ⟨gb760, _, none⟩) NB780_760.out _).trans (hHeld.1)))))))))))))))), ((cell_far (p := ⟨gb760, _, none⟩) NB780_760.out _).trans (((cell_far (p := ⟨gb760, _, none⟩) NB780_760.out _).trans (((cell_far (p := ⟨gb760, _, none⟩) NB780_760.out _).trans (((cell_far (p := ⟨gb760, _, none⟩) NB780_760.out _).trans (((cell_far (p := ⟨gb760, _, none⟩) NB780_760.out _).trans (((cell_far (p := ⟨gb760, _, none⟩) NB780_760.out _).trans (((cell_far (p := ⟨gb760, _, none⟩) NB780_760.out _).trans (((cell_far (p := ⟨gb760, _, none⟩) NB780_760.out _).trans (hHeld.2.1)))))))))))))))), ((cell_far (p := ⟨gb760, _, none⟩) NB780_760.out _).trans (((cell_far (p := ⟨gb760, _, none⟩) NB780_760.out _).trans (((cell_far (p := ⟨gb760, _, none⟩) NB780_760.out _).trans (((cell_far (p := ⟨gb760, _, none⟩) NB780_760.out _).trans (((cell_far (p := ⟨gb760, _, none⟩) NB780_760.out _).trans (((cell_far (p := ⟨gb760, _, none⟩) NB780_760.out _).trans (((cell_far (p := ⟨gb760, _, none⟩) NB780_760.out _).trans (((cell_far (p := ⟨gb760, _, none⟩) NB780_760.out _).trans (hHeld.2.2.1)))))))))))))))), ((cell_far (p := ⟨gb760, _, none⟩) NB780_760.out _).trans (((cell_far (p := ⟨gb760, _, none⟩) NB780_760.out _).trans (((cell_far (p := ⟨gb760, _, none⟩) NB780_760.out _).trans (((cell_far (p := ⟨gb760, _, none⟩) NB780_760.out _).trans (((cell_far (p := ⟨gb760, _, none⟩) NB780_760.out _).trans (((cell_far (p := ⟨gb760, _, none⟩) NB780_760.out _).trans (((cell_far (p := ⟨gb760, _, none⟩) NB780_760.out _).trans (((cell_far (p := ⟨gb760, _, none⟩) NB780_760.out _).trans (hHeld.2.2.2.1)))))))))))))))), ((cell_far (p := ⟨gb760, _, none⟩) NB780_760.out _).trans (((cell_far (p := ⟨gb760, _, none⟩) NB780_760.out _).trans (((cell_far (p := ⟨gb760, _, none⟩) NB780_760.out _).trans (((cell_far (p := ⟨gb760, _, none⟩) NB780_760.out _).trans (((cell_far (p := ⟨gb760, _, none⟩) NB780_760.out _).trans (((cell_far (p := ⟨gb760, _, none⟩) NB780_760.out _).trans (((cell_far (p := ⟨gb760, _, none⟩) NB780_760.out _).trans (((cell_far (p := ⟨gb760, _, none⟩) NB780_760.out _).trans (hHeld.2.2.2.2.1)))))))))))))))), ((cell_far (p := ⟨gb760, _, none⟩) NB780_760.out _).trans (((cell_far (p := ⟨gb760, _, none⟩) NB780_760.out _).trans (((cell_far (p := ⟨gb760, _, none⟩) NB780_760.out _).trans (((cell_far (p := ⟨gb760, _, none⟩) NB780_760.out _).trans (((cell_far (p := ⟨gb760, _, none⟩) NB780_760.out _).trans (((cell_far (p := ⟨gb760, _, none⟩) NB780_760.out _).trans (((cell_far (p := ⟨gb760, _, none⟩) NB780_760.out _).trans (((cell_far (p := ⟨gb760, _, none⟩) NB780_760.out _).trans (hHeld.2.2.2.2.2.1)))))))))))))))), ((cell_far (p := ⟨gb760, _, none⟩) NB780_760.out _).trans (((cell_far (p := ⟨gb760, _, none⟩) NB780_760.out _).trans (((cell_far (p := ⟨gb760, _, none⟩) NB780_760.out _).trans (((cell_far (p := ⟨gb760, _, none⟩) NB780_760.out _).trans (((cell_far (p := ⟨gb760, _, none⟩) NB780_760.out _).trans (((cell_far (p := ⟨gb760, _, none⟩) NB780_760.out _).trans (((cell_far (p := ⟨gb760, _, none⟩) NB780_760.out _).trans (((cell_far (p := ⟨gb760, _, none⟩) NB780_760.out _).trans (hHeld.2.2.2.2.2.2.1)))))))))))))))), ((cell_far (p := ⟨gb760, _, none⟩) NB780_760.out _).trans (((cell_far (p := ⟨gb760, _, none⟩) NB780_760.out _).trans (((cell_far (p := ⟨gb760, _, none⟩) NB780_760.out _).trans (((cell_far (p := ⟨gb760, _, none⟩) NB780_760.out _).trans (((cell_far (p := ⟨gb760, _, none⟩) NB780_760.out _).trans (((cell_far (p := ⟨gb760, _, none⟩) NB780_760.out _).trans (((cell_far (p := ⟨gb760, _, none⟩) NB780_760.out _).trans (((cell_far (p := ⟨gb760, _, none⟩) NB780_760.out _).trans (hHeld.2.2.2.2.2.2.2))))))))))))))))⟩ (fun hHeld => ?_)
 clear hK K
 refine one_ (i := 4) (N := none) #[ii,ii,ii,ii,ii] rfl rfl (by kernel_rfl) (by decide) (fun K hK => ?_)
 have hs27 : w18.cell? ⟨gb761, 0, none⟩ = some (.int .i64 0) := (blk_cell BK761.out 0).trans rfl
 have hfs27 := blk_frozen BK761.out 0
 have hns27_0 := NB760_761.out
 have hns27_2 := NB780_761.out
 have hms27_0 := NB761_760.out
 have hms27_2 := NB761_780.out
 have hs28 : w18.cell? ⟨gb761, 1, none⟩ = some (.string (⟨#[]⟩ : ByteArray)) := (blk_cell BK761.out 1).trans rfl
 have hfs28 := blk_frozen BK761.out 1
 have hns28_0 := NB760_761.out
 have hns28_2 := NB780_761.out
 have hms28_0 := NB761_760.out
 have hms28_2 := NB761_780.out
 have hs29 : w18.cell? ⟨gb761, 2, none⟩ = some (.int .i64 0) := (blk_cell BK761.out 2).trans rfl
 have hfs29 := blk_frozen BK761.out 2
 have hns29_0 := NB760_761.out
 have hns29_2 := NB780_761.out
 have hms29_0 := NB761_760.out
 have hms29_2 := NB761_780.out
 refine no_implicit_lambda% (skip_ (w1 := ?_) ?_ ?_ ?_ ?_)
 rotate_left
 · rfl
 · rfl
 ·
  go_simp
  rfl
 refine hK.out _ _ ⟨((cell_far (p := ⟨gb761, _, none⟩) NB780_761.out _).trans (((cell_far (p := ⟨gb761, _, none⟩) NB780_761.out _).trans (((cell_far (p := ⟨gb761, _, none⟩) NB780_761.out _).trans (hHeld.1)))))), ((cell_far (p := ⟨gb761, _, none⟩) NB780_761.out _).trans (((cell_far (p := ⟨gb761, _, none⟩) NB780_761.out _).trans (((cell_far (p := ⟨gb761, _, none⟩) NB780_761.out _).trans (hHeld.2.1)))))), ((cell_far (p := ⟨gb761, _, none⟩) NB780_761.out _).trans (((cell_far (p := ⟨gb761, _, none⟩) NB780_761.out _).trans (((cell_far (p := ⟨gb761, _, none⟩) NB780_761.out _).trans (hHeld.2.2.1)))))), ((cell_far (p := ⟨gb761, _, none⟩) NB780_761.out _).trans (((cell_far (p := ⟨gb761, _, none⟩) NB780_761.out _).trans (((cell_far (p := ⟨gb761, _, none⟩) NB780_761.out _).trans (hHeld.2.2.2.1)))))), ((cell_far (p := ⟨gb761, _, none⟩) NB780_761.out _).trans (((cell_far (p := ⟨gb761, _, none⟩) NB780_761.out _).trans (((cell_far (p := ⟨gb761, _, none⟩) NB780_761.out _).trans (hHeld.2.2.2.2.1)))))), ((cell_far (p := ⟨gb761, _, none⟩) NB780_761.out _).trans (((cell_far (p := ⟨gb761, _, none⟩) NB780_761.out _).trans (((cell_far (p := ⟨gb761, _, none⟩) NB780_761.out _).trans (hHeld.2.2.2.2.2.1)))))), ((cell_far (p := ⟨gb761, _, none⟩) NB780_761.out _).trans (((cell_far (p := ⟨gb761, _, none⟩) NB780_761.out _).trans (((cell_far (p := ⟨gb761, _, none⟩) NB780_761.out _).trans (hHeld.2.2.2.2.2.2.1)))))), ((cell_far (p := ⟨gb761, _, none⟩) NB780_761.out _).trans (((cell_far (p := ⟨gb761, _, none⟩) NB780_761.out _).trans (((cell_far (p := ⟨gb761, _, none⟩) NB780_761.out _).trans (hHeld.2.2.2.2.2.2.2))))))⟩ (fun hHeld => ?_)
 clear hK K
 refine done_ (by kernel_rfl) ?_
 try go_wp2
 refine bodyPost_ret (results_cc rfl _ _ gb760 gb761 41 49 #[.int .i64 t766, .int .i64 t767, .int .i64 t768, .bool t769, .slice Ao14 t770.length co14, .slice Ao15 t773.length co15, .int .i64 t776, .int .i64 t777] #[.int .i64 t781, .string t782, .int .i64 t783] (0, 0) (0, 0) _ _ rfl (by (with_reducible repeat (first | refine blk_drewN ?_ _ | refine blk_drew ?_ | refine blk_alloc ?_ _)); refine blk_far ?_ NB760_761.out _; (with_reducible repeat (first | refine blk_drewN ?_ _ | refine blk_drew ?_ | refine blk_alloc ?_ _)); refine blk_far ?_ NB760_761.out _; (with_reducible repeat (first | refine blk_drewN ?_ _ | refine blk_drew ?_ | refine blk_alloc ?_ _)); refine blk_far ?_ NB760_761.out _; (with_reducible repeat (first | refine blk_drewN ?_ _ | refine blk_drew ?_ | refine blk_alloc ?_ _)); refine blk_put (cs := #[.int .i64 t766, .int .i64 t767, .int .i64 t768, .bool t769, .slice Ao14 t770.length co14, .slice Ao15 t773.length co15, .int .i64 t776, .int .i64 0]) ?_ 7 _ rfl; (with_reducible repeat (first | refine blk_drewN ?_ _ | refine blk_drew ?_ | refine blk_alloc ?_ _)); refine blk_put (cs := #[.int .i64 t766, .int .i64 t767, .int .i64 t768, .bool t769, .slice Ao14 t770.length co14, .slice Ao15 t773.length co15, .int .i64 0, .int .i64 0]) ?_ 6 _ rfl; (with_reducible repeat (first | refine blk_drewN ?_ _ | refine blk_drew ?_ | refine blk_alloc ?_ _)); refine blk_put (cs := #[.int .i64 t766, .int .i64 t767, .int .i64 t768, .bool t769, .slice Ao14 t770.length co14, .slice none 0 0, .int .i64 0, .int .i64 0]) ?_ 5 _ rfl; (with_reducible repeat (first | refine blk_drewN ?_ _ | refine blk_drew ?_ | refine blk_alloc ?_ _)); refine blk_put (cs := #[.int .i64 t766, .int .i64 t767, .int .i64 t768, .bool t769, .slice none 0 0, .slice none 0 0, .int .i64 0, .int .i64 0]) ?_ 4 _ rfl; (with_reducible repeat (first | refine blk_drewN ?_ _ | refine blk_drew ?_ | refine blk_alloc ?_ _)); refine blk_put (cs := #[.int .i64 t766, .int .i64 t767, .int .i64 t768, .bool false, .slice none 0 0, .slice none 0 0, .int .i64 0, .int .i64 0]) ?_ 3 _ rfl; (with_reducible repeat (first | refine blk_drewN ?_ _ | refine blk_drew ?_ | refine blk_alloc ?_ _)); refine blk_put (cs := #[.int .i64 t766, .int .i64 t767, .int .i64 0, .bool false, .slice none 0 0, .slice none 0 0, .int .i64 0, .int .i64 0]) ?_ 2 _ rfl; (with_reducible repeat (first | refine blk_drewN ?_ _ | refine blk_drew ?_ | refine blk_alloc ?_ _)); refine blk_put (cs := #[.int .i64 t766, .int .i64 0, .int .i64 0, .bool false, .slice none 0 0, .slice none 0 0, .int .i64 0, .int .i64 0]) ?_ 1 _ rfl; (with_reducible repeat (first | refine blk_drewN ?_ _ | refine blk_drew ?_ | refine blk_alloc ?_ _)); refine blk_put (cs := #[.int .i64 0, .int .i64 0, .int .i64 0, .bool false, .slice none 0 0, .slice none 0 0, .int .i64 0, .int .i64 0]) ?_ 0 _ rfl; exact qK BK760) Try.underlying41 rfl (by kernel_rfl) rfl (by exact blk_all3 (blk_far1 (blk_far1 (blk_far1 (blk_far1 (blk_far1 (blk_far1 (blk_far1 (blk_far1 (qK BK761) NB761_760.out) NB761_760.out) NB761_760.out) NB761_760.out) NB761_760.out) NB761_760.out) NB761_760.out) NB761_760.out)) Try.underlying49 rfl (by kernel_rfl)) rfl ?_
 exact ⟨_, _, er_, by (with_reducible repeat (first | apply Kd.R_alloc | apply Kd.R_drewN | apply Kd.R_drew)); exact Kd.R_mono (R_far3 (g := gb761) (R_far8 (g := gb760) (Kd.R_types (Kd.R_types HO772.out BK760.out (by decide)) BK761.out (by decide)) (fun _ hk => hk.1.2)) (fun _ hk => hk.2)) (fun _ hk => hk.1.1), by (with_reducible repeat (first | apply Kd.R_alloc | apply Kd.R_drewN | apply Kd.R_drew)); exact Kd.R_mono (R_far3 (g := gb761) (R_far8 (g := gb760) (Kd.R_types (Kd.R_types HO775.out BK760.out (by decide)) BK761.out (by decide)) (fun _ hk => hk.1.2)) (fun _ hk => hk.2)) (fun _ hk => hk.1.1), qB HB⟩

end Go.Proofs.Ytiffahfpfgnjnaa.PFnSocks
