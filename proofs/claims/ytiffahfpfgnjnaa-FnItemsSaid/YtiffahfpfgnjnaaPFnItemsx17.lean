-- Written by a program of this session (myprint.py, over the kit's print): contracts of FnItems
import Derived.Test.YtiffahfpfgnjnaaPFnItemsx0
import Derived.Test.YtiffahfpfgnjnaaPFnItemsx4
import Derived.Test.YtiffahfpfgnjnaaPFnItemsx5
import Derived.Test.YtiffahfpfgnjnaaPFnItemsx16
namespace Go.Proofs.Ytiffahfpfgnjnaa.PFnItems
open Go.RowKit Go.Proofs.YtiffahfpfgnjnaaW.PrintWords Go.Proofs.YtiffahfpfgnjnaaW.PrintLast Go.Proofs.YtiffahfpfgnjnaaW.PrintMore Go.Proofs.YtiffahfpfgnjnaaV
attribute [local go_sem] max2_int min2_int max_two min_two max_three min_three max_four min_four   -- for this text's walks alone
set_option linter.unusedVariables false
set_option linter.unusedSimpArgs false

/-! ### spec_l1Bend: function 74 -/
def spec_l1Bend.f (s0_0 : List Int) (s0_1 : Int) (s0_2 : Int) (l1 : List Int) : Option (List Int × Int × Int) := (some (([] : List Int) : List Int)).bind fun y683 => (if y683.length + l1.length < 140737488355328 then ((some (y683 ++ l1 : List Int)).bind fun y686 => ((spec_l1Below.f s0_0 s0_1 s0_2 8).bind fun bt689 => (if bt689.1 = 0 then (if (y686.length : Int) > 0 then ((spec_l1Below.f s0_0 bt689.2.1 bt689.2.2 (y686.length : Int)).bind fun bt692 => (if 0 ≤ bt692.1 then (if bt692.1 < (y686.length : Int) then ((spec_l1Below.f s0_0 bt692.2.1 bt692.2.2 255).bind fun bt696 => (some ((y686.set (bt692.1 : Int).toNat (Go.bits .xor .u8 (rd y686 bt692.1) ((wrap64 (1 + bt696.1)) % 256))), bt696.2.1, bt696.2.2))) else (none)) else (none))) else (some (y686, bt689.2.1, bt689.2.2))) else (if bt689.1 = 1 then (if (y686.length : Int) > 0 then ((spec_l1Below.f s0_0 bt689.2.1 bt689.2.2 (y686.length : Int)).bind fun bt700 => (if 0 ≤ bt700.1 then (if bt700.1 ≤ (y686.length : Int) then (some ((y686.take (bt700.1 : Int).toNat), bt700.2.1, bt700.2.2)) else (none)) else (none))) else (some (y686, bt689.2.1, bt689.2.2))) else (if bt689.1 = 2 then ((spec_l1Byte.f s0_0 bt689.2.1 bt689.2.2).bind fun bt706 => (if y686.length < 140737488355328 then (some ((y686 ++ [(bt706.1) % 256]), bt706.2.1, bt706.2.2)) else (none))) else (some (y686, bt689.2.1, bt689.2.2))))))) else (none))
def spec_l1Bend.T6 : Bool × List (List Nat × List Nat) := (true, [([], []), ([], []), ([], []), ([], []), ([2, 3], [2, 3]), ([4], [4]), ([], []), ([6], [6]), ([7], [7]), ([8], [8]), ([5, 9], [5, 9]), ([0, 1, 0, 1, 2, 3, 4, 5, 6, 7, 8, 9, 10], [0, 1]), ([11, 10, 7, 0, 1, 2, 3, 4, 5, 6, 7, 8, 9, 10], [10, 11])])
def spec_l1Bend.B6 : List Nat := [0, 0, 0, 0, 12, 28, 0, 64, 192, 448, 1020, 2047, 4095]
theorem spec_l1Bend.tab6 : rtab .any (opsOf Try.f74 6) = spec_l1Bend.T6 := by kernel_rfl
theorem spec_l1Bend.bits6 : waitsOk spec_l1Bend.T6.2 spec_l1Bend.B6 = true := by kernel_rfl
set_option maxHeartbeats 8000000 in
set_option maxRecDepth 100000 in
theorem spec_l1Bend.calls (g : Nat) (s0_0 : List Int) (s0_1 : Int) (s0_2 : Int) (A1 : Option Addr) (c1 : Nat) (l1 : List Int) (r1 : List Int) (r2 : Int) (r3 : Int) (w0 w : World) (hI : IsS128 w0 w g s0_0 s0_1 s0_2) (hB : Below w0.heap.size w0 w) (hr1 : Kd.C (Kd.int .u8) w A1 l1.length l1) (hc1 : l1.length ≤ c1) (hf1 : ∀ ad, A1 = some ad → 0 < l1.length → ad.block ≠ g) (h : spec_l1Bend.f s0_0 s0_1 s0_2 l1 = some (r1, r2, r3)) :
  Calls Try.prog 74 #[.pointer (some ⟨g, 0, none⟩), .slice A1 l1.length c1] w fun e w' => ∃ v0_ : Value, e = .returned (v0_) ∧ Kd.R (Kd.int .u8) 5 w' w.heap.size (fun _ => True) v0_ r1 ∧ IsS128 w0 w' g s0_0 r2 r3 ∧ Below w0.heap.size w0 w' ∧ KeepBut w w' g none := by
 have HR1 := Aside0.mk hr1
 have HC1 := Aside0.mk hc1
 clear hr1 hc1
 have HI0 := Aside0.mk hI
 have IGHI0 := iG_ HI0.out.ge
 have HK := Aside0.mk (KeepBut.refl w g none)
 have HL := Aside0.mk hB.size
 clear hI
 have HW0 := Aside0.mk hB.size
 have HB := Aside0.mk hB
 clear hB
 have H := h
 unfold spec_l1Bend.f at H
 clear h
 obtain ⟨y683, hy683⟩ : ∃ y_ : List Int, y_ = (([] : List Int)) := ⟨_, rfl⟩
 replace H := mk_ H hy683
 (try dsimp only at H)
 have Ny683 := Aside0.mk hy683
 clear hy683
 by_cases c3 : y683.length + l1.length < 140737488355328
 case neg => exact nn_ c3 H
 rw [if_pos c3] at H
 have LMc3 := Aside0.mk c3
 clear c3
 obtain ⟨y686, hy686⟩ : ∃ y_ : List Int, y_ = (y683 ++ l1) := ⟨_, rfl⟩
 replace H := mk_ H hy686
 (try dsimp only at H)
 have Ny686 := Aside0.mk hy686
 clear hy686
 replace H := bf_ H
 obtain ⟨f_, hf_, ⟨t689, t690, t691⟩, A4, H⟩ := H
 subst hf_
 (try dsimp only at H)
 by_cases c5 : t689 = 0
 rotate_left
 ·
  rw [if_neg c5] at H
  have c5b0 : (t689 == 0) = false := beq_eq_false_iff_ne.mpr c5
  have c5b1 : (t689 != 0) = true := bne_iff_ne.mpr c5
  by_cases c26 : t689 = 1
  rotate_left
  ·
   rw [if_neg c26] at H
   have c26b0 : (t689 == 1) = false := beq_eq_false_iff_ne.mpr c26
   have c26b1 : (t689 != 1) = true := bne_iff_ne.mpr c26
   by_cases c43 : t689 = 2
   rotate_left
   ·
    rw [if_neg c43] at H
    have c43b0 : (t689 == 2) = false := beq_eq_false_iff_ne.mpr c43
    have c43b1 : (t689 != 2) = true := bne_iff_ne.mpr c43
    simp only [Option.some.injEq, Prod.mk.injEq] at H
    obtain ⟨rfl, rfl, rfl⟩ := H
    go_enter Try.func74, Try.ntmps74
    go_wp2_with (first | ((with_reducible refine gate_dst (N := 7) rfl ?_); refine Kd.R_lit (Kd.int .u8) _ 5 ?hg (N := 7) ?hd (xs := ([] : List Int)) (inner := []) (ok := fun _ => True) (okp := fun _ => True) ?hr ?hp (fun _ hk => hk) trivial (Below.refl _ _) (Nat.le_refl _) (by simp) ?_; (case hd => rfl); (case hg => rfl); (case hr => first | (go_simp; done) | (go_simp; rfl)); (case hp => exact (Reps.none _ _)); intro v684 w52 ho53 hb hg_ hnew_; clear hg_ hnew_; (first | rw [← Ny683.out] at ho53 | (simp only [Int.reduceToNat] at ho53; rw [← Ny683.out] at ho53)); have HO685 := am_ (Kd.R_lower ho53 (keep_size (w := w) (g := g) (row := none) (qP HK))); replace HK := kL_ HK hb; replace HB := bS_ HB hb; replace HI0 := am_ (IsS128.below (IsS128.q HI0) hb); clear hb ho53) | ((with_reducible refine gate_builtin (b := .append) (xs := #[.tmp 7, .tmp 8]) rfl ?_); at_builtin; refine Kd.R_append_rows (Kd.int .u8) w.heap.size rfl (.tmp 7) (.tmp 8) 22 5 (.int .u8 0) 1 rfl Try.underlying22 info5 rfl (by decide) (by omega) v684 y683 l1 _ _ _ (fun _ => True) (fun _ => False) rfl rfl ?aO ?aR (fun _ _ h => h) (fun _ h => h.elim) ?aF (Below.refl _ _) ?aS ?aL ?_; (case aR => exact Kd.C_keep 0 HR1.out (qP HK) hf1); (case aF => exact (fun _ _ => trivial)); (case aO => exact (qR HO685)); (case aS => exact (keep_size (w := w) (g := g) (row := none) (qP HK))); (case aL => have := LMc3.out; omega); intro v687 w54 ho hb hg hat; rw [← Ny686.out] at ho; replace HB := am_ (below_weaken (qB HB) HL.out hb); replace HI0 := am_ (IsS128.grown (IsS128.q HI0) hg (IsS128.own_ne HI0.out HO685.out (by decide))); replace HK := am_ (KeepBut.trans (qP HK) (KeepBut.of_grown hg g) (Kd.R_base2 HO685.out)); have HO688 := am_ (ho); clear HO685; clear ho hb hg hat) | ((with_reducible refine gate_callee (f := 61) rfl ?_); refine goesL_ (some 11) rfl rfl Try.func61 (by kernel_rfl) rfl #[.pointer (some ⟨g, 0, none⟩), .int .i64 8] rfl la_ ?_; (with_reducible refine (spec_l1Below.calls g s0_0 s0_1 s0_2 8 t689 t690 t691 w0 _ ?side1 ?side2 A4.out).mono ?_); (case side1 => exact IsS128.q HI0); (case side2 => exact qB HB); rintro e w55 ⟨rfl, hi, hb, hk⟩; refine ⟨_, rfl, ?_⟩; replace HO688 := am_ (Kd.R_mono (Kd.R_keep (IsS128.apart (show IsS128 w0 _ g s0_0 s0_1 s0_2 from IsS128.q HI0) (qR HO688) (by decide)) hk (fun _ h => h.2)) (fun _ h => h.1)); replace HK := kT_ HK hk; replace HB := am_ (hb); replace HI0 := am_ (hi); (try clear hb); (try clear hk); (try clear hi)))
    go_ret
    exact ⟨_, er_, qR HO688, IsS128.q HI0, qB HB, qP HK⟩
   rw [if_pos c43] at H
   have c43b0 : (t689 == 2) = true := beq_iff_eq.mpr c43
   have c43b1 : (t689 != 2) = false := bne_eq_false_iff_eq.mpr c43
   clear c43
   replace H := bf_ H
   obtain ⟨f_, hf_, ⟨t706, t707, t708⟩, A44, H⟩ := H
   subst hf_
   (try dsimp only at H)
   by_cases c45 : y686.length < 140737488355328
   case neg => exact nn_ c45 H
   rw [if_pos c45] at H
   have LMc45 := Aside0.mk c45
   clear c45
   obtain ⟨y709, hy709⟩ : ∃ y_ : List Int, y_ = (y686 ++ [(t706) % 256]) := ⟨_, rfl⟩
   rw [← hy709] at H
   have Ny709 := Aside0.mk hy709
   clear hy709
   simp only [Option.some.injEq, Prod.mk.injEq] at H
   obtain ⟨rfl, rfl, rfl⟩ := H
   go_enter Try.func74, Try.ntmps74
   go_wp2_with (first | ((with_reducible refine gate_dst (N := 7) rfl ?_); refine Kd.R_lit (Kd.int .u8) _ 5 ?hg (N := 7) ?hd (xs := ([] : List Int)) (inner := []) (ok := fun _ => True) (okp := fun _ => True) ?hr ?hp (fun _ hk => hk) trivial (Below.refl _ _) (Nat.le_refl _) (by simp) ?_; (case hd => rfl); (case hg => rfl); (case hr => first | (go_simp; done) | (go_simp; rfl)); (case hp => exact (Reps.none _ _)); intro v684 w46 ho47 hb hg_ hnew_; clear hg_ hnew_; (first | rw [← Ny683.out] at ho47 | (simp only [Int.reduceToNat] at ho47; rw [← Ny683.out] at ho47)); have HO685 := am_ (Kd.R_lower ho47 (keep_size (w := w) (g := g) (row := none) (qP HK))); replace HK := kL_ HK hb; replace HB := bS_ HB hb; replace HI0 := am_ (IsS128.below (IsS128.q HI0) hb); clear hb ho47) | ((with_reducible refine gate_builtin (b := .append) (xs := #[.tmp 7, .tmp 8]) rfl ?_); at_builtin; refine Kd.R_append_rows (Kd.int .u8) w.heap.size rfl (.tmp 7) (.tmp 8) 22 5 (.int .u8 0) 1 rfl Try.underlying22 info5 rfl (by decide) (by omega) v684 y683 l1 _ _ _ (fun _ => True) (fun _ => False) rfl rfl ?aO ?aR (fun _ _ h => h) (fun _ h => h.elim) ?aF (Below.refl _ _) ?aS ?aL ?_; (case aR => exact Kd.C_keep 0 HR1.out (qP HK) hf1); (case aF => exact (fun _ _ => trivial)); (case aO => exact (qR HO685)); (case aS => exact (keep_size (w := w) (g := g) (row := none) (qP HK))); (case aL => have := LMc3.out; omega); intro v687 w48 ho hb hg hat; rw [← Ny686.out] at ho; replace HB := am_ (below_weaken (qB HB) HL.out hb); replace HI0 := am_ (IsS128.grown (IsS128.q HI0) hg (IsS128.own_ne HI0.out HO685.out (by decide))); replace HK := am_ (KeepBut.trans (qP HK) (KeepBut.of_grown hg g) (Kd.R_base2 HO685.out)); have HO688 := am_ (ho); clear HO685; clear ho hb hg hat) | ((with_reducible refine gate_callee (f := 61) rfl ?_); refine goesL_ (some 11) rfl rfl Try.func61 (by kernel_rfl) rfl #[.pointer (some ⟨g, 0, none⟩), .int .i64 8] rfl la_ ?_; (with_reducible refine (spec_l1Below.calls g s0_0 s0_1 s0_2 8 t689 t690 t691 w0 _ ?side1 ?side2 A4.out).mono ?_); (case side1 => exact IsS128.q HI0); (case side2 => exact qB HB); rintro e w49 ⟨rfl, hi, hb, hk⟩; refine ⟨_, rfl, ?_⟩; replace HO688 := am_ (Kd.R_mono (Kd.R_keep (IsS128.apart (show IsS128 w0 _ g s0_0 s0_1 s0_2 from IsS128.q HI0) (qR HO688) (by decide)) hk (fun _ h => h.2)) (fun _ h => h.1)); replace HK := kT_ HK hk; replace HB := am_ (hb); replace HI0 := am_ (hi); (try clear hb); (try clear hk); (try clear hi)) | ((with_reducible refine gate_callee (f := 115) rfl ?_); refine goesL_ (some 48) rfl rfl Try.func115 (by kernel_rfl) rfl #[.pointer (some ⟨g, 0, none⟩)] rfl la_ ?_; (with_reducible refine (spec_l1Byte.calls g s0_0 t690 t691 t706 t707 t708 w0 _ ?side1 ?side2 A44.out).mono ?_); (case side1 => exact IsS128.q HI0); (case side2 => exact qB HB); rintro e w50 ⟨rfl, hi, hb, hk⟩; refine ⟨_, rfl, ?_⟩; replace HO688 := am_ (Kd.R_mono (Kd.R_keep (IsS128.apart (show IsS128 w0 _ g s0_0 t690 t691 from IsS128.q HI0) (qR HO688) (by decide)) hk (fun _ h => h.2)) (fun _ h => h.1)); replace HK := kT_ HK hk; replace HB := am_ (hb); replace HI0 := am_ (hi); (try clear hb); (try clear hk); (try clear hi)) | ((with_reducible refine gate_builtin (b := .append) (xs := #[.tmp 46, .tmp 50]) rfl ?_); at_builtin; refine Kd.R_append (Kd.int .u8) w.heap.size rfl (.tmp 46) (.tmp 50) 22 5 (.int .u8 0) 1 rfl Try.underlying22 info5 rfl (by decide) (by omega) v687 y686 ((t706) % 256) [.int .u8 ((t706) % 256)] (fun _ => True) (fun _ => False) rfl rfl ?aP (fun _ hk => hk.elim) ?aF ?aO (Below.refl _ _) ?aS ?aL ?_; (case aP => exact rfl); (case aF => exact (fun _ _ => trivial)); (case aO => exact (qR HO688)); (case aS => exact (keep_size (w := w) (g := g) (row := none) (qP HK))); (case aL => have := LMc45.out; omega); intro v710 w51 ho hb hg hat; rw [← Ny709.out] at ho; replace HB := am_ (below_weaken (qB HB) HL.out hb); replace HI0 := am_ (IsS128.grown (IsS128.q HI0) hg (IsS128.own_ne HI0.out HO688.out (by decide))); replace HK := am_ (KeepBut.trans (qP HK) (KeepBut.of_grown hg g) (Kd.R_base2 HO688.out)); have HO711 := am_ (ho); clear HO688; clear ho hb hg hat))
   go_ret
   exact ⟨_, er_, qR HO711, IsS128.q HI0, qB HB, qP HK⟩
  rw [if_pos c26] at H
  have c26b0 : (t689 == 1) = true := beq_iff_eq.mpr c26
  have c26b1 : (t689 != 1) = false := bne_eq_false_iff_eq.mpr c26
  clear c26
  by_cases c27 : (y686.length : Int) > 0
  rotate_left
  ·
   rw [if_neg c27] at H
   have c27b0 : decide (0 < (y686.length : Int)) = false := decide_eq_false c27
   have c27b1 : decide (0 < y686.length) = false := decide_eq_false (by omega)
   clear c27
   simp only [Option.some.injEq, Prod.mk.injEq] at H
   obtain ⟨rfl, rfl, rfl⟩ := H
   go_enter Try.func74, Try.ntmps74
   go_wp2_with (first | ((with_reducible refine gate_dst (N := 7) rfl ?_); refine Kd.R_lit (Kd.int .u8) _ 5 ?hg (N := 7) ?hd (xs := ([] : List Int)) (inner := []) (ok := fun _ => True) (okp := fun _ => True) ?hr ?hp (fun _ hk => hk) trivial (Below.refl _ _) (Nat.le_refl _) (by simp) ?_; (case hd => rfl); (case hg => rfl); (case hr => first | (go_simp; done) | (go_simp; rfl)); (case hp => exact (Reps.none _ _)); intro v684 w38 ho39 hb hg_ hnew_; clear hg_ hnew_; (first | rw [← Ny683.out] at ho39 | (simp only [Int.reduceToNat] at ho39; rw [← Ny683.out] at ho39)); have HO685 := am_ (Kd.R_lower ho39 (keep_size (w := w) (g := g) (row := none) (qP HK))); replace HK := kL_ HK hb; replace HB := bS_ HB hb; replace HI0 := am_ (IsS128.below (IsS128.q HI0) hb); clear hb ho39) | ((with_reducible refine gate_builtin (b := .append) (xs := #[.tmp 7, .tmp 8]) rfl ?_); at_builtin; refine Kd.R_append_rows (Kd.int .u8) w.heap.size rfl (.tmp 7) (.tmp 8) 22 5 (.int .u8 0) 1 rfl Try.underlying22 info5 rfl (by decide) (by omega) v684 y683 l1 _ _ _ (fun _ => True) (fun _ => False) rfl rfl ?aO ?aR (fun _ _ h => h) (fun _ h => h.elim) ?aF (Below.refl _ _) ?aS ?aL ?_; (case aR => exact Kd.C_keep 0 HR1.out (qP HK) hf1); (case aF => exact (fun _ _ => trivial)); (case aO => exact (qR HO685)); (case aS => exact (keep_size (w := w) (g := g) (row := none) (qP HK))); (case aL => have := LMc3.out; omega); intro v687 w40 ho hb hg hat; rw [← Ny686.out] at ho; replace HB := am_ (below_weaken (qB HB) HL.out hb); replace HI0 := am_ (IsS128.grown (IsS128.q HI0) hg (IsS128.own_ne HI0.out HO685.out (by decide))); replace HK := am_ (KeepBut.trans (qP HK) (KeepBut.of_grown hg g) (Kd.R_base2 HO685.out)); have HO688 := am_ (ho); clear HO685; clear ho hb hg hat) | ((with_reducible refine gate_callee (f := 61) rfl ?_); refine goesL_ (some 11) rfl rfl Try.func61 (by kernel_rfl) rfl #[.pointer (some ⟨g, 0, none⟩), .int .i64 8] rfl la_ ?_; (with_reducible refine (spec_l1Below.calls g s0_0 s0_1 s0_2 8 t689 t690 t691 w0 _ ?side1 ?side2 A4.out).mono ?_); (case side1 => exact IsS128.q HI0); (case side2 => exact qB HB); rintro e w41 ⟨rfl, hi, hb, hk⟩; refine ⟨_, rfl, ?_⟩; replace HO688 := am_ (Kd.R_mono (Kd.R_keep (IsS128.apart (show IsS128 w0 _ g s0_0 s0_1 s0_2 from IsS128.q HI0) (qR HO688) (by decide)) hk (fun _ h => h.2)) (fun _ h => h.1)); replace HK := kT_ HK hk; replace HB := am_ (hb); replace HI0 := am_ (hi); (try clear hb); (try clear hk); (try clear hi); obtain ⟨Ao42, co42, eo42⟩ := Kd.R_slice HO688.out; subst eo42))
   go_ret
   exact ⟨_, er_, qR HO688, IsS128.q HI0, qB HB, qP HK⟩
  rw [if_pos c27] at H
  have c27b0 : decide (0 < (y686.length : Int)) = true := decide_eq_true c27
  have c27b1 : decide (0 < y686.length) = true := decide_eq_true (by omega)
  clear c27
  replace H := bf_ H
  obtain ⟨f_, hf_, ⟨t700, t701, t702⟩, A28, H⟩ := H
  subst hf_
  (try dsimp only at H)
  by_cases c29 : 0 ≤ t700
  case neg => exact nn_ c29 H
  rw [if_pos c29] at H
  have c29b0 := eq_true c29
  have c29b1 : decide (0 ≤ t700) = true := decide_eq_true c29
  clear c29
  by_cases c30 : t700 ≤ (y686.length : Int)
  case neg => exact nn_ c30 H
  rw [if_pos c30] at H
  have c30b0 := eq_true c30
  have c30b1 : decide (t700 ≤ (y686.length : Int)) = true := decide_eq_true c30
  clear c30
  obtain ⟨y703, hy703⟩ : ∃ y_ : List Int, y_ = (y686.take (t700 : Int).toNat) := ⟨_, rfl⟩
  rw [← hy703] at H
  have Ny703 := Aside0.mk hy703
  clear hy703
  simp only [Option.some.injEq, Prod.mk.injEq] at H
  obtain ⟨rfl, rfl, rfl⟩ := H
  go_enter Try.func74, Try.ntmps74
  go_wp2_with (first | ((with_reducible refine gate_dst (N := 7) rfl ?_); refine Kd.R_lit (Kd.int .u8) _ 5 ?hg (N := 7) ?hd (xs := ([] : List Int)) (inner := []) (ok := fun _ => True) (okp := fun _ => True) ?hr ?hp (fun _ hk => hk) trivial (Below.refl _ _) (Nat.le_refl _) (by simp) ?_; (case hd => rfl); (case hg => rfl); (case hr => first | (go_simp; done) | (go_simp; rfl)); (case hp => exact (Reps.none _ _)); intro v684 w31 ho32 hb hg_ hnew_; clear hg_ hnew_; (first | rw [← Ny683.out] at ho32 | (simp only [Int.reduceToNat] at ho32; rw [← Ny683.out] at ho32)); have HO685 := am_ (Kd.R_lower ho32 (keep_size (w := w) (g := g) (row := none) (qP HK))); replace HK := kL_ HK hb; replace HB := bS_ HB hb; replace HI0 := am_ (IsS128.below (IsS128.q HI0) hb); clear hb ho32) | ((with_reducible refine gate_builtin (b := .append) (xs := #[.tmp 7, .tmp 8]) rfl ?_); at_builtin; refine Kd.R_append_rows (Kd.int .u8) w.heap.size rfl (.tmp 7) (.tmp 8) 22 5 (.int .u8 0) 1 rfl Try.underlying22 info5 rfl (by decide) (by omega) v684 y683 l1 _ _ _ (fun _ => True) (fun _ => False) rfl rfl ?aO ?aR (fun _ _ h => h) (fun _ h => h.elim) ?aF (Below.refl _ _) ?aS ?aL ?_; (case aR => exact Kd.C_keep 0 HR1.out (qP HK) hf1); (case aF => exact (fun _ _ => trivial)); (case aO => exact (qR HO685)); (case aS => exact (keep_size (w := w) (g := g) (row := none) (qP HK))); (case aL => have := LMc3.out; omega); intro v687 w33 ho hb hg hat; rw [← Ny686.out] at ho; replace HB := am_ (below_weaken (qB HB) HL.out hb); replace HI0 := am_ (IsS128.grown (IsS128.q HI0) hg (IsS128.own_ne HI0.out HO685.out (by decide))); replace HK := am_ (KeepBut.trans (qP HK) (KeepBut.of_grown hg g) (Kd.R_base2 HO685.out)); have HO688 := am_ (ho); clear HO685; clear ho hb hg hat) | ((with_reducible refine gate_callee (f := 61) rfl ?_); refine goesL_ (some 11) rfl rfl Try.func61 (by kernel_rfl) rfl #[.pointer (some ⟨g, 0, none⟩), .int .i64 8] rfl la_ ?_; (with_reducible refine (spec_l1Below.calls g s0_0 s0_1 s0_2 8 t689 t690 t691 w0 _ ?side1 ?side2 A4.out).mono ?_); (case side1 => exact IsS128.q HI0); (case side2 => exact qB HB); rintro e w34 ⟨rfl, hi, hb, hk⟩; refine ⟨_, rfl, ?_⟩; replace HO688 := am_ (Kd.R_mono (Kd.R_keep (IsS128.apart (show IsS128 w0 _ g s0_0 s0_1 s0_2 from IsS128.q HI0) (qR HO688) (by decide)) hk (fun _ h => h.2)) (fun _ h => h.1)); replace HK := kT_ HK hk; replace HB := am_ (hb); replace HI0 := am_ (hi); (try clear hb); (try clear hk); (try clear hi); obtain ⟨Ao35, co35, eo35⟩ := Kd.R_slice HO688.out; subst eo35) | ((with_reducible refine gate_callee (f := 61) rfl ?_); refine goesL_ (some 42) rfl rfl Try.func61 (by kernel_rfl) rfl #[.pointer (some ⟨g, 0, none⟩), .int .i64 (y686.length : Int)] rfl la_ ?_; (with_reducible refine (spec_l1Below.calls g s0_0 t690 t691 (y686.length : Int) t700 t701 t702 w0 _ ?side1 ?side2 A28.out).mono ?_); (case side1 => exact IsS128.q HI0); (case side2 => exact qB HB); rintro e w36 ⟨rfl, hi, hb, hk⟩; refine ⟨_, rfl, ?_⟩; replace HO688 := am_ (Kd.R_mono (Kd.R_keep (IsS128.apart (show IsS128 w0 _ g s0_0 t690 t691 from IsS128.q HI0) (qR HO688) (by decide)) hk (fun _ h => h.2)) (fun _ h => h.1)); replace HK := kT_ HK hk; replace HB := am_ (hb); replace HI0 := am_ (hi); (try clear hb); (try clear hk); (try clear hi); have q37 : (t700 : Int) ≤ ((y686.length : Int) : Int) := od_; obtain ⟨i037, hi037, _, hsz37, _⟩ := info_parts info5; have hcut37 := cut_to (P := Try.prog) 22 5 .i64 Try.underlying22 hi037 Ao35 y686.length co35 t700 od_ q37 (Kd.R_reads' HO688.out).2.1; have hr37 := Kd.R_take (m := (t700 : Int).toNat) HO688.out (by omega); have hy37 : y703.length = (t700 : Int).toNat := (by rw [Ny703.out, List.length_take]; omega); rw [← Ny703.out] at hr37; rw [← hy37] at hr37 hcut37; clear hy37 hi037 hsz37 HO688; have HO705 := Aside0.mk hr37; clear hr37; replace q37 := eq_true q37))
  go_ret
  exact ⟨_, er_, qR HO705, IsS128.q HI0, qB HB, qP HK⟩
 rw [if_pos c5] at H
 have c5b0 : (t689 == 0) = true := beq_iff_eq.mpr c5
 have c5b1 : (t689 != 0) = false := bne_eq_false_iff_eq.mpr c5
 clear c5
 by_cases c6 : (y686.length : Int) > 0
 rotate_left
 ·
  rw [if_neg c6] at H
  have c6b0 : decide (0 < (y686.length : Int)) = false := decide_eq_false c6
  have c6b1 : decide (0 < y686.length) = false := decide_eq_false (by omega)
  clear c6
  simp only [Option.some.injEq, Prod.mk.injEq] at H
  obtain ⟨rfl, rfl, rfl⟩ := H
  go_enter Try.func74, Try.ntmps74
  go_wp2_with (first | ((with_reducible refine gate_dst (N := 7) rfl ?_); refine Kd.R_lit (Kd.int .u8) _ 5 ?hg (N := 7) ?hd (xs := ([] : List Int)) (inner := []) (ok := fun _ => True) (okp := fun _ => True) ?hr ?hp (fun _ hk => hk) trivial (Below.refl _ _) (Nat.le_refl _) (by simp) ?_; (case hd => rfl); (case hg => rfl); (case hr => first | (go_simp; done) | (go_simp; rfl)); (case hp => exact (Reps.none _ _)); intro v684 w21 ho22 hb hg_ hnew_; clear hg_ hnew_; (first | rw [← Ny683.out] at ho22 | (simp only [Int.reduceToNat] at ho22; rw [← Ny683.out] at ho22)); have HO685 := am_ (Kd.R_lower ho22 (keep_size (w := w) (g := g) (row := none) (qP HK))); replace HK := kL_ HK hb; replace HB := bS_ HB hb; replace HI0 := am_ (IsS128.below (IsS128.q HI0) hb); clear hb ho22) | ((with_reducible refine gate_builtin (b := .append) (xs := #[.tmp 7, .tmp 8]) rfl ?_); at_builtin; refine Kd.R_append_rows (Kd.int .u8) w.heap.size rfl (.tmp 7) (.tmp 8) 22 5 (.int .u8 0) 1 rfl Try.underlying22 info5 rfl (by decide) (by omega) v684 y683 l1 _ _ _ (fun _ => True) (fun _ => False) rfl rfl ?aO ?aR (fun _ _ h => h) (fun _ h => h.elim) ?aF (Below.refl _ _) ?aS ?aL ?_; (case aR => exact Kd.C_keep 0 HR1.out (qP HK) hf1); (case aF => exact (fun _ _ => trivial)); (case aO => exact (qR HO685)); (case aS => exact (keep_size (w := w) (g := g) (row := none) (qP HK))); (case aL => have := LMc3.out; omega); intro v687 w23 ho hb hg hat; rw [← Ny686.out] at ho; replace HB := am_ (below_weaken (qB HB) HL.out hb); replace HI0 := am_ (IsS128.grown (IsS128.q HI0) hg (IsS128.own_ne HI0.out HO685.out (by decide))); replace HK := am_ (KeepBut.trans (qP HK) (KeepBut.of_grown hg g) (Kd.R_base2 HO685.out)); have HO688 := am_ (ho); clear HO685; clear ho hb hg hat) | ((with_reducible refine gate_callee (f := 61) rfl ?_); refine goesL_ (some 11) rfl rfl Try.func61 (by kernel_rfl) rfl #[.pointer (some ⟨g, 0, none⟩), .int .i64 8] rfl la_ ?_; (with_reducible refine (spec_l1Below.calls g s0_0 s0_1 s0_2 8 t689 t690 t691 w0 _ ?side1 ?side2 A4.out).mono ?_); (case side1 => exact IsS128.q HI0); (case side2 => exact qB HB); rintro e w24 ⟨rfl, hi, hb, hk⟩; refine ⟨_, rfl, ?_⟩; replace HO688 := am_ (Kd.R_mono (Kd.R_keep (IsS128.apart (show IsS128 w0 _ g s0_0 s0_1 s0_2 from IsS128.q HI0) (qR HO688) (by decide)) hk (fun _ h => h.2)) (fun _ h => h.1)); replace HK := kT_ HK hk; replace HB := am_ (hb); replace HI0 := am_ (hi); (try clear hb); (try clear hk); (try clear hi); obtain ⟨Ao25, co25, eo25⟩ := Kd.R_slice HO688.out; subst eo25))
  go_ret
  exact ⟨_, er_, qR HO688, IsS128.q HI0, qB HB, qP HK⟩
 rw [if_pos c6] at H
 have c6b0 : decide (0 < (y686.length : Int)) = true := decide_eq_true c6
 have c6b1 : decide (0 < y686.length) = true := decide_eq_true (by omega)
 clear c6
 replace H := bf_ H
 obtain ⟨f_, hf_, ⟨t692, t693, t694⟩, A7, H⟩ := H
 subst hf_
 (try dsimp only at H)
 by_cases c8 : 0 ≤ t692
 case neg => exact nn_ c8 H
 rw [if_pos c8] at H
 have c8b0 : decide (0 ≤ t692) = true := decide_eq_true c8
 clear c8
 by_cases c9 : t692 < (y686.length : Int)
 case neg => exact nn_ c9 H
 rw [if_pos c9] at H
 have c9b0 : decide (t692 < (y686.length : Int)) = true := decide_eq_true c9
 clear c9
 replace H := bf_ H
 obtain ⟨f_, hf_, ⟨t696, t697, t698⟩, A10, H⟩ := H
 subst hf_
 (try dsimp only at H)
 obtain ⟨y699, hy699⟩ : ∃ y_ : List Int, y_ = (y686.set (t692 : Int).toNat (Go.bits .xor .u8 (rd y686 t692) ((wrap64 (1 + t696)) % 256))) := ⟨_, rfl⟩
 rw [← hy699] at H
 have Ny699 := Aside0.mk hy699
 clear hy699
 simp only [Option.some.injEq, Prod.mk.injEq] at H
 obtain ⟨rfl, rfl, rfl⟩ := H
 go_enter Try.func74, Try.ntmps74
 try go_wp2_with (first | ((with_reducible refine gate_dst (N := 7) rfl ?_); refine Kd.R_lit (Kd.int .u8) _ 5 ?hg (N := 7) ?hd (xs := ([] : List Int)) (inner := []) (ok := fun _ => True) (okp := fun _ => True) ?hr ?hp (fun _ hk => hk) trivial (Below.refl _ _) (Nat.le_refl _) (by simp) ?_; (case hd => rfl); (case hg => rfl); (case hr => first | (go_simp; done) | (go_simp; rfl)); (case hp => exact (Reps.none _ _)); intro v684 w12 ho13 hb hg_ hnew_; clear hg_ hnew_; (first | rw [← Ny683.out] at ho13 | (simp only [Int.reduceToNat] at ho13; rw [← Ny683.out] at ho13)); have HO685 := am_ (Kd.R_lower ho13 (keep_size (w := w) (g := g) (row := none) (qP HK))); replace HK := kL_ HK hb; replace HB := bS_ HB hb; replace HI0 := am_ (IsS128.below (IsS128.q HI0) hb); clear hb ho13) | ((with_reducible refine gate_builtin (b := .append) (xs := #[.tmp 7, .tmp 8]) rfl ?_); at_builtin; refine Kd.R_append_rows (Kd.int .u8) w.heap.size rfl (.tmp 7) (.tmp 8) 22 5 (.int .u8 0) 1 rfl Try.underlying22 info5 rfl (by decide) (by omega) v684 y683 l1 _ _ _ (fun _ => True) (fun _ => False) rfl rfl ?aO ?aR (fun _ _ h => h) (fun _ h => h.elim) ?aF (Below.refl _ _) ?aS ?aL ?_; (case aR => exact Kd.C_keep 0 HR1.out (qP HK) hf1); (case aF => exact (fun _ _ => trivial)); (case aO => exact (qR HO685)); (case aS => exact (keep_size (w := w) (g := g) (row := none) (qP HK))); (case aL => have := LMc3.out; omega); intro v687 w14 ho hb hg hat; rw [← Ny686.out] at ho; replace HB := am_ (below_weaken (qB HB) HL.out hb); replace HI0 := am_ (IsS128.grown (IsS128.q HI0) hg (IsS128.own_ne HI0.out HO685.out (by decide))); replace HK := am_ (KeepBut.trans (qP HK) (KeepBut.of_grown hg g) (Kd.R_base2 HO685.out)); have HO688 := am_ (ho); clear HO685; clear ho hb hg hat) | ((with_reducible refine gate_callee (f := 61) rfl ?_); refine goesL_ (some 11) rfl rfl Try.func61 (by kernel_rfl) rfl #[.pointer (some ⟨g, 0, none⟩), .int .i64 8] rfl la_ ?_; (with_reducible refine (spec_l1Below.calls g s0_0 s0_1 s0_2 8 t689 t690 t691 w0 _ ?side1 ?side2 A4.out).mono ?_); (case side1 => exact IsS128.q HI0); (case side2 => exact qB HB); rintro e w15 ⟨rfl, hi, hb, hk⟩; refine ⟨_, rfl, ?_⟩; replace HO688 := am_ (Kd.R_mono (Kd.R_keep (IsS128.apart (show IsS128 w0 _ g s0_0 s0_1 s0_2 from IsS128.q HI0) (qR HO688) (by decide)) hk (fun _ h => h.2)) (fun _ h => h.1)); replace HK := kT_ HK hk; replace HB := am_ (hb); replace HI0 := am_ (hi); (try clear hb); (try clear hk); (try clear hi); obtain ⟨Ao16, co16, eo16⟩ := Kd.R_slice HO688.out; subst eo16) | ((with_reducible refine gate_callee (f := 61) rfl ?_); refine goesL_ (some 20) rfl rfl Try.func61 (by kernel_rfl) rfl #[.pointer (some ⟨g, 0, none⟩), .int .i64 (y686.length : Int)] rfl la_ ?_; (with_reducible refine (spec_l1Below.calls g s0_0 t690 t691 (y686.length : Int) t692 t693 t694 w0 _ ?side1 ?side2 A7.out).mono ?_); (case side1 => exact IsS128.q HI0); (case side2 => exact qB HB); rintro e w17 ⟨rfl, hi, hb, hk⟩; refine ⟨_, rfl, ?_⟩; replace HO688 := am_ (Kd.R_mono (Kd.R_keep (IsS128.apart (show IsS128 w0 _ g s0_0 t690 t691 from IsS128.q HI0) (qR HO688) (by decide)) hk (fun _ h => h.2)) (fun _ h => h.1)); replace HK := kT_ HK hk; replace HB := am_ (hb); replace HI0 := am_ (hi); (try clear hb); (try clear hk); (try clear hi)))
 replace HO688 := am_ (Kd.R_drew HO688.out)
 replace HI0 := am_ (IsS128.drew HI0.out)
 replace HK := am_ (keep_drew HK.out)
 replace HB := am_ (below_drew1 HB.out)
 have p695 : 0 ≤ (t692 : Int) := od_
 have q695 : t692 < (y686.length : Int) := od_
 obtain ⟨ad695, e695, hx695_0⟩ := Kd.at_int (Kd.R_reads' HO688.out).2.2 t692 p695 q695
 cases e695
 replace p695 := eq_true p695
 replace q695 := eq_true q695
 refine start_ (n := 13) (S := fun w' => w'.cell? (ad695.add (t692).toNat) = some (.int .u8 (rd y686 t692))) (ds := [12]) (rl [0,13]) (by kernel_rfl) rfl rfl (hx695_0) (fun hHeld => ?_); refine with_tabW spec_l1Bend.tab6 spec_l1Bend.bits6 (fun HT_ HW_ => ?_)
 generalize w17.drew = w18 at HO688 HI0 HK HB hx695_0 hHeld ⊢
 refine pz_ (i := 0) (N := some 21) HT_ (rl [1,12]) rfl rfl ?_
 refine pz_ (i := 1) (N := some 22) HT_ (rl [2,11]) rfl rfl ?_
 refine pz_ (i := 2) (N := some 23) HT_ (rl [3,10]) rfl rfl ?_
 refine pz_ (i := 3) (N := some 24) HT_ (rl [4,9]) rfl rfl ?_
 refine pz_ (i := 4) (N := some 25) HT_ (rl [5,8]) rfl rfl ?_
 refine pz_ (i := 6) (N := some 27) HT_ (rl [5,1,1,6]) rfl rfl ?_
 refine tz_ (i := 5) (N := some 26) HT_ HW_ (rl [7,6]) rfl rfl hHeld ?_
 refine one_ (i := 7) (N := some 28) (rl [8,5]) rfl rfl (one_of HT_.out (by kernel_rfl)) (by decide) (fun K hK => ?_)
 refine goes_ Try.func61 (by kernel_rfl) rfl #[.pointer (some ⟨g, 0, none⟩), .int .i64 255] (by rfl) rfl rfl la_ ?_
 with_reducible refine (spec_l1Below.calls g s0_0 t693 t694 255 t696 t697 t698 w0 _ ?side1 ?side2 A10.out).mono ?_
 (case side1 => exact IsS128.q HI0)
 (case side2 => exact qB HB)
 rintro e w19 ⟨rfl, hi, hb, hk⟩
 have HS0_ := keep_cell hk (hHeld) (by first | (rw [add_block]; exact Kd.own_blk (IsS128.own_ne HI0.out HO688.out (by decide))) | (show (Addr.add _ _).block ≠ _; rw [add_block]; exact Kd.own_blk (IsS128.own_ne HI0.out HO688.out (by decide))) | exact Kd.own_blk (IsS128.own_ne HI0.out HO688.out (by decide)))
 refine ⟨_, rfl, ?_⟩
 replace HO688 := am_ (Kd.R_mono (Kd.R_keep (IsS128.apart (show IsS128 w0 _ g s0_0 t693 t694 from IsS128.q HI0) (qR HO688) (by decide)) hk (fun _ h => h.2)) (fun _ h => h.1))
 replace HK := kT_ HK hk
 replace HB := am_ (hb)
 replace HI0 := am_ (hi)
 (try clear hb hk hi)
 have p11 : 0 ≤ (t692 : Int) := od_
 have q11 : (t692 : Int) < ((y686.length : Int) : Int) := od_
 obtain ⟨go11, co11, eo11, gb11, gl11, cl11, HG11⟩ := Kd.R_form HO688.out (by omega)
 (first | cases eo11 | (injection eo11 with ea_ en_ ec_; (first | subst ea_ | (injection ea_ with ea_; subst ea_)); subst ec_; clear en_))
 have GB11 := Aside0.mk gb11
 have GG11 := Aside0.mk HG11
 clear gb11 gl11 HG11
 (first | simp only [add_plain] at hx695_0 | skip)
 obtain ⟨hx11_0, hf11_0⟩ := Kd.R_celln 0 HO688.out (t692 : Int) p11 q11
 replace p11 := eq_true p11
 replace q11 := eq_true q11
 have HN0_go11 := Aside0.mk (show g ≠ go11 from by have h_ := IsS128.own_ne HI0.out HO688.out (by decide); intro e_; exact h_ (by rw [e_]; rfl))
 have HP20 := Kd.R_putn HO688.out (t692 : Int) (Go.bits .xor .u8 (rd y686 t692) ((wrap64 (1 + t696)) % 256))
 rw [← Ny699.out] at HP20
 have HQ20 := Aside0.mk HP20
 clear HP20
 refine hK.out _ _ (HS0_) (fun hHeld => ?_)
 clear hK K
 refine norm_ (a' := ?_) ?_ ?_
 rotate_left
 ·
  show Act.put _ (some 28) _ = _
  exact ap_
 refine pz_ (i := 8) (N := some 29) HT_ (rl [9,4]) rfl rfl ?_
 refine pz_ (i := 9) (N := some 30) HT_ (rl [10,3]) rfl rfl ?_
 refine pz_ (i := 10) (N := some 31) HT_ (rl [11,2]) rfl rfl ?_
 refine pz_ (i := 11) (N := some 32) HT_ (rl [12,1]) rfl rfl ?_
 refine last_ (i := 12) (N := none) (rl [13]) rfl rfl (one_of HT_.out (by kernel_rfl)) (by decide) (fun K hK => ?_)
 refine skip_ (w1 := ?_) (by rfl) rfl ?_ ?_
 rotate_left
 ·
  go_simp
  rfl
 refine hK.out _ _ ?_
 clear hK K
 refine done_ (done_of HT_.out (by kernel_rfl)) ?_
 try go_wp2
 go_ret
 exact ⟨_, er_, by (with_reducible repeat (first | apply Kd.R_alloc | apply Kd.R_drewN | apply Kd.R_drew)); exact HQ20.out, by repeat (first | (with_reducible first | exact HI0.out | apply IsS128.alloc | apply IsS128.drewN | apply IsS128.drew | apply IsS128.set_1 | apply IsS128.set_2 | refine IsS128.far ?_ HN0_go11.out _) | exact HI0.out), by repeat (first | (with_reducible first | exact HB.out | apply below_alloc | apply pw_below_drewN | apply below_drew1 | refine below_set ?_ (Nat.le_trans HL.out GB11.out) | refine below_set ?_ (IsS128.ge HI0.out)) | exact HB.out), by repeat (first | (with_reducible first | exact HK.out | apply KeepBut.set_ | apply keep_drewN | apply keep_drew | apply keep_alloc | refine keep_far ?_ GB11.out _) | exact HK.out)⟩

/-! ### spec_DrawGetItem: function 11 -/
def spec_DrawGetItem.f (k : Nat) (l0 : List Int) : Option (List Int) := (spec_l1New.f k l0).bind fun bt712 => ((spec_l9Item.f k bt712.1 bt712.2.1 bt712.2.2).bind fun bt716 => ((spec_PutItem.f k bt716.1 bt716.2.1 bt716.2.2.1 bt716.2.2.2.1 bt716.2.2.2.2.1 bt716.2.2.2.2.2.1 bt716.2.2.2.2.2.2.1 bt716.2.2.2.2.2.2.2.1 bt716.2.2.2.2.2.2.2.2.1 bt716.2.2.2.2.2.2.2.2.2.1 bt716.2.2.2.2.2.2.2.2.2.2.1 bt716.2.2.2.2.2.2.2.2.2.2.2.1 bt716.2.2.2.2.2.2.2.2.2.2.2.2.1 bt716.2.2.2.2.2.2.2.2.2.2.2.2.2.1 bt716.2.2.2.2.2.2.2.2.2.2.2.2.2.2.1 bt716.2.2.2.2.2.2.2.2.2.2.2.2.2.2.2.1).bind fun t734 => ((spec_l1Bend.f bt712.1 bt716.2.2.2.2.2.2.2.2.2.2.2.2.2.2.2.2.1 bt716.2.2.2.2.2.2.2.2.2.2.2.2.2.2.2.2.2 t734).bind fun bt737 => (some bt737.1))))
theorem spec_DrawGetItem.mono : ∀ a0 k, LeO (spec_DrawGetItem.f k a0) (spec_DrawGetItem.f (k + 1) a0) := by
 intro a0 k
 unfold spec_DrawGetItem.f
 repeat' first
   | (with_reducible exact spec_PutItem.mono _ _ _ _ _ _ _ _ _ _ _ _ _ _ _ _ _)
   | (with_reducible exact spec_l1New.mono _ _)
   | (with_reducible exact spec_l9Item.mono _ _ _ _)
   | (with_reducible exact LeO.refl _)
   | (with_reducible exact LeO.none _)
   | (with_reducible refine LeO.ite ?_ ?_)
   | (with_reducible refine LeO.bind ?_ (fun _ => ?_))
set_option maxHeartbeats 8000000 in
set_option maxRecDepth 100000 in
theorem spec_DrawGetItem.calls (k : Nat) (A0 : Option Addr) (c0 : Nat) (l0 : List Int) (r : List Int) (w : World) (hr0 : Kd.C (Kd.int .u8) w A0 l0.length l0) (hc0 : l0.length ≤ c0) (h : spec_DrawGetItem.f k l0 = some r) :
  Calls Try.prog 11 #[.slice A0 l0.length c0] w fun e w' => ∃ v0_ : Value, e = .returned (v0_) ∧ Kd.R (Kd.int .u8) 5 w' w.heap.size (fun _ => True) v0_ r ∧ Below w.heap.size w w' := by
 have HR0 := Aside0.mk hr0
 have HC0 := Aside0.mk hc0
 clear hr0 hc0
 have HB := Aside0.mk (Below.refl w.heap.size w)
 have H := h
 unfold spec_DrawGetItem.f at H
 clear h
 replace H := bf_ H
 obtain ⟨f_, hf_, ⟨t712, t713, t714⟩, A2, H⟩ := H
 subst hf_
 (try dsimp only at H)
 replace H := bf_ H
 obtain ⟨f_, hf_, ⟨t716, t717, t718, t719, t720, t721, t722, t723, t724, t725, t726, t727, t728, t729, t730, t731, t732, t733⟩, A3, H⟩ := H
 subst hf_
 (try dsimp only at H)
 replace H := bd_ H
 obtain ⟨t734, A4, H⟩ := H
 replace H := bf_ H
 obtain ⟨f_, hf_, ⟨t737, t740, t741⟩, A5, H⟩ := H
 subst hf_
 (try dsimp only at H)
 obtain rfl := Option.some.inj H
 go_enter Try.func11, Try.ntmps11
 go_wp2_with (first | ((with_reducible refine gate_callee (f := 59) rfl ?_); refine goesL_ (some 5) rfl rfl Try.func59 (by kernel_rfl) rfl #[.slice A0 l0.length c0] rfl la_ ?_; (with_reducible refine (spec_l1New.calls k _ _ l0 t712 t713 t714 w _ ?side1 ?side2 ?side3 A2.out).mono ?_); (case side1 => repeat (first | (with_reducible first | exact HB.out | apply below_alloc | apply pw_below_drewN | apply below_drew1) | exact HB.out)); (case side2 => exact HR0.out); (case side3 => exact HC0.out); rintro e w6 ⟨g715, rfl, hi, hb, hb2⟩; refine ⟨_, rfl, ?_⟩; replace HB := am_ (hb); have HI715 := am_ (hi); (try clear hb); (try clear hb2); (try clear hi)) | ((with_reducible refine gate_callee (f := 60) rfl ?_); refine goesL_ (some 8) rfl rfl Try.func60 (by kernel_rfl) rfl #[.pointer (some ⟨g715, 0, none⟩)] rfl la_ ?_; (with_reducible refine (spec_l9Item.calls k g715 t712 t713 t714 t716 t717 t718 t719 t720 t721 t722 t723 t724 t725 t726 t727 t728 t729 t730 t731 t732 t733 w _ ?side1 ?side2 A3.out).mono ?_); (case side1 => repeat (first | (with_reducible first | exact HI715.out | apply IsS128.alloc | apply IsS128.drewN | apply IsS128.drew | apply IsS128.set_1 | apply IsS128.set_2) | exact HI715.out)); (case side2 => repeat (first | (with_reducible first | exact HB.out | apply below_alloc | apply pw_below_drewN | apply below_drew1 | refine below_set ?_ (IsS128.ge HI715.out)) | exact HB.out)); rintro e w7 ⟨rfl, hi, hb, hk⟩; refine ⟨_, rfl, ?_⟩; replace HB := am_ (hb); replace HI715 := am_ (hi); (try clear hb); (try clear hk); (try clear hi)) | ((with_reducible refine gate_callee (f := 20) rfl ?_); refine goesL_ (some 9) rfl rfl Try.func20 (by kernel_rfl) rfl #[.agg #[.int .i64 t716, .int .i64 t717, .string t718, .int .i64 t719, .int .i64 t720, .int .i64 t721, .string t722, .int .i64 t723, .int .i64 t724, .int .i64 t725, .string t726, .int .i64 t727, .int .i64 t728, .int .i64 t729, .int .i64 t730, .int .i64 t731]] rfl la_ ?_; (with_reducible refine (spec_PutItem.calls k t716 t717 t718 t719 t720 t721 t722 t723 t724 t725 t726 t727 t728 t729 t730 t731 t734 _ A4.out).mono ?_); rintro e w8 ⟨v735, rfl, ho0, hb⟩; refine ⟨_, rfl, ?_⟩; have HO736 := am_ (Kd.R_lower ho0 (below_size (by repeat (first | (with_reducible first | exact HB.out | apply below_alloc | apply pw_below_drewN | apply below_drew1 | refine below_set ?_ (IsS128.ge HI715.out)) | exact HB.out)))); replace HB := am_ (below_step (by repeat (first | (with_reducible first | exact HB.out | apply below_alloc | apply pw_below_drewN | apply below_drew1 | refine below_set ?_ (IsS128.ge HI715.out)) | exact HB.out)) hb); replace HI715 := am_ (IsS128.below (by repeat (first | (with_reducible first | exact HI715.out | apply IsS128.alloc | apply IsS128.drewN | apply IsS128.drew | apply IsS128.set_1 | apply IsS128.set_2) | exact HI715.out)) hb); (try clear hb); (try clear ho0); obtain ⟨Ao9, co9, eo9⟩ := Kd.R_slice HO736.out; subst eo9) | ((with_reducible refine gate_callee (f := 74) rfl ?_); refine goesL_ (some 10) rfl rfl Try.func74 (by kernel_rfl) rfl #[.pointer (some ⟨g715, 0, none⟩), .slice Ao9 t734.length co9] rfl la_ ?_; (with_reducible refine (spec_l1Bend.calls g715 t712 t732 t733 _ _ t734 t737 t740 t741 w _ ?side1 ?side2 ?side3 ?side4 ?side5 A5.out).mono ?_); (case side1 => repeat (first | (with_reducible first | exact HI715.out | apply IsS128.alloc | apply IsS128.drewN | apply IsS128.drew | apply IsS128.set_1 | apply IsS128.set_2) | exact HI715.out)); (case side2 => repeat (first | (with_reducible first | exact HB.out | apply below_alloc | apply pw_below_drewN | apply below_drew1 | refine below_set ?_ (IsS128.ge HI715.out)) | exact HB.out)); (case side3 => exact qC ((Kd.R_reads' HO736.out).2.2)); (case side4 => exact (Kd.R_reads' HO736.out).2.1); (case side5 => exact far_slice (IsS128.own_ne HI715.out HO736.out (by decide))); rintro e w10 ⟨v738, rfl, ho0, hi, hb, hk⟩; refine ⟨_, rfl, ?_⟩; have HO739 := am_ (Kd.R_lower (Kd.R_new' ho0 (Kd.R_lt (qR HO736))) (below_size (by repeat (first | (with_reducible first | exact HB.out | apply below_alloc | apply pw_below_drewN | apply below_drew1 | refine below_set ?_ (IsS128.ge HI715.out)) | exact HB.out)))); replace HO736 := am_ (Kd.R_mono (Kd.R_told (Kd.R_oldK (IsS128.apart (show IsS128 w _ g715 t712 t732 t733 from by repeat (first | (with_reducible first | exact HI715.out | apply IsS128.alloc | apply IsS128.drewN | apply IsS128.drew | apply IsS128.set_1 | apply IsS128.set_2) | exact HI715.out)) (qR HO736) (by decide)) hk) (Kd.R_base ho0)) (fun _ h_ => h_.1)); replace HB := am_ (hb); replace HI715 := am_ (hi); (try clear hb); (try clear hk); (try clear hi); (try clear ho0)))
 go_ret
 exact ⟨_, by first | rfl | (simp [errW_none, errW_some] <;> rfl) | (simp [*, errW_none, errW_some] <;> rfl), by (with_reducible repeat (first | apply Kd.R_alloc | apply Kd.R_drewN | apply Kd.R_drew)); exact Kd.R_mono HO739.out (fun _ hk => trivial), by repeat (first | (with_reducible first | exact HB.out | apply below_alloc | apply pw_below_drewN | apply below_drew1 | refine below_set ?_ (IsS128.ge HI715.out)) | exact HB.out)⟩

/-- A state of type 106 at block g of W; what its slices lead to came in by w0. -/
def IsS106 (w0 W : World) (g : Nat) (f0 : List Int) (f1 : Int) (f2 : Bool) : Prop := ∃ A0 c0, W.heap[g]? = some (.cells #[.slice A0 f0.length c0, .int .i64 f1, .bool f2] 106 (0, 0)) ∧ w0.heap.size ≤ g ∧ (Kd.C (Kd.int .u8) w0 A0 f0.length f0 ∧ f0.length ≤ c0)
theorem IsS106.grown {w0 W : World} {g : Nat} {f0 : List Int} {f1 : Int} {f2 : Bool} {W1 : World} {row : Option Nat} (h : IsS106 w0 W g f0 f1 f2) (hw : W.grownBy W1 row) (hne : some g ≠ row) : IsS106 w0 W1 g f0 f1 f2 := by
 obtain ⟨A0, c0, hb, hg, hr0⟩ := h
 exact ⟨A0, c0, blk_grown hb hw hne, hg, hr0⟩
theorem IsS106.own_neN {w0 W : World} {g : Nat} {f0 : List Int} {f1 : Int} {f2 : Bool} {α : Type} {d : Kd α} {e : Nat} {base : Nat} {ok : Nat → Prop} {v : Value} {xs : List α} (h : IsS106 w0 W g f0 f1 f2) (ho : Kd.N d e W base ok v xs) (ht : e ≠ 106) : some g ≠ v.ownBlock := by
 obtain ⟨A0, c0, hb, hg, hr0⟩ := h
 exact Kd.N_ne ho hb ht
theorem IsS106.fresh {w0 W : World} {g : Nat} {f0 : List Int} {f1 : Int} {f2 : Bool} (h : IsS106 w0 W g f0 f1 f2) : ∀ k, W.heap.size ≤ k → k ≠ g := by
 obtain ⟨A0, c0, hb, hg, hr0⟩ := h
 exact Kd.freshB hb
theorem IsS106.kept {w0 W : World} {g : Nat} {f0 : List Int} {f1 : Int} {f2 : Bool} {W1 : World} {S : Nat → Prop} (h : IsS106 w0 W g f0 f1 f2) (hk : Kept W W1 S) (hne : ¬ S g) : IsS106 w0 W1 g f0 f1 f2 := by
 obtain ⟨A0, c0, hb, hg, hr0⟩ := h
 exact ⟨A0, c0, blk_kept hb hk hne, hg, hr0⟩
theorem IsS106.below {w0 W : World} {g : Nat} {f0 : List Int} {f1 : Int} {f2 : Bool} {W1 : World} (h : IsS106 w0 W g f0 f1 f2) (hw : Below W.heap.size W W1) : IsS106 w0 W1 g f0 f1 f2 := h.grown (grown_of_below hw none) (by simp)
theorem IsS106.alloc {w0 W : World} {g : Nat} {f0 : List Int} {f1 : Int} {f2 : Bool} (h : IsS106 w0 W g f0 f1 f2) (o : Obj) : IsS106 w0 (W.alloc o) g f0 f1 f2 := h.below (below_alloc (Below.refl _ _) o)
theorem IsS106.lt_ {w0 W : World} {g : Nat} {f0 : List Int} {f1 : Int} {f2 : Bool} (h : IsS106 w0 W g f0 f1 f2) : g < W.heap.size := by
  unfold IsS106 at h
  refine Nat.lt_of_not_le fun hn => ?_
  rw [Array.getElem?_eq_none hn] at h
  simp at h
theorem IsS106.q {w0 W : World} {g : Nat} {f0 : List Int} {f1 : Int} {f2 : Bool} {W1 : World} (h : Aside0 (IsS106 w0 W g f0 f1 f2)) [s : Sti g W W1] : IsS106 w0 W1 g f0 f1 f2 := by
  have e := (s.out h.out.lt_).2
  have h := h.out
  unfold IsS106 at h ⊢
  rw [e]
  exact h
theorem IsS106.s_ {w0 W : World} {g : Nat} {f0 : List Int} {f1 : Int} {f2 : Bool} {W1 w' : World} {g' j : Nat} {cs : List Value} (hw : w' = W1.setCells g' j cs) (h : Aside0 (IsS106 w0 W g f0 f1 f2)) (hn : Aside0 (g ≠ g')) [s : Sti g W W1] : Aside0 (IsS106 w0 w' g f0 f1 f2) := by
  have := nI_ hn
  exact ⟨hw ▸ IsS106.q h⟩
theorem IsS106.drewN {w0 W : World} {g : Nat} {f0 : List Int} {f1 : Int} {f2 : Bool} (h : IsS106 w0 W g f0 f1 f2) (m : Nat) : IsS106 w0 (W.drewN m) g f0 f1 f2 := h
theorem IsS106.drew {w0 W : World} {g : Nat} {f0 : List Int} {f1 : Int} {f2 : Bool} (h : IsS106 w0 W g f0 f1 f2) : IsS106 w0 W.drew g f0 f1 f2 := h
theorem IsS106.at_ {w0 W : World} {g : Nat} {f0 : List Int} {f1 : Int} {f2 : Bool} {w' : World} {m : Nat} (hq : W.drewN m = w') (h : IsS106 w0 W g f0 f1 f2) : IsS106 w0 w' g f0 f1 f2 := by subst hq; exact IsS106.drewN h m
theorem IsS106.apart {w0 W : World} {g : Nat} {f0 : List Int} {f1 : Int} {f2 : Bool} {α : Type} {d : Kd α} {e : Nat} {base : Nat} {ok : Nat → Prop} {v : Value} {xs : List α} (h : IsS106 w0 W g f0 f1 f2) (ho : d.R e W base ok v xs) (ht : ∀ q, q ∈ e :: d.E → q ≠ 106) : d.R e W base (fun k => ok k ∧ k ≠ g) v xs := by
 obtain ⟨A0, c0, hb, hg, hr0⟩ := h
 exact Kd.R_types ho hb ht
theorem IsS106.own_ne {w0 W : World} {g : Nat} {f0 : List Int} {f1 : Int} {f2 : Bool} {α : Type} {d : Kd α} {e : Nat} {base : Nat} {ok : Nat → Prop} {v : Value} {xs : List α} (h : IsS106 w0 W g f0 f1 f2) (ho : d.R e W base ok v xs) (ht : e ≠ 106) : some g ≠ v.ownBlock := by
 obtain ⟨A0, c0, hb, hg, hr0⟩ := h
 exact Kd.R_ne ho hb ht
theorem IsS106.apartQ {w0 W : World} {g : Nat} {f0 : List Int} {f1 : Int} {f2 : Bool} {α : Type} {d : Kd α} {e : Nat} {base : Nat} {ok : Nat → Prop} {v : Value} {xs : List α} (h : IsS106 w0 W g f0 f1 f2) (ho : d.Q e W base ok v xs) (ht : ∀ q, q ∈ e :: d.E → q ≠ 106) : d.Q e W base (fun k => ok k ∧ k ≠ g) v xs := by
 obtain ⟨A0, c0, hb, hg, hr0⟩ := h
 exact Kd.Q_types ho hb ht
theorem IsS106.own_neQ {w0 W : World} {g : Nat} {f0 : List Int} {f1 : Int} {f2 : Bool} {α : Type} {d : Kd α} {e : Nat} {base : Nat} {ok : Nat → Prop} {v : Value} {xs : List α} (h : IsS106 w0 W g f0 f1 f2) (ho : d.Q e W base ok v xs) (ht : e ≠ 106) : some g ≠ v.ownBlock := by
 obtain ⟨A0, c0, hb, hg, hr0⟩ := h
 exact Kd.Q_ne ho hb ht
theorem IsS106.apartS {w0 W : World} {g : Nat} {f0 : List Int} {f1 : Int} {f2 : Bool} {α : Type} {d : Kd α} {e : Nat} {base : Nat} {ok : Nat → Prop} {v : Value} {xs : List α} (h : IsS106 w0 W g f0 f1 f2) (ho : d.S e W base ok v xs) (ht : ∀ q, q ∈ e :: d.E → q ≠ 106) : d.S e W base (fun k => ok k ∧ k ≠ g) v xs := by
 obtain ⟨A0, c0, hb, hg, hr0⟩ := h
 exact Kd.S_types ho hb ht
theorem IsS106.own_neS {w0 W : World} {g : Nat} {f0 : List Int} {f1 : Int} {f2 : Bool} {α : Type} {d : Kd α} {e : Nat} {base : Nat} {ok : Nat → Prop} {v : Value} {xs : List α} (h : IsS106 w0 W g f0 f1 f2) (ho : d.S e W base ok v xs) (ht : e ≠ 106) : some g ≠ v.ownBlock := by
 obtain ⟨A0, c0, hb, hg, hr0⟩ := h
 exact Kd.S_ne ho hb ht
theorem IsS106.lt {w0 W : World} {g : Nat} {f0 : List Int} {f1 : Int} {f2 : Bool} (h : IsS106 w0 W g f0 f1 f2) : g < W.heap.size := by
 obtain ⟨A0, c0, hb, hg, hr0⟩ := h
 exact blk_lt hb
theorem IsS106.ge {w0 W : World} {g : Nat} {f0 : List Int} {f1 : Int} {f2 : Bool} (h : IsS106 w0 W g f0 f1 f2) : w0.heap.size ≤ g := by
 obtain ⟨A0, c0, hb, hg, hr0⟩ := h
 exact hg
theorem IsS106.ne_blk {w0 W : World} {g : Nat} {f0 : List Int} {f1 : Int} {f2 : Bool} {a : Nat} {cs : Array Value} {t : TypeId} {fr : Nat × Nat} (h : IsS106 w0 W g f0 f1 f2) (hb2 : W.heap[a]? = some (.cells cs t fr)) (ht : t ≠ 106) : g ≠ a := by
 obtain ⟨A0, c0, hb, hg, hr0⟩ := h
 rintro rfl
 rw [hb] at hb2
 injection hb2 with hb2
 injection hb2 with _ ht2
 exact ht ht2.symm
theorem IsS106.far {w0 W : World} {g : Nat} {f0 : List Int} {f1 : Int} {f2 : Bool} {p : Addr} (h : IsS106 w0 W g f0 f1 f2) (hne : g ≠ p.block) (u : Value) : IsS106 w0 (W.setCell p u) g f0 f1 f2 := by
 obtain ⟨A0, c0, hb, hg, hr0⟩ := h
 exact ⟨A0, c0, blk_far hb hne u, hg, hr0⟩
theorem cellS106_0 {W : World} {g : Nat} {A0 : Option Addr} {c0 : Nat} {f0 : List Int} {f1 : Int} {f2 : Bool} (h : W.heap[g]? = some (.cells #[.slice A0 f0.length c0, .int .i64 f1, .bool f2] 106 (0, 0))) : W.cell? ⟨g, 0, none⟩ = some (.slice A0 f0.length c0) := (blk_cell h 0).trans rfl
theorem cellS106_1 {W : World} {g : Nat} {A0 : Option Addr} {c0 : Nat} {f0 : List Int} {f1 : Int} {f2 : Bool} (h : W.heap[g]? = some (.cells #[.slice A0 f0.length c0, .int .i64 f1, .bool f2] 106 (0, 0))) : W.cell? ⟨g, 1, none⟩ = some (.int .i64 f1) := (blk_cell h 1).trans rfl
theorem IsS106.set_1 {w0 W : World} {g : Nat} {f0 : List Int} {f1 : Int} {f2 : Bool} (h : IsS106 w0 W g f0 f1 f2) (x : Int) : IsS106 w0 (W.setCell ⟨g, 1, none⟩ (.int .i64 x)) g f0 x f2 := by
 obtain ⟨A0, c0, hb, hg, hr0⟩ := h
 exact ⟨A0, c0, by simpa using blk_set hb 1 (.int .i64 x), hg, hr0⟩
theorem cellS106_2 {W : World} {g : Nat} {A0 : Option Addr} {c0 : Nat} {f0 : List Int} {f1 : Int} {f2 : Bool} (h : W.heap[g]? = some (.cells #[.slice A0 f0.length c0, .int .i64 f1, .bool f2] 106 (0, 0))) : W.cell? ⟨g, 2, none⟩ = some (.bool f2) := (blk_cell h 2).trans rfl
theorem IsS106.set_2 {w0 W : World} {g : Nat} {f0 : List Int} {f1 : Int} {f2 : Bool} (h : IsS106 w0 W g f0 f1 f2) (x : Bool) : IsS106 w0 (W.setCell ⟨g, 2, none⟩ (.bool x)) g f0 f1 x := by
 obtain ⟨A0, c0, hb, hg, hr0⟩ := h
 exact ⟨A0, c0, by simpa using blk_set hb 2 (.bool x), hg, hr0⟩
theorem IsS106.new (w0 W : World) (A0 : Option Addr) (c0 : Nat) (f0 : List Int) (f1 : Int) (f2 : Bool) (hB : Below w0.heap.size w0 W) (hr0 : Kd.C (Kd.int .u8) w0 A0 f0.length f0 ∧ f0.length ≤ c0) : IsS106 w0 (W.alloc (.cells #[.slice A0 f0.length c0, .int .i64 f1, .bool f2] 106)) W.heap.size f0 f1 f2 := ⟨A0, c0, by simpa using heap_alloc_new W _, hB.size, hr0⟩

/-! ### spec_l9Byte: function 75 -/
def spec_l9Byte.f (s0_0 : List Int) (s0_1 : Int) (s0_2 : Bool) : Option (Int × Int × Bool) := if s0_2 = true then (some (0, s0_1, true)) else (if s0_1 ≥ (s0_0.length : Int) then (some (0, s0_1, true)) else (if 0 ≤ (wrap64 ((wrap64 (s0_1 + 1)) - 1)) then (if (wrap64 ((wrap64 (s0_1 + 1)) - 1)) < (s0_0.length : Int) then (some (wrap64 (rd s0_0 (wrap64 ((wrap64 (s0_1 + 1)) - 1))), wrap64 (s0_1 + 1), s0_2)) else (none)) else (none)))
set_option maxHeartbeats 8000000 in
set_option maxRecDepth 100000 in
theorem spec_l9Byte.calls (g : Nat) (s0_0 : List Int) (s0_1 : Int) (s0_2 : Bool) (r1 : Int) (r2 : Int) (r3 : Bool) (w0 w : World) (hI : IsS106 w0 w g s0_0 s0_1 s0_2) (hB : Below w0.heap.size w0 w) (h : spec_l9Byte.f s0_0 s0_1 s0_2 = some (r1, r2, r3)) :
  Calls Try.prog 75 #[.pointer (some ⟨g, 0, none⟩)] w fun e w' => e = .returned (.int .i64 r1) ∧ IsS106 w0 w' g s0_0 r2 r3 ∧ Below w0.heap.size w0 w' ∧ KeepBut w w' g none := by
 have HI0 := Aside0.mk hI
 have HK := Aside0.mk (KeepBut.refl w g none)
 have HL := Aside0.mk hB.size
 clear hI
 have HW0 := Aside0.mk hB.size
 have HB := Aside0.mk hB
 clear hB
 have H := h
 unfold spec_l9Byte.f at H
 clear h
 by_cases c2 : s0_2 = true
 ·
  subst c2
  rw [if_pos rfl] at H
  simp only [Option.some.injEq, Prod.mk.injEq] at H
  obtain ⟨rfl, rfl, rfl⟩ := H
  obtain ⟨ASz3_0, cSz3_0, HGz3, hgz3, HSz3_0⟩ := HI0.out
  obtain ⟨HSz3_0, HQz3_0⟩ := HSz3_0
  have z3_0 := cellS106_0 HGz3
  have z3_1 := cellS106_1 HGz3
  have z3_2 := cellS106_2 HGz3
  have f3_1 := blk_frozen HGz3 1
  have f3_2 := blk_frozen HGz3 2
  clear HGz3 hgz3
  go_enter Try.func75, Try.ntmps75
  go_wp2
  repeat (go_quiet (fail); try go_wp2)
  go_ret
  exact ⟨by first | rfl | (simp [errW_none, errW_some] <;> rfl) | (simp [*, errW_none, errW_some] <;> rfl), by repeat (first | (with_reducible first | exact HI0.out | apply IsS106.alloc | apply IsS106.drewN | apply IsS106.drew | apply IsS106.set_1 | apply IsS106.set_2) | exact HI0.out), by repeat (first | (with_reducible first | exact HB.out | apply below_alloc | apply pw_below_drewN | apply below_drew1 | refine below_set ?_ (IsS106.ge HI0.out)) | exact HB.out), by repeat (first | (with_reducible first | exact HK.out | apply KeepBut.set_ | apply keep_drewN | apply keep_drew | apply keep_alloc) | exact HK.out)⟩
 replace c2 := Bool.eq_false_iff.mpr c2
 subst c2
 rw [if_neg (show ¬ (false = true) by decide)] at H
 by_cases c4 : s0_1 ≥ (s0_0.length : Int)
 ·
  rw [if_pos c4] at H
  have c4b0 : decide ((s0_0.length : Int) ≤ s0_1) = true := decide_eq_true c4
  clear c4
  simp only [Option.some.injEq, Prod.mk.injEq] at H
  obtain ⟨rfl, rfl, rfl⟩ := H
  obtain ⟨ASz5_0, cSz5_0, HGz5, hgz5, HSz5_0⟩ := HI0.out
  obtain ⟨HSz5_0, HQz5_0⟩ := HSz5_0
  have z5_0 := cellS106_0 HGz5
  have z5_1 := cellS106_1 HGz5
  have z5_2 := cellS106_2 HGz5
  have f5_1 := blk_frozen HGz5 1
  have f5_2 := blk_frozen HGz5 2
  clear HGz5 hgz5
  go_enter Try.func75, Try.ntmps75
  go_wp2
  repeat (go_quiet (fail); try go_wp2)
  go_ret
  exact ⟨by first | rfl | (simp [errW_none, errW_some] <;> rfl) | (simp [*, errW_none, errW_some] <;> rfl), by repeat (first | (with_reducible first | exact HI0.out | apply IsS106.alloc | apply IsS106.drewN | apply IsS106.drew | apply IsS106.set_1 | apply IsS106.set_2) | exact HI0.out), by repeat (first | (with_reducible first | exact HB.out | apply below_alloc | apply pw_below_drewN | apply below_drew1 | refine below_set ?_ (IsS106.ge HI0.out)) | exact HB.out), by repeat (first | (with_reducible first | exact HK.out | apply KeepBut.set_ | apply keep_drewN | apply keep_drew | apply keep_alloc) | exact HK.out)⟩
 rw [if_neg c4] at H
 have c4b0 : decide ((s0_0.length : Int) ≤ s0_1) = false := decide_eq_false c4
 clear c4
 obtain ⟨ji6, hji6⟩ : ∃ j_ : Int, (wrap64 ((wrap64 (s0_1 + 1)) - 1)) = j_ := ⟨_, rfl⟩
 replace H : (if 0 ≤ (ji6) then (if (ji6) < (s0_0.length : Int) then (some (wrap64 (rd s0_0 (ji6)), wrap64 (s0_1 + 1), false)) else (none)) else (none)) = some (r1, r2, r3) := by first | (rw [hji6] at H; exact H) | (simp only [hji6] at H ⊢; exact H)
 have hji6w : (IntKind.i64.wrap ((wrap64 (s0_1 + 1)) - 1)) = ji6 := (i64_w _).trans hji6
 by_cases c7 : 0 ≤ (ji6)
 case neg => exact nn_ c7 H
 rw [if_pos c7] at H
 have c7b0 : decide (0 ≤ (ji6)) = true := decide_eq_true c7
 clear c7
 by_cases c8 : (ji6) < (s0_0.length : Int)
 case neg => exact nn_ c8 H
 rw [if_pos c8] at H
 have c8b0 : decide ((ji6) < (s0_0.length : Int)) = true := decide_eq_true c8
 clear c8
 simp only [Option.some.injEq, Prod.mk.injEq] at H
 obtain ⟨rfl, rfl, rfl⟩ := H
 obtain ⟨ASz9_0, cSz9_0, HGz9, hgz9, HSz9_0⟩ := HI0.out
 obtain ⟨HSz9_0, HQz9_0⟩ := HSz9_0
 have z9_0 := cellS106_0 HGz9
 have z9_1 := cellS106_1 HGz9
 have z9_2 := cellS106_2 HGz9
 have f9_1 := blk_frozen HGz9 1
 have f9_2 := blk_frozen HGz9 2
 clear HGz9 hgz9
 have p742 : 0 ≤ ((ji6) : Int) := od_
 have q742 : (ji6) < (s0_0.length : Int) := od_
 obtain ⟨ad742, e742, hx742_0⟩ := Kd.at_int HSz9_0 (ji6) p742 q742
 cases e742
 have hn742_0 : ad742.block ≠ g := Nat.ne_of_lt (Nat.lt_of_lt_of_le (by have := World.block_lt_of_cell? _ _ hx742_0; first | rwa [add_block] at this | exact this) (IsS106.ge HI0.out))
 replace hx742_0 := pw_cell_below HB.out hx742_0
 replace hx742_0 := (cell_far (p := ⟨g, 1, none⟩) (by first | (rw [add_block]; exact hn742_0) | (show (Addr.add _ _).block ≠ _; rw [add_block]; exact hn742_0) | exact hn742_0) (.int .i64 (wrap64 (s0_1 + 1)))).trans hx742_0
 (try have hy742_0 := fun (n_ : Nat) => (show (((w.drewN n_).setCell ⟨g, 1, none⟩ (.int .i64 (wrap64 (s0_1 + 1))))).cell? _ = some _ from hx742_0))
 clear hn742_0
 replace p742 := eq_true p742
 replace q742 := eq_true q742
 go_enter Try.func75, Try.ntmps75
 go_wp2
 repeat (go_quiet (fail); try go_wp2)
 go_ret
 exact ⟨by first | rfl | (simp [errW_none, errW_some] <;> rfl) | (simp only [← hji6]; first | rfl | (simp [errW_none, errW_some] <;> rfl)) | (simp [*, errW_none, errW_some] <;> rfl), by repeat (first | (with_reducible first | exact HI0.out | apply IsS106.alloc | apply IsS106.drewN | apply IsS106.drew | apply IsS106.set_1 | apply IsS106.set_2) | exact HI0.out), by repeat (first | (with_reducible first | exact HB.out | apply below_alloc | apply pw_below_drewN | apply below_drew1 | refine below_set ?_ (IsS106.ge HI0.out)) | exact HB.out), by repeat (first | (with_reducible first | exact HK.out | apply KeepBut.set_ | apply keep_drewN | apply keep_drew | apply keep_alloc) | exact HK.out)⟩

/-! ### spec_GetWord: function 120 -/
def spec_GetWord.f (l0 : List Int) (a1 : Int) : Option (Int × Int × Bool) := if a1 < 0 then (some (0, 0, false)) else (if a1 > (wrap64 ((l0.length : Int) - 2)) then (some (0, 0, false)) else (if 0 ≤ a1 then (if a1 < (l0.length : Int) then (if 0 ≤ (wrap64 (a1 + 1)) then (if (wrap64 (a1 + 1)) < (l0.length : Int) then (some (wrap64 ((wrap64 ((wrap64 (rd l0 a1)) * 256)) + (wrap64 (rd l0 (wrap64 (a1 + 1))))), wrap64 (a1 + 2), true)) else (none)) else (none)) else (none)) else (none)))
set_option maxHeartbeats 8000000 in
set_option maxRecDepth 100000 in
theorem spec_GetWord.calls (A0 : Option Addr) (c0 : Nat) (l0 : List Int) (a1 : Int) (r1 : Int) (r2 : Int) (r3 : Bool) (w : World) (hr0 : Kd.C (Kd.int .u8) w A0 l0.length l0) (hc0 : l0.length ≤ c0) (h : spec_GetWord.f l0 a1 = some (r1, r2, r3)) :
  Calls Try.prog 120 #[.slice A0 l0.length c0, .int .i64 a1] w fun e w' => e = .returned (.tuple #[.int .i64 r1, .int .i64 r2, .bool r3]) ∧ Drawn0 w w' := by
 have HR0 := Aside0.mk hr0
 have HC0 := Aside0.mk hc0
 clear hr0 hc0
 have H := h
 unfold spec_GetWord.f at H
 clear h
 by_cases c3 : a1 < 0
 ·
  rw [if_pos c3] at H
  have c3b0 : decide (a1 < 0) = true := decide_eq_true c3
  clear c3
  simp only [Option.some.injEq, Prod.mk.injEq] at H
  obtain ⟨rfl, rfl, rfl⟩ := H
  go_enter Try.func120, Try.ntmps120
  go_wp2
  repeat (go_quiet (fail); try go_wp2)
  go_ret3
  exact ⟨by first | rfl | (simp; done) | (simp [*]; done), by repeat (first | exact Drawn0.refl _ | apply Drawn0.step)⟩
 rw [if_neg c3] at H
 have c3b0 : decide (a1 < 0) = false := decide_eq_false c3
 clear c3
 by_cases c4 : a1 > (wrap64 ((l0.length : Int) - 2))
 ·
  rw [if_pos c4] at H
  have c4b0 : decide ((wrap64 ((l0.length : Int) - 2)) < a1) = true := decide_eq_true c4
  clear c4
  simp only [Option.some.injEq, Prod.mk.injEq] at H
  obtain ⟨rfl, rfl, rfl⟩ := H
  go_enter Try.func120, Try.ntmps120
  go_wp2
  repeat (go_quiet (fail); try go_wp2)
  go_ret3
  exact ⟨by first | rfl | (simp; done) | (simp [*]; done), by repeat (first | exact Drawn0.refl _ | apply Drawn0.step)⟩
 rw [if_neg c4] at H
 have c4b0 : decide ((wrap64 ((l0.length : Int) - 2)) < a1) = false := decide_eq_false c4
 clear c4
 by_cases c5 : 0 ≤ a1
 case neg => exact nn_ c5 H
 rw [if_pos c5] at H
 have c5b0 : decide (0 ≤ a1) = true := decide_eq_true c5
 clear c5
 by_cases c6 : a1 < (l0.length : Int)
 case neg => exact nn_ c6 H
 rw [if_pos c6] at H
 have c6b0 : decide (a1 < (l0.length : Int)) = true := decide_eq_true c6
 clear c6
 obtain ⟨ji7, hji7⟩ : ∃ j_ : Int, (wrap64 (a1 + 1)) = j_ := ⟨_, rfl⟩
 replace H : (if 0 ≤ (ji7) then (if (ji7) < (l0.length : Int) then (some (wrap64 ((wrap64 ((wrap64 (rd l0 a1)) * 256)) + (wrap64 (rd l0 (ji7)))), wrap64 (a1 + 2), true)) else (none)) else (none)) = some (r1, r2, r3) := by first | (rw [hji7] at H; exact H) | (simp only [hji7] at H ⊢; exact H)
 have hji7w : (IntKind.i64.wrap (a1 + 1)) = ji7 := (i64_w _).trans hji7
 by_cases c8 : 0 ≤ (ji7)
 case neg => exact nn_ c8 H
 rw [if_pos c8] at H
 have c8b0 : decide (0 ≤ (ji7)) = true := decide_eq_true c8
 clear c8
 by_cases c9 : (ji7) < (l0.length : Int)
 case neg => exact nn_ c9 H
 rw [if_pos c9] at H
 have c9b0 : decide ((ji7) < (l0.length : Int)) = true := decide_eq_true c9
 clear c9
 simp only [Option.some.injEq, Prod.mk.injEq] at H
 obtain ⟨rfl, rfl, rfl⟩ := H
 have p743 : 0 ≤ (a1 : Int) := od_
 have q743 : a1 < (l0.length : Int) := od_
 obtain ⟨ad743, e743, hx743_0⟩ := Kd.at_int HR0.out a1 p743 q743
 cases e743
 replace p743 := eq_true p743
 replace q743 := eq_true q743
 have p744 : 0 ≤ ((ji7) : Int) := od_
 have q744 : (ji7) < (l0.length : Int) := od_
 obtain ⟨ad744, e744, hx744_0⟩ := Kd.at_int HR0.out (ji7) p744 q744
 obtain rfl : ad743 = ad744 := (by injection e744)
 replace p744 := eq_true p744
 replace q744 := eq_true q744
 go_enter Try.func120, Try.ntmps120
 go_wp2
 repeat (go_quiet (fail); try go_wp2)
 go_ret3
 exact ⟨by first | rfl | (simp; done) | (simp only [← hji7] <;> (first | rfl | simp)) | (simp [*]; done), by repeat (first | exact Drawn0.refl _ | apply Drawn0.step)⟩

/-! ### spec_l9Word: function 76 -/
def spec_l9Word.f (s0_0 : List Int) (s0_1 : Int) (s0_2 : Bool) : Option (Int × Int × Bool) := (spec_GetWord.f s0_0 s0_1).bind fun bt745 => (if s0_2 = true then (some (0, s0_1, true)) else (if bt745.2.2 = true then (some (bt745.1, bt745.2.1, s0_2)) else (some (0, s0_1, true))))
set_option maxHeartbeats 8000000 in
set_option maxRecDepth 100000 in
theorem spec_l9Word.calls (g : Nat) (s0_0 : List Int) (s0_1 : Int) (s0_2 : Bool) (r1 : Int) (r2 : Int) (r3 : Bool) (w0 w : World) (hI : IsS106 w0 w g s0_0 s0_1 s0_2) (hB : Below w0.heap.size w0 w) (h : spec_l9Word.f s0_0 s0_1 s0_2 = some (r1, r2, r3)) :
  Calls Try.prog 76 #[.pointer (some ⟨g, 0, none⟩)] w fun e w' => e = .returned (.int .i64 r1) ∧ IsS106 w0 w' g s0_0 r2 r3 ∧ Below w0.heap.size w0 w' ∧ KeepBut w w' g none := by
 have HI0 := Aside0.mk hI
 have HK := Aside0.mk (KeepBut.refl w g none)
 have HL := Aside0.mk hB.size
 clear hI
 have HW0 := Aside0.mk hB.size
 have HB := Aside0.mk hB
 clear hB
 have H := h
 unfold spec_l9Word.f at H
 clear h
 replace H := bf_ H
 obtain ⟨f_, hf_, ⟨t745, t746, t747⟩, A2, H⟩ := H
 subst hf_
 (try dsimp only at H)
 by_cases c3 : s0_2 = true
 ·
  subst c3
  rw [if_pos rfl] at H
  simp only [Option.some.injEq, Prod.mk.injEq] at H
  obtain ⟨rfl, rfl, rfl⟩ := H
  obtain ⟨ASz4_0, cSz4_0, HGz4, hgz4, HSz4_0⟩ := HI0.out
  obtain ⟨HSz4_0, HQz4_0⟩ := HSz4_0
  have z4_0 := cellS106_0 HGz4
  have z4_1 := cellS106_1 HGz4
  have z4_2 := cellS106_2 HGz4
  have f4_1 := blk_frozen HGz4 1
  have f4_2 := blk_frozen HGz4 2
  clear HGz4 hgz4
  go_enter Try.func76, Try.ntmps76
  go_wp2_with (first | (go_at_call 120; (with_reducible refine (spec_GetWord.calls _ _ s0_0 s0_1 t745 t746 t747 _ ?side1 ?side2 A2.out).mono ?_); (case side1 => exact Kd.C_below HSz4_0 (by repeat (first | (with_reducible first | exact HB.out | apply below_alloc | apply pw_below_drewN | apply below_drew1 | refine below_set ?_ (IsS106.ge HI0.out)) | exact HB.out))); (case side2 => exact HQz4_0); rintro e w' ⟨rfl, ⟨nd, rfl⟩⟩; (try first | exact ⟨rfl, _, World.drewN_drewN _ _ _⟩ | exact ⟨rfl, _, Eq.trans (World.drewN_drewN _ _ _) (congrArg (World.drewN _) (Nat.add_assoc _ _ _))⟩)))
  repeat (go_quiet (first | (go_at_call 120; (with_reducible refine (spec_GetWord.calls _ _ s0_0 s0_1 t745 t746 t747 _ ?side1 ?side2 A2.out).mono ?_); (case side1 => exact Kd.C_below HSz4_0 (by repeat (first | (with_reducible first | exact HB.out | apply below_alloc | apply pw_below_drewN | apply below_drew1 | refine below_set ?_ (IsS106.ge HI0.out)) | exact HB.out))); (case side2 => exact HQz4_0); rintro e w' ⟨rfl, ⟨nd, rfl⟩⟩; (try first | exact ⟨rfl, _, World.drewN_drewN _ _ _⟩ | exact ⟨rfl, _, Eq.trans (World.drewN_drewN _ _ _) (congrArg (World.drewN _) (Nat.add_assoc _ _ _))⟩))); try go_wp2_with (first | (go_at_call 120; (with_reducible refine (spec_GetWord.calls _ _ s0_0 s0_1 t745 t746 t747 _ ?side1 ?side2 A2.out).mono ?_); (case side1 => exact Kd.C_below HSz4_0 (by repeat (first | (with_reducible first | exact HB.out | apply below_alloc | apply pw_below_drewN | apply below_drew1 | refine below_set ?_ (IsS106.ge HI0.out)) | exact HB.out))); (case side2 => exact HQz4_0); rintro e w' ⟨rfl, ⟨nd, rfl⟩⟩; (try first | exact ⟨rfl, _, World.drewN_drewN _ _ _⟩ | exact ⟨rfl, _, Eq.trans (World.drewN_drewN _ _ _) (congrArg (World.drewN _) (Nat.add_assoc _ _ _))⟩))))
  go_ret
  exact ⟨by first | rfl | (simp [errW_none, errW_some] <;> rfl) | (simp [*, errW_none, errW_some] <;> rfl), by repeat (first | (with_reducible first | exact HI0.out | apply IsS106.alloc | apply IsS106.drewN | apply IsS106.drew | apply IsS106.set_1 | apply IsS106.set_2) | exact HI0.out), by repeat (first | (with_reducible first | exact HB.out | apply below_alloc | apply pw_below_drewN | apply below_drew1 | refine below_set ?_ (IsS106.ge HI0.out)) | exact HB.out), by repeat (first | (with_reducible first | exact HK.out | apply KeepBut.set_ | apply keep_drewN | apply keep_drew | apply keep_alloc) | exact HK.out)⟩
 replace c3 := Bool.eq_false_iff.mpr c3
 subst c3
 rw [if_neg (show ¬ (false = true) by decide)] at H
 by_cases c5 : t747 = true
 ·
  subst c5
  rw [if_pos rfl] at H
  simp only [Option.some.injEq, Prod.mk.injEq] at H
  obtain ⟨rfl, rfl, rfl⟩ := H
  obtain ⟨ASz6_0, cSz6_0, HGz6, hgz6, HSz6_0⟩ := HI0.out
  obtain ⟨HSz6_0, HQz6_0⟩ := HSz6_0
  have z6_0 := cellS106_0 HGz6
  have z6_1 := cellS106_1 HGz6
  have z6_2 := cellS106_2 HGz6
  have f6_1 := blk_frozen HGz6 1
  have f6_2 := blk_frozen HGz6 2
  clear HGz6 hgz6
  go_enter Try.func76, Try.ntmps76
  go_wp2_with (first | (go_at_call 120; (with_reducible refine (spec_GetWord.calls _ _ s0_0 s0_1 t745 t746 true _ ?side1 ?side2 A2.out).mono ?_); (case side1 => exact Kd.C_below HSz6_0 (by repeat (first | (with_reducible first | exact HB.out | apply below_alloc | apply pw_below_drewN | apply below_drew1 | refine below_set ?_ (IsS106.ge HI0.out)) | exact HB.out))); (case side2 => exact HQz6_0); rintro e w' ⟨rfl, ⟨nd, rfl⟩⟩; (try first | exact ⟨rfl, _, World.drewN_drewN _ _ _⟩ | exact ⟨rfl, _, Eq.trans (World.drewN_drewN _ _ _) (congrArg (World.drewN _) (Nat.add_assoc _ _ _))⟩)))
  repeat (go_quiet (first | (go_at_call 120; (with_reducible refine (spec_GetWord.calls _ _ s0_0 s0_1 t745 t746 true _ ?side1 ?side2 A2.out).mono ?_); (case side1 => exact Kd.C_below HSz6_0 (by repeat (first | (with_reducible first | exact HB.out | apply below_alloc | apply pw_below_drewN | apply below_drew1 | refine below_set ?_ (IsS106.ge HI0.out)) | exact HB.out))); (case side2 => exact HQz6_0); rintro e w' ⟨rfl, ⟨nd, rfl⟩⟩; (try first | exact ⟨rfl, _, World.drewN_drewN _ _ _⟩ | exact ⟨rfl, _, Eq.trans (World.drewN_drewN _ _ _) (congrArg (World.drewN _) (Nat.add_assoc _ _ _))⟩))); try go_wp2_with (first | (go_at_call 120; (with_reducible refine (spec_GetWord.calls _ _ s0_0 s0_1 t745 t746 true _ ?side1 ?side2 A2.out).mono ?_); (case side1 => exact Kd.C_below HSz6_0 (by repeat (first | (with_reducible first | exact HB.out | apply below_alloc | apply pw_below_drewN | apply below_drew1 | refine below_set ?_ (IsS106.ge HI0.out)) | exact HB.out))); (case side2 => exact HQz6_0); rintro e w' ⟨rfl, ⟨nd, rfl⟩⟩; (try first | exact ⟨rfl, _, World.drewN_drewN _ _ _⟩ | exact ⟨rfl, _, Eq.trans (World.drewN_drewN _ _ _) (congrArg (World.drewN _) (Nat.add_assoc _ _ _))⟩))))
  go_ret
  exact ⟨by first | rfl | (simp [errW_none, errW_some] <;> rfl) | (simp [*, errW_none, errW_some] <;> rfl), by repeat (first | (with_reducible first | exact HI0.out | apply IsS106.alloc | apply IsS106.drewN | apply IsS106.drew | apply IsS106.set_1 | apply IsS106.set_2) | exact HI0.out), by repeat (first | (with_reducible first | exact HB.out | apply below_alloc | apply pw_below_drewN | apply below_drew1 | refine below_set ?_ (IsS106.ge HI0.out)) | exact HB.out), by repeat (first | (with_reducible first | exact HK.out | apply KeepBut.set_ | apply keep_drewN | apply keep_drew | apply keep_alloc) | exact HK.out)⟩
 replace c5 := Bool.eq_false_iff.mpr c5
 subst c5
 rw [if_neg (show ¬ (false = true) by decide)] at H
 simp only [Option.some.injEq, Prod.mk.injEq] at H
 obtain ⟨rfl, rfl, rfl⟩ := H
 obtain ⟨ASz7_0, cSz7_0, HGz7, hgz7, HSz7_0⟩ := HI0.out
 obtain ⟨HSz7_0, HQz7_0⟩ := HSz7_0
 have z7_0 := cellS106_0 HGz7
 have z7_1 := cellS106_1 HGz7
 have z7_2 := cellS106_2 HGz7
 have f7_1 := blk_frozen HGz7 1
 have f7_2 := blk_frozen HGz7 2
 clear HGz7 hgz7
 go_enter Try.func76, Try.ntmps76
 go_wp2_with (first | (go_at_call 120; (with_reducible refine (spec_GetWord.calls _ _ s0_0 s0_1 t745 t746 false _ ?side1 ?side2 A2.out).mono ?_); (case side1 => exact Kd.C_below HSz7_0 (by repeat (first | (with_reducible first | exact HB.out | apply below_alloc | apply pw_below_drewN | apply below_drew1 | refine below_set ?_ (IsS106.ge HI0.out)) | exact HB.out))); (case side2 => exact HQz7_0); rintro e w' ⟨rfl, ⟨nd, rfl⟩⟩; (try first | exact ⟨rfl, _, World.drewN_drewN _ _ _⟩ | exact ⟨rfl, _, Eq.trans (World.drewN_drewN _ _ _) (congrArg (World.drewN _) (Nat.add_assoc _ _ _))⟩)))
 repeat (go_quiet (first | (go_at_call 120; (with_reducible refine (spec_GetWord.calls _ _ s0_0 s0_1 t745 t746 false _ ?side1 ?side2 A2.out).mono ?_); (case side1 => exact Kd.C_below HSz7_0 (by repeat (first | (with_reducible first | exact HB.out | apply below_alloc | apply pw_below_drewN | apply below_drew1 | refine below_set ?_ (IsS106.ge HI0.out)) | exact HB.out))); (case side2 => exact HQz7_0); rintro e w' ⟨rfl, ⟨nd, rfl⟩⟩; (try first | exact ⟨rfl, _, World.drewN_drewN _ _ _⟩ | exact ⟨rfl, _, Eq.trans (World.drewN_drewN _ _ _) (congrArg (World.drewN _) (Nat.add_assoc _ _ _))⟩))); try go_wp2_with (first | (go_at_call 120; (with_reducible refine (spec_GetWord.calls _ _ s0_0 s0_1 t745 t746 false _ ?side1 ?side2 A2.out).mono ?_); (case side1 => exact Kd.C_below HSz7_0 (by repeat (first | (with_reducible first | exact HB.out | apply below_alloc | apply pw_below_drewN | apply below_drew1 | refine below_set ?_ (IsS106.ge HI0.out)) | exact HB.out))); (case side2 => exact HQz7_0); rintro e w' ⟨rfl, ⟨nd, rfl⟩⟩; (try first | exact ⟨rfl, _, World.drewN_drewN _ _ _⟩ | exact ⟨rfl, _, Eq.trans (World.drewN_drewN _ _ _) (congrArg (World.drewN _) (Nat.add_assoc _ _ _))⟩))))
 go_ret
 exact ⟨by first | rfl | (simp [errW_none, errW_some] <;> rfl) | (simp [*, errW_none, errW_some] <;> rfl), by repeat (first | (with_reducible first | exact HI0.out | apply IsS106.alloc | apply IsS106.drewN | apply IsS106.drew | apply IsS106.set_1 | apply IsS106.set_2) | exact HI0.out), by repeat (first | (with_reducible first | exact HB.out | apply below_alloc | apply pw_below_drewN | apply below_drew1 | refine below_set ?_ (IsS106.ge HI0.out)) | exact HB.out), by repeat (first | (with_reducible first | exact HK.out | apply KeepBut.set_ | apply keep_drewN | apply keep_drew | apply keep_alloc) | exact HK.out)⟩

end Go.Proofs.Ytiffahfpfgnjnaa.PFnItems
