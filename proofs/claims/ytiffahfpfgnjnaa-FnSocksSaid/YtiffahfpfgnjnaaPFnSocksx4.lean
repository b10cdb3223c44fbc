-- Written by a program of this session (myprint.py, over the kit's print): contracts of FnSocks
import Derived.Test.YtiffahfpfgnjnaaPFnSocksx0
import Derived.Test.YtiffahfpfgnjnaaPFnSocksx2
import Derived.Test.YtiffahfpfgnjnaaPFnSocksx3
namespace Go.Proofs.Ytiffahfpfgnjnaa.PFnSocks
open Go.RowKit Go.Proofs.YtiffahfpfgnjnaaW.PrintWords Go.Proofs.YtiffahfpfgnjnaaW.PrintLast Go.Proofs.YtiffahfpfgnjnaaW.PrintMore Go.Proofs.YtiffahfpfgnjnaaV
attribute [local go_sem] max2_int min2_int max_two min_two max_three min_three max_four min_four   -- for this text's walks alone
set_option linter.unusedVariables false
set_option linter.unusedSimpArgs false

/-! ### spec_l1Bend: function 74 -/
def spec_l1Bend.f (s0_0 : List Int) (s0_1 : Int) (s0_2 : Int) (l1 : List Int) : Option (List Int × Int × Int) := (some (([] : List Int) : List Int)).bind fun y195 => (if y195.length + l1.length < 140737488355328 then ((some (y195 ++ l1 : List Int)).bind fun y198 => ((spec_l1Below.f s0_0 s0_1 s0_2 8).bind fun bt201 => (if bt201.1 = 0 then (if (y198.length : Int) > 0 then ((spec_l1Below.f s0_0 bt201.2.1 bt201.2.2 (y198.length : Int)).bind fun bt204 => (if 0 ≤ bt204.1 then (if bt204.1 < (y198.length : Int) then ((spec_l1Below.f s0_0 bt204.2.1 bt204.2.2 255).bind fun bt208 => (some ((y198.set (bt204.1 : Int).toNat (Go.bits .xor .u8 (rd y198 bt204.1) ((wrap64 (1 + bt208.1)) % 256))), bt208.2.1, bt208.2.2))) else (none)) else (none))) else (some (y198, bt201.2.1, bt201.2.2))) else (if bt201.1 = 1 then (if (y198.length : Int) > 0 then ((spec_l1Below.f s0_0 bt201.2.1 bt201.2.2 (y198.length : Int)).bind fun bt212 => (if 0 ≤ bt212.1 then (if bt212.1 ≤ (y198.length : Int) then (some ((y198.take (bt212.1 : Int).toNat), bt212.2.1, bt212.2.2)) else (none)) else (none))) else (some (y198, bt201.2.1, bt201.2.2))) else (if bt201.1 = 2 then ((spec_l1Byte.f s0_0 bt201.2.1 bt201.2.2).bind fun bt218 => (if y198.length < 140737488355328 then (some ((y198 ++ [(bt218.1) % 256]), bt218.2.1, bt218.2.2)) else (none))) else (some (y198, bt201.2.1, bt201.2.2))))))) else (none))
def spec_l1Bend.T6 : Bool × List (List Nat × List Nat) := (true, [([], []), ([], []), ([], []), ([], []), ([2, 3], [2, 3]), ([4], [4]), ([], []), ([6], [6]), ([7], [7]), ([8], [8]), ([5, 9], [5, 9]), ([0, 1, 0, 1, 2, 3, 4, 5, 6, 7, 8, 9, 10], [0, 1]), ([11, 10, 7, 0, 1, 2, 3, 4, 5, 6, 7, 8, 9, 10], [10, 11])])
def spec_l1Bend.B6 : List Nat := [0, 0, 0, 0, 12, 28, 0, 64, 192, 448, 1020, 2047, 4095]
theorem spec_l1Bend.tab6 : rtab .any (opsOf Try.f74 6) = spec_l1Bend.T6 := by kernel_rfl
theorem spec_l1Bend.bits6 : waitsOk spec_l1Bend.T6.2 spec_l1Bend.B6 = true := by kernel_rfl
set_option maxHeartbeats 8000000 in
set_option maxRecDepth 100000 in
theorem spec_l1Bend.calls (g : Nat) (s0_0 : List Int) (s0_1 : Int) (s0_2 : Int) (A1 : Option Addr) (c1 : Nat) (l1 : List Int) (r1 : List Int) (r2 : Int) (r3 : Int) (w0 w : World) (hI : IsS128 w0 w g s0_0 s0_1 s0_2) (hB : Below w0.heap.size w0 w) (hr1 : Kd.C (Kd.int .u8) w A1 l1.length l1) (hc1 : l1.length ≤ c1) (hf1 : ∀ ad, A1 = some ad → 0 < l1.length → ad.block ≠ g) (h : spec_l1Bend.f s0_0 s0_1 s0_2 l1 = some (r1, r2, r3)) :
  Calls Try.prog 74 #[.pointer (some ⟨g, 0, none⟩), .slice A1 l1.length c1] w fun e w' => ∃ v0_ : Value, e = .returned (v0_) ∧ Kd.R (Kd.int .u8) 5 w' w.heap.size (fun _ => True) v0_ r1 ∧ IsS128 w0 w' g s0_0 r2 r3 ∧ Below w0.heap.size w0 w' ∧ KeepBut w w' g none := by
 have HR1 := Aside0.mk hr1
 have HC1 := Aside0.mk hc1
 clear hr1 hc1
 have HI0 := Aside0.mk hI
 have IGHI0 := iG_ HI0.out.ge
 have HK := Aside0.mk (KeepBut.refl w g none)
 have HL := Aside0.mk hB.size
 clear hI
 have HW0 := Aside0.mk hB.size
 have HB := Aside0.mk hB
 clear hB
 have H := h
 unfold spec_l1Bend.f at H
 clear h
 obtain ⟨y195, hy195⟩ : ∃ y_ : List Int, y_ = (([] : List Int)) := ⟨_, rfl⟩
 replace H := mk_ H hy195
 (try dsimp only at H)
 have Ny195 := Aside0.mk hy195
 clear hy195
 by_cases c3 : y195.length + l1.length < 140737488355328
 case neg => exact nn_ c3 H
 rw [if_pos c3] at H
 have LMc3 := Aside0.mk c3
 clear c3
 obtain ⟨y198, hy198⟩ : ∃ y_ : List Int, y_ = (y195 ++ l1) := ⟨_, rfl⟩
 replace H := mk_ H hy198
 (try dsimp only at H)
 have Ny198 := Aside0.mk hy198
 clear hy198
 replace H := bf_ H
 obtain ⟨f_, hf_, ⟨t201, t202, t203⟩, A4, H⟩ := H
 subst hf_
 (try dsimp only at H)
 by_cases c5 : t201 = 0
 rotate_left
 ·
  rw [if_neg c5] at H
  have c5b0 : (t201 == 0) = false := beq_eq_false_iff_ne.mpr c5
  have c5b1 : (t201 != 0) = true := bne_iff_ne.mpr c5
  by_cases c26 : t201 = 1
  rotate_left
  ·
   rw [if_neg c26] at H
   have c26b0 : (t201 == 1) = false := beq_eq_false_iff_ne.mpr c26
   have c26b1 : (t201 != 1) = true := bne_iff_ne.mpr c26
   by_cases c43 : t201 = 2
   rotate_left
   ·
    rw [if_neg c43] at H
    have c43b0 : (t201 == 2) = false := beq_eq_false_iff_ne.mpr c43
    have c43b1 : (t201 != 2) = true := bne_iff_ne.mpr c43
    simp only [Option.some.injEq, Prod.mk.injEq] at H
    obtain ⟨rfl, rfl, rfl⟩ := H
    go_enter Try.func74, Try.ntmps74
    go_wp2_with (first | ((with_reducible refine gate_dst (N := 7) rfl ?_); refine Kd.R_lit (Kd.int .u8) _ 5 ?hg (N := 7) ?hd (xs := ([] : List Int)) (inner := []) (ok := fun _ => True) (okp := fun _ => True) ?hr ?hp (fun _ hk => hk) trivial (Below.refl _ _) (Nat.le_refl _) (by simp) ?_; (case hd => rfl); (case hg => rfl); (case hr => first | (go_simp; done) | (go_simp; rfl)); (case hp => exact (Reps.none _ _)); intro v196 w52 ho53 hb hg_ hnew_; clear hg_ hnew_; (first | rw [← Ny195.out] at ho53 | (simp only [Int.reduceToNat] at ho53; rw [← Ny195.out] at ho53)); have HO197 := am_ (Kd.R_lower ho53 (keep_size (w := w) (g := g) (row := none) (qP HK))); replace HK := kL_ HK hb; replace HB := bS_ HB hb; replace HI0 := am_ (IsS128.below (IsS128.q HI0) hb); clear hb ho53) | ((with_reducible refine gate_builtin (b := .append) (xs := #[.tmp 7, .tmp 8]) rfl ?_); at_builtin; refine Kd.R_append_rows (Kd.int .u8) w.heap.size rfl (.tmp 7) (.tmp 8) 22 5 (.int .u8 0) 1 rfl Try.underlying22 info5 rfl (by decide) (by omega) v196 y195 l1 _ _ _ (fun _ => True) (fun _ => False) rfl rfl ?aO ?aR (fun _ _ h => h) (fun _ h => h.elim) ?aF (Below.refl _ _) ?aS ?aL ?_; (case aR => exact Kd.C_keep 0 HR1.out (qP HK) hf1); (case aF => exact (fun _ _ => trivial)); (case aO => exact (qR HO197)); (case aS => exact (keep_size (w := w) (g := g) (row := none) (qP HK))); (case aL => have := LMc3.out; omega); intro v199 w54 ho hb hg hat; rw [← Ny198.out] at ho; replace HB := am_ (below_weaken (qB HB) HL.out hb); replace HI0 := am_ (IsS128.grown (IsS128.q HI0) hg (IsS128.own_ne HI0.out HO197.out (by decide))); replace HK := am_ (KeepBut.trans (qP HK) (KeepBut.of_grown hg g) (Kd.R_base2 HO197.out)); have HO200 := am_ (ho); clear HO197; clear ho hb hg hat) | ((with_reducible refine gate_callee (f := 61) rfl ?_); refine gl_ (some 11) Try.func61 #[.pointer (some ⟨g, 0, none⟩), .int .i64 8] ?_; (with_reducible refine (spec_l1Below.calls g s0_0 s0_1 s0_2 8 t201 t202 t203 w0 _ ?side1 ?side2 A4.out).mono ?_); (case side1 => exact IsS128.q HI0); (case side2 => exact qB HB); rintro e w55 ⟨rfl, hi, hb, hk⟩; refine ⟨_, rfl, ?_⟩; replace HO200 := am_ (Kd.R_mono (Kd.R_keep (IsS128.apart (show IsS128 w0 _ g s0_0 s0_1 s0_2 from IsS128.q HI0) (qR HO200) (by decide)) hk (fun _ h => h.2)) (fun _ h => h.1)); replace HK := kT_ HK hk; replace HB := am_ (hb); replace HI0 := am_ (hi); (try clear hb); (try clear hk); (try clear hi)))
    go_ret
    exact ⟨_, er_, qR HO200, IsS128.q HI0, qB HB, qP HK⟩
   rw [if_pos c43] at H
   have c43b0 : (t201 == 2) = true := beq_iff_eq.mpr c43
   have c43b1 : (t201 != 2) = false := bne_eq_false_iff_eq.mpr c43
   clear c43
   replace H := bf_ H
   obtain ⟨f_, hf_, ⟨t218, t219, t220⟩, A44, H⟩ := H
   subst hf_
   (try dsimp only at H)
   by_cases c45 : y198.length < 140737488355328
   case neg => exact nn_ c45 H
   rw [if_pos c45] at H
   have LMc45 := Aside0.mk c45
   clear c45
   obtain ⟨y221, hy221⟩ : ∃ y_ : List Int, y_ = (y198 ++ [(t218) % 256]) := ⟨_, rfl⟩
   rw [← hy221] at H
   have Ny221 := Aside0.mk hy221
   clear hy221
   simp only [Option.some.injEq, Prod.mk.injEq] at H
   obtain ⟨rfl, rfl, rfl⟩ := H
   go_enter Try.func74, Try.ntmps74
   go_wp2_with (first | ((with_reducible refine gate_dst (N := 7) rfl ?_); refine Kd.R_lit (Kd.int .u8) _ 5 ?hg (N := 7) ?hd (xs := ([] : List Int)) (inner := []) (ok := fun _ => True) (okp := fun _ => True) ?hr ?hp (fun _ hk => hk) trivial (Below.refl _ _) (Nat.le_refl _) (by simp) ?_; (case hd => rfl); (case hg => rfl); (case hr => first | (go_simp; done) | (go_simp; rfl)); (case hp => exact (Reps.none _ _)); intro v196 w46 ho47 hb hg_ hnew_; clear hg_ hnew_; (first | rw [← Ny195.out] at ho47 | (simp only [Int.reduceToNat] at ho47; rw [← Ny195.out] at ho47)); have HO197 := am_ (Kd.R_lower ho47 (keep_size (w := w) (g := g) (row := none) (qP HK))); replace HK := kL_ HK hb; replace HB := bS_ HB hb; replace HI0 := am_ (IsS128.below (IsS128.q HI0) hb); clear hb ho47) | ((with_reducible refine gate_builtin (b := .append) (xs := #[.tmp 7, .tmp 8]) rfl ?_); at_builtin; refine Kd.R_append_rows (Kd.int .u8) w.heap.size rfl (.tmp 7) (.tmp 8) 22 5 (.int .u8 0) 1 rfl Try.underlying22 info5 rfl (by decide) (by omega) v196 y195 l1 _ _ _ (fun _ => True) (fun _ => False) rfl rfl ?aO ?aR (fun _ _ h => h) (fun _ h => h.elim) ?aF (Below.refl _ _) ?aS ?aL ?_; (case aR => exact Kd.C_keep 0 HR1.out (qP HK) hf1); (case aF => exact (fun _ _ => trivial)); (case aO => exact (qR HO197)); (case aS => exact (keep_size (w := w) (g := g) (row := none) (qP HK))); (case aL => have := LMc3.out; omega); intro v199 w48 ho hb hg hat; rw [← Ny198.out] at ho; replace HB := am_ (below_weaken (qB HB) HL.out hb); replace HI0 := am_ (IsS128.grown (IsS128.q HI0) hg (IsS128.own_ne HI0.out HO197.out (by decide))); replace HK := am_ (KeepBut.trans (qP HK) (KeepBut.of_grown hg g) (Kd.R_base2 HO197.out)); have HO200 := am_ (ho); clear HO197; clear ho hb hg hat) | ((with_reducible refine gate_callee (f := 61) rfl ?_); refine gl_ (some 11) Try.func61 #[.pointer (some ⟨g, 0, none⟩), .int .i64 8] ?_; (with_reducible refine (spec_l1Below.calls g s0_0 s0_1 s0_2 8 t201 t202 t203 w0 _ ?side1 ?side2 A4.out).mono ?_); (case side1 => exact IsS128.q HI0); (case side2 => exact qB HB); rintro e w49 ⟨rfl, hi, hb, hk⟩; refine ⟨_, rfl, ?_⟩; replace HO200 := am_ (Kd.R_mono (Kd.R_keep (IsS128.apart (show IsS128 w0 _ g s0_0 s0_1 s0_2 from IsS128.q HI0) (qR HO200) (by decide)) hk (fun _ h => h.2)) (fun _ h => h.1)); replace HK := kT_ HK hk; replace HB := am_ (hb); replace HI0 := am_ (hi); (try clear hb); (try clear hk); (try clear hi)) | ((with_reducible refine gate_callee (f := 115) rfl ?_); refine gl_ (some 48) Try.func115 #[.pointer (some ⟨g, 0, none⟩)] ?_; (with_reducible refine (spec_l1Byte.calls g s0_0 t202 t203 t218 t219 t220 w0 _ ?side1 ?side2 A44.out).mono ?_); (case side1 => exact IsS128.q HI0); (case side2 => exact qB HB); rintro e w50 ⟨rfl, hi, hb, hk⟩; refine ⟨_, rfl, ?_⟩; replace HO200 := am_ (Kd.R_mono (Kd.R_keep (IsS128.apart (show IsS128 w0 _ g s0_0 t202 t203 from IsS128.q HI0) (qR HO200) (by decide)) hk (fun _ h => h.2)) (fun _ h => h.1)); replace HK := kT_ HK hk; replace HB := am_ (hb); replace HI0 := am_ (hi); (try clear hb); (try clear hk); (try clear hi)) | ((with_reducible refine gate_builtin (b := .append) (xs := #[.tmp 46, .tmp 50]) rfl ?_); at_builtin; refine Kd.R_append (Kd.int .u8) w.heap.size rfl (.tmp 46) (.tmp 50) 22 5 (.int .u8 0) 1 rfl Try.underlying22 info5 rfl (by decide) (by omega) v199 y198 ((t218) % 256) [.int .u8 ((t218) % 256)] (fun _ => True) (fun _ => False) rfl rfl ?aP (fun _ hk => hk.elim) ?aF ?aO (Below.refl _ _) ?aS ?aL ?_; (case aP => exact rfl); (case aF => exact (fun _ _ => trivial)); (case aO => exact (qR HO200)); (case aS => exact (keep_size (w := w) (g := g) (row := none) (qP HK))); (case aL => have := LMc45.out; omega); intro v222 w51 ho hb hg hat; rw [← Ny221.out] at ho; replace HB := am_ (below_weaken (qB HB) HL.out hb); replace HI0 := am_ (IsS128.grown (IsS128.q HI0) hg (IsS128.own_ne HI0.out HO200.out (by decide))); replace HK := am_ (KeepBut.trans (qP HK) (KeepBut.of_grown hg g) (Kd.R_base2 HO200.out)); have HO223 := am_ (ho); clear HO200; clear ho hb hg hat))
   go_ret
   exact ⟨_, er_, qR HO223, IsS128.q HI0, qB HB, qP HK⟩
  rw [if_pos c26] at H
  have c26b0 : (t201 == 1) = true := beq_iff_eq.mpr c26
  have c26b1 : (t201 != 1) = false := bne_eq_false_iff_eq.mpr c26
  clear c26
  by_cases c27 : (y198.length : Int) > 0
  rotate_left
  ·
   rw [if_neg c27] at H
   have c27b0 : decide (0 < (y198.length : Int)) = false := decide_eq_false c27
   have c27b1 : decide (0 < y198.length) = false := decide_eq_false (by omega)
   clear c27
   simp only [Option.some.injEq, Prod.mk.injEq] at H
   obtain ⟨rfl, rfl, rfl⟩ := H
   go_enter Try.func74, Try.ntmps74
   go_wp2_with (first | ((with_reducible refine gate_dst (N := 7) rfl ?_); refine Kd.R_lit (Kd.int .u8) _ 5 ?hg (N := 7) ?hd (xs := ([] : List Int)) (inner := []) (ok := fun _ => True) (okp := fun _ => True) ?hr ?hp (fun _ hk => hk) trivial (Below.refl _ _) (Nat.le_refl _) (by simp) ?_; (case hd => rfl); (case hg => rfl); (case hr => first | (go_simp; done) | (go_simp; rfl)); (case hp => exact (Reps.none _ _)); intro v196 w38 ho39 hb hg_ hnew_; clear hg_ hnew_; (first | rw [← Ny195.out] at ho39 | (simp only [Int.reduceToNat] at ho39; rw [← Ny195.out] at ho39)); have HO197 := am_ (Kd.R_lower ho39 (keep_size (w := w) (g := g) (row := none) (qP HK))); replace HK := kL_ HK hb; replace HB := bS_ HB hb; replace HI0 := am_ (IsS128.below (IsS128.q HI0) hb); clear hb ho39) | ((with_reducible refine gate_builtin (b := .append) (xs := #[.tmp 7, .tmp 8]) rfl ?_); at_builtin; refine Kd.R_append_rows (Kd.int .u8) w.heap.size rfl (.tmp 7) (.tmp 8) 22 5 (.int .u8 0) 1 rfl Try.underlying22 info5 rfl (by decide) (by omega) v196 y195 l1 _ _ _ (fun _ => True) (fun _ => False) rfl rfl ?aO ?aR (fun _ _ h => h) (fun _ h => h.elim) ?aF (Below.refl _ _) ?aS ?aL ?_; (case aR => exact Kd.C_keep 0 HR1.out (qP HK) hf1); (case aF => exact (fun _ _ => trivial)); (case aO => exact (qR HO197)); (case aS => exact (keep_size (w := w) (g := g) (row := none) (qP HK))); (case aL => have := LMc3.out; omega); intro v199 w40 ho hb hg hat; rw [← Ny198.out] at ho; replace HB := am_ (below_weaken (qB HB) HL.out hb); replace HI0 := am_ (IsS128.grown (IsS128.q HI0) hg (IsS128.own_ne HI0.out HO197.out (by decide))); replace HK := am_ (KeepBut.trans (qP HK) (KeepBut.of_grown hg g) (Kd.R_base2 HO197.out)); have HO200 := am_ (ho); clear HO197; clear ho hb hg hat) | ((with_reducible refine gate_callee (f := 61) rfl ?_); refine gl_ (some 11) Try.func61 #[.pointer (some ⟨g, 0, none⟩), .int .i64 8] ?_; (with_reducible refine (spec_l1Below.calls g s0_0 s0_1 s0_2 8 t201 t202 t203 w0 _ ?side1 ?side2 A4.out).mono ?_); (case side1 => exact IsS128.q HI0); (case side2 => exact qB HB); rintro e w41 ⟨rfl, hi, hb, hk⟩; refine ⟨_, rfl, ?_⟩; replace HO200 := am_ (Kd.R_mono (Kd.R_keep (IsS128.apart (show IsS128 w0 _ g s0_0 s0_1 s0_2 from IsS128.q HI0) (qR HO200) (by decide)) hk (fun _ h => h.2)) (fun _ h => h.1)); replace HK := kT_ HK hk; replace HB := am_ (hb); replace HI0 := am_ (hi); (try clear hb); (try clear hk); (try clear hi); obtain ⟨Ao42, co42, eo42⟩ := Kd.R_slice HO200.out; subst eo42))
   go_ret
   exact ⟨_, er_, qR HO200, IsS128.q HI0, qB HB, qP HK⟩
  rw [if_pos c27] at H
  have c27b0 : decide (0 < (y198.length : Int)) = true := decide_eq_true c27
  have c27b1 : decide (0 < y198.length) = true := decide_eq_true (by omega)
  clear c27
  replace H := bf_ H
  obtain ⟨f_, hf_, ⟨t212, t213, t214⟩, A28, H⟩ := H
  subst hf_
  (try dsimp only at H)
  by_cases c29 : 0 ≤ t212
  case neg => exact nn_ c29 H
  rw [if_pos c29] at H
  have c29b0 := eq_true c29
  have c29b1 : decide (0 ≤ t212) = true := decide_eq_true c29
  clear c29
  by_cases c30 : t212 ≤ (y198.length : Int)
  case neg => exact nn_ c30 H
  rw [if_pos c30] at H
  have c30b0 := eq_true c30
  have c30b1 : decide (t212 ≤ (y198.length : Int)) = true := decide_eq_true c30
  clear c30
  obtain ⟨y215, hy215⟩ : ∃ y_ : List Int, y_ = (y198.take (t212 : Int).toNat) := ⟨_, rfl⟩
  rw [← hy215] at H
  have Ny215 := Aside0.mk hy215
  clear hy215
  simp only [Option.some.injEq, Prod.mk.injEq] at H
  obtain ⟨rfl, rfl, rfl⟩ := H
  go_enter Try.func74, Try.ntmps74
  go_wp2_with (first | ((with_reducible refine gate_dst (N := 7) rfl ?_); refine Kd.R_lit (Kd.int .u8) _ 5 ?hg (N := 7) ?hd (xs := ([] : List Int)) (inner := []) (ok := fun _ => True) (okp := fun _ => True) ?hr ?hp (fun _ hk => hk) trivial (Below.refl _ _) (Nat.le_refl _) (by simp) ?_; (case hd => rfl); (case hg => rfl); (case hr => first | (go_simp; done) | (go_simp; rfl)); (case hp => exact (Reps.none _ _)); intro v196 w31 ho32 hb hg_ hnew_; clear hg_ hnew_; (first | rw [← Ny195.out] at ho32 | (simp only [Int.reduceToNat] at ho32; rw [← Ny195.out] at ho32)); have HO197 := am_ (Kd.R_lower ho32 (keep_size (w := w) (g := g) (row := none) (qP HK))); replace HK := kL_ HK hb; replace HB := bS_ HB hb; replace HI0 := am_ (IsS128.below (IsS128.q HI0) hb); clear hb ho32) | ((with_reducible refine gate_builtin (b := .append) (xs := #[.tmp 7, .tmp 8]) rfl ?_); at_builtin; refine Kd.R_append_rows (Kd.int .u8) w.heap.size rfl (.tmp 7) (.tmp 8) 22 5 (.int .u8 0) 1 rfl Try.underlying22 info5 rfl (by decide) (by omega) v196 y195 l1 _ _ _ (fun _ => True) (fun _ => False) rfl rfl ?aO ?aR (fun _ _ h => h) (fun _ h => h.elim) ?aF (Below.refl _ _) ?aS ?aL ?_; (case aR => exact Kd.C_keep 0 HR1.out (qP HK) hf1); (case aF => exact (fun _ _ => trivial)); (case aO => exact (qR HO197)); (case aS => exact (keep_size (w := w) (g := g) (row := none) (qP HK))); (case aL => have := LMc3.out; omega); intro v199 w33 ho hb hg hat; rw [← Ny198.out] at ho; replace HB := am_ (below_weaken (qB HB) HL.out hb); replace HI0 := am_ (IsS128.grown (IsS128.q HI0) hg (IsS128.own_ne HI0.out HO197.out (by decide))); replace HK := am_ (KeepBut.trans (qP HK) (KeepBut.of_grown hg g) (Kd.R_base2 HO197.out)); have HO200 := am_ (ho); clear HO197; clear ho hb hg hat) | ((with_reducible refine gate_callee (f := 61) rfl ?_); refine gl_ (some 11) Try.func61 #[.pointer (some ⟨g, 0, none⟩), .int .i64 8] ?_; (with_reducible refine (spec_l1Below.calls g s0_0 s0_1 s0_2 8 t201 t202 t203 w0 _ ?side1 ?side2 A4.out).mono ?_); (case side1 => exact IsS128.q HI0); (case side2 => exact qB HB); rintro e w34 ⟨rfl, hi, hb, hk⟩; refine ⟨_, rfl, ?_⟩; replace HO200 := am_ (Kd.R_mono (Kd.R_keep (IsS128.apart (show IsS128 w0 _ g s0_0 s0_1 s0_2 from IsS128.q HI0) (qR HO200) (by decide)) hk (fun _ h => h.2)) (fun _ h => h.1)); replace HK := kT_ HK hk; replace HB := am_ (hb); replace HI0 := am_ (hi); (try clear hb); (try clear hk); (try clear hi); obtain ⟨Ao35, co35, eo35⟩ := Kd.R_slice HO200.out; subst eo35) | ((with_reducible refine gate_callee (f := 61) rfl ?_); refine gl_ (some 42) Try.func61 #[.pointer (some ⟨g, 0, none⟩), .int .i64 (y198.length : Int)] ?_; (with_reducible refine (spec_l1Below.calls g s0_0 t202 t203 (y198.length : Int) t212 t213 t214 w0 _ ?side1 ?side2 A28.out).mono ?_); (case side1 => exact IsS128.q HI0); (case side2 => exact qB HB); rintro e w36 ⟨rfl, hi, hb, hk⟩; refine ⟨_, rfl, ?_⟩; replace HO200 := am_ (Kd.R_mono (Kd.R_keep (IsS128.apart (show IsS128 w0 _ g s0_0 t202 t203 from IsS128.q HI0) (qR HO200) (by decide)) hk (fun _ h => h.2)) (fun _ h => h.1)); replace HK := kT_ HK hk; replace HB := am_ (hb); replace HI0 := am_ (hi); (try clear hb); (try clear hk); (try clear hi); have q37 : (t212 : Int) ≤ ((y198.length : Int) : Int) := od_; obtain ⟨i037, hi037, _, hsz37, _⟩ := info_parts info5; have hcut37 := cut_to (P := Try.prog) 22 5 .i64 Try.underlying22 hi037 Ao35 y198.length co35 t212 od_ q37 (Kd.R_reads' HO200.out).2.1; have hr37 := Kd.R_take (m := (t212 : Int).toNat) HO200.out (by omega); have hy37 : y215.length = (t212 : Int).toNat := (by rw [Ny215.out, List.length_take]; omega); rw [← Ny215.out] at hr37; rw [← hy37] at hr37 hcut37; clear hy37 hi037 hsz37 HO200; have HO217 := Aside0.mk hr37; clear hr37; replace q37 := eq_true q37))
  go_ret
  exact ⟨_, er_, qR HO217, IsS128.q HI0, qB HB, qP HK⟩
 rw [if_pos c5] at H
 have c5b0 : (t201 == 0) = true := beq_iff_eq.mpr c5
 have c5b1 : (t201 != 0) = false := bne_eq_false_iff_eq.mpr c5
 clear c5
 by_cases c6 : (y198.length : Int) > 0
 rotate_left
 ·
  rw [if_neg c6] at H
  have c6b0 : decide (0 < (y198.length : Int)) = false := decide_eq_false c6
  have c6b1 : decide (0 < y198.length) = false := decide_eq_false (by omega)
  clear c6
  simp only [Option.some.injEq, Prod.mk.injEq] at H
  obtain ⟨rfl, rfl, rfl⟩ := H
  go_enter Try.func74, Try.ntmps74
  go_wp2_with (first | ((with_reducible refine gate_dst (N := 7) rfl ?_); refine Kd.R_lit (Kd.int .u8) _ 5 ?hg (N := 7) ?hd (xs := ([] : List Int)) (inner := []) (ok := fun _ => True) (okp := fun _ => True) ?hr ?hp (fun _ hk => hk) trivial (Below.refl _ _) (Nat.le_refl _) (by simp) ?_; (case hd => rfl); (case hg => rfl); (case hr => first | (go_simp; done) | (go_simp; rfl)); (case hp => exact (Reps.none _ _)); intro v196 w21 ho22 hb hg_ hnew_; clear hg_ hnew_; (first | rw [← Ny195.out] at ho22 | (simp only [Int.reduceToNat] at ho22; rw [← Ny195.out] at ho22)); have HO197 := am_ (Kd.R_lower ho22 (keep_size (w := w) (g := g) (row := none) (qP HK))); replace HK := kL_ HK hb; replace HB := bS_ HB hb; replace HI0 := am_ (IsS128.below (IsS128.q HI0) hb); clear hb ho22) | ((with_reducible refine gate_builtin (b := .append) (xs := #[.tmp 7, .tmp 8]) rfl ?_); at_builtin; refine Kd.R_append_rows (Kd.int .u8) w.heap.size rfl (.tmp 7) (.tmp 8) 22 5 (.int .u8 0) 1 rfl Try.underlying22 info5 rfl (by decide) (by omega) v196 y195 l1 _ _ _ (fun _ => True) (fun _ => False) rfl rfl ?aO ?aR (fun _ _ h => h) (fun _ h => h.elim) ?aF (Below.refl _ _) ?aS ?aL ?_; (case aR => exact Kd.C_keep 0 HR1.out (qP HK) hf1); (case aF => exact (fun _ _ => trivial)); (case aO => exact (qR HO197)); (case aS => exact (keep_size (w := w) (g := g) (row := none) (qP HK))); (case aL => have := LMc3.out; omega); intro v199 w23 ho hb hg hat; rw [← Ny198.out] at ho; replace HB := am_ (below_weaken (qB HB) HL.out hb); replace HI0 := am_ (IsS128.grown (IsS128.q HI0) hg (IsS128.own_ne HI0.out HO197.out (by decide))); replace HK := am_ (KeepBut.trans (qP HK) (KeepBut.of_grown hg g) (Kd.R_base2 HO197.out)); have HO200 := am_ (ho); clear HO197; clear ho hb hg hat) | ((with_reducible refine gate_callee (f := 61) rfl ?_); refine gl_ (some 11) Try.func61 #[.pointer (some ⟨g, 0, none⟩), .int .i64 8] ?_; (with_reducible refine (spec_l1Below.calls g s0_0 s0_1 s0_2 8 t201 t202 t203 w0 _ ?side1 ?side2 A4.out).mono ?_); (case side1 => exact IsS128.q HI0); (case side2 => exact qB HB); rintro e w24 ⟨rfl, hi, hb, hk⟩; refine ⟨_, rfl, ?_⟩; replace HO200 := am_ (Kd.R_mono (Kd.R_keep (IsS128.apart (show IsS128 w0 _ g s0_0 s0_1 s0_2 from IsS128.q HI0) (qR HO200) (by decide)) hk (fun _ h => h.2)) (fun _ h => h.1)); replace HK := kT_ HK hk; replace HB := am_ (hb); replace HI0 := am_ (hi); (try clear hb); (try clear hk); (try clear hi); obtain ⟨Ao25, co25, eo25⟩ := Kd.R_slice HO200.out; subst eo25))
  go_ret
  exact ⟨_, er_, qR HO200, IsS128.q HI0, qB HB, qP HK⟩
 rw [if_pos c6] at H
 have c6b0 : decide (0 < (y198.length : Int)) = true := decide_eq_true c6
 have c6b1 : decide (0 < y198.length) = true := decide_eq_true (by omega)
 clear c6
 replace H := bf_ H
 obtain ⟨f_, hf_, ⟨t204, t205, t206⟩, A7, H⟩ := H
 subst hf_
 (try dsimp only at H)
 by_cases c8 : 0 ≤ t204
 case neg => exact nn_ c8 H
 rw [if_pos c8] at H
 have c8b0 : decide (0 ≤ t204) = true := decide_eq_true c8
 clear c8
 by_cases c9 : t204 < (y198.length : Int)
 case neg => exact nn_ c9 H
 rw [if_pos c9] at H
 have c9b0 : decide (t204 < (y198.length : Int)) = true := decide_eq_true c9
 clear c9
 replace H := bf_ H
 obtain ⟨f_, hf_, ⟨t208, t209, t210⟩, A10, H⟩ := H
 subst hf_
 (try dsimp only at H)
 obtain ⟨y211, hy211⟩ : ∃ y_ : List Int, y_ = (y198.set (t204 : Int).toNat (Go.bits .xor .u8 (rd y198 t204) ((wrap64 (1 + t208)) % 256))) := ⟨_, rfl⟩
 rw [← hy211] at H
 have Ny211 := Aside0.mk hy211
 clear hy211
 simp only [Option.some.injEq, Prod.mk.injEq] at H
 obtain ⟨rfl, rfl, rfl⟩ := H
 go_enter Try.func74, Try.ntmps74
 try go_wp2_with (first | ((with_reducible refine gate_dst (N := 7) rfl ?_); refine Kd.R_lit (Kd.int .u8) _ 5 ?hg (N := 7) ?hd (xs := ([] : List Int)) (inner := []) (ok := fun _ => True) (okp := fun _ => True) ?hr ?hp (fun _ hk => hk) trivial (Below.refl _ _) (Nat.le_refl _) (by simp) ?_; (case hd => rfl); (case hg => rfl); (case hr => first | (go_simp; done) | (go_simp; rfl)); (case hp => exact (Reps.none _ _)); intro v196 w12 ho13 hb hg_ hnew_; clear hg_ hnew_; (first | rw [← Ny195.out] at ho13 | (simp only [Int.reduceToNat] at ho13; rw [← Ny195.out] at ho13)); have HO197 := am_ (Kd.R_lower ho13 (keep_size (w := w) (g := g) (row := none) (qP HK))); replace HK := kL_ HK hb; replace HB := bS_ HB hb; replace HI0 := am_ (IsS128.below (IsS128.q HI0) hb); clear hb ho13) | ((with_reducible refine gate_builtin (b := .append) (xs := #[.tmp 7, .tmp 8]) rfl ?_); at_builtin; refine Kd.R_append_rows (Kd.int .u8) w.heap.size rfl (.tmp 7) (.tmp 8) 22 5 (.int .u8 0) 1 rfl Try.underlying22 info5 rfl (by decide) (by omega) v196 y195 l1 _ _ _ (fun _ => True) (fun _ => False) rfl rfl ?aO ?aR (fun _ _ h => h) (fun _ h => h.elim) ?aF (Below.refl _ _) ?aS ?aL ?_; (case aR => exact Kd.C_keep 0 HR1.out (qP HK) hf1); (case aF => exact (fun _ _ => trivial)); (case aO => exact (qR HO197)); (case aS => exact (keep_size (w := w) (g := g) (row := none) (qP HK))); (case aL => have := LMc3.out; omega); intro v199 w14 ho hb hg hat; rw [← Ny198.out] at ho; replace HB := am_ (below_weaken (qB HB) HL.out hb); replace HI0 := am_ (IsS128.grown (IsS128.q HI0) hg (IsS128.own_ne HI0.out HO197.out (by decide))); replace HK := am_ (KeepBut.trans (qP HK) (KeepBut.of_grown hg g) (Kd.R_base2 HO197.out)); have HO200 := am_ (ho); clear HO197; clear ho hb hg hat) | ((with_reducible refine gate_callee (f := 61) rfl ?_); refine gl_ (some 11) Try.func61 #[.pointer (some ⟨g, 0, none⟩), .int .i64 8] ?_; (with_reducible refine (spec_l1Below.calls g s0_0 s0_1 s0_2 8 t201 t202 t203 w0 _ ?side1 ?side2 A4.out).mono ?_); (case side1 => exact IsS128.q HI0); (case side2 => exact qB HB); rintro e w15 ⟨rfl, hi, hb, hk⟩; refine ⟨_, rfl, ?_⟩; replace HO200 := am_ (Kd.R_mono (Kd.R_keep (IsS128.apart (show IsS128 w0 _ g s0_0 s0_1 s0_2 from IsS128.q HI0) (qR HO200) (by decide)) hk (fun _ h => h.2)) (fun _ h => h.1)); replace HK := kT_ HK hk; replace HB := am_ (hb); replace HI0 := am_ (hi); (try clear hb); (try clear hk); (try clear hi); obtain ⟨Ao16, co16, eo16⟩ := Kd.R_slice HO200.out; subst eo16) | ((with_reducible refine gate_callee (f := 61) rfl ?_); refine gl_ (some 20) Try.func61 #[.pointer (some ⟨g, 0, none⟩), .int .i64 (y198.length : Int)] ?_; (with_reducible refine (spec_l1Below.calls g s0_0 t202 t203 (y198.length : Int) t204 t205 t206 w0 _ ?side1 ?side2 A7.out).mono ?_); (case side1 => exact IsS128.q HI0); (case side2 => exact qB HB); rintro e w17 ⟨rfl, hi, hb, hk⟩; refine ⟨_, rfl, ?_⟩; replace HO200 := am_ (Kd.R_mono (Kd.R_keep (IsS128.apart (show IsS128 w0 _ g s0_0 t202 t203 from IsS128.q HI0) (qR HO200) (by decide)) hk (fun _ h => h.2)) (fun _ h => h.1)); replace HK := kT_ HK hk; replace HB := am_ (hb); replace HI0 := am_ (hi); (try clear hb); (try clear hk); (try clear hi)))
 replace HO200 := am_ (Kd.R_drew HO200.out)
 replace HI0 := am_ (IsS128.drew HI0.out)
 replace HK := am_ (keep_drew HK.out)
 replace HB := am_ (below_drew1 HB.out)
 have p207 : 0 ≤ (t204 : Int) := od_
 have q207 : t204 < (y198.length : Int) := od_
 obtain ⟨ad207, e207, hx207_0⟩ := Kd.at_int (Kd.R_reads' HO200.out).2.2 t204 p207 q207
 cases e207
 replace p207 := eq_true p207
 replace q207 := eq_true q207
 refine start_ (n := 13) (S := fun w' => w'.cell? (ad207.add (t204).toNat) = some (.int .u8 (rd y198 t204))) (ds := [12]) (rl [0,13]) (by kernel_rfl) rfl rfl (hx207_0) (fun hHeld => ?_); refine with_tabW spec_l1Bend.tab6 spec_l1Bend.bits6 (fun HT_ HW_ => ?_)
 generalize w17.drew = w18 at HO200 HI0 HK HB hx207_0 hHeld ⊢
 refine pq_ 0 21 HT_ (rl [1,12]) ?_
 refine pq_ 1 22 HT_ (rl [2,11]) ?_
 refine pq_ 2 23 HT_ (rl [3,10]) ?_
 refine pq_ 3 24 HT_ (rl [4,9]) ?_
 refine pq_ 4 25 HT_ (rl [5,8]) ?_
 refine pq_ 6 27 HT_ (rl [5,1,1,6]) ?_
 refine tz_ (i := 5) (N := some 26) HT_ HW_ (rl [7,6]) rfl rfl hHeld ?_
 refine on_ HT_ (i := 7) (N := some 28) (rl [8,5]) (fun K hK => ?_)
 refine goes_ Try.func61 (by kernel_rfl) rfl #[.pointer (some ⟨g, 0, none⟩), .int .i64 255] (by rfl) rfl rfl la_ ?_
 with_reducible refine (spec_l1Below.calls g s0_0 t205 t206 255 t208 t209 t210 w0 _ ?side1 ?side2 A10.out).mono ?_
 (case side1 => exact IsS128.q HI0)
 (case side2 => exact qB HB)
 rintro e w19 ⟨rfl, hi, hb, hk⟩
 have HS0_ := keep_cell hk (hHeld) (by first | (rw [add_block]; exact Kd.own_blk (IsS128.own_ne HI0.out HO200.out (by decide))) | (show (Addr.add _ _).block ≠ _; rw [add_block]; exact Kd.own_blk (IsS128.own_ne HI0.out HO200.out (by decide))) | exact Kd.own_blk (IsS128.own_ne HI0.out HO200.out (by decide)))
 refine ⟨_, rfl, ?_⟩
 replace HO200 := am_ (Kd.R_mono (Kd.R_keep (IsS128.apart (show IsS128 w0 _ g s0_0 t205 t206 from IsS128.q HI0) (qR HO200) (by decide)) hk (fun _ h => h.2)) (fun _ h => h.1))
 replace HK := kT_ HK hk
 replace HB := am_ (hb)
 replace HI0 := am_ (hi)
 (try clear hb hk hi)
 have p11 : 0 ≤ (t204 : Int) := od_
 have q11 : (t204 : Int) < ((y198.length : Int) : Int) := od_
 obtain ⟨go11, co11, eo11, gb11, gl11, cl11, HG11⟩ := Kd.R_form HO200.out (by omega)
 (first | cases eo11 | (injection eo11 with ea_ en_ ec_; (first | subst ea_ | (injection ea_ with ea_; subst ea_)); subst ec_; clear en_))
 have GB11 := Aside0.mk gb11
 have GG11 := Aside0.mk HG11
 clear gb11 gl11 HG11
 (first | simp only [add_plain] at hx207_0 | skip)
 obtain ⟨hx11_0, hf11_0⟩ := Kd.R_celln 0 HO200.out (t204 : Int) p11 q11
 replace p11 := eq_true p11
 replace q11 := eq_true q11
 have HN0_go11 := Aside0.mk (show g ≠ go11 from by have h_ := IsS128.own_ne HI0.out HO200.out (by decide); intro e_; exact h_ (by rw [e_]; rfl))
 have HP20 := Kd.R_putn HO200.out (t204 : Int) (Go.bits .xor .u8 (rd y198 t204) ((wrap64 (1 + t208)) % 256))
 rw [← Ny211.out] at HP20
 have HQ20 := Aside0.mk HP20
 clear HP20
 refine hK.out _ _ (HS0_) (fun hHeld => ?_)
 clear hK K
 refine nm_ (some 28) ?_
 refine pq_ 8 29 HT_ (rl [9,4]) ?_
 refine pq_ 9 30 HT_ (rl [10,3]) ?_
 refine pq_ 10 31 HT_ (rl [11,2]) ?_
 refine pq_ 11 32 HT_ (rl [12,1]) ?_
 refine last_ (i := 12) (N := none) (rl [13]) rfl rfl (one_of HT_.out (by kernel_rfl)) (by decide) (fun K hK => ?_)
 refine skip_ (w1 := ?_) (by rfl) rfl ?_ ?_
 rotate_left
 ·
  go_simp
  rfl
 refine hK.out _ _ ?_
 clear hK K
 refine done_ (done_of HT_.out (by kernel_rfl)) ?_
 try go_wp2
 go_ret
 exact ⟨_, er_, by (with_reducible repeat (first | apply Kd.R_alloc | apply Kd.R_drewN | apply Kd.R_drew)); exact HQ20.out, by repeat (first | (with_reducible first | exact HI0.out | apply IsS128.alloc | apply IsS128.drewN | apply IsS128.drew | apply IsS128.set_1 | apply IsS128.set_2 | refine IsS128.far ?_ HN0_go11.out _) | exact HI0.out), by repeat (first | (with_reducible first | exact HB.out | apply below_alloc | apply pw_below_drewN | apply below_drew1 | refine below_set ?_ (Nat.le_trans HL.out GB11.out) | refine below_set ?_ (IsS128.ge HI0.out)) | exact HB.out), by repeat (first | (with_reducible first | exact HK.out | apply KeepBut.set_ | apply keep_drewN | apply keep_drew | apply keep_alloc | refine keep_far ?_ GB11.out _) | exact HK.out)⟩

/-! ### spec_l6Bytes: function 127 -/
def spec_l6Bytes.f (k : Nat) (s0_0 : List Int) (s0_1 : Int) (s0_2 : Int) : Option (List Int × Int × Int) := (spec_l6Draw.f k s0_0 s0_1 s0_2).bind fun bt224 => ((spec_PutFrame.f k bt224.1 bt224.2.1 bt224.2.2.1).bind fun t229 => ((spec_l1Once.f s0_0 bt224.2.2.2.1 bt224.2.2.2.2 6).bind fun bt232 => (if bt232.1 = true then ((spec_l1Below.f s0_0 bt232.2.1 bt232.2.2 4).bind fun bt235 => ((spec_l1Bytes.f k s0_0 bt235.2.1 bt235.2.2 bt235.1).bind fun bt238 => (some (bt238.1, bt238.2.1, bt238.2.2)))) else ((spec_l1Bend.f s0_0 bt232.2.1 bt232.2.2 t229).bind fun bt243 => (some (bt243.1, bt243.2.1, bt243.2.2))))))
theorem spec_l6Bytes.mono : ∀ a0 a1 a2 k, LeO (spec_l6Bytes.f k a0 a1 a2) (spec_l6Bytes.f (k + 1) a0 a1 a2) := by
 intro a0 a1 a2 k
 unfold spec_l6Bytes.f
 have m0 := @spec_PutFrame.mono; have m1 := @spec_l1Bytes.mono; have m2 := @spec_l6Draw.mono; exact mo_
set_option maxHeartbeats 8000000 in
set_option maxRecDepth 100000 in
theorem spec_l6Bytes.calls (k : Nat) (g : Nat) (s0_0 : List Int) (s0_1 : Int) (s0_2 : Int) (r1 : List Int) (r2 : Int) (r3 : Int) (w0 w : World) (hI : IsS128 w0 w g s0_0 s0_1 s0_2) (hB : Below w0.heap.size w0 w) (h : spec_l6Bytes.f k s0_0 s0_1 s0_2 = some (r1, r2, r3)) :
  Calls Try.prog 127 #[.pointer (some ⟨g, 0, none⟩)] w fun e w' => ∃ v0_ : Value, e = .returned (v0_) ∧ Kd.R (Kd.int .u8) 5 w' w.heap.size (fun _ => True) v0_ r1 ∧ IsS128 w0 w' g s0_0 r2 r3 ∧ Below w0.heap.size w0 w' ∧ KeepBut w w' g none := by
 have HI0 := Aside0.mk hI
 have IGHI0 := iG_ HI0.out.ge
 have HK := Aside0.mk (KeepBut.refl w g none)
 have HL := Aside0.mk hB.size
 clear hI
 have HW0 := Aside0.mk hB.size
 have HB := Aside0.mk hB
 clear hB
 have H := h
 unfold spec_l6Bytes.f at H
 clear h
 replace H := bf_ H
 obtain ⟨f_, hf_, ⟨t224, t225, t226, t227, t228⟩, A2, H⟩ := H
 subst hf_
 (try dsimp only at H)
 replace H := bd_ H
 obtain ⟨t229, A3, H⟩ := H
 replace H := bf_ H
 obtain ⟨f_, hf_, ⟨t232, t233, t234⟩, A4, H⟩ := H
 subst hf_
 (try dsimp only at H)
 by_cases c5 : t232 = true
 rotate_left
 ·
  replace c5 := Bool.eq_false_iff.mpr c5
  subst c5
  rw [if_neg (show ¬ (false = true) by decide)] at H
  replace H := bf_ H
  obtain ⟨f_, hf_, ⟨t243, t246, t247⟩, A13, H⟩ := H
  subst hf_
  (try dsimp only at H)
  simp only [Option.some.injEq, Prod.mk.injEq] at H
  obtain ⟨rfl, rfl, rfl⟩ := H
  go_enter Try.func127, Try.ntmps127
  go_wp2_with (first | ((with_reducible refine gate_callee (f := 124) rfl ?_); refine gl_ (some 5) Try.func124 #[.pointer (some ⟨g, 0, none⟩)] ?_; (with_reducible refine (spec_l6Draw.calls k g s0_0 s0_1 s0_2 t224 t225 t226 t227 t228 w0 _ ?side1 ?side2 A2.out).mono ?_); (case side1 => exact IsS128.q HI0); (case side2 => exact qB HB); rintro e w14 ⟨rfl, hi, hb, hk⟩; refine ⟨_, rfl, ?_⟩; replace HK := kT_ HK hk; replace HB := am_ (hb); replace HI0 := am_ (hi); (try clear hb); (try clear hk); (try clear hi)) | ((with_reducible refine gate_callee (f := 126) rfl ?_); refine gl_ (some 6) Try.func126 #[.agg #[.int .i64 t224, .string t225, .int .i64 t226]] ?_; (with_reducible refine (spec_PutFrame.calls k t224 t225 t226 t229 _ A3.out).mono ?_); rintro e w15 ⟨v230, rfl, ho0, hb⟩; refine ⟨_, rfl, ?_⟩; have HO231 := am_ (Kd.R_lower ho0 (keep_size (w := w) (g := g) (row := none) (qP HK))); replace HK := kL_ HK hb; replace HB := bS_ HB hb; replace HI0 := am_ (IsS128.below (IsS128.q HI0) hb); (try clear hb); (try clear ho0)) | ((with_reducible refine gate_callee (f := 110) rfl ?_); refine gl_ (some 8) Try.func110 #[.pointer (some ⟨g, 0, none⟩), .int .i64 6] ?_; (with_reducible refine (spec_l1Once.calls g s0_0 t227 t228 6 false t233 t234 w0 _ ?side1 ?side2 A4.out).mono ?_); (case side1 => exact IsS128.q HI0); (case side2 => exact qB HB); rintro e w16 ⟨rfl, hi, hb, hk⟩; refine ⟨_, rfl, ?_⟩; replace HO231 := am_ (Kd.R_mono (Kd.R_keep (IsS128.apart (show IsS128 w0 _ g s0_0 t227 t228 from IsS128.q HI0) (qR HO231) (by decide)) hk (fun _ h => h.2)) (fun _ h => h.1)); replace HK := kT_ HK hk; replace HB := am_ (hb); replace HI0 := am_ (hi); (try clear hb); (try clear hk); (try clear hi); obtain ⟨Ao17, co17, eo17⟩ := Kd.R_slice HO231.out; subst eo17) | ((with_reducible refine gate_callee (f := 74) rfl ?_); refine gl_ (some 15) Try.func74 #[.pointer (some ⟨g, 0, none⟩), .slice Ao17 t229.length co17] ?_; (with_reducible refine (spec_l1Bend.calls g s0_0 t233 t234 _ _ t229 t243 t246 t247 w0 _ ?side1 ?side2 ?side3 ?side4 ?side5 A13.out).mono ?_); (case side1 => exact IsS128.q HI0); (case side2 => exact qB HB); (case side3 => exact qC ((Kd.R_reads' HO231.out).2.2)); (case side4 => exact (Kd.R_reads' HO231.out).2.1); (case side5 => exact far_slice (IsS128.own_ne HI0.out HO231.out (by decide))); rintro e w18 ⟨v244, rfl, ho0, hi, hb, hk⟩; refine ⟨_, rfl, ?_⟩; have HO245 := am_ (Kd.R_lower (Kd.R_new' ho0 (Kd.R_lt (qR HO231))) (keep_size (w := w) (g := g) (row := none) (qP HK))); replace HO231 := am_ (Kd.R_mono (Kd.R_told (Kd.R_oldK (IsS128.apart (show IsS128 w0 _ g s0_0 t233 t234 from IsS128.q HI0) (qR HO231) (by decide)) hk) (Kd.R_base ho0)) (fun _ h_ => h_.1)); replace HK := kT_ HK hk; replace HB := am_ (hb); replace HI0 := am_ (hi); (try clear hb); (try clear hk); (try clear hi); (try clear ho0)))
  go_ret
  exact ⟨_, er_, (xR1_ HO245), IsS128.q HI0, qB HB, qP HK⟩
 subst c5
 rw [if_pos rfl] at H
 replace H := bf_ H
 obtain ⟨f_, hf_, ⟨t235, t236, t237⟩, A6, H⟩ := H
 subst hf_
 (try dsimp only at H)
 replace H := bf_ H
 obtain ⟨f_, hf_, ⟨t238, t241, t242⟩, A7, H⟩ := H
 subst hf_
 (try dsimp only at H)
 simp only [Option.some.injEq, Prod.mk.injEq] at H
 obtain ⟨rfl, rfl, rfl⟩ := H
 go_enter Try.func127, Try.ntmps127
 go_wp2_with (first | ((with_reducible refine gate_callee (f := 124) rfl ?_); refine gl_ (some 5) Try.func124 #[.pointer (some ⟨g, 0, none⟩)] ?_; (with_reducible refine (spec_l6Draw.calls k g s0_0 s0_1 s0_2 t224 t225 t226 t227 t228 w0 _ ?side1 ?side2 A2.out).mono ?_); (case side1 => exact IsS128.q HI0); (case side2 => exact qB HB); rintro e w8 ⟨rfl, hi, hb, hk⟩; refine ⟨_, rfl, ?_⟩; replace HK := kT_ HK hk; replace HB := am_ (hb); replace HI0 := am_ (hi); (try clear hb); (try clear hk); (try clear hi)) | ((with_reducible refine gate_callee (f := 126) rfl ?_); refine gl_ (some 6) Try.func126 #[.agg #[.int .i64 t224, .string t225, .int .i64 t226]] ?_; (with_reducible refine (spec_PutFrame.calls k t224 t225 t226 t229 _ A3.out).mono ?_); rintro e w9 ⟨v230, rfl, ho0, hb⟩; refine ⟨_, rfl, ?_⟩; have HO231 := am_ (Kd.R_lower ho0 (keep_size (w := w) (g := g) (row := none) (qP HK))); replace HK := kL_ HK hb; replace HB := bS_ HB hb; replace HI0 := am_ (IsS128.below (IsS128.q HI0) hb); (try clear hb); (try clear ho0)) | ((with_reducible refine gate_callee (f := 110) rfl ?_); refine gl_ (some 8) Try.func110 #[.pointer (some ⟨g, 0, none⟩), .int .i64 6] ?_; (with_reducible refine (spec_l1Once.calls g s0_0 t227 t228 6 true t233 t234 w0 _ ?side1 ?side2 A4.out).mono ?_); (case side1 => exact IsS128.q HI0); (case side2 => exact qB HB); rintro e w10 ⟨rfl, hi, hb, hk⟩; refine ⟨_, rfl, ?_⟩; replace HO231 := am_ (Kd.R_mono (Kd.R_keep (IsS128.apart (show IsS128 w0 _ g s0_0 t227 t228 from IsS128.q HI0) (qR HO231) (by decide)) hk (fun _ h => h.2)) (fun _ h => h.1)); replace HK := kT_ HK hk; replace HB := am_ (hb); replace HI0 := am_ (hi); (try clear hb); (try clear hk); (try clear hi)) | ((with_reducible refine gate_callee (f := 61) rfl ?_); refine gl_ (some 11) Try.func61 #[.pointer (some ⟨g, 0, none⟩), .int .i64 4] ?_; (with_reducible refine (spec_l1Below.calls g s0_0 t233 t234 4 t235 t236 t237 w0 _ ?side1 ?side2 A6.out).mono ?_); (case side1 => exact IsS128.q HI0); (case side2 => exact qB HB); rintro e w11 ⟨rfl, hi, hb, hk⟩; refine ⟨_, rfl, ?_⟩; replace HO231 := am_ (Kd.R_mono (Kd.R_keep (IsS128.apart (show IsS128 w0 _ g s0_0 t233 t234 from IsS128.q HI0) (qR HO231) (by decide)) hk (fun _ h => h.2)) (fun _ h => h.1)); replace HK := kT_ HK hk; replace HB := am_ (hb); replace HI0 := am_ (hi); (try clear hb); (try clear hk); (try clear hi)) | ((with_reducible refine gate_callee (f := 91) rfl ?_); refine gl_ (some 12) Try.func91 #[.pointer (some ⟨g, 0, none⟩), .int .i64 t235] ?_; (with_reducible refine (spec_l1Bytes.calls k g s0_0 t236 t237 t235 t238 t241 t242 w0 _ ?side1 ?side2 A7.out).mono ?_); (case side1 => exact IsS128.q HI0); (case side2 => exact qB HB); rintro e w12 ⟨v239, rfl, ho0, hi, hb, hk⟩; refine ⟨_, rfl, ?_⟩; have HO240 := am_ (Kd.R_lower (Kd.R_new' ho0 (Kd.R_lt (qR HO231))) (keep_size (w := w) (g := g) (row := none) (qP HK))); replace HO231 := am_ (Kd.R_mono (Kd.R_told (Kd.R_oldK (IsS128.apart (show IsS128 w0 _ g s0_0 t236 t237 from IsS128.q HI0) (qR HO231) (by decide)) hk) (Kd.R_base ho0)) (fun _ h_ => h_.1)); replace HK := kT_ HK hk; replace HB := am_ (hb); replace HI0 := am_ (hi); (try clear hb); (try clear hk); (try clear hi); (try clear ho0)))
 go_ret
 exact ⟨_, er_, (xR1_ HO240), IsS128.q HI0, qB HB, qP HK⟩

end Go.Proofs.Ytiffahfpfgnjnaa.PFnSocks
