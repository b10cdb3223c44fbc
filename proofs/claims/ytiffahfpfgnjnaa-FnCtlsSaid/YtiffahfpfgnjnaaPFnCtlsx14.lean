-- Written by a program of this session (myprint.py, over the kit's print): contracts of FnCtls
import Derived.Test.YtiffahfpfgnjnaaPFnCtlsx3
namespace Go.Proofs.Ytiffahfpfgnjnaa.PFnCtls
open Go.RowKit Go.Proofs.YtiffahfpfgnjnaaW.PrintWords Go.Proofs.YtiffahfpfgnjnaaW.PrintLast Go.Proofs.YtiffahfpfgnjnaaW.PrintMore Go.Proofs.YtiffahfpfgnjnaaV
attribute [local go_sem] max2_int min2_int max_two min_two max_three min_three max_four min_four
set_option linter.unusedVariables false
set_option linter.unusedSimpArgs false

/-! ### spec_l1Bend: function 74 -/
def spec_l1Bend.f (s0_0 : List Int) (s0_1 : Int) (s0_2 : Int) (l1 : List Int) : Option (List Int × Int × Int) := (some (([] : List Int) : List Int)).bind fun y593 => (if y593.length + l1.length < 140737488355328 then ((some (y593 ++ l1 : List Int)).bind fun y596 => ((spec_l1Below.f s0_0 s0_1 s0_2 8).bind fun bt599 => (if bt599.1 = 0 then (if (y596.length : Int) > 0 then ((spec_l1Below.f s0_0 bt599.2.1 bt599.2.2 (y596.length : Int)).bind fun bt602 => (if 0 ≤ bt602.1 then (if bt602.1 < (y596.length : Int) then ((spec_l1Below.f s0_0 bt602.2.1 bt602.2.2 255).bind fun bt606 => (some ((y596.set (bt602.1 : Int).toNat (Go.bits .xor .u8 (rd y596 bt602.1) ((wrap64 (1 + bt606.1)) % 256))), bt606.2.1, bt606.2.2))) else (none)) else (none))) else (some (y596, bt599.2.1, bt599.2.2))) else (if bt599.1 = 1 then (if (y596.length : Int) > 0 then ((spec_l1Below.f s0_0 bt599.2.1 bt599.2.2 (y596.length : Int)).bind fun bt610 => (if 0 ≤ bt610.1 then (if bt610.1 ≤ (y596.length : Int) then (some ((y596.take (bt610.1 : Int).toNat), bt610.2.1, bt610.2.2)) else (none)) else (none))) else (some (y596, bt599.2.1, bt599.2.2))) else (if bt599.1 = 2 then ((spec_l1Byte.f s0_0 bt599.2.1 bt599.2.2).bind fun bt616 => (if y596.length < 140737488355328 then (some ((y596 ++ [(bt616.1) % 256]), bt616.2.1, bt616.2.2)) else (none))) else (some (y596, bt599.2.1, bt599.2.2))))))) else (none))
def spec_l1Bend.T6 : Bool × List (List Nat × List Nat) := (true, [([], []), ([], []), ([], []), ([], []), ([2, 3], [2, 3]), ([4], [4]), ([], []), ([6], [6]), ([7], [7]), ([8], [8]), ([5, 9], [5, 9]), ([0, 1, 0, 1, 2, 3, 4, 5, 6, 7, 8, 9, 10], [0, 1]), ([11, 10, 7, 0, 1, 2, 3, 4, 5, 6, 7, 8, 9, 10], [10, 11])])
def spec_l1Bend.B6 : List Nat := [0, 0, 0, 0, 12, 28, 0, 64, 192, 448, 1020, 2047, 4095]
theorem spec_l1Bend.tab6 : rtab .any (opsOf Try.f74 6) = spec_l1Bend.T6 := by kernel_rfl
theorem spec_l1Bend.bits6 : waitsOk spec_l1Bend.T6.2 spec_l1Bend.B6 = true := by kernel_rfl
set_option maxHeartbeats 8000000 in
set_option maxRecDepth 100000 in
theorem spec_l1Bend.calls (g : Nat) (s0_0 : List Int) (s0_1 : Int) (s0_2 : Int) (A1 : Option Addr) (c1 : Nat) (l1 : List Int) (r1 : List Int) (r2 : Int) (r3 : Int) (w0 w : World) (hI : IsS128 w0 w g s0_0 s0_1 s0_2) (hB : Below w0.heap.size w0 w) (hr1 : Kd.C (Kd.int .u8) w A1 l1.length l1) (hc1 : l1.length ≤ c1) (hf1 : ∀ ad, A1 = some ad → 0 < l1.length → ad.block ≠ g) (h : spec_l1Bend.f s0_0 s0_1 s0_2 l1 = some (r1, r2, r3)) :
  Calls Try.prog 74 #[.pointer (some ⟨g, 0, none⟩), .slice A1 l1.length c1] w fun e w' => ∃ v0_ : Value, e = .returned (v0_) ∧ Kd.R (Kd.int .u8) 5 w' w.heap.size (fun _ => True) v0_ r1 ∧ IsS128 w0 w' g s0_0 r2 r3 ∧ Below w0.heap.size w0 w' ∧ KeepBut w w' g none := by
 have HR1 := am_ hr1
 have HC1 := am_ hc1
 clear hr1 hc1
 have HI0 := am_ hI
 have IGHI0 := iG_ HI0.out.ge
 have HK := Aside0.mk (KeepBut.refl w g none)
 have HL := Aside0.mk hB.size
 clear hI
 have HW0 := Aside0.mk hB.size
 have HB := am_ hB
 clear hB
 have H := h
 unfold spec_l1Bend.f at H
 clear h
 replace H := my_ (([] : List Int)) H
 obtain ⟨y593, Ny593, H⟩ := H
 (try dsimp only at H)
 replace H := ip_ H
 obtain ⟨c3, H, -⟩ := H
 have LMc3 := am_ c3
 clear c3
 replace H := my_ (y593 ++ l1) H
 obtain ⟨y596, Ny596, H⟩ := H
 (try dsimp only at H)
 replace H := bf_ H
 obtain ⟨f_, hf_, ⟨t599, t600, t601⟩, A4, H⟩ := H
 subst hf_
 (try dsimp only at H)
 replace H := ie_ H
 obtain ⟨-, H, c5b0, c5b1⟩ | ⟨c5, H, c5b0, c5b1⟩ := H
 rotate_left
 ·
  replace H := ie_ H
  obtain ⟨-, H, c26b0, c26b1⟩ | ⟨c26, H, c26b0, c26b1⟩ := H
  rotate_left
  ·
   replace H := ie_ H
   obtain ⟨-, H, c43b0, c43b1⟩ | ⟨c43, H, c43b0, c43b1⟩ := H
   rotate_left
   ·
    simp only [Option.some.injEq, Prod.mk.injEq] at H
    obtain ⟨rfl, rfl, rfl⟩ := H
    go_enter Try.func74, Try.ntmps74
    go_wp2_with (first | (refine gd_ 7 rfl ?_; refine l8_ 5 7 ([] : List Int) [] ?_; intro v594 w52 ho53 hb hg_ hnew_; clear hg_ hnew_; (first | rw [← Ny593.out] at ho53 | (simp only [Int.reduceToNat] at ho53; rw [← Ny593.out] at ho53)); have HO595 := am_ (Kd.R_lower ho53 (keep_size (w := w) (g := g) (row := none) (qP HK))); replace HK := kL_ HK hb; replace HB := bS_ HB hb; replace HI0 := am_ (IsS128.below (IsS128.q HI0) hb); clear hb ho53) | ((with_reducible refine gate_builtin (b := .append) (xs := #[.tmp 7, .tmp 8]) rfl ?_); at_builtin; refine Kd.R_append_rows (Kd.int .u8) w.heap.size rfl (.tmp 7) (.tmp 8) 22 5 (.int .u8 0) 1 rfl Try.underlying22 info5 rfl (by decide) (by omega) v594 y593 l1 _ _ _ (fun _ => True) (fun _ => False) rfl rfl ?aO ?aR (fun _ _ h => h) (fun _ h => h.elim) ?aF (Below.refl _ _) ?aS ?aL ?_; (case aR => exact Kd.C_keep 0 HR1.out (qP HK) hf1); (case aF => exact (fun _ _ => trivial)); (case aO => exact (qR HO595)); (case aS => exact (keep_size (w := w) (g := g) (row := none) (qP HK))); (case aL => have := LMc3.out; omega); intro v597 w54 ho hb hg hat; rw [← Ny596.out] at ho; replace HB := am_ (below_weaken (qB HB) HL.out hb); replace HI0 := am_ (IsS128.grown (IsS128.q HI0) hg (IsS128.own_ne HI0.out HO595.out (by decide))); replace HK := am_ (KeepBut.trans (qP HK) (KeepBut.of_grown hg g) (Kd.R_base2 HO595.out)); have HO598 := am_ (ho); clear HO595; clear ho hb hg hat) | (refine gc_ 61 rfl ?_; refine gl_ (some 11) Try.func61 #[.pointer (some ⟨g, 0, none⟩), .int .i64 8] ?_; (with_reducible refine (spec_l1Below.calls g s0_0 s0_1 s0_2 8 t599 t600 t601 w0 _ (IsS128.q HI0) (qB HB) A4.out).mono ?_); rintro e w55 ⟨rfl, hi, hb, hk⟩; refine ⟨_, rfl, ?_⟩; replace HO598 := IsS128.rk HI0 (qR HO598) hk; replace HK := kT_ HK hk; replace HB := am_ (hb); replace HI0 := am_ (hi); (try clear hb); (try clear hk); (try clear hi)))
    go_ret
    exact ⟨_, er_, qR HO598, IsS128.q HI0, qB HB, qP HK⟩
   replace H := bf_ H
   obtain ⟨f_, hf_, ⟨t616, t617, t618⟩, A44, H⟩ := H
   subst hf_
   (try dsimp only at H)
   replace H := ip_ H
   obtain ⟨c45, H, -⟩ := H
   have LMc45 := am_ c45
   clear c45
   obtain ⟨y619, hy619⟩ : ∃ y_ : List Int, y_ = (y596 ++ [(t616) % 256]) := ⟨_, rfl⟩
   rw [← hy619] at H
   have Ny619 := am_ hy619
   clear hy619
   simp only [Option.some.injEq, Prod.mk.injEq] at H
   obtain ⟨rfl, rfl, rfl⟩ := H
   go_enter Try.func74, Try.ntmps74
   go_wp2_with (first | (refine gd_ 7 rfl ?_; refine l8_ 5 7 ([] : List Int) [] ?_; intro v594 w46 ho47 hb hg_ hnew_; clear hg_ hnew_; (first | rw [← Ny593.out] at ho47 | (simp only [Int.reduceToNat] at ho47; rw [← Ny593.out] at ho47)); have HO595 := am_ (Kd.R_lower ho47 (keep_size (w := w) (g := g) (row := none) (qP HK))); replace HK := kL_ HK hb; replace HB := bS_ HB hb; replace HI0 := am_ (IsS128.below (IsS128.q HI0) hb); clear hb ho47) | ((with_reducible refine gate_builtin (b := .append) (xs := #[.tmp 7, .tmp 8]) rfl ?_); at_builtin; refine Kd.R_append_rows (Kd.int .u8) w.heap.size rfl (.tmp 7) (.tmp 8) 22 5 (.int .u8 0) 1 rfl Try.underlying22 info5 rfl (by decide) (by omega) v594 y593 l1 _ _ _ (fun _ => True) (fun _ => False) rfl rfl ?aO ?aR (fun _ _ h => h) (fun _ h => h.elim) ?aF (Below.refl _ _) ?aS ?aL ?_; (case aR => exact Kd.C_keep 0 HR1.out (qP HK) hf1); (case aF => exact (fun _ _ => trivial)); (case aO => exact (qR HO595)); (case aS => exact (keep_size (w := w) (g := g) (row := none) (qP HK))); (case aL => have := LMc3.out; omega); intro v597 w48 ho hb hg hat; rw [← Ny596.out] at ho; replace HB := am_ (below_weaken (qB HB) HL.out hb); replace HI0 := am_ (IsS128.grown (IsS128.q HI0) hg (IsS128.own_ne HI0.out HO595.out (by decide))); replace HK := am_ (KeepBut.trans (qP HK) (KeepBut.of_grown hg g) (Kd.R_base2 HO595.out)); have HO598 := am_ (ho); clear HO595; clear ho hb hg hat) | (refine gc_ 61 rfl ?_; refine gl_ (some 11) Try.func61 #[.pointer (some ⟨g, 0, none⟩), .int .i64 8] ?_; (with_reducible refine (spec_l1Below.calls g s0_0 s0_1 s0_2 8 t599 t600 t601 w0 _ (IsS128.q HI0) (qB HB) A4.out).mono ?_); rintro e w49 ⟨rfl, hi, hb, hk⟩; refine ⟨_, rfl, ?_⟩; replace HO598 := IsS128.rk HI0 (qR HO598) hk; replace HK := kT_ HK hk; replace HB := am_ (hb); replace HI0 := am_ (hi); (try clear hb); (try clear hk); (try clear hi)) | (refine gc_ 115 rfl ?_; refine gl_ (some 48) Try.func115 #[.pointer (some ⟨g, 0, none⟩)] ?_; (with_reducible refine (spec_l1Byte.calls g s0_0 t600 t601 t616 t617 t618 w0 _ (IsS128.q HI0) (qB HB) A44.out).mono ?_); rintro e w50 ⟨rfl, hi, hb, hk⟩; refine ⟨_, rfl, ?_⟩; replace HO598 := IsS128.rk HI0 (qR HO598) hk; replace HK := kT_ HK hk; replace HB := am_ (hb); replace HI0 := am_ (hi); (try clear hb); (try clear hk); (try clear hi)) | ((with_reducible refine gate_builtin (b := .append) (xs := #[.tmp 46, .tmp 50]) rfl ?_); at_builtin; refine Kd.R_append (Kd.int .u8) w.heap.size rfl (.tmp 46) (.tmp 50) 22 5 (.int .u8 0) 1 rfl Try.underlying22 info5 rfl (by decide) (by omega) v597 y596 ((t616) % 256) [.int .u8 ((t616) % 256)] (fun _ => True) (fun _ => False) rfl rfl ?aP (fun _ hk => hk.elim) ?aF ?aO (Below.refl _ _) ?aS ?aL ?_; (case aP => exact rfl); (case aF => exact (fun _ _ => trivial)); (case aO => exact (qR HO598)); (case aS => exact (keep_size (w := w) (g := g) (row := none) (qP HK))); (case aL => have := LMc45.out; omega); intro v620 w51 ho hb hg hat; rw [← Ny619.out] at ho; replace HB := am_ (below_weaken (qB HB) HL.out hb); replace HI0 := am_ (IsS128.grown (IsS128.q HI0) hg (IsS128.own_ne HI0.out HO598.out (by decide))); replace HK := am_ (KeepBut.trans (qP HK) (KeepBut.of_grown hg g) (Kd.R_base2 HO598.out)); have HO621 := am_ (ho); clear HO598; clear ho hb hg hat))
   go_ret
   exact ⟨_, er_, qR HO621, IsS128.q HI0, qB HB, qP HK⟩
  replace H := id_ H
  obtain ⟨c27, H, c27b0⟩ | ⟨c27, H, c27b0⟩ := H
  rotate_left
  ·
   have c27b1 : decide (0 < y596.length) = false := decide_eq_false (by omega)
   clear c27
   simp only [Option.some.injEq, Prod.mk.injEq] at H
   obtain ⟨rfl, rfl, rfl⟩ := H
   go_enter Try.func74, Try.ntmps74
   go_wp2_with (first | (refine gd_ 7 rfl ?_; refine l8_ 5 7 ([] : List Int) [] ?_; intro v594 w38 ho39 hb hg_ hnew_; clear hg_ hnew_; (first | rw [← Ny593.out] at ho39 | (simp only [Int.reduceToNat] at ho39; rw [← Ny593.out] at ho39)); have HO595 := am_ (Kd.R_lower ho39 (keep_size (w := w) (g := g) (row := none) (qP HK))); replace HK := kL_ HK hb; replace HB := bS_ HB hb; replace HI0 := am_ (IsS128.below (IsS128.q HI0) hb); clear hb ho39) | ((with_reducible refine gate_builtin (b := .append) (xs := #[.tmp 7, .tmp 8]) rfl ?_); at_builtin; refine Kd.R_append_rows (Kd.int .u8) w.heap.size rfl (.tmp 7) (.tmp 8) 22 5 (.int .u8 0) 1 rfl Try.underlying22 info5 rfl (by decide) (by omega) v594 y593 l1 _ _ _ (fun _ => True) (fun _ => False) rfl rfl ?aO ?aR (fun _ _ h => h) (fun _ h => h.elim) ?aF (Below.refl _ _) ?aS ?aL ?_; (case aR => exact Kd.C_keep 0 HR1.out (qP HK) hf1); (case aF => exact (fun _ _ => trivial)); (case aO => exact (qR HO595)); (case aS => exact (keep_size (w := w) (g := g) (row := none) (qP HK))); (case aL => have := LMc3.out; omega); intro v597 w40 ho hb hg hat; rw [← Ny596.out] at ho; replace HB := am_ (below_weaken (qB HB) HL.out hb); replace HI0 := am_ (IsS128.grown (IsS128.q HI0) hg (IsS128.own_ne HI0.out HO595.out (by decide))); replace HK := am_ (KeepBut.trans (qP HK) (KeepBut.of_grown hg g) (Kd.R_base2 HO595.out)); have HO598 := am_ (ho); clear HO595; clear ho hb hg hat) | (refine gc_ 61 rfl ?_; refine gl_ (some 11) Try.func61 #[.pointer (some ⟨g, 0, none⟩), .int .i64 8] ?_; (with_reducible refine (spec_l1Below.calls g s0_0 s0_1 s0_2 8 t599 t600 t601 w0 _ (IsS128.q HI0) (qB HB) A4.out).mono ?_); rintro e w41 ⟨rfl, hi, hb, hk⟩; refine ⟨_, rfl, ?_⟩; replace HO598 := IsS128.rk HI0 (qR HO598) hk; replace HK := kT_ HK hk; replace HB := am_ (hb); replace HI0 := am_ (hi); (try clear hb); (try clear hk); (try clear hi); obtain ⟨Ao42, co42, eo42⟩ := Kd.R_slice HO598.out; subst eo42))
   go_ret
   exact ⟨_, er_, qR HO598, IsS128.q HI0, qB HB, qP HK⟩
  have c27b1 : decide (0 < y596.length) = true := decide_eq_true (by omega)
  clear c27
  replace H := bf_ H
  obtain ⟨f_, hf_, ⟨t610, t611, t612⟩, A28, H⟩ := H
  subst hf_
  (try dsimp only at H)
  replace H := ip_ H
  obtain ⟨c29, H, -⟩ := H
  have c29b0 := eq_true c29
  have c29b1 : decide (0 ≤ t610) = true := decide_eq_true c29
  clear c29
  replace H := ip_ H
  obtain ⟨c30, H, -⟩ := H
  have c30b0 := eq_true c30
  have c30b1 : decide (t610 ≤ (y596.length : Int)) = true := decide_eq_true c30
  clear c30
  obtain ⟨y613, hy613⟩ : ∃ y_ : List Int, y_ = (y596.take (t610 : Int).toNat) := ⟨_, rfl⟩
  rw [← hy613] at H
  have Ny613 := am_ hy613
  clear hy613
  simp only [Option.some.injEq, Prod.mk.injEq] at H
  obtain ⟨rfl, rfl, rfl⟩ := H
  go_enter Try.func74, Try.ntmps74
  go_wp2_with (first | (refine gd_ 7 rfl ?_; refine l8_ 5 7 ([] : List Int) [] ?_; intro v594 w31 ho32 hb hg_ hnew_; clear hg_ hnew_; (first | rw [← Ny593.out] at ho32 | (simp only [Int.reduceToNat] at ho32; rw [← Ny593.out] at ho32)); have HO595 := am_ (Kd.R_lower ho32 (keep_size (w := w) (g := g) (row := none) (qP HK))); replace HK := kL_ HK hb; replace HB := bS_ HB hb; replace HI0 := am_ (IsS128.below (IsS128.q HI0) hb); clear hb ho32) | ((with_reducible refine gate_builtin (b := .append) (xs := #[.tmp 7, .tmp 8]) rfl ?_); at_builtin; refine Kd.R_append_rows (Kd.int .u8) w.heap.size rfl (.tmp 7) (.tmp 8) 22 5 (.int .u8 0) 1 rfl Try.underlying22 info5 rfl (by decide) (by omega) v594 y593 l1 _ _ _ (fun _ => True) (fun _ => False) rfl rfl ?aO ?aR (fun _ _ h => h) (fun _ h => h.elim) ?aF (Below.refl _ _) ?aS ?aL ?_; (case aR => exact Kd.C_keep 0 HR1.out (qP HK) hf1); (case aF => exact (fun _ _ => trivial)); (case aO => exact (qR HO595)); (case aS => exact (keep_size (w := w) (g := g) (row := none) (qP HK))); (case aL => have := LMc3.out; omega); intro v597 w33 ho hb hg hat; rw [← Ny596.out] at ho; replace HB := am_ (below_weaken (qB HB) HL.out hb); replace HI0 := am_ (IsS128.grown (IsS128.q HI0) hg (IsS128.own_ne HI0.out HO595.out (by decide))); replace HK := am_ (KeepBut.trans (qP HK) (KeepBut.of_grown hg g) (Kd.R_base2 HO595.out)); have HO598 := am_ (ho); clear HO595; clear ho hb hg hat) | (refine gc_ 61 rfl ?_; refine gl_ (some 11) Try.func61 #[.pointer (some ⟨g, 0, none⟩), .int .i64 8] ?_; (with_reducible refine (spec_l1Below.calls g s0_0 s0_1 s0_2 8 t599 t600 t601 w0 _ (IsS128.q HI0) (qB HB) A4.out).mono ?_); rintro e w34 ⟨rfl, hi, hb, hk⟩; refine ⟨_, rfl, ?_⟩; replace HO598 := IsS128.rk HI0 (qR HO598) hk; replace HK := kT_ HK hk; replace HB := am_ (hb); replace HI0 := am_ (hi); (try clear hb); (try clear hk); (try clear hi); obtain ⟨Ao35, co35, eo35⟩ := Kd.R_slice HO598.out; subst eo35) | (refine gc_ 61 rfl ?_; refine gl_ (some 42) Try.func61 #[.pointer (some ⟨g, 0, none⟩), .int .i64 (y596.length : Int)] ?_; (with_reducible refine (spec_l1Below.calls g s0_0 t600 t601 (y596.length : Int) t610 t611 t612 w0 _ (IsS128.q HI0) (qB HB) A28.out).mono ?_); rintro e w36 ⟨rfl, hi, hb, hk⟩; refine ⟨_, rfl, ?_⟩; replace HO598 := IsS128.rk HI0 (qR HO598) hk; replace HK := kT_ HK hk; replace HB := am_ (hb); replace HI0 := am_ (hi); (try clear hb); (try clear hk); (try clear hi); have q37 : (t610 : Int) ≤ ((y596.length : Int) : Int) := od_; obtain ⟨i037, hi037, _, hsz37, _⟩ := info_parts info5; have hcut37 := cut_to (P := Try.prog) 22 5 .i64 Try.underlying22 hi037 Ao35 y596.length co35 t610 od_ q37 (rL_ HO598); have hr37 := Kd.R_take (m := (t610 : Int).toNat) HO598.out (by omega); have hy37 : y613.length = (t610 : Int).toNat := (by rw [Ny613.out, List.length_take]; omega); rw [← Ny613.out] at hr37; rw [← hy37] at hr37 hcut37; clear hy37 hi037 hsz37 HO598; have HO615 := Aside0.mk hr37; clear hr37; replace q37 := eq_true q37))
  go_ret
  exact ⟨_, er_, qR HO615, IsS128.q HI0, qB HB, qP HK⟩
 replace H := id_ H
 obtain ⟨c6, H, c6b0⟩ | ⟨c6, H, c6b0⟩ := H
 rotate_left
 ·
  have c6b1 : decide (0 < y596.length) = false := decide_eq_false (by omega)
  clear c6
  simp only [Option.some.injEq, Prod.mk.injEq] at H
  obtain ⟨rfl, rfl, rfl⟩ := H
  go_enter Try.func74, Try.ntmps74
  go_wp2_with (first | (refine gd_ 7 rfl ?_; refine l8_ 5 7 ([] : List Int) [] ?_; intro v594 w21 ho22 hb hg_ hnew_; clear hg_ hnew_; (first | rw [← Ny593.out] at ho22 | (simp only [Int.reduceToNat] at ho22; rw [← Ny593.out] at ho22)); have HO595 := am_ (Kd.R_lower ho22 (keep_size (w := w) (g := g) (row := none) (qP HK))); replace HK := kL_ HK hb; replace HB := bS_ HB hb; replace HI0 := am_ (IsS128.below (IsS128.q HI0) hb); clear hb ho22) | ((with_reducible refine gate_builtin (b := .append) (xs := #[.tmp 7, .tmp 8]) rfl ?_); at_builtin; refine Kd.R_append_rows (Kd.int .u8) w.heap.size rfl (.tmp 7) (.tmp 8) 22 5 (.int .u8 0) 1 rfl Try.underlying22 info5 rfl (by decide) (by omega) v594 y593 l1 _ _ _ (fun _ => True) (fun _ => False) rfl rfl ?aO ?aR (fun _ _ h => h) (fun _ h => h.elim) ?aF (Below.refl _ _) ?aS ?aL ?_; (case aR => exact Kd.C_keep 0 HR1.out (qP HK) hf1); (case aF => exact (fun _ _ => trivial)); (case aO => exact (qR HO595)); (case aS => exact (keep_size (w := w) (g := g) (row := none) (qP HK))); (case aL => have := LMc3.out; omega); intro v597 w23 ho hb hg hat; rw [← Ny596.out] at ho; replace HB := am_ (below_weaken (qB HB) HL.out hb); replace HI0 := am_ (IsS128.grown (IsS128.q HI0) hg (IsS128.own_ne HI0.out HO595.out (by decide))); replace HK := am_ (KeepBut.trans (qP HK) (KeepBut.of_grown hg g) (Kd.R_base2 HO595.out)); have HO598 := am_ (ho); clear HO595; clear ho hb hg hat) | (refine gc_ 61 rfl ?_; refine gl_ (some 11) Try.func61 #[.pointer (some ⟨g, 0, none⟩), .int .i64 8] ?_; (with_reducible refine (spec_l1Below.calls g s0_0 s0_1 s0_2 8 t599 t600 t601 w0 _ (IsS128.q HI0) (qB HB) A4.out).mono ?_); rintro e w24 ⟨rfl, hi, hb, hk⟩; refine ⟨_, rfl, ?_⟩; replace HO598 := IsS128.rk HI0 (qR HO598) hk; replace HK := kT_ HK hk; replace HB := am_ (hb); replace HI0 := am_ (hi); (try clear hb); (try clear hk); (try clear hi); obtain ⟨Ao25, co25, eo25⟩ := Kd.R_slice HO598.out; subst eo25))
  go_ret
  exact ⟨_, er_, qR HO598, IsS128.q HI0, qB HB, qP HK⟩
 have c6b1 : decide (0 < y596.length) = true := decide_eq_true (by omega)
 clear c6
 replace H := bf_ H
 obtain ⟨f_, hf_, ⟨t602, t603, t604⟩, A7, H⟩ := H
 subst hf_
 (try dsimp only at H)
 replace H := ip_ H
 obtain ⟨-, H, c8b0⟩ := H
 replace H := ip_ H
 obtain ⟨-, H, c9b0⟩ := H
 replace H := bf_ H
 obtain ⟨f_, hf_, ⟨t606, t607, t608⟩, A10, H⟩ := H
 subst hf_
 (try dsimp only at H)
 obtain ⟨y609, hy609⟩ : ∃ y_ : List Int, y_ = (y596.set (t602 : Int).toNat (Go.bits .xor .u8 (rd y596 t602) ((wrap64 (1 + t606)) % 256))) := ⟨_, rfl⟩
 rw [← hy609] at H
 have Ny609 := am_ hy609
 clear hy609
 simp only [Option.some.injEq, Prod.mk.injEq] at H
 obtain ⟨rfl, rfl, rfl⟩ := H
 go_enter Try.func74, Try.ntmps74
 try go_wp2_with (first | (refine gd_ 7 rfl ?_; refine l8_ 5 7 ([] : List Int) [] ?_; intro v594 w12 ho13 hb hg_ hnew_; clear hg_ hnew_; (first | rw [← Ny593.out] at ho13 | (simp only [Int.reduceToNat] at ho13; rw [← Ny593.out] at ho13)); have HO595 := am_ (Kd.R_lower ho13 (keep_size (w := w) (g := g) (row := none) (qP HK))); replace HK := kL_ HK hb; replace HB := bS_ HB hb; replace HI0 := am_ (IsS128.below (IsS128.q HI0) hb); clear hb ho13) | ((with_reducible refine gate_builtin (b := .append) (xs := #[.tmp 7, .tmp 8]) rfl ?_); at_builtin; refine Kd.R_append_rows (Kd.int .u8) w.heap.size rfl (.tmp 7) (.tmp 8) 22 5 (.int .u8 0) 1 rfl Try.underlying22 info5 rfl (by decide) (by omega) v594 y593 l1 _ _ _ (fun _ => True) (fun _ => False) rfl rfl ?aO ?aR (fun _ _ h => h) (fun _ h => h.elim) ?aF (Below.refl _ _) ?aS ?aL ?_; (case aR => exact Kd.C_keep 0 HR1.out (qP HK) hf1); (case aF => exact (fun _ _ => trivial)); (case aO => exact (qR HO595)); (case aS => exact (keep_size (w := w) (g := g) (row := none) (qP HK))); (case aL => have := LMc3.out; omega); intro v597 w14 ho hb hg hat; rw [← Ny596.out] at ho; replace HB := am_ (below_weaken (qB HB) HL.out hb); replace HI0 := am_ (IsS128.grown (IsS128.q HI0) hg (IsS128.own_ne HI0.out HO595.out (by decide))); replace HK := am_ (KeepBut.trans (qP HK) (KeepBut.of_grown hg g) (Kd.R_base2 HO595.out)); have HO598 := am_ (ho); clear HO595; clear ho hb hg hat) | (refine gc_ 61 rfl ?_; refine gl_ (some 11) Try.func61 #[.pointer (some ⟨g, 0, none⟩), .int .i64 8] ?_; (with_reducible refine (spec_l1Below.calls g s0_0 s0_1 s0_2 8 t599 t600 t601 w0 _ (IsS128.q HI0) (qB HB) A4.out).mono ?_); rintro e w15 ⟨rfl, hi, hb, hk⟩; refine ⟨_, rfl, ?_⟩; replace HO598 := IsS128.rk HI0 (qR HO598) hk; replace HK := kT_ HK hk; replace HB := am_ (hb); replace HI0 := am_ (hi); (try clear hb); (try clear hk); (try clear hi); obtain ⟨Ao16, co16, eo16⟩ := Kd.R_slice HO598.out; subst eo16) | (refine gc_ 61 rfl ?_; refine gl_ (some 20) Try.func61 #[.pointer (some ⟨g, 0, none⟩), .int .i64 (y596.length : Int)] ?_; (with_reducible refine (spec_l1Below.calls g s0_0 t600 t601 (y596.length : Int) t602 t603 t604 w0 _ (IsS128.q HI0) (qB HB) A7.out).mono ?_); rintro e w17 ⟨rfl, hi, hb, hk⟩; refine ⟨_, rfl, ?_⟩; replace HO598 := IsS128.rk HI0 (qR HO598) hk; replace HK := kT_ HK hk; replace HB := am_ (hb); replace HI0 := am_ (hi); (try clear hb); (try clear hk); (try clear hi)))
 replace HO598 := am_ (Kd.R_drew HO598.out)
 replace HI0 := am_ (IsS128.drew HI0.out)
 replace HK := am_ (keep_drew HK.out)
 replace HB := am_ (below_drew1 HB.out)
 have p605 : 0 ≤ (t602 : Int) := od_
 have q605 : t602 < (y596.length : Int) := od_
 obtain ⟨ad605, e605, hx605_0⟩ := Kd.at_int (Kd.R_reads' HO598.out).2.2 t602 p605 q605
 cases e605
 replace p605 := eq_true p605
 replace q605 := eq_true q605
 refine start_ (n := 13) (S := fun w' => w'.cell? (ad605.add (t602).toNat) = some (.int .u8 (rd y596 t602))) (ds := [12]) (rl [0,13]) (by kernel_rfl) rfl rfl (hx605_0) (fun hHeld => ?_); refine with_tabW spec_l1Bend.tab6 spec_l1Bend.bits6 (fun HT_ HW_ => ?_)
 generalize w17.drew = w18 at HO598 HI0 HK HB hx605_0 hHeld ⊢
 refine pq_ 0 21 HT_ (rl [1,12]) ?_
 refine pq_ 1 22 HT_ (rl [2,11]) ?_
 refine pq_ 2 23 HT_ (rl [3,10]) ?_
 refine pq_ 3 24 HT_ (rl [4,9]) ?_
 refine pq_ 4 25 HT_ (rl [5,8]) ?_
 refine pq_ 6 27 HT_ (rl [5,1,1,6]) ?_
 refine tz_ (i := 5) (N := some 26) HT_ HW_ (rl [7,6]) rfl rfl hHeld ?_
 refine on_ HT_ (i := 7) (N := some 28) (rl [8,5]) (fun K hK => ?_)
 refine goes_ Try.func61 (by kernel_rfl) rfl #[.pointer (some ⟨g, 0, none⟩), .int .i64 255] (by rfl) rfl rfl la_ ?_
 with_reducible refine (spec_l1Below.calls g s0_0 t603 t604 255 t606 t607 t608 w0 _ (IsS128.q HI0) (qB HB) A10.out).mono ?_
 rintro e w19 ⟨rfl, hi, hb, hk⟩
 have HS0_ := keep_cell hk (hHeld) (by first | (rw [add_block]; exact Kd.own_blk (IsS128.own_ne HI0.out HO598.out (by decide))) | (show (Addr.add _ _).block ≠ _; rw [add_block]; exact Kd.own_blk (IsS128.own_ne HI0.out HO598.out (by decide))) | exact Kd.own_blk (IsS128.own_ne HI0.out HO598.out (by decide)))
 refine ⟨_, rfl, ?_⟩
 replace HO598 := IsS128.rk HI0 (qR HO598) hk
 replace HK := kT_ HK hk
 replace HB := am_ (hb)
 replace HI0 := am_ (hi)
 (try clear hb hk hi)
 have p11 : 0 ≤ (t602 : Int) := od_
 have q11 : (t602 : Int) < ((y596.length : Int) : Int) := od_
 obtain ⟨go11, co11, eo11, gb11, gl11, cl11, HG11⟩ := Kd.R_form HO598.out (by omega)
 (first | cases eo11 | (injection eo11 with ea_ en_ ec_; (first | subst ea_ | (injection ea_ with ea_; subst ea_)); subst ec_; clear en_))
 have GB11 := am_ gb11
 have GG11 := am_ HG11
 clear gb11 gl11 HG11
 (first | simp only [add_plain] at hx605_0 | skip)
 obtain ⟨hx11_0, hf11_0⟩ := Kd.R_celln 0 HO598.out (t602 : Int) p11 q11
 replace p11 := eq_true p11
 replace q11 := eq_true q11
 have HN0_go11 := Aside0.mk (show g ≠ go11 from by have h_ := IsS128.own_ne HI0.out HO598.out (by decide); intro e_; exact h_ (by rw [e_]; rfl))
 have HP20 := Kd.R_putn HO598.out (t602 : Int) (Go.bits .xor .u8 (rd y596 t602) ((wrap64 (1 + t606)) % 256))
 rw [← Ny609.out] at HP20
 have HQ20 := am_ HP20
 clear HP20
 refine hK.out _ _ (HS0_) (fun hHeld => ?_)
 clear hK K
 refine nm_ (some 28) ?_
 refine pq_ 8 29 HT_ (rl [9,4]) ?_
 refine pq_ 9 30 HT_ (rl [10,3]) ?_
 refine pq_ 10 31 HT_ (rl [11,2]) ?_
 refine pq_ 11 32 HT_ (rl [12,1]) ?_
 refine last_ (i := 12) (N := none) (rl [13]) rfl rfl (one_of HT_.out (by kernel_rfl)) (by decide) (fun K hK => ?_)
 refine skip_ (w1 := ?_) (by rfl) rfl ?_ ?_
 rotate_left
 ·
  go_simp
  rfl
 refine hK.out _ _ ?_
 clear hK K
 refine done_ (done_of HT_.out (by kernel_rfl)) ?_
 try go_wp2
 go_ret
 exact ⟨_, er_, by (with_reducible repeat (first | apply Kd.R_alloc | apply Kd.R_drewN | apply Kd.R_drew)); exact HQ20.out, by repeat (first | (with_reducible first | exact HI0.out | apply IsS128.alloc | apply IsS128.drewN | apply IsS128.drew | apply IsS128.set_1 | apply IsS128.set_2 | refine IsS128.far ?_ HN0_go11.out _) | exact HI0.out), by repeat (first | (with_reducible first | exact HB.out | apply below_alloc | apply pw_below_drewN | apply below_drew1 | refine below_set ?_ (Nat.le_trans HL.out GB11.out) | refine below_set ?_ (IsS128.ge HI0.out)) | exact HB.out), by repeat (first | (with_reducible first | exact HK.out | apply KeepBut.set_ | apply keep_drewN | apply keep_drew | apply keep_alloc | refine keep_far ?_ GB11.out _) | exact HK.out)⟩

/-! ### spec_PutWord: function 89 -/
def spec_PutWord.f (l0 : List Int) (a1 : Int) : Option (List Int) := (some (([] : List Int) : List Int)).bind fun y622 => (if y622.length + l0.length < 140737488355328 then ((some (y622 ++ l0 : List Int)).bind fun y625 => ((some (([(Go.bits .and .i64 (a1 / 256) 255) % 256, (Go.bits .and .i64 a1 255) % 256] : List Int) : List Int)).bind fun y628 => (if y625.length + y628.length < 140737488355328 then (some (y625 ++ y628)) else (none)))) else (none))
set_option maxHeartbeats 8000000 in
set_option maxRecDepth 100000 in
theorem spec_PutWord.calls (A0 : Option Addr) (c0 : Nat) (l0 : List Int) (a1 : Int) (r : List Int) (w : World) (hr0 : Kd.C (Kd.int .u8) w A0 l0.length l0) (hc0 : l0.length ≤ c0) (h : spec_PutWord.f l0 a1 = some r) :
  Calls Try.prog 89 #[.slice A0 l0.length c0, .int .i64 a1] w fun e w' => ∃ v0_ : Value, e = .returned (v0_) ∧ Kd.R (Kd.int .u8) 5 w' w.heap.size (fun _ => True) v0_ r ∧ Below w.heap.size w w' := by
 have HR0 := am_ hr0
 have HC0 := am_ hc0
 clear hr0 hc0
 have HB := Aside0.mk (Below.refl w.heap.size w)
 have H := h
 unfold spec_PutWord.f at H
 clear h
 replace H := my_ (([] : List Int)) H
 obtain ⟨y622, Ny622, H⟩ := H
 (try dsimp only at H)
 replace H := ip_ H
 obtain ⟨c3, H, -⟩ := H
 have LMc3 := am_ c3
 clear c3
 replace H := my_ (y622 ++ l0) H
 obtain ⟨y625, Ny625, H⟩ := H
 (try dsimp only at H)
 replace H := my_ (([(Go.bits .and .i64 (a1 / 256) 255) % 256, (Go.bits .and .i64 a1 255) % 256] : List Int)) H
 obtain ⟨y628, Ny628, H⟩ := H
 (try dsimp only at H)
 replace H := ip_ H
 obtain ⟨c4, H, -⟩ := H
 have LMc4 := am_ c4
 clear c4
 obtain ⟨y631, hy631⟩ : ∃ y_ : List Int, y_ = (y625 ++ y628) := ⟨_, rfl⟩
 replace H : (some y631) = some r := by first | (rw [hy631]; with_reducible exact H) | (have H2_ := (Option.bind_some _ _).symm.trans H; rw [hy631]; with_reducible exact H2_) | (have H2_ := (Option.bind_some _ _).symm.trans H; with_reducible exact H2_) | with_reducible exact H | (rw [hy631]; exact H) | exact H
 have Ny631 := am_ hy631
 clear hy631
 obtain rfl := si_ H
 go_enter Try.func89, Try.ntmps89
 go_wp2_with (first | (refine gd_ 5 rfl ?_; refine l8_ 5 5 ([] : List Int) [] ?_; intro v623 w5 ho6 hb hg_ hnew_; clear hg_ hnew_; (first | rw [← Ny622.out] at ho6 | (simp only [Int.reduceToNat] at ho6; rw [← Ny622.out] at ho6)); have HO624 := am_ (Kd.R_lower ho6 (below_size (qB HB))); replace HB := bS_ HB hb; clear hb ho6) | ((with_reducible refine gate_builtin (b := .append) (xs := #[.tmp 5, .tmp 6]) rfl ?_); at_builtin; refine Kd.R_append_rows (Kd.int .u8) (w0 := w) w.heap.size rfl (.tmp 5) (.tmp 6) 22 5 (.int .u8 0) 1 rfl Try.underlying22 info5 rfl (by decide) (by omega) v623 y622 l0 _ _ _ (fun _ => True) (fun _ => False) rfl rfl ?aO ?aR (fun _ _ h => h) (fun _ h => h.elim) ?aF ?aB ?aS ?aL ?_; (case aR => exact qC (Kd.C_below HR0.out HB.out)); (case aB => exact (qB HB)); (case aF => exact (fun _ _ => trivial)); (case aO => exact (qR HO624)); (case aS => exact (below_size (qB HB))); (case aL => have := LMc3.out; omega); intro v626 w7 ho hb hg hat; rw [← Ny625.out] at ho; replace HB := am_ (hb); have HO627 := am_ (ho); clear HO624; clear ho hb hg hat) | (refine gd_ 15 rfl ?_; refine l8_ 5 15 ([(Go.bits .and .i64 (a1 / 256) 255) % 256, (Go.bits .and .i64 a1 255) % 256] : List Int) [.int .u8 ((Go.bits .and .i64 (a1 / 256) 255) % 256), .int .u8 ((Go.bits .and .i64 a1 255) % 256)] ?_; intro v629 w8 ho9 hb hg_ hnew_; clear hg_ hnew_; (first | rw [← Ny628.out] at ho9 | (simp only [Int.reduceToNat] at ho9; rw [← Ny628.out] at ho9)); have HO630 := am_ (Kd.R_lower (Kd.R_new' ho9 (Kd.R_lt (qR HO627))) (below_size (qB HB))); replace HO627 := eA_ HO627 ho9 hb; replace HB := bS_ HB hb; clear hb ho9; obtain ⟨Ao11, co11, eo11⟩ := Kd.R_slice HO630.out; subst eo11) | ((with_reducible refine gate_builtin (b := .append) (xs := #[.tmp 7, .tmp 15]) rfl ?_); at_builtin; refine Kd.R_append_rows (Kd.int .u8) (w0 := w) w.heap.size rfl (.tmp 7) (.tmp 15) 22 5 (.int .u8 0) 1 rfl Try.underlying22 info5 rfl (by decide) (by omega) v626 y625 y628 _ _ _ (fun k_ => nb Ao11 y628.length co11 k_) (fun _ => False) rfl rfl ?aO ?aR (fun _ _ h => h) (fun _ h => h.elim) ?aF ?aB ?aS ?aL ?_; (case aR => exact rC_ HO630); (case aB => exact (qB HB)); (case aF => exact (fun k_ hk => Kd.fresh' (Kd.R_lt (qR HO630)) k_ hk)); (case aO => exact (xR1_ HO627)); (case aS => exact (below_size (qB HB))); (case aL => have := LMc4.out; omega); intro v632 w10 ho hb hg hat; rw [← Ny631.out] at ho; replace HO630 := aR_ HO630 hg hat; replace HB := am_ (hb); have HO633 := am_ (ho); clear HO627; clear ho hb hg hat))
 go_ret
 exact ⟨_, er_, (xR1_ HO633), qB HB⟩

/-! ### spec_l1In: function 83 -/
def spec_l1In.f (a0 : Int) (a1 : Int) (a2 : Int) : Option (Bool) := if a0 ≥ a1 then (some (decide (a0 ≤ a2))) else (some false)
set_option maxHeartbeats 8000000 in
set_option maxRecDepth 100000 in
theorem spec_l1In.calls (a0 : Int) (a1 : Int) (a2 : Int) (r : Bool) (w : World) (h : spec_l1In.f a0 a1 a2 = some r) :
  Calls Try.prog 83 #[.int .i64 a0, .int .i64 a1, .int .i64 a2] w fun e w' => e = .returned (.bool r) ∧ Drawn0 w w' := by
 have H := h
 unfold spec_l1In.f at H
 clear h
 replace H := id_ H
 obtain ⟨-, H, c4b0⟩ | ⟨-, H, c4b0⟩ := H
 ·
  obtain rfl := si_ H
  go_enter Try.func83, Try.ntmps83
  go_wp2
  go_ret
  exact ⟨ea_, dn_⟩
 obtain rfl := si_ H
 go_enter Try.func83, Try.ntmps83
 go_wp2
 go_ret
 exact ⟨ea_, dn_⟩

/-! ### spec_l1Name: function 84 -/
def spec_l1Name.l0 : Nat → ByteArray → Int → Option (Bool)
 | 0, _, _ => none
 | k + 1, x0, x3 => if x3 < (x0.size : Int) then (if 0 ≤ x3 then (if (bt x0 x3) < 97 then (some false) else (if (bt x0 x3) > 122 then (some false) else (spec_l1Name.l0 k x0 (wrap64 (x3 + 1))))) else (none)) else ((spec_l1In.f (x0.size : Int) 1 8).bind fun t634 => (some t634))
def spec_l1Name.f (k : Nat) (a0 : ByteArray) : Option (Bool) := spec_l1Name.l0 k a0 0
theorem spec_l1Name.mono_l : ∀ k, (∀ y0 y1, LeO (spec_l1Name.l0 k y0 y1) (spec_l1Name.l0 (k + 1) y0 y1))
 | 0 => fun _ _ r h => by simp [spec_l1Name.l0] at h
 | k + 1 => by
  have ih0 := spec_l1Name.mono_l k
  ·
   intro y0 y1
   unfold spec_l1Name.l0
   exact mo_
theorem spec_l1Name.mono : ∀ a0 k, LeO (spec_l1Name.f k a0) (spec_l1Name.f (k + 1) a0) := by
 intro a0 k
 have ih0 := spec_l1Name.mono_l k
 unfold spec_l1Name.f
 exact mo_
set_option maxHeartbeats 8000000 in
set_option maxRecDepth 100000 in
theorem spec_l1Name.calls (k : Nat) (a0 : ByteArray) (r : Bool) (w : World) (h : spec_l1Name.f k a0 = some r) :
  Calls Try.prog 84 #[.string a0] w fun e w' => e = .returned (.bool r) ∧ Drawn0 w w' := by
 have H : (spec_l1Name.l0 k a0 0) = some r := h
 clear h
 have H' := Aside0.mk H
 clear H
 go_enter Try.func84, Try.ntmps84
 go_wp2
 go_loopg [3] k (fun kq v3 w' => ∃ (x3_1 : Int), v3 = .int .i64 x3_1 ∧ Aside0 (spec_l1Name.l0 kq a0 x3_1 = some r) ∧ Aside0 (kq ≤ k) ∧ Drawn0 w w')
 case atStart => exact ⟨(0), eqq_, H', ⟨Nat.le_refl _⟩, by repeat (first | exact Drawn0.refl _ | apply Drawn0.step)⟩
 case round =>
  clear H'
  obtain ⟨x3_1, rfl, HA, HK1, ⟨m1, rfl⟩⟩ := hrel
  cases gk with
  | zero => exact absurd HA.out (by simp [spec_l1Name.l0])
  | succ k1 =>
   have H := HA.out
   clear HA
   simp only [spec_l1Name.l0] at H
   replace H := id_ H
   obtain ⟨-, H, c2b0⟩ | ⟨-, H, c2b0⟩ := H
   rotate_left
   ·
    replace H := bd_ H
    obtain ⟨t634, A8, H⟩ := H
    obtain rfl := si_ H
    go_wp2_with (first | (refine gc_ 83 rfl ?_; refine gl_ (some 22) Try.func83 #[.int .i64 (a0.size : Int), .int .i64 1, .int .i64 8] ?_; (with_reducible refine (spec_l1In.calls (a0.size : Int) 1 8 t634 _ A8.out).mono ?_); rintro e w' ⟨rfl, ⟨nd, rfl⟩⟩; refine ⟨_, rfl, ?_⟩))
    go_ret
    exact ⟨ea_, dn_⟩
   replace H := ip_ H
   obtain ⟨-, H, c3b0⟩ := H
   replace H := id_ H
   obtain ⟨-, H, c5b0⟩ | ⟨-, H, c5b0⟩ := H
   ·
    obtain rfl := si_ H
    have p4 : 0 ≤ (x3_1 : Int) := od_
    have q4 : x3_1 < (a0.size : Int) := od_
    have hx4 := bt_at a0 x3_1
    replace p4 := eq_true p4
    replace q4 := eq_true q4
    go_wp2
    go_ret
    exact ⟨ea_, dn_⟩
   replace H := id_ H
   obtain ⟨-, H, c7b0⟩ | ⟨-, H, c7b0⟩ := H
   ·
    obtain rfl := si_ H
    have p4 : 0 ≤ (x3_1 : Int) := od_
    have q4 : x3_1 < (a0.size : Int) := od_
    have hx4 := bt_at a0 x3_1
    replace p4 := eq_true p4
    replace q4 := eq_true q4
    have p6 : 0 ≤ (x3_1 : Int) := od_
    have q6 : x3_1 < (a0.size : Int) := od_
    have hx6 := bt_at a0 x3_1
    replace p6 := eq_true p6
    replace q6 := eq_true q6
    go_wp2
    go_ret
    exact ⟨ea_, dn_⟩
   have H' := Aside0.mk H
   clear H
   have p4 : 0 ≤ (x3_1 : Int) := od_
   have q4 : x3_1 < (a0.size : Int) := od_
   have hx4 := bt_at a0 x3_1
   replace p4 := eq_true p4
   replace q4 := eq_true q4
   have p6 : 0 ≤ (x3_1 : Int) := od_
   have q6 : x3_1 < (a0.size : Int) := od_
   have hx6 := bt_at a0 x3_1
   replace p6 := eq_true p6
   replace q6 := eq_true q6
   go_wp2
   go_roundg k1
   case measure => have := HK1.out; omega
   case rel => exact ⟨(wrap64 (x3_1 + 1)), eqq_, H', ⟨by have := HK1.out; omega⟩, by repeat (first | exact Drawn0.refl _ | apply Drawn0.step)⟩

/-! ### spec_l9Time: function 85 -/
def spec_l9Time.f (a0 : Int) : Option (Bool) := (spec_l1In.f a0 0 100000).bind fun t635 => (some t635)
set_option maxHeartbeats 8000000 in
set_option maxRecDepth 100000 in
theorem spec_l9Time.calls (a0 : Int) (r : Bool) (w : World) (h : spec_l9Time.f a0 = some r) :
  Calls Try.prog 85 #[.int .i64 a0] w fun e w' => e = .returned (.bool r) ∧ Drawn0 w w' := by
 have H : ((spec_l1In.f a0 0 100000).bind fun t635 => (some t635)) = some r := h
 clear h
 replace H := bd_ H
 obtain ⟨t635, A2, H⟩ := H
 obtain rfl := si_ H
 go_enter Try.func85, Try.ntmps85
 go_wp2_with (first | (refine gc_ 83 rfl ?_; refine gl_ (some 4) Try.func83 #[.int .i64 a0, .int .i64 0, .int .i64 100000] ?_; (with_reducible refine (spec_l1In.calls a0 0 100000 t635 _ A2.out).mono ?_); rintro e w' ⟨rfl, ⟨nd, rfl⟩⟩; refine ⟨_, rfl, ?_⟩))
 go_ret
 exact ⟨ea_, dn_⟩

/-! ### spec_TextOk: function 86 -/
mutual
def spec_TextOk.l0 : Nat → ByteArray → Int → Option (Bool)
 | 0, _, _ => none
 | k + 1, x0, x3 => if x3 < (x0.size : Int) then (spec_TextOk.j1 k x0 x3 (decide (x3 ≤ 100))) else (spec_TextOk.j1 k x0 x3 false)
def spec_TextOk.j1 : Nat → ByteArray → Int → Bool → Option (Bool)
 | 0, _, _, _ => none
 | k + 1, x0, x3, x11 => if x11 = true then (if 0 ≤ x3 then (if x3 < (x0.size : Int) then (if (bt x0 x3) < 32 then (some false) else (if (bt x0 x3) > 126 then (some false) else (spec_TextOk.l0 k x0 (wrap64 (x3 + 1))))) else (none)) else (none)) else (some (decide ((x0.size : Int) ≤ 100)))
end
def spec_TextOk.f (k : Nat) (a0 : ByteArray) : Option (Bool) := spec_TextOk.l0 k a0 0
theorem spec_TextOk.mono_l : ∀ k, (∀ y0 y1, LeO (spec_TextOk.l0 k y0 y1) (spec_TextOk.l0 (k + 1) y0 y1)) ∧ (∀ y0 y1 y2, LeO (spec_TextOk.j1 k y0 y1 y2) (spec_TextOk.j1 (k + 1) y0 y1 y2))
 | 0 => ⟨fun _ _ r h => by simp [spec_TextOk.l0] at h, fun _ _ _ r h => by simp [spec_TextOk.j1] at h⟩
 | k + 1 => by
  obtain ⟨ih0, ih1⟩ := spec_TextOk.mono_l k
  refine ⟨?_, ?_⟩
  ·
   intro y0 y1
   unfold spec_TextOk.l0
   exact mo_
  ·
   intro y0 y1 y2
   unfold spec_TextOk.j1
   exact mo_
theorem spec_TextOk.mono : ∀ a0 k, LeO (spec_TextOk.f k a0) (spec_TextOk.f (k + 1) a0) := by
 intro a0 k
 obtain ⟨ih0, ih1⟩ := spec_TextOk.mono_l k
 unfold spec_TextOk.f
 exact mo_
set_option maxHeartbeats 8000000 in
set_option maxRecDepth 100000 in
theorem spec_TextOk.calls (k : Nat) (a0 : ByteArray) (r : Bool) (w : World) (h : spec_TextOk.f k a0 = some r) :
  Calls Try.prog 86 #[.string a0] w fun e w' => e = .returned (.bool r) ∧ Drawn0 w w' := by
 have H : (spec_TextOk.l0 k a0 0) = some r := h
 clear h
 have H' := Aside0.mk H
 clear H
 go_enter Try.func86, Try.ntmps86
 go_wp2
 go_loopg [3] k (fun kq v3 w' => ∃ (x3_1 : Int), v3 = .int .i64 x3_1 ∧ Aside0 (spec_TextOk.l0 kq a0 x3_1 = some r) ∧ Aside0 (kq ≤ k) ∧ Drawn0 w w')
 case atStart => exact ⟨(0), eqq_, H', ⟨Nat.le_refl _⟩, by repeat (first | exact Drawn0.refl _ | apply Drawn0.step)⟩
 case round =>
  clear H'
  obtain ⟨x3_1, rfl, HA, HK1, ⟨m1, rfl⟩⟩ := hrel
  cases gk with
  | zero => exact absurd HA.out (by simp [spec_TextOk.l0])
  | succ k1 =>
   have H := HA.out
   clear HA
   simp only [spec_TextOk.l0] at H
   have HC2 := am_ H
   clear H
   go_upto_region 2 with (fail)
   go_cut [11] (fun v11 wc => ∃ (kq : Nat) (x11_1 : Bool), v11 = .bool x11_1 ∧ Aside0 (spec_TextOk.j1 kq a0 x3_1 x11_1 = some r) ∧ Aside0 (kq ≤ k1) ∧ Drawn0 w wc)
   case first =>
    have H := HC2.out
    clear HC2
    replace H := id_ H
    obtain ⟨-, H, c3b0⟩ | ⟨-, H, c3b0⟩ := H
    ·
     (first | rw [c3b0] | (simp only [i64_w, i32_w]; rw [c3b0]) | skip)
     have H' := Aside0.mk H
     clear H
     go_wp2
     go_meet
     case rel => exact ⟨_, (decide (x3_1 ≤ 100)), eqq_, H', ⟨by have := HK1.out; first | omega | exact Nat.le_refl _⟩, by repeat (first | exact Drawn0.refl _ | apply Drawn0.step)⟩
    (first | rw [c3b0] | (simp only [i64_w, i32_w]; rw [c3b0]) | skip)
    have H' := Aside0.mk H
    clear H
    go_wp2
    go_meet
    case rel => exact ⟨_, (false), eqq_, H', ⟨by have := HK1.out; first | omega | exact Nat.le_refl _⟩, by repeat (first | exact Drawn0.refl _ | apply Drawn0.step)⟩
   case rest =>
    clear HC2
    try clear p2
    try clear c3
    try clear c3b0
    obtain ⟨kq, x11_1, rfl, HA, HJ1, ⟨mc1, rfl⟩⟩ := hcut
    cases kq with
    | zero => exact absurd HA.out (by simp [spec_TextOk.j1])
    | succ kj1 =>
     have H := HA.out
     clear HA
     simp only [spec_TextOk.j1] at H
     by_cases c4 : x11_1 = true
     rotate_left
     ·
      replace c4 := nf_ c4
      subst c4
      rw [if_neg (show ¬ (false = true) by decide)] at H
      obtain rfl := si_ H
      go_wp2
      go_ret
      exact ⟨ea_, dn_⟩
     subst c4
     rw [if_pos rfl] at H
     replace H := ip_ H
     obtain ⟨-, H, c5b0⟩ := H
     replace H := ip_ H
     obtain ⟨-, H, c6b0⟩ := H
     replace H := id_ H
     obtain ⟨-, H, c8b0⟩ | ⟨-, H, c8b0⟩ := H
     ·
      obtain rfl := si_ H
      have p7 : 0 ≤ (x3_1 : Int) := od_
      have q7 : x3_1 < (a0.size : Int) := od_
      have hx7 := bt_at a0 x3_1
      replace p7 := eq_true p7
      replace q7 := eq_true q7
      go_wp2
      go_ret
      exact ⟨ea_, dn_⟩
     replace H := id_ H
     obtain ⟨-, H, c10b0⟩ | ⟨-, H, c10b0⟩ := H
     ·
      obtain rfl := si_ H
      have p7 : 0 ≤ (x3_1 : Int) := od_
      have q7 : x3_1 < (a0.size : Int) := od_
      have hx7 := bt_at a0 x3_1
      replace p7 := eq_true p7
      replace q7 := eq_true q7
      have p9 : 0 ≤ (x3_1 : Int) := od_
      have q9 : x3_1 < (a0.size : Int) := od_
      have hx9 := bt_at a0 x3_1
      replace p9 := eq_true p9
      replace q9 := eq_true q9
      go_wp2
      go_ret
      exact ⟨ea_, dn_⟩
     have H' := Aside0.mk H
     clear H
     have p7 : 0 ≤ (x3_1 : Int) := od_
     have q7 : x3_1 < (a0.size : Int) := od_
     have hx7 := bt_at a0 x3_1
     replace p7 := eq_true p7
     replace q7 := eq_true q7
     have p9 : 0 ≤ (x3_1 : Int) := od_
     have q9 : x3_1 < (a0.size : Int) := od_
     have hx9 := bt_at a0 x3_1
     replace p9 := eq_true p9
     replace q9 := eq_true q9
     go_wp2
     go_roundg kj1
     case measure => have := HK1.out; have := HJ1.out; omega
     case rel => exact ⟨(wrap64 (x3_1 + 1)), eqq_, H', ⟨by have := HK1.out; have := HJ1.out; omega⟩, by repeat (first | exact Drawn0.refl _ | apply Drawn0.step)⟩

end Go.Proofs.Ytiffahfpfgnjnaa.PFnCtls
