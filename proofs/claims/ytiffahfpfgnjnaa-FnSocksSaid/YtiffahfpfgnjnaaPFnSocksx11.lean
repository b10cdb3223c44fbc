-- Written by a program of this session (myprint.py, over the kit's print): contracts of FnSocks
import Derived.Test.YtiffahfpfgnjnaaPFnSocksx0
import Derived.Test.YtiffahfpfgnjnaaPFnSocksx2
import Derived.Test.YtiffahfpfgnjnaaPFnSocksx5
import Derived.Test.YtiffahfpfgnjnaaPFnSocksx6
import Derived.Test.YtiffahfpfgnjnaaPFnSocksx7
namespace Go.Proofs.Ytiffahfpfgnjnaa.PFnSocks
open Go.RowKit Go.Proofs.YtiffahfpfgnjnaaW.PrintWords Go.Proofs.YtiffahfpfgnjnaaW.PrintLast Go.Proofs.YtiffahfpfgnjnaaW.PrintMore Go.Proofs.YtiffahfpfgnjnaaV
attribute [local go_sem] max2_int min2_int max_two min_two max_three min_three max_four min_four   -- for this text's walks alone
set_option linter.unusedVariables false
set_option linter.unusedSimpArgs false

/-! ### spec_l8List: function 96 -/
mutual
def spec_l8List.l0 : Nat → List (S41) → Int → Int → List Int → Int → Int → Option ((List (S41)) × Int × Int)
 | 0, _, _, _, _, _, _ => none
 | k + 1, x3, x4, x5, x1000, x1001, x1002 => if x5 > 0 then ((spec_l8Draw.f k x1000 x1001 x1002).bind fun bt569 => ((spec_l1Below.f x1000 bt569.2.2.2.2.2.2.2.2.1 bt569.2.2.2.2.2.2.2.2.2 3).bind fun bt584 => (if x3.length < 1466015503701 then (spec_l8List.l0 k (x3 ++ [(⟨wrap64 ((wrap64 (x4 + 1)) + bt584.1), bt569.2.1, bt569.2.2.1, bt569.2.2.2.1, bt569.2.2.2.2.1, bt569.2.2.2.2.2.1, bt569.2.2.2.2.2.2.1, bt569.2.2.2.2.2.2.2.1⟩ : S41)]) (wrap64 ((wrap64 (x4 + 1)) + bt584.1)) (wrap64 (x5 - 1)) x1000 bt584.2.1 bt584.2.2) else (none)))) else ((spec_l1Below.f x1000 x1001 x1002 10).bind fun bt590 => (if bt590.1 = 0 then ((spec_l8Any.f k x1000 bt590.2.1 bt590.2.2).bind fun bt593 => (if x3.length < 1466015503701 then (some ((x3 ++ [(⟨bt593.1, bt593.2.1, bt593.2.2.1, bt593.2.2.2.1, bt593.2.2.2.2.1, bt593.2.2.2.2.2.1, bt593.2.2.2.2.2.2.1, bt593.2.2.2.2.2.2.2.1⟩ : S41)]), bt593.2.2.2.2.2.2.2.2.1, bt593.2.2.2.2.2.2.2.2.2)) else (none))) else (if bt590.1 = 1 then ((spec_l1Int.f x1000 bt590.2.1 bt590.2.2 (([11, 12, 13] : List Int))).bind fun bt613 => (spec_l8List.l1 k x3 x4 bt613.1 x1000 bt613.2.1 bt613.2.2)) else (some (x3, bt590.2.1, bt590.2.2)))))
def spec_l8List.l1 : Nat → List (S41) → Int → Int → List Int → Int → Int → Option ((List (S41)) × Int × Int)
 | 0, _, _, _, _, _, _ => none
 | k + 1, x3, x4, x7, x1000, x1001, x1002 => if x7 > (x3.length : Int) then (if x3.length < 1466015503701 then (spec_l8List.l1 k (x3 ++ [(⟨wrap64 (x4 + 1), 1, 1, false, ([] : List Int), ([] : List Int), 0, 0⟩ : S41)]) (wrap64 (x4 + 1)) x7 x1000 x1001 x1002) else (none)) else (some (x3, x1001, x1002))
end
def spec_l8List.f (k : Nat) (s0_0 : List Int) (s0_1 : Int) (s0_2 : Int) : Option ((List (S41)) × Int × Int) := (spec_l1Below.f s0_0 s0_1 s0_2 6).bind fun bt566 => (spec_l8List.l0 k (([] : List (S41))) 0 bt566.1 s0_0 bt566.2.1 bt566.2.2)
theorem spec_l8List.mono_l : ∀ k, (∀ y0 y1 y2 y3 y4 y5, LeO (spec_l8List.l0 k y0 y1 y2 y3 y4 y5) (spec_l8List.l0 (k + 1) y0 y1 y2 y3 y4 y5)) ∧ (∀ y0 y1 y2 y3 y4 y5, LeO (spec_l8List.l1 k y0 y1 y2 y3 y4 y5) (spec_l8List.l1 (k + 1) y0 y1 y2 y3 y4 y5))
 | 0 => ⟨fun _ _ _ _ _ _ r h => by simp [spec_l8List.l0] at h, fun _ _ _ _ _ _ r h => by simp [spec_l8List.l1] at h⟩
 | k + 1 => by
  obtain ⟨ih0, ih1⟩ := spec_l8List.mono_l k
  refine ⟨?_, ?_⟩
  ·
   intro y0 y1 y2 y3 y4 y5
   unfold spec_l8List.l0
   have m0 := @spec_l8Any.mono; have m1 := @spec_l8Draw.mono; exact mo_
  ·
   intro y0 y1 y2 y3 y4 y5
   unfold spec_l8List.l1
   have m0 := @spec_l8Any.mono; have m1 := @spec_l8Draw.mono; exact mo_
theorem spec_l8List.mono : ∀ a0 a1 a2 k, LeO (spec_l8List.f k a0 a1 a2) (spec_l8List.f (k + 1) a0 a1 a2) := by
 intro a0 a1 a2 k
 obtain ⟨ih0, ih1⟩ := spec_l8List.mono_l k
 unfold spec_l8List.f
 have m0 := @spec_l8Any.mono; have m1 := @spec_l8Draw.mono; exact mo_
set_option maxHeartbeats 8000000 in
set_option maxRecDepth 100000 in
theorem spec_l8List.calls (k : Nat) (g : Nat) (s0_0 : List Int) (s0_1 : Int) (s0_2 : Int) (r1 : List (S41)) (r2 : Int) (r3 : Int) (w0 w : World) (hI : IsS128 w0 w g s0_0 s0_1 s0_2) (hB : Below w0.heap.size w0 w) (h : spec_l8List.f k s0_0 s0_1 s0_2 = some (r1, r2, r3)) :
  Calls Try.prog 96 #[.pointer (some ⟨g, 0, none⟩)] w fun e w' => ∃ v0_ : Value, e = .returned (v0_) ∧ Kd.S k41 41 w' w.heap.size (fun _ => True) v0_ r1 ∧ IsS128 w0 w' g s0_0 r2 r3 ∧ Below w0.heap.size w0 w' ∧ KeepBut w w' g none := by
 have hu41 := Try.underlying41
 have HI0 := Aside0.mk hI
 have IGHI0 := iG_ HI0.out.ge
 have HK := Aside0.mk (KeepBut.refl w g none)
 have HL := Aside0.mk hB.size
 clear hI
 have HW0 := Aside0.mk hB.size
 have HB := Aside0.mk hB
 clear hB
 have H := h
 unfold spec_l8List.f at H
 clear h
 obtain ⟨y563, hy563⟩ : ∃ y_ : List (S41), y_ = (([] : List (S41))) := ⟨_, rfl⟩
 rw [← hy563] at H
 have Ny563 := Aside0.mk hy563
 clear hy563
 replace H := bf_ H
 obtain ⟨f_, hf_, ⟨t566, t567, t568⟩, A2, H⟩ := H
 subst hf_
 (try dsimp only at H)
 have H' := Aside0.mk H
 clear H
 go_enter Try.func96, Try.ntmps96
 go_wp2_with (first | ((with_reducible refine gate_dst (N := 8) rfl ?_); refine Kd.S_lit k41 _ 41 ?hg (N := 8) ?hd (xs := ([] : List (S41))) (inner := []) (ok := fun _ => True) (okp := fun _ => True) ?hr ?hp (fun _ hk => hk) trivial (Below.refl _ _) (Nat.le_refl _) (by simp) ?_; (case hd => rfl); (case hg => rfl); (case hr => first | (go_simp; done) | (go_simp; rfl)); (case hp => exact (Reps.none _ _)); intro v564 w3 ho4 hb hg_ hnew_; clear hg_ hnew_; (first | rw [← Ny563.out] at ho4 | (simp only [Int.reduceToNat] at ho4; rw [← Ny563.out] at ho4)); have HO565 := am_ (Kd.S_lower ho4 (keep_size (w := w) (g := g) (row := none) (qP HK))); replace HK := kL_ HK hb; replace HB := bS_ HB hb; replace HI0 := am_ (IsS128.below (IsS128.q HI0) hb); clear hb ho4) | ((with_reducible refine gate_callee (f := 61) rfl ?_); refine gl_ (some 10) Try.func61 #[.pointer (some ⟨g, 0, none⟩), .int .i64 6] ?_; (with_reducible refine (spec_l1Below.calls g s0_0 s0_1 s0_2 6 t566 t567 t568 w0 _ ?side1 ?side2 A2.out).mono ?_); (case side1 => exact IsS128.q HI0); (case side2 => exact qB HB); rintro e w5 ⟨rfl, hi, hb, hk⟩; refine ⟨_, rfl, ?_⟩; replace HO565 := am_ (Kd.S_mono (Kd.S_keep (IsS128.apartS (show IsS128 w0 _ g s0_0 s0_1 s0_2 from IsS128.q HI0) (qS HO565) (by decide)) hk (fun _ h => h.2)) (fun _ h => h.1)); replace HK := kT_ HK hk; replace HB := am_ (hb); replace HI0 := am_ (hi); (try clear hb); (try clear hk); (try clear hi)))
 go_loopg [3, 4, 5] k (fun kq v3 v4 v5 w' => ∃ (x3_1 : List (S41)) (x4_1 : Int) (x5_1 : Int) (x1001_1 : Int) (x1002_1 : Int), v4 = .int .i64 x4_1 ∧ v5 = .int .i64 x5_1 ∧ Aside0 (spec_l8List.l0 kq x3_1 x4_1 x5_1 s0_0 x1001_1 x1002_1 = some (r1, r2, r3)) ∧ Aside0 (kq ≤ k) ∧ Aside0 (Kd.S k41 41 w' w.heap.size (fun _ => True) v3 x3_1) ∧ Aside0 (IsS128 w0 w' g s0_0 x1001_1 x1002_1) ∧ Aside0 (KeepBut w w' g none) ∧ Aside0 (Below w0.heap.size w0 w'))
 case atStart => exact ⟨(y563), (0), (t566), (t567), (t568), eqq_, eqq_, H', ⟨Nat.le_refl _⟩, ⟨qS HO565⟩, ⟨IsS128.q HI0⟩, ⟨qP HK⟩, ⟨qB HB⟩⟩
 case round =>
  clear H'
  try clear p2
  obtain ⟨x3_1, x4_1, x5_1, x1001_1, x1002_1, rfl, rfl, HA, HK1, HO_3, HI0, HK, HB⟩ := hrel
  cases gk with
  | zero => exact absurd HA.out (by simp [spec_l8List.l0])
  | succ k1 =>
   have H := HA.out
   clear HA
   simp only [spec_l8List.l0] at H
   by_cases c6 : x5_1 > 0
   ·
    rw [if_pos c6] at H
    have c6b0 : decide (0 < x5_1) = true := decide_eq_true c6
    clear c6
    replace H := bf_ H
    obtain ⟨f_, hf_, ⟨t569, t570, t571, t572, t573, t576, t579, t580, t581, t582⟩, A7, H⟩ := H
    subst hf_
    (try dsimp only at H)
    replace H := bf_ H
    obtain ⟨f_, hf_, ⟨t584, t585, t586⟩, A8, H⟩ := H
    subst hf_
    (try dsimp only at H)
    by_cases c9 : x3_1.length < 1466015503701
    case neg => exact nn_ c9 H
    rw [if_pos c9] at H
    have LMc9 := Aside0.mk c9
    clear c9
    obtain ⟨y587, hy587⟩ : ∃ y_ : List (S41), y_ = (x3_1 ++ [(⟨wrap64 ((wrap64 (x4_1 + 1)) + t584), t570, t571, t572, t573, t576, t579, t580⟩ : S41)]) := ⟨_, rfl⟩
    rw [← hy587] at H
    have Ny587 := Aside0.mk hy587
    clear hy587
    have H' := Aside0.mk H
    clear H
    go_wp2_with (first | ((with_reducible refine gate_callee (f := 122) rfl ?_); refine gl_ (some 16) Try.func122 #[.pointer (some ⟨g, 0, none⟩)] ?_; (with_reducible refine (spec_l8Draw.calls k1 g s0_0 x1001_1 x1002_1 t569 t570 t571 t572 t573 t576 t579 t580 t581 t582 w0 _ ?side1 ?side2 A7.out).mono ?_); (case side1 => exact IsS128.q HI0); (case side2 => exact qB HB); rintro e w10 ⟨v574, v577, rfl, ho0, ho1, hi, hb, hk⟩; refine ⟨_, rfl, ?_⟩; replace HO_3 := am_ (Kd.S_mono (Kd.S_told (Kd.S_told (Kd.S_oldK (IsS128.apartS (show IsS128 w0 _ g s0_0 x1001_1 x1002_1 from IsS128.q HI0) (qS HO_3) (by decide)) hk) (Kd.R_base ho0)) (Kd.R_base ho1)) (fun _ h_ => h_.1)); have HO575 := am_ (Kd.R_lower ho0 (keep_size (w := w) (g := g) (row := none) (qP HK))); have HO578 := am_ (Kd.R_lower ho1 (keep_size (w := w) (g := g) (row := none) (qP HK))); replace HK := kT_ HK hk; replace HB := am_ (hb); replace HI0 := am_ (hi); (try clear hb); (try clear hk); (try clear hi); (try clear ho0); (try clear ho1)) | ((with_reducible refine gate_dst (N := 6) rfl ?_); refine box_event ?hg (N := 6) ?hd (cs := #[.int .i64 0, .int .i64 0, .int .i64 0, .bool false, .slice none 0 0, .slice none 0 0, .int .i64 0, .int .i64 0]) (t := 41) ?hr ?_; (case hd => rfl); (case hg => rfl); (case hr => first | (go_simp; done) | (go_simp; rfl) | ((try (obtain ⟨_, _, rfl⟩ := Kd.R_slice HO575.out)); (try (obtain ⟨_, _, rfl⟩ := Kd.R_slice HO578.out)); (try (obtain ⟨_, _, rfl⟩ := Kd.R_slice HO589.out)); first | (go_simp; done) | (go_simp; rfl))); intro gb583 hg w11 hbox hb; replace HO_3 := am_ (Kd.S_below (Kd.S_elderB (qS HO_3) gb583 (Nat.le_of_eq hg.symm)) hb); replace HO575 := rB_ HO575 hb; replace HO578 := rB_ HO578 hb; replace HB := bS_ HB hb; have BK583 := am_ (hbox); have GW583 := am_ ((gK_ hg (qP HK))); have IGW583 := gI_ GW583; have GE583 := am_ ((Nat.le_trans HW0.out (gK_ hg (qP HK)))); have IGE583 := gI_ GE583; replace HK := kL_ HK hb; have NB0_583 := am_ ((nG_ hg (IsS128.lt (IsS128.q HI0)))); have INB0_583 := nI_ NB0_583; have NB583_0 := am_ (((nG_ hg (IsS128.lt (IsS128.q HI0))).symm)); replace HI0 := am_ (IsS128.below (IsS128.q HI0) hb); clear hb hbox hg; have hnb12 := NB583_0.out; have hnc12 := NB0_583.out; (try clear zK583); have zK583 := cz8 BK583.out; (try clear fK583); have fK583 := fz8 BK583.out; obtain ⟨Ao14, co14, eo14⟩ := Kd.R_slice HO575.out; subst eo14; obtain ⟨Ao15, co15, eo15⟩ := Kd.R_slice HO578.out; subst eo15) | ((with_reducible refine gate_callee (f := 61) rfl ?_); refine gl_ (some 20) Try.func61 #[.pointer (some ⟨g, 0, none⟩), .int .i64 3] ?_; (with_reducible refine (spec_l1Below.calls g s0_0 t581 t582 3 t584 t585 t586 w0 _ ?side1 ?side2 A8.out).mono ?_); (case side1 => exact IsS128.q HI0); (case side2 => exact qB HB); rintro e w16 ⟨rfl, hi, hb, hk⟩; refine ⟨_, rfl, ?_⟩; replace HO_3 := am_ (Kd.S_mono (Kd.S_keep (IsS128.apartS (show IsS128 w0 _ g s0_0 t581 t582 from IsS128.q HI0) (by (with_reducible repeat (first | apply Kd.S_alloc | apply Kd.S_drewN | apply Kd.S_drew)); exact (Kd.S_mono (Kd.S_far (p := ⟨gb583, 7, none⟩) (Kd.S_far (p := ⟨gb583, 6, none⟩) (Kd.S_far (p := ⟨gb583, 5, none⟩) (Kd.S_far (p := ⟨gb583, 4, none⟩) (Kd.S_far (p := ⟨gb583, 3, none⟩) (Kd.S_far (p := ⟨gb583, 2, none⟩) (Kd.S_far (p := ⟨gb583, 1, none⟩) (Kd.S_far (p := ⟨gb583, 0, none⟩) (Kd.S_mono HO_3.out (fun k_ hk => (⟨hk, hk.2⟩ : _ ∧ k_ ≠ gb583))) (fun _ hk => hk.2) (.int .i64 t569)) (fun _ hk => hk.2) (.int .i64 t570)) (fun _ hk => hk.2) (.int .i64 t571)) (fun _ hk => hk.2) (.bool t572)) (fun _ hk => hk.2) (.slice Ao14 t573.length co14)) (fun _ hk => hk.2) (.slice Ao15 t576.length co15)) (fun _ hk => hk.2) (.int .i64 t579)) (fun _ hk => hk.2) (.int .i64 t580)) (fun _ h_ => h_.1))) (by decide)) hk (fun _ h => h.2)) (fun _ h => h.1)); replace HO575 := am_ (Kd.R_mono (Kd.R_keep (IsS128.apart (show IsS128 w0 _ g s0_0 t581 t582 from IsS128.q HI0) (fR2_ HO575 BK583) (by decide)) hk (fun _ h => h.2)) (fun _ h => h.1)); replace HO578 := am_ (Kd.R_mono (Kd.R_keep (IsS128.apart (show IsS128 w0 _ g s0_0 t581 t582 from IsS128.q HI0) (fR2_ HO578 BK583) (by decide)) hk (fun _ h => h.2)) (fun _ h => h.1)); replace BK583 := am_ (KeepBut.blk hk (g' := gb583) (o := .cells #[.int .i64 t569, .int .i64 t570, .int .i64 t571, .bool t572, .slice Ao14 t573.length co14, .slice Ao15 t576.length co15, .int .i64 t579, .int .i64 t580] 41 (0, 0)) (by exact blk_all8 (qK BK583)) NB583_0.out (by simp)); replace HK := kT_ HK hk; replace HB := am_ (hb); replace HI0 := am_ (hi); (try clear hb); (try clear hk); (try clear hi); (try clear zK583); have zK583 := cz8 BK583.out; (try clear fK583); have fK583 := fz8 BK583.out) | ((with_reducible refine gate_store (t := 3) (p := 23) rfl ?_); refine store_evs (t := 3) (p := 23) (j := 0) (cs := [.int .i64 (wrap64 ((wrap64 (x4_1 + 1)) + t584))]) (qK BK583) ?_; intro w18 hw; have n0_ : Aside0 (Kd.S k41 41 w18 w.heap.size (fun k_ => nb Ao14 t573.length co14 k_ ∧ nb Ao15 t576.length co15 k_ ∧ k_ ≠ gb583) u3 x3_1) := ⟨(by rw [hw]; exact (gS1_ (g := gb583) HO_3))⟩; have n1_ := fR0_ hw HO575 BK583; have n2_ := fR0_ hw HO578 BK583; replace HI0 := IsS128.s_ hw HI0 NB0_583; replace HK := sH_ hw HK; replace HB := sB_ hw HB; replace BK583 : Aside0 (w18.heap[gb583]? = some (.cells #[.int .i64 (wrap64 ((wrap64 (x4_1 + 1)) + t584)), .int .i64 t570, .int .i64 t571, .bool t572, .slice Ao14 t573.length co14, .slice Ao15 t576.length co15, .int .i64 t579, .int .i64 t580] 41 (0, 0))) := sP_ hw BK583; clear hw; clear HO_3 HO575 HO578; have HO_3 := n0_; have HO575 := n1_; have HO578 := n2_; clear n0_ n1_ n2_; (try clear zK583); have zK583 := cz8 BK583.out; (try clear fK583); have fK583 := fz8 BK583.out) | ((with_reducible refine gate_builtin (b := .append) (xs := #[.tmp 24, .tmp 26]) rfl ?_); at_builtin; refine Kd.S_append k41 w.heap.size rfl (.tmp 24) (.tmp 26) 52 41 (.agg #[(.int .i64 0), (.int .i64 0), (.int .i64 0), (.bool false), (.slice none 0 0), (.slice none 0 0), (.int .i64 0), (.int .i64 0)]) 96 rfl Try.underlying52 info41 rfl (by decide) (by omega) u3 x3_1 (⟨wrap64 ((wrap64 (x4_1 + 1)) + t584), t570, t571, t572, t573, t576, t579, t580⟩ : S41) [.int .i64 (wrap64 ((wrap64 (x4_1 + 1)) + t584)), .int .i64 t570, .int .i64 t571, .bool t572, .slice Ao14 t573.length co14, .slice Ao15 t576.length co15, .int .i64 t579, .int .i64 t580] (fun k_ => k_ ≠ gb583) (fun k_ => some k_ = (.slice Ao14 t573.length co14 : Value).ownBlock ∨ some k_ = (.slice Ao15 t576.length co15 : Value).ownBlock) rfl rfl ?aP (fun k_ hk_ => hk_.elim (fun h_ => ((Kd.R_mono (ok' := fun k_ => ((fun k_ => k_ ≠ gb583)) k_ ∧ nv u3 k_) (Kd.R_types (Kd.R_apart' (HO575.out) (Kd.S_typed HO_3.out) (by decide)) BK583.out (by decide)) (fun k_ hk => ⟨hk.2, hk.1.2⟩))).1 k_ h_.symm) (fun h_ => ((Kd.R_mono (ok' := fun k_ => ((fun k_ => k_ ≠ gb583)) k_ ∧ nv u3 k_) (Kd.R_types (Kd.R_apart' (HO578.out) (Kd.S_typed HO_3.out) (by decide)) BK583.out (by decide)) (fun k_ hk => ⟨hk.2, hk.1.2⟩))).1 k_ h_.symm)) ?aF ?aO (Below.refl _ _) ?aS ?aL ?_; (case aP => exact k41_mkM _ _ _ (⟨wrap64 ((wrap64 (x4_1 + 1)) + t584), t570, t571, t572, t573, t576, t579, t580⟩ : S41) (Kd.R_mono (Kd.R_tight rfl (Kd.R_mono (ok' := fun k_ => ((fun k_ => k_ ≠ gb583)) k_ ∧ nv u3 k_) (Kd.R_types (Kd.R_apart' (HO575.out) (Kd.S_typed HO_3.out) (by decide)) BK583.out (by decide)) (fun k_ hk => ⟨hk.2, hk.1.2⟩))) (fun _ h_ => Or.inl h_)) (Kd.R_mono (Kd.R_tight rfl (Kd.R_mono (ok' := fun k_ => ((fun k_ => k_ ≠ gb583)) k_ ∧ nv u3 k_) (Kd.R_types (Kd.R_apart' (HO578.out) (Kd.S_typed HO_3.out) (by decide)) BK583.out (by decide)) (fun k_ hk => ⟨hk.2, hk.1.2⟩))) (fun _ h_ => Or.inr (h_)))); (case aF => exact (fun k_ hk => Kd.freshB (qK BK583) k_ hk)); (case aO => exact (tS (Kd.S_mono HO_3.out (fun k_ hk => ⟨hk.2.2, fun e_ => e_.elim (fun h_ => hk.1 h_) (fun h_ => hk.2.1 h_)⟩)))); (case aS => exact (keep_size (w := w) (g := g) (row := none) (qP HK))); (case aL => have := LMc9.out; omega); intro v588 w20 ho hb hg hat; rw [← Ny587.out] at ho; replace BK583 := am_ (blk_grown (qK BK583) hg (Kd.S_away HO_3.out (fun _ hk => hk.2.2))); replace HB := am_ (below_weaken (qB HB) HL.out hb); replace HI0 := am_ (IsS128.grown (IsS128.q HI0) hg (IsS128.own_neS HI0.out HO_3.out (by decide))); replace HK := am_ (KeepBut.trans (qP HK) (KeepBut.of_grown hg g) (Kd.S_base2 HO_3.out)); have HO589 := am_ (ho); clear HO_3 HO575 HO578; clear ho hb hg hat))
    go_roundg k1
    case measure => have := HK1.out; omega
    case rel => exact ⟨(y587), (wrap64 ((wrap64 (x4_1 + 1)) + t584)), (wrap64 (x5_1 - 1)), (t585), (t586), eqq_, eqq_, H', ⟨by have := HK1.out; omega⟩, xS_ HO589, ⟨IsS128.q HI0⟩, ⟨qP HK⟩, ⟨qB HB⟩⟩
   rw [if_neg c6] at H
   have c6b0 : decide (0 < x5_1) = false := decide_eq_false c6
   clear c6
   replace H := bf_ H
   obtain ⟨f_, hf_, ⟨t590, t591, t592⟩, A21, H⟩ := H
   subst hf_
   (try dsimp only at H)
   by_cases c22 : t590 = 0
   ·
    rw [if_pos c22] at H
    have c22b0 : (t590 == 0) = true := beq_iff_eq.mpr c22
    have c22b1 : (t590 != 0) = false := bne_eq_false_iff_eq.mpr c22
    clear c22
    replace H := bf_ H
    obtain ⟨f_, hf_, ⟨t593, t594, t595, t596, t597, t600, t603, t604, t605, t606⟩, A23, H⟩ := H
    subst hf_
    (try dsimp only at H)
    by_cases c24 : x3_1.length < 1466015503701
    case neg => exact nn_ c24 H
    rw [if_pos c24] at H
    have LMc24 := Aside0.mk c24
    clear c24
    obtain ⟨y607, hy607⟩ : ∃ y_ : List (S41), y_ = (x3_1 ++ [(⟨t593, t594, t595, t596, t597, t600, t603, t604⟩ : S41)]) := ⟨_, rfl⟩
    rw [← hy607] at H
    have Ny607 := Aside0.mk hy607
    clear hy607
    simp only [Option.some.injEq, Prod.mk.injEq] at H
    obtain ⟨rfl, rfl, rfl⟩ := H
    go_wp2_with (first | ((with_reducible refine gate_callee (f := 61) rfl ?_); refine gl_ (some 29) Try.func61 #[.pointer (some ⟨g, 0, none⟩), .int .i64 10] ?_; (with_reducible refine (spec_l1Below.calls g s0_0 x1001_1 x1002_1 10 t590 t591 t592 w0 _ ?side1 ?side2 A21.out).mono ?_); (case side1 => exact IsS128.q HI0); (case side2 => exact qB HB); rintro e w25 ⟨rfl, hi, hb, hk⟩; refine ⟨_, rfl, ?_⟩; replace HO_3 := am_ (Kd.S_mono (Kd.S_keep (IsS128.apartS (show IsS128 w0 _ g s0_0 x1001_1 x1002_1 from IsS128.q HI0) (qS HO_3) (by decide)) hk (fun _ h => h.2)) (fun _ h => h.1)); replace HK := kT_ HK hk; replace HB := am_ (hb); replace HI0 := am_ (hi); (try clear hb); (try clear hk); (try clear hi)) | ((with_reducible refine gate_callee (f := 90) rfl ?_); refine gl_ (some 34) Try.func90 #[.pointer (some ⟨g, 0, none⟩)] ?_; (with_reducible refine (spec_l8Any.calls k1 g s0_0 t591 t592 t593 t594 t595 t596 t597 t600 t603 t604 t605 t606 w0 _ ?side1 ?side2 A23.out).mono ?_); (case side1 => exact IsS128.q HI0); (case side2 => exact qB HB); rintro e w26 ⟨v598, v601, rfl, ho0, ho1, hi, hb, hk⟩; refine ⟨_, rfl, ?_⟩; replace HO_3 := am_ (Kd.S_mono (Kd.S_told (Kd.S_told (Kd.S_oldK (IsS128.apartS (show IsS128 w0 _ g s0_0 t591 t592 from IsS128.q HI0) (qS HO_3) (by decide)) hk) (Kd.R_base ho0)) (Kd.R_base ho1)) (fun _ h_ => h_.1)); have HO599 := am_ (Kd.R_lower ho0 (keep_size (w := w) (g := g) (row := none) (qP HK))); have HO602 := am_ (Kd.R_lower ho1 (keep_size (w := w) (g := g) (row := none) (qP HK))); replace HK := kT_ HK hk; replace HB := am_ (hb); replace HI0 := am_ (hi); (try clear hb); (try clear hk); (try clear hi); (try clear ho0); (try clear ho1); obtain ⟨Ao28, co28, eo28⟩ := Kd.R_slice HO599.out; subst eo28; obtain ⟨Ao29, co29, eo29⟩ := Kd.R_slice HO602.out; subst eo29) | ((with_reducible refine gate_builtin (b := .append) (xs := #[.tmp 32, .tmp 35]) rfl ?_); at_builtin; refine Kd.S_append k41 w.heap.size rfl (.tmp 32) (.tmp 35) 52 41 (.agg #[(.int .i64 0), (.int .i64 0), (.int .i64 0), (.bool false), (.slice none 0 0), (.slice none 0 0), (.int .i64 0), (.int .i64 0)]) 96 rfl Try.underlying52 info41 rfl (by decide) (by omega) u3 x3_1 (⟨t593, t594, t595, t596, t597, t600, t603, t604⟩ : S41) [.int .i64 t593, .int .i64 t594, .int .i64 t595, .bool t596, .slice Ao28 t597.length co28, .slice Ao29 t600.length co29, .int .i64 t603, .int .i64 t604] (fun _ => True) (fun k_ => some k_ = (.slice Ao28 t597.length co28 : Value).ownBlock ∨ some k_ = (.slice Ao29 t600.length co29 : Value).ownBlock) rfl rfl ?aP (fun k_ hk_ => hk_.elim (fun h_ => ((Kd.R_mono (ok' := fun k_ => ((fun _ => True)) k_ ∧ nv u3 k_) (Kd.R_apart' (HO599.out) (Kd.S_typed HO_3.out) (by decide)) (fun k_ hk => ⟨trivial, hk.2⟩))).1 k_ h_.symm) (fun h_ => ((Kd.R_mono (ok' := fun k_ => ((fun _ => True)) k_ ∧ nv u3 k_) (Kd.R_apart' (HO602.out) (Kd.S_typed HO_3.out) (by decide)) (fun k_ hk => ⟨trivial, hk.2⟩))).1 k_ h_.symm)) ?aF ?aO (Below.refl _ _) ?aS ?aL ?_; (case aP => exact k41_mkM _ _ _ (⟨t593, t594, t595, t596, t597, t600, t603, t604⟩ : S41) (Kd.R_mono (Kd.R_tight rfl (Kd.R_mono (ok' := fun k_ => ((fun _ => True)) k_ ∧ nv u3 k_) (Kd.R_apart' (HO599.out) (Kd.S_typed HO_3.out) (by decide)) (fun k_ hk => ⟨trivial, hk.2⟩))) (fun _ h_ => Or.inl h_)) (Kd.R_mono (Kd.R_tight rfl (Kd.R_mono (ok' := fun k_ => ((fun _ => True)) k_ ∧ nv u3 k_) (Kd.R_apart' (HO602.out) (Kd.S_typed HO_3.out) (by decide)) (fun k_ hk => ⟨trivial, hk.2⟩))) (fun _ h_ => Or.inr (h_)))); (case aF => exact (fun _ _ => trivial)); (case aO => exact (tS (Kd.S_mono HO_3.out (fun k_ hk => ⟨trivial, fun e_ => e_.elim (fun h_ => hk.1.2 h_) (fun h_ => hk.2 h_)⟩)))); (case aS => exact (keep_size (w := w) (g := g) (row := none) (qP HK))); (case aL => have := LMc24.out; omega); intro v608 w27 ho hb hg hat; rw [← Ny607.out] at ho; replace HB := am_ (below_weaken (qB HB) HL.out hb); replace HI0 := am_ (IsS128.grown (IsS128.q HI0) hg (IsS128.own_neS HI0.out HO_3.out (by decide))); replace HK := am_ (KeepBut.trans (qP HK) (KeepBut.of_grown hg g) (Kd.S_base2 HO_3.out)); have HO609 := am_ (ho); clear HO_3 HO599 HO602; clear ho hb hg hat))
    go_ret
    exact ⟨_, er_, qS HO609, IsS128.q HI0, qB HB, qP HK⟩
   rw [if_neg c22] at H
   have c22b0 : (t590 == 0) = false := beq_eq_false_iff_ne.mpr c22
   have c22b1 : (t590 != 0) = true := bne_iff_ne.mpr c22
   by_cases c30 : t590 = 1
   rotate_left
   ·
    rw [if_neg c30] at H
    have c30b0 : (t590 == 1) = false := beq_eq_false_iff_ne.mpr c30
    have c30b1 : (t590 != 1) = true := bne_iff_ne.mpr c30
    simp only [Option.some.injEq, Prod.mk.injEq] at H
    obtain ⟨rfl, rfl, rfl⟩ := H
    go_wp2_with (first | ((with_reducible refine gate_callee (f := 61) rfl ?_); refine gl_ (some 29) Try.func61 #[.pointer (some ⟨g, 0, none⟩), .int .i64 10] ?_; (with_reducible refine (spec_l1Below.calls g s0_0 x1001_1 x1002_1 10 t590 t591 t592 w0 _ ?side1 ?side2 A21.out).mono ?_); (case side1 => exact IsS128.q HI0); (case side2 => exact qB HB); rintro e w42 ⟨rfl, hi, hb, hk⟩; refine ⟨_, rfl, ?_⟩; replace HO_3 := am_ (Kd.S_mono (Kd.S_keep (IsS128.apartS (show IsS128 w0 _ g s0_0 x1001_1 x1002_1 from IsS128.q HI0) (qS HO_3) (by decide)) hk (fun _ h => h.2)) (fun _ h => h.1)); replace HK := kT_ HK hk; replace HB := am_ (hb); replace HI0 := am_ (hi); (try clear hb); (try clear hk); (try clear hi)))
    go_ret
    exact ⟨_, er_, qS HO_3, IsS128.q HI0, qB HB, qP HK⟩
   rw [if_pos c30] at H
   have c30b0 : (t590 == 1) = true := beq_iff_eq.mpr c30
   have c30b1 : (t590 != 1) = false := bne_eq_false_iff_eq.mpr c30
   clear c30
   obtain ⟨y610, hy610⟩ : ∃ y_ : List Int, y_ = (([11, 12, 13] : List Int)) := ⟨_, rfl⟩
   rw [← hy610] at H
   have Ny610 := Aside0.mk hy610
   clear hy610
   replace H := bf_ H
   obtain ⟨f_, hf_, ⟨t613, t614, t615⟩, A31, H⟩ := H
   subst hf_
   (try dsimp only at H)
   have H' := Aside0.mk H
   clear H
   go_wp2_with (first | ((with_reducible refine gate_callee (f := 61) rfl ?_); refine gl_ (some 29) Try.func61 #[.pointer (some ⟨g, 0, none⟩), .int .i64 10] ?_; (with_reducible refine (spec_l1Below.calls g s0_0 x1001_1 x1002_1 10 t590 t591 t592 w0 _ ?side1 ?side2 A21.out).mono ?_); (case side1 => exact IsS128.q HI0); (case side2 => exact qB HB); rintro e w32 ⟨rfl, hi, hb, hk⟩; refine ⟨_, rfl, ?_⟩; replace HO_3 := am_ (Kd.S_mono (Kd.S_keep (IsS128.apartS (show IsS128 w0 _ g s0_0 x1001_1 x1002_1 from IsS128.q HI0) (qS HO_3) (by decide)) hk (fun _ h => h.2)) (fun _ h => h.1)); replace HK := kT_ HK hk; replace HB := am_ (hb); replace HI0 := am_ (hi); (try clear hb); (try clear hk); (try clear hi)) | ((with_reducible refine gate_dst (N := 40) rfl ?_); refine Kd.R_lit (Kd.int .i64) _ 3 ?hg (N := 40) ?hd (xs := ([11, 12, 13] : List Int)) (inner := [.int .i64 11, .int .i64 12, .int .i64 13]) (ok := fun _ => True) (okp := fun _ => True) ?hr ?hp (fun _ hk => hk) trivial (Below.refl _ _) (Nat.le_refl _) (by simp) ?_; (case hd => rfl); (case hg => rfl); (case hr => first | (go_simp; done) | (go_simp; rfl)); (case hp => exact (Reps.one (show Kd.M (Kd.int .i64) _ _ _ 11 [.int .i64 11] from rfl) (Reps.one (show Kd.M (Kd.int .i64) _ _ _ 12 [.int .i64 12] from rfl) (Reps.one (show Kd.M (Kd.int .i64) _ _ _ 13 [.int .i64 13] from rfl) (Reps.none _ _))))); intro v611 w33 ho34 hb hg_ hnew_; clear hg_ hnew_; (first | rw [← Ny610.out] at ho34 | (simp only [Int.reduceToNat] at ho34; rw [← Ny610.out] at ho34)); replace HO_3 := lS_ HO_3 hb; have HO612 := am_ (Kd.R_lower ho34 (keep_size (w := w) (g := g) (row := none) (qP HK))); replace HK := kL_ HK hb; replace HB := bS_ HB hb; replace HI0 := am_ (IsS128.below (IsS128.q HI0) hb); clear hb ho34; obtain ⟨Ao35, co35, eo35⟩ := Kd.R_slice HO612.out; subst eo35) | ((with_reducible refine gate_callee (f := 62) rfl ?_); refine gl_ (some 41) Try.func62 #[.pointer (some ⟨g, 0, none⟩), .slice Ao35 y610.length co35] ?_; (with_reducible refine (spec_l1Int.calls g s0_0 t591 t592 _ _ y610 t613 t614 t615 w0 _ ?side1 ?side2 ?side3 ?side4 ?side5 A31.out).mono ?_); (case side1 => exact IsS128.q HI0); (case side2 => exact qB HB); (case side3 => exact qC ((Kd.R_reads' HO612.out).2.2)); (case side4 => exact (Kd.R_reads' HO612.out).2.1); (case side5 => exact far_slice (IsS128.own_ne HI0.out HO612.out (by decide))); rintro e w36 ⟨rfl, hi, hb, hk⟩; refine ⟨_, rfl, ?_⟩; replace HO_3 := am_ (Kd.S_mono (Kd.S_keep (IsS128.apartS (show IsS128 w0 _ g s0_0 t591 t592 from IsS128.q HI0) (qS HO_3) (by decide)) hk (fun _ h => h.2)) (fun _ h => h.1)); replace HO612 := am_ (Kd.R_mono (Kd.R_keep (IsS128.apart (show IsS128 w0 _ g s0_0 t591 t592 from IsS128.q HI0) (qR HO612) (by decide)) hk (fun _ h => h.2)) (fun _ h => h.1)); replace HK := kT_ HK hk; replace HB := am_ (hb); replace HI0 := am_ (hi); (try clear hb); (try clear hk); (try clear hi)))
   go_loopg [3, 4] k1 (fun kq v3 v4 w' => ∃ (x3_2 : List (S41)) (x4_2 : Int), v4 = .int .i64 x4_2 ∧ Aside0 (spec_l8List.l1 kq x3_2 x4_2 t613 s0_0 t614 t615 = some (r1, r2, r3)) ∧ Aside0 (kq ≤ k1) ∧ Aside0 (Kd.S k41 41 w' w.heap.size (fun _ => True) v3 x3_2) ∧ Aside0 (IsS128 w0 w' g s0_0 t614 t615) ∧ Aside0 (KeepBut w w' g none) ∧ Aside0 (Below w0.heap.size w0 w'))
   case atStart => exact ⟨(x3_1), (x4_1), eqq_, H', ⟨Nat.le_refl _⟩, ⟨qS HO_3⟩, ⟨IsS128.q HI0⟩, ⟨qP HK⟩, ⟨qB HB⟩⟩
   case round =>
    clear H'
    try clear c1
    try clear c2
    try clear p2
    try clear c3
    try clear c6
    try clear c6b0
    try clear p6
    try clear c9
    try clear c12
    try clear c22
    try clear c22b0
    try clear c22b1
    try clear c24
    try clear c30
    try clear c30b0
    try clear c30b1
    (try clear zK583)
    (try clear zK583)
    (try clear zK583)
    (try clear fK583)
    (try clear fK583)
    (try clear fK583)
    try clear p2
    obtain ⟨x3_2, x4_2, rfl, HA, HK2, HO_3, HI0, HK, HB⟩ := hrel
    cases gk with
    | zero => exact absurd HA.out (by simp [spec_l8List.l1])
    | succ k2 =>
     have H := HA.out
     clear HA
     simp only [spec_l8List.l1] at H
     by_cases c37 : t613 > (x3_2.length : Int)
     rotate_left
     ·
      rw [if_neg c37] at H
      have c37b0 : decide ((x3_2.length : Int) < t613) = false := decide_eq_false c37
      clear c37
      simp only [Option.some.injEq, Prod.mk.injEq] at H
      obtain ⟨rfl, rfl, rfl⟩ := H
      obtain ⟨Ao41, co41, eo41⟩ := Kd.S_slice HO_3.out
      subst eo41
      go_wp2
      go_ret
      exact ⟨_, er_, qS HO_3, IsS128.q HI0, qB HB, qP HK⟩
     rw [if_pos c37] at H
     have c37b0 : decide ((x3_2.length : Int) < t613) = true := decide_eq_true c37
     clear c37
     by_cases c38 : x3_2.length < 1466015503701
     case neg => exact nn_ c38 H
     rw [if_pos c38] at H
     have LMc38 := Aside0.mk c38
     clear c38
     obtain ⟨y616, hy616⟩ : ∃ y_ : List (S41), y_ = (x3_2 ++ [(⟨wrap64 (x4_2 + 1), 1, 1, false, ([] : List Int), ([] : List Int), 0, 0⟩ : S41)]) := ⟨_, rfl⟩
     rw [← hy616] at H
     have Ny616 := Aside0.mk hy616
     clear hy616
     have H' := Aside0.mk H
     clear H
     obtain ⟨Ao39, co39, eo39⟩ := Kd.S_slice HO_3.out
     subst eo39
     go_wp2_with (first | ((with_reducible refine gate_builtin (b := .append) (xs := #[.tmp 48, .tmp 51]) rfl ?_); at_builtin; refine Kd.S_append k41 w.heap.size rfl (.tmp 48) (.tmp 51) 52 41 (.agg #[(.int .i64 0), (.int .i64 0), (.int .i64 0), (.bool false), (.slice none 0 0), (.slice none 0 0), (.int .i64 0), (.int .i64 0)]) 96 rfl Try.underlying52 info41 rfl (by decide) (by omega) (.slice Ao39 x3_2.length co39) x3_2 (⟨wrap64 (x4_2 + 1), 1, 1, false, ([] : List Int), ([] : List Int), 0, 0⟩ : S41) [.int .i64 (wrap64 (x4_2 + 1)), .int .i64 1, .int .i64 1, .bool false, .slice none 0 0, .slice none 0 0, .int .i64 0, .int .i64 0] (fun _ => True) (fun _ => False) rfl rfl ?aP (fun k_ hk_ => hk_.elim) ?aF ?aO (Below.refl _ _) ?aS ?aL ?_; (case aP => exact k41_mkM _ _ _ (⟨wrap64 (x4_2 + 1), 1, 1, false, ([] : List Int), ([] : List Int), 0, 0⟩ : S41) (Kd.R_nil _ _ _ _ _) (Kd.R_nil _ _ _ _ _)); (case aF => exact (fun _ _ => trivial)); (case aO => exact (tS (Kd.S_mono HO_3.out (fun k_ hk => ⟨trivial, fun e_ => e_⟩)))); (case aS => exact (keep_size (w := w) (g := g) (row := none) (qP HK))); (case aL => have := LMc38.out; omega); intro v617 w40 ho hb hg hat; rw [← Ny616.out] at ho; replace HB := am_ (below_weaken (qB HB) HL.out hb); replace HI0 := am_ (IsS128.grown (IsS128.q HI0) hg (IsS128.own_neS HI0.out HO_3.out (by decide))); replace HK := am_ (KeepBut.trans (qP HK) (KeepBut.of_grown hg g) (Kd.S_base2 HO_3.out)); have HO618 := am_ (ho); clear HO_3; clear ho hb hg hat))
     go_roundg k2
     case measure => have := HK1.out; have := HK2.out; omega
     case rel => exact ⟨(y616), (wrap64 (x4_2 + 1)), eqq_, H', ⟨by have := HK1.out; have := HK2.out; omega⟩, ⟨qS HO618⟩, ⟨IsS128.q HI0⟩, ⟨qP HK⟩, ⟨qB HB⟩⟩

/-! ### spec_DrawFree: function 28 -/
def spec_DrawFree.f (k : Nat) (l0 : List Int) : Option ((List (S41)) × Int × Int) := (spec_l1New.f k l0).bind fun bt619 => ((spec_l8List.f k bt619.1 bt619.2.1 bt619.2.2).bind fun bt623 => ((spec_l1Below.f bt619.1 bt623.2.1 bt623.2.2 12).bind fun bt628 => ((spec_l1Int.f bt619.1 bt628.2.1 bt628.2.2 (([1, 2, 3, 0, 4] : List Int))).bind fun bt634 => (some (bt623.1, bt628.1, bt634.1)))))
theorem spec_DrawFree.mono : ∀ a0 k, LeO (spec_DrawFree.f k a0) (spec_DrawFree.f (k + 1) a0) := by
 intro a0 k
 unfold spec_DrawFree.f
 have m0 := @spec_l1New.mono; have m1 := @spec_l8List.mono; exact mo_
set_option maxHeartbeats 8000000 in
set_option maxRecDepth 100000 in
theorem spec_DrawFree.calls (k : Nat) (A0 : Option Addr) (c0 : Nat) (l0 : List Int) (r1 : List (S41)) (r2 : Int) (r3 : Int) (w : World) (hr0 : Kd.C (Kd.int .u8) w A0 l0.length l0) (hc0 : l0.length ≤ c0) (h : spec_DrawFree.f k l0 = some (r1, r2, r3)) :
  Calls Try.prog 28 #[.slice A0 l0.length c0] w fun e w' => ∃ v0_ : Value, e = .returned (.tuple #[v0_, .int .i64 r2, .int .i64 r3]) ∧ Kd.S k41 41 w' w.heap.size (fun _ => True) v0_ r1 ∧ Below w.heap.size w w' := by
 have HR0 := Aside0.mk hr0
 have HC0 := Aside0.mk hc0
 clear hr0 hc0
 have HB := Aside0.mk (Below.refl w.heap.size w)
 have H := h
 unfold spec_DrawFree.f at H
 clear h
 replace H := bf_ H
 obtain ⟨f_, hf_, ⟨t619, t620, t621⟩, A2, H⟩ := H
 subst hf_
 (try dsimp only at H)
 replace H := bf_ H
 obtain ⟨f_, hf_, ⟨t623, t626, t627⟩, A3, H⟩ := H
 subst hf_
 (try dsimp only at H)
 replace H := bf_ H
 obtain ⟨f_, hf_, ⟨t628, t629, t630⟩, A4, H⟩ := H
 subst hf_
 (try dsimp only at H)
 obtain ⟨y631, hy631⟩ : ∃ y_ : List Int, y_ = (([1, 2, 3, 0, 4] : List Int)) := ⟨_, rfl⟩
 rw [← hy631] at H
 have Ny631 := Aside0.mk hy631
 clear hy631
 replace H := bf_ H
 obtain ⟨f_, hf_, ⟨t634, t635, t636⟩, A5, H⟩ := H
 subst hf_
 (try dsimp only at H)
 simp only [Option.some.injEq, Prod.mk.injEq] at H
 obtain ⟨rfl, rfl, rfl⟩ := H
 go_enter Try.func28, Try.ntmps28
 go_wp2_with (first | ((with_reducible refine gate_callee (f := 59) rfl ?_); refine gl_ (some 7) Try.func59 #[.slice A0 l0.length c0] ?_; (with_reducible refine (spec_l1New.calls k _ _ l0 t619 t620 t621 w _ ?side1 ?side2 ?side3 A2.out).mono ?_); (case side1 => exact qB HB); (case side2 => exact HR0.out); (case side3 => exact HC0.out); rintro e w6 ⟨g622, rfl, hi, hb, hb2⟩; refine ⟨_, rfl, ?_⟩; replace HB := am_ (hb); have HI622 := am_ (hi); have IGHI622 := iG_ HI622.out.ge; (try clear hb); (try clear hb2); (try clear hi)) | ((with_reducible refine gate_callee (f := 96) rfl ?_); refine gl_ (some 9) Try.func96 #[.pointer (some ⟨g622, 0, none⟩)] ?_; (with_reducible refine (spec_l8List.calls k g622 t619 t620 t621 t623 t626 t627 w _ ?side1 ?side2 A3.out).mono ?_); (case side1 => exact IsS128.q HI622); (case side2 => exact qB HB); rintro e w7 ⟨v624, rfl, ho0, hi, hb, hk⟩; refine ⟨_, rfl, ?_⟩; have HO625 := am_ (Kd.S_lower ho0 (below_size (qB HB))); replace HB := am_ (hb); replace HI622 := am_ (hi); (try clear hb); (try clear hk); (try clear hi); (try clear ho0)) | ((with_reducible refine gate_callee (f := 61) rfl ?_); refine gl_ (some 11) Try.func61 #[.pointer (some ⟨g622, 0, none⟩), .int .i64 12] ?_; (with_reducible refine (spec_l1Below.calls g622 t619 t626 t627 12 t628 t629 t630 w _ ?side1 ?side2 A4.out).mono ?_); (case side1 => exact IsS128.q HI622); (case side2 => exact qB HB); rintro e w8 ⟨rfl, hi, hb, hk⟩; refine ⟨_, rfl, ?_⟩; replace HO625 := am_ (Kd.S_mono (Kd.S_keep (IsS128.apartS (show IsS128 w _ g622 t619 t626 t627 from IsS128.q HI622) (qS HO625) (by decide)) hk (fun _ h => h.2)) (fun _ h => h.1)); replace HB := am_ (hb); replace HI622 := am_ (hi); (try clear hb); (try clear hk); (try clear hi)) | ((with_reducible refine gate_dst (N := 13) rfl ?_); refine Kd.R_lit (Kd.int .i64) _ 3 ?hg (N := 13) ?hd (xs := ([1, 2, 3, 0, 4] : List Int)) (inner := [.int .i64 1, .int .i64 2, .int .i64 3, .int .i64 0, .int .i64 4]) (ok := fun _ => True) (okp := fun _ => True) ?hr ?hp (fun _ hk => hk) trivial (Below.refl _ _) (Nat.le_refl _) (by simp) ?_; (case hd => rfl); (case hg => rfl); (case hr => first | (go_simp; done) | (go_simp; rfl)); (case hp => exact (Reps.one (show Kd.M (Kd.int .i64) _ _ _ 1 [.int .i64 1] from rfl) (Reps.one (show Kd.M (Kd.int .i64) _ _ _ 2 [.int .i64 2] from rfl) (Reps.one (show Kd.M (Kd.int .i64) _ _ _ 3 [.int .i64 3] from rfl) (Reps.one (show Kd.M (Kd.int .i64) _ _ _ 0 [.int .i64 0] from rfl) (Reps.one (show Kd.M (Kd.int .i64) _ _ _ 4 [.int .i64 4] from rfl) (Reps.none _ _))))))); intro v632 w9 ho10 hb hg_ hnew_; clear hg_ hnew_; (first | rw [← Ny631.out] at ho10 | (simp only [Int.reduceToNat] at ho10; rw [← Ny631.out] at ho10)); replace HO625 := lS_ HO625 hb; have HO633 := am_ (Kd.R_lower ho10 (below_size (qB HB))); replace HB := bS_ HB hb; replace HI622 := am_ (IsS128.below (IsS128.q HI622) hb); clear hb ho10; obtain ⟨Ao11, co11, eo11⟩ := Kd.R_slice HO633.out; subst eo11) | ((with_reducible refine gate_callee (f := 62) rfl ?_); refine gl_ (some 14) Try.func62 #[.pointer (some ⟨g622, 0, none⟩), .slice Ao11 y631.length co11] ?_; (with_reducible refine (spec_l1Int.calls g622 t619 t629 t630 _ _ y631 t634 t635 t636 w _ ?side1 ?side2 ?side3 ?side4 ?side5 A5.out).mono ?_); (case side1 => exact IsS128.q HI622); (case side2 => exact qB HB); (case side3 => exact qC ((Kd.R_reads' HO633.out).2.2)); (case side4 => exact (Kd.R_reads' HO633.out).2.1); (case side5 => exact far_slice (IsS128.own_ne HI622.out HO633.out (by decide))); rintro e w12 ⟨rfl, hi, hb, hk⟩; refine ⟨_, rfl, ?_⟩; replace HO625 := am_ (Kd.S_mono (Kd.S_keep (IsS128.apartS (show IsS128 w _ g622 t619 t629 t630 from IsS128.q HI622) (qS HO625) (by decide)) hk (fun _ h => h.2)) (fun _ h => h.1)); replace HO633 := am_ (Kd.R_mono (Kd.R_keep (IsS128.apart (show IsS128 w _ g622 t619 t629 t630 from IsS128.q HI622) (qR HO633) (by decide)) hk (fun _ h => h.2)) (fun _ h => h.1)); replace HB := am_ (hb); replace HI622 := am_ (hi); (try clear hb); (try clear hk); (try clear hi)))
 go_ret3
 exact ⟨_, er_, qS HO625, qB HB⟩

/-! ### impl_socksCopy: function 97 -/
def impl_socksCopy.l0 : Nat → List (S41) → List (S41) → Int → Int → Option ((List (S41)))
 | 0, _, _, _, _ => none
 | k + 1, x3, x7, x8, x9 => if x9 < x8 then (if 0 ≤ x9 then (if x9 < (x7.length : Int) then ((impl_sockCopy.f ((rd_T41 x7 x9).f0) ((rd_T41 x7 x9).f1) ((rd_T41 x7 x9).f2) ((rd_T41 x7 x9).f3) ((rd_T41 x7 x9).f4) ((rd_T41 x7 x9).f5) ((rd_T41 x7 x9).f6) ((rd_T41 x7 x9).f7)).bind fun bt642 => (if x3.length < 1466015503701 then (impl_socksCopy.l0 k (x3 ++ [(⟨bt642.1, bt642.2.1, bt642.2.2.1, bt642.2.2.2.1, bt642.2.2.2.2.1, bt642.2.2.2.2.2.1, bt642.2.2.2.2.2.2.1, bt642.2.2.2.2.2.2.2⟩ : S41)]) x7 x8 (wrap64 (x9 + 1))) else (none))) else (none)) else (none)) else (some x3)
def impl_socksCopy.f (k : Nat) (l0 : List (S41)) : Option ((List (S41))) := impl_socksCopy.l0 k (([] : List (S41))) l0 (l0.length : Int) 0
theorem impl_socksCopy.mono_l : ∀ k, (∀ y0 y1 y2 y3, LeO (impl_socksCopy.l0 k y0 y1 y2 y3) (impl_socksCopy.l0 (k + 1) y0 y1 y2 y3))
 | 0 => fun _ _ _ _ r h => by simp [impl_socksCopy.l0] at h
 | k + 1 => by
  have ih0 := impl_socksCopy.mono_l k
  ·
   intro y0 y1 y2 y3
   unfold impl_socksCopy.l0
   exact mo_
theorem impl_socksCopy.mono : ∀ a0 k, LeO (impl_socksCopy.f k a0) (impl_socksCopy.f (k + 1) a0) := by
 intro a0 k
 have ih0 := impl_socksCopy.mono_l k
 unfold impl_socksCopy.f
 exact mo_
set_option maxHeartbeats 8000000 in
set_option maxRecDepth 100000 in
theorem impl_socksCopy.calls (k : Nat) (A0 : Option Addr) (c0 : Nat) (l0 : List (S41)) (r : List (S41)) (w : World) (hr0 : Kd.C k41 w A0 l0.length l0) (hc0 : l0.length ≤ c0) (h : impl_socksCopy.f k l0 = some r) :
  Calls Try.prog 97 #[.slice A0 l0.length c0] w fun e w' => ∃ v0_ : Value, e = .returned (v0_) ∧ Kd.S k41 41 w' w.heap.size (fun _ => True) v0_ r ∧ Below w.heap.size w w' := by
 have hu41 := Try.underlying41
 have HR0 := Aside0.mk hr0
 have HC0 := Aside0.mk hc0
 clear hr0 hc0
 have HB := Aside0.mk (Below.refl w.heap.size w)
 have H := h
 unfold impl_socksCopy.f at H
 clear h
 obtain ⟨y637, hy637⟩ : ∃ y_ : List (S41), y_ = (([] : List (S41))) := ⟨_, rfl⟩
 rw [← hy637] at H
 have Ny637 := Aside0.mk hy637
 clear hy637
 have H' := Aside0.mk H
 clear H
 go_enter Try.func97, Try.ntmps97
 go_wp2_with (first | ((with_reducible refine gate_dst (N := 6) rfl ?_); refine Kd.S_lit k41 _ 41 ?hg (N := 6) ?hd (xs := ([] : List (S41))) (inner := []) (ok := fun _ => True) (okp := fun _ => True) ?hr ?hp (fun _ hk => hk) trivial (Below.refl _ _) (Nat.le_refl _) (by simp) ?_; (case hd => rfl); (case hg => rfl); (case hr => first | (go_simp; done) | (go_simp; rfl)); (case hp => exact (Reps.none _ _)); intro v638 w2 ho3 hb hg_ hnew_; clear hg_ hnew_; (first | rw [← Ny637.out] at ho3 | (simp only [Int.reduceToNat] at ho3; rw [← Ny637.out] at ho3)); have HO639 := am_ (Kd.S_lower ho3 (below_size (qB HB))); replace HB := bS_ HB hb; clear hb ho3))
 go_loopg [3, 9] k (fun kq v3 v9 w' => ∃ (x3_1 : List (S41)) (x9_1 : Int), v9 = .int .i64 x9_1 ∧ Aside0 (impl_socksCopy.l0 kq x3_1 l0 (l0.length : Int) x9_1 = some r) ∧ Aside0 (kq ≤ k) ∧ Aside0 (Kd.S k41 41 w' w.heap.size (fun _ => True) v3 x3_1) ∧ Aside0 (Below w.heap.size w w'))
 case atStart => exact ⟨(y637), (0), eqq_, H', ⟨Nat.le_refl _⟩, ⟨qS HO639⟩, ⟨qB HB⟩⟩
 case round =>
  clear H'
  try clear p2
  obtain ⟨x3_1, x9_1, rfl, HA, HK1, HO_3, HB⟩ := hrel
  cases gk with
  | zero => exact absurd HA.out (by simp [impl_socksCopy.l0])
  | succ k1 =>
   have H := HA.out
   clear HA
   simp only [impl_socksCopy.l0] at H
   by_cases c4 : x9_1 < (l0.length : Int)
   rotate_left
   ·
    rw [if_neg c4] at H
    have c4b0 : decide (x9_1 < (l0.length : Int)) = false := decide_eq_false c4
    clear c4
    obtain rfl := Option.some.inj H
    go_wp2
    go_ret
    exact ⟨_, er_, qS HO_3, qB HB⟩
   rw [if_pos c4] at H
   have c4b0 : decide (x9_1 < (l0.length : Int)) = true := decide_eq_true c4
   clear c4
   by_cases c5 : 0 ≤ x9_1
   case neg => exact nn_ c5 H
   rw [if_pos c5] at H
   have c5b0 : decide (0 ≤ x9_1) = true := decide_eq_true c5
   clear c5
   by_cases c6 : x9_1 < (l0.length : Int)
   case neg => exact nn_ c6 H
   rw [if_pos c6] at H
   have c6b0 : decide (x9_1 < (l0.length : Int)) = true := decide_eq_true c6
   clear c6
   replace H := bf_ H
   obtain ⟨f_, hf_, ⟨t642, t643, t644, t645, t646, t649, t652, t653⟩, A7, H⟩ := H
   subst hf_
   (try dsimp only at H)
   by_cases c8 : x3_1.length < 1466015503701
   case neg => exact nn_ c8 H
   rw [if_pos c8] at H
   have LMc8 := Aside0.mk c8
   clear c8
   obtain ⟨y654, hy654⟩ : ∃ y_ : List (S41), y_ = (x3_1 ++ [(⟨t642, t643, t644, t645, t646, t649, t652, t653⟩ : S41)]) := ⟨_, rfl⟩
   rw [← hy654] at H
   have Ny654 := Aside0.mk hy654
   clear hy654
   have H' := Aside0.mk H
   clear H
   have p640 : 0 ≤ (x9_1 : Int) := od_
   have q640 : x9_1 < (l0.length : Int) := od_
   obtain ⟨ad640, A640_4, c640_4, A640_5, c640_5, e640, hx640_0, hx640_1, hx640_2, hx640_3, hx640_4, hx640_5, hx640_6, hx640_7, hl640_4, hi640_4, hl640_5, hi640_5⟩ := at_T41 HR0.out x9_1 p640 q640
   cases e640
   replace hx640_0 := lb_ HB hx640_0
   replace hx640_1 := lb_ HB hx640_1
   replace hx640_2 := lb_ HB hx640_2
   replace hx640_3 := lb_ HB hx640_3
   replace hx640_4 := lb_ HB hx640_4
   replace hx640_5 := lb_ HB hx640_5
   replace hx640_6 := lb_ HB hx640_6
   replace hx640_7 := lb_ HB hx640_7
   have HR640_4 := Aside0.mk hi640_4
   have HC640_4 := Aside0.mk hl640_4
   clear hi640_4 hl640_4
   have HR640_5 := Aside0.mk hi640_5
   have HC640_5 := Aside0.mk hl640_5
   clear hi640_5 hl640_5
   replace p640 := eq_true p640
   replace q640 := eq_true q640
   go_wp2_with (first | ((with_reducible refine gate_dst (N := 5) rfl ?_); refine bx_ (N := 5) (cs := #[.int .i64 0, .int .i64 0, .int .i64 0, .bool false, .slice none 0 0, .slice none 0 0, .int .i64 0, .int .i64 0]) (t := 41) ?_; intro gb641 hg w9 hbox hb; replace HO_3 := am_ (Kd.S_below (Kd.S_elderB (qS HO_3) gb641 (Nat.le_of_eq hg.symm)) hb); have BK641 := am_ (hbox); have GW641 := gA_ hg HB; have GE641 := GW641; have IGE641 := gI_ GE641; replace HB := bS_ HB hb; clear hb hbox hg; (try clear zK641); have zK641 := cz8 BK641.out; (try clear fK641); have fK641 := fz8 BK641.out) | ((with_reducible refine gate_callee (f := 92) rfl ?_); refine gl_ (some 15) Try.func92 #[.agg #[.int .i64 ((rd_T41 l0 x9_1).f0), .int .i64 ((rd_T41 l0 x9_1).f1), .int .i64 ((rd_T41 l0 x9_1).f2), .bool ((rd_T41 l0 x9_1).f3), .slice A640_4 ((rd_T41 l0 x9_1).f4).length c640_4, .slice A640_5 ((rd_T41 l0 x9_1).f5).length c640_5, .int .i64 ((rd_T41 l0 x9_1).f6), .int .i64 ((rd_T41 l0 x9_1).f7)]] ?_; (with_reducible refine (impl_sockCopy.calls ((rd_T41 l0 x9_1).f0) ((rd_T41 l0 x9_1).f1) ((rd_T41 l0 x9_1).f2) ((rd_T41 l0 x9_1).f3) _ _ ((rd_T41 l0 x9_1).f4) _ _ ((rd_T41 l0 x9_1).f5) ((rd_T41 l0 x9_1).f6) ((rd_T41 l0 x9_1).f7) t642 t643 t644 t645 t646 t649 t652 t653 _ ?side1 ?side2 ?side3 ?side4 A7.out).mono ?_); (case side1 => exact Kd.C_below HR640_4.out (qB HB)); (case side2 => exact HC640_4.out); (case side3 => exact Kd.C_below HR640_5.out (qB HB)); (case side4 => exact HC640_5.out); rintro e w11 ⟨v647, v650, rfl, ho0, ho1, hb⟩; refine ⟨_, rfl, ?_⟩; replace HO_3 := am_ (Kd.S_mono (Kd.S_told (Kd.S_told (Kd.S_old (by (with_reducible repeat (first | apply Kd.S_alloc | apply Kd.S_drewN | apply Kd.S_drew)); exact (Kd.S_mono (Kd.S_far (p := ⟨gb641, 7, none⟩) (Kd.S_far (p := ⟨gb641, 6, none⟩) (Kd.S_far (p := ⟨gb641, 5, none⟩) (Kd.S_far (p := ⟨gb641, 4, none⟩) (Kd.S_far (p := ⟨gb641, 3, none⟩) (Kd.S_far (p := ⟨gb641, 2, none⟩) (Kd.S_far (p := ⟨gb641, 1, none⟩) (Kd.S_far (p := ⟨gb641, 0, none⟩) (Kd.S_mono HO_3.out (fun k_ hk => (⟨hk, hk.2⟩ : _ ∧ k_ ≠ gb641))) (fun _ hk => hk.2) (.int .i64 ((rd_T41 l0 x9_1).f0))) (fun _ hk => hk.2) (.int .i64 ((rd_T41 l0 x9_1).f1))) (fun _ hk => hk.2) (.int .i64 ((rd_T41 l0 x9_1).f2))) (fun _ hk => hk.2) (.bool ((rd_T41 l0 x9_1).f3))) (fun _ hk => hk.2) (.slice A640_4 ((rd_T41 l0 x9_1).f4).length c640_4)) (fun _ hk => hk.2) (.slice A640_5 ((rd_T41 l0 x9_1).f5).length c640_5)) (fun _ hk => hk.2) (.int .i64 ((rd_T41 l0 x9_1).f6))) (fun _ hk => hk.2) (.int .i64 ((rd_T41 l0 x9_1).f7))) (fun _ h_ => h_.1))) hb) (Kd.R_base ho0)) (Kd.R_base ho1)) (fun _ h_ => h_.1)); have HO648 := am_ (Kd.R_lower ho0 (below_size (qB HB))); have HO651 := am_ (Kd.R_lower ho1 (below_size (qB HB))); replace BK641 := am_ (blk_below (g := gb641) (o := .cells #[.int .i64 ((rd_T41 l0 x9_1).f0), .int .i64 ((rd_T41 l0 x9_1).f1), .int .i64 ((rd_T41 l0 x9_1).f2), .bool ((rd_T41 l0 x9_1).f3), .slice A640_4 ((rd_T41 l0 x9_1).f4).length c640_4, .slice A640_5 ((rd_T41 l0 x9_1).f5).length c640_5, .int .i64 ((rd_T41 l0 x9_1).f6), .int .i64 ((rd_T41 l0 x9_1).f7)] 41 (0, 0)) (by exact blk_all8 (qK BK641)) hb); replace HB := bS_ HB hb; (try clear hb); (try clear hk); (try clear ho0); (try clear ho1); obtain ⟨Ao13, co13, eo13⟩ := Kd.R_slice HO648.out; subst eo13; obtain ⟨Ao14, co14, eo14⟩ := Kd.R_slice HO651.out; subst eo14) | ((with_reducible refine gate_builtin (b := .append) (xs := #[.tmp 13, .tmp 16]) rfl ?_); at_builtin; refine Kd.S_append k41 (w0 := w) w.heap.size rfl (.tmp 13) (.tmp 16) 52 41 (.agg #[(.int .i64 0), (.int .i64 0), (.int .i64 0), (.bool false), (.slice none 0 0), (.slice none 0 0), (.int .i64 0), (.int .i64 0)]) 96 rfl Try.underlying52 info41 rfl (by decide) (by omega) u3 x3_1 (⟨t642, t643, t644, t645, t646, t649, t652, t653⟩ : S41) [.int .i64 t642, .int .i64 t643, .int .i64 t644, .bool t645, .slice Ao13 t646.length co13, .slice Ao14 t649.length co14, .int .i64 t652, .int .i64 t653] (fun k_ => k_ ≠ gb641) (fun k_ => some k_ = (.slice Ao13 t646.length co13 : Value).ownBlock ∨ some k_ = (.slice Ao14 t649.length co14 : Value).ownBlock) rfl rfl ?aP (fun k_ hk_ => hk_.elim (fun h_ => ((Kd.R_mono (ok' := fun k_ => ((fun k_ => k_ ≠ gb641)) k_ ∧ nv u3 k_) (Kd.R_types (Kd.R_apart' (HO648.out) (Kd.S_typed HO_3.out) (by decide)) BK641.out (by decide)) (fun k_ hk => ⟨hk.2, hk.1.2⟩))).1 k_ h_.symm) (fun h_ => ((Kd.R_mono (ok' := fun k_ => ((fun k_ => k_ ≠ gb641)) k_ ∧ nv u3 k_) (Kd.R_types (Kd.R_apart' (HO651.out) (Kd.S_typed HO_3.out) (by decide)) BK641.out (by decide)) (fun k_ hk => ⟨hk.2, hk.1.2⟩))).1 k_ h_.symm)) ?aF ?aO ?aB ?aS ?aL ?_; (case aP => exact k41_mkM _ _ _ (⟨t642, t643, t644, t645, t646, t649, t652, t653⟩ : S41) (Kd.R_mono (Kd.R_tight rfl (Kd.R_mono (ok' := fun k_ => ((fun k_ => k_ ≠ gb641)) k_ ∧ nv u3 k_) (Kd.R_types (Kd.R_apart' (HO648.out) (Kd.S_typed HO_3.out) (by decide)) BK641.out (by decide)) (fun k_ hk => ⟨hk.2, hk.1.2⟩))) (fun _ h_ => Or.inl h_)) (Kd.R_mono (Kd.R_tight rfl (Kd.R_mono (ok' := fun k_ => ((fun k_ => k_ ≠ gb641)) k_ ∧ nv u3 k_) (Kd.R_types (Kd.R_apart' (HO651.out) (Kd.S_typed HO_3.out) (by decide)) BK641.out (by decide)) (fun k_ hk => ⟨hk.2, hk.1.2⟩))) (fun _ h_ => Or.inr (h_)))); (case aB => exact (qB HB)); (case aF => exact (fun k_ hk => Kd.freshB (qK BK641) k_ hk)); (case aO => exact (tS (Kd.S_mono HO_3.out (fun k_ hk => ⟨hk.1.1.2, fun e_ => e_.elim (fun h_ => hk.1.2 h_) (fun h_ => hk.2 h_)⟩)))); (case aS => exact (below_size (qB HB))); (case aL => have := LMc8.out; omega); intro v655 w12 ho hb hg hat; rw [← Ny654.out] at ho; replace BK641 := am_ (blk_grown (qK BK641) hg (Kd.S_away HO_3.out (fun _ hk => hk.1.1.2))); replace HB := am_ (hb); have HO656 := am_ (ho); clear HO_3 HO648 HO651; clear ho hb hg hat))
   go_roundg k1
   case measure => have := HK1.out; omega
   case rel => exact ⟨(y654), (wrap64 (x9_1 + 1)), eqq_, H', ⟨by have := HK1.out; omega⟩, xS_ HO656, ⟨qB HB⟩⟩

/-! ### impl_Free: function 29, by hand: the copied list's elements pass on, one by one -/
def impl_Free.g (a1 a2 : Int) : List (S41) → List (S41) → Option (List (S41))
 | [], ys => some ys
 | x :: l, ys => (impl_isIn.f a2 1 3).bind fun b => if x.f0 = a1 ∧ b = true then (if Go.bits .andNot .i64 x.f2 a2 = 0 then impl_Free.g a1 a2 l ys else if ys.length < 1466015503701 then impl_Free.g a1 a2 l (ys ++ [(⟨x.f0, x.f1, Go.bits .andNot .i64 x.f2 a2, x.f3, x.f4, x.f5, x.f6, x.f7⟩ : S41)]) else none) else if ys.length < 1466015503701 then impl_Free.g a1 a2 l (ys ++ [x]) else none
def impl_Free.f (k : Nat) (l0 : List (S41)) (a1 : Int) (a2 : Int) : Option (List (S41)) := (impl_socksCopy.f k l0).bind fun xs => impl_Free.g a1 a2 xs []
theorem impl_Free.mono : ∀ a0 a1 a2 k, LeO (impl_Free.f k a0 a1 a2) (impl_Free.f (k + 1) a0 a1 a2) := fun _ _ _ _ => LeO.bind (impl_socksCopy.mono _ _) (fun _ => LeO.refl _)
set_option maxHeartbeats 8000000 in
set_option maxRecDepth 100000 in
theorem impl_Free.calls (k : Nat) (A0 : Option Addr) (c0 : Nat) (l0 : List (S41)) (a1 : Int) (a2 : Int) (r : List (S41)) (w : World) (hr0 : Kd.C k41 w A0 l0.length l0) (hc0 : l0.length ≤ c0) (h : impl_Free.f k l0 a1 a2 = some r) :
  Calls Try.prog 29 #[.slice A0 l0.length c0, .int .i64 a1, .int .i64 a2] w fun e w' => ∃ v0_ : Value, e = .returned (v0_) ∧ Kd.S k41 41 w' w.heap.size (fun _ => True) v0_ r ∧ Below w.heap.size w w' := by
 have hu41 := Try.underlying41
 have HR0 := Aside0.mk hr0
 have HC0 := Aside0.mk hc0
 clear hr0 hc0
 have HB := Aside0.mk (Below.refl w.heap.size w)
 obtain ⟨xs, hx, h⟩ := Option.bind_eq_some_iff.mp h
 have HX := Aside0.mk hx
 have QI0 := Aside0.mk h
 clear hx h
 go_enter Try.func29, Try.ntmps29
 go_wp2_with (first | ((with_reducible refine gate_dst (N := 10) rfl ?_); refine Kd.S_lit k41 _ 41 ?hg (N := 10) ?hd (xs := ([] : List (S41))) (inner := []) (ok := fun _ => True) (okp := fun _ => True) ?hr ?hp (fun _ hk => hk) trivial (Below.refl _ _) (Nat.le_refl _) (by simp) ?_; (case hd => rfl); (case hg => rfl); (case hr => first | (go_simp; done) | (go_simp; rfl)); (case hp => exact (Reps.none _ _)); intro v1 w4 ho5 hb hg_ hnew_; clear hg_ hnew_; have HO := am_ (Kd.S_lower ho5 (below_size (qB HB))); replace HB := bS_ HB hb; clear hb ho5) | (go_at_call 97; (with_reducible refine (impl_socksCopy.calls k A0 c0 l0 xs _ (qC (Kd.C_below HR0.out HB.out)) HC0.out HX.out).mono ?_); rintro e w5 ⟨v2, rfl, hL, hb⟩; obtain ⟨AL, cL, e2⟩ := Kd.S_slice hL; subst e2; replace HO := am_ (Kd.S_old (qS HO) hb); have HL := am_ (Kd.S_bound hL); have HLE := am_ (show w.heap.size ≤ w4.heap.size from below_size (qB HB)); have Hn01 := am_ (Below.size hb); replace HB := bS_ HB hb; clear hL hb))
 obtain ⟨f, hT⟩ := HL.out
 clear HL
 obtain ⟨n0, en0⟩ : ∃ n_, n_ = w4.heap.size := ⟨_, rfl⟩
 obtain ⟨n1, en1⟩ : ∃ n_, n_ = w5.heap.size := ⟨_, rfl⟩
 have HT := Aside0.mk (Kd.R_mono (ok' := fun k_ => n0 ≤ k_ ∧ k_ < n1) hT (fun k_ hk => ⟨by rw [en0]; exact hk.2.1, by rw [en1]; exact hk.2.2.1⟩))
 clear hT
 replace HO := Aside0.mk (Kd.S_mono (ok' := fun k_ => ¬ (n0 ≤ k_ ∧ k_ < n1) ∨ f k_ < (0 : Int).toNat) HO.out (fun k_ hk => .inl (fun h_ => by have := hk.2; omega)))
 have HV := Aside0.mk (show ∀ k_, v1.ownBlock = some k_ → ¬ (n0 ≤ k_ ∧ k_ < n1) from fun k_ hk => (((Kd.S_R HO.out).1 k_ hk).resolve_right (by simp)))
 rw [← en0] at HT HLE
 have HN := Aside0.mk (show n1 ≤ w5.heap.size by omega)
 have Hlen := Aside0.mk (show xs.length ≤ 9223372036854775807 from (by have h_ := (Kd.R_reads' HT.out).2.2.2.1; rwa [List.length_zipIdx] at h_))
 replace en0 := Aside0.mk en0
 replace en1 := Aside0.mk en1
 clear Hn01 HR0 HC0 HX
 go_loopg [7, 14] xs.length (fun gg v7 v14 wr => ∃ (ys : List (S41)) (i : Int), v14 = .int .i64 i ∧ Aside0 (0 ≤ i ∧ i ≤ (xs.length : Int) ∧ ((xs.length : Int) - i).toNat ≤ gg) ∧ Aside0 (impl_Free.g a1 a2 (xs.drop i.toNat) ys = some r) ∧ Aside0 ((Kd.tag f k41).R 41 wr n0 (fun k_ => n0 ≤ k_ ∧ k_ < n1) (.slice AL xs.length cL) xs.zipIdx) ∧ Aside0 (Kd.S k41 41 wr w.heap.size (fun k_ => ¬ (n0 ≤ k_ ∧ k_ < n1) ∨ f k_ < i.toNat) v7 ys) ∧ Aside0 (∀ k_, v7.ownBlock = some k_ → ¬ (n0 ≤ k_ ∧ k_ < n1)) ∧ Aside0 (n1 ≤ wr.heap.size) ∧ Aside0 (Below w.heap.size w wr))
 case atStart => exact ⟨[], 0, rfl, ⟨by omega, by omega, by omega⟩, QI0, HT, HO, HV, HN, ⟨qB HB⟩⟩
 case round =>
  clear QI0 HT HO HV HN HB
  obtain ⟨ys, i, rfl, HR, HI, HT, HO, HV, HN, HB⟩ := hrel
  by_cases hlt : i < (xs.length : Int)
  rotate_left
  ·
   have c3 : decide (i < (xs.length : Int)) = false := decide_eq_false hlt
   go_wp2
   go_ret
   have hi := HI.out
   have := HR.out
   rw [List.drop_eq_nil_of_le (by omega)] at hi
   simp only [impl_Free.g] at hi
   obtain rfl := Option.some.inj hi
   exact ⟨_, rfl, Kd.S_mono HO.out (fun _ _ => trivial), qB HB⟩
  have c3 : decide (i < (xs.length : Int)) = true := decide_eq_true hlt
  have h0 : 0 ≤ i := HR.out.1
  obtain ⟨gL, capL, eL, _, _, _⟩ := Kd.R_form HT.out (by rw [List.length_zipIdx]; omega)
  injection eL with eL1 eL2 eL3
  subst eL1
  clear eL2 eL3
  obtain ⟨cf, hcl, hM, hcc, hfr⟩ := Kd.R_elem HT.out (z41, 0) i h0 hlt
  have hit : i.toNat < xs.length := by omega
  have hel : xs.zipIdx.getD i.toNat (z41, 0) = (xs[i.toNat], i.toNat) := by
   rw [List.getD_eq_getElem?_getD, List.getElem?_eq_getElem (by rw [List.length_zipIdx]; exact hit)]
   simp
  rw [hel] at hM
  have hM1 : k41.M wr n0 (fun k_ => (n0 ≤ k_ ∧ k_ < n1) ∧ f k_ = i.toNat) xs[i.toNat] cf := k41.M_mono (fun k_ hk => ⟨hk.1.1, hk.2⟩) hM
  clear hM hel hfr hcl
  have hI := HI.out
  rw [List.drop_eq_getElem_cons hit] at hI
  have hsucc : (i + 1).toNat = i.toNat + 1 := by omega
  rw [← hsucc] at hI
  generalize xs[i.toNat] = x at hM1 hI
  obtain ⟨t0, t1, t2, t3, t4, t5, t6, t7⟩ := x
  obtain ⟨v4, v5, rfl, g4, g5⟩ := k41_openM hM1
  obtain ⟨A4, c4, rfl⟩ := Kd.R_slice g4
  obtain ⟨A5, c5, rfl⟩ := Kd.R_slice g5
  have hx0 : wr.cell? ⟨gL, i.toNat * 8, none⟩ = some (.int .i64 t0) := hcc 0 _ rfl
  have hx1 : wr.cell? ⟨gL, i.toNat * 8 + 1, none⟩ = some (.int .i64 t1) := hcc 1 _ rfl
  have hx2 : wr.cell? ⟨gL, i.toNat * 8 + 2, none⟩ = some (.int .i64 t2) := hcc 2 _ rfl
  have hx3 : wr.cell? ⟨gL, i.toNat * 8 + 3, none⟩ = some (.bool t3) := hcc 3 _ rfl
  have hx4 : wr.cell? ⟨gL, i.toNat * 8 + 4, none⟩ = some (.slice A4 t4.length c4) := hcc 4 _ rfl
  have hx5 : wr.cell? ⟨gL, i.toNat * 8 + 5, none⟩ = some (.slice A5 t5.length c5) := hcc 5 _ rfl
  have hx6 : wr.cell? ⟨gL, i.toNat * 8 + 6, none⟩ = some (.int .i64 t6) := hcc 6 _ rfl
  have hx7 : wr.cell? ⟨gL, i.toNat * 8 + 7, none⟩ = some (.int .i64 t7) := hcc 7 _ rfl
  have G4 := Aside0.mk g4
  have G5 := Aside0.mk g5
  clear g4 g5 hcc hM1
  simp only [impl_Free.g] at hI
  obtain ⟨b, hb, hI⟩ := Option.bind_eq_some_iff.mp hI
  have HIN := Aside0.mk hb
  clear hb HI
  have HM := Aside0.mk (show ((xs.length : Int) - (i + 1)).toNat < gk ∧ 0 ≤ i + 1 ∧ i + 1 ≤ (xs.length : Int) ∧ wrap64 (i + 1) = i + 1 from by have := HR.out; have := Hlen.out; exact ⟨by omega, by omega, by omega, by unfold wrap64; omega⟩)
  have HS := Aside0.mk hsucc
  clear HR hsucc hit
  replace h0 := eq_true h0
  replace hlt := eq_true hlt
  by_cases c1 : t0 = a1
  rotate_left
  ·
   have c1b0 : (t0 == a1) = false := beq_eq_false_iff_ne.mpr c1
   rw [if_neg (fun h_ => c1 h_.1)] at hI
   by_cases c5_ : ys.length < 1466015503701
   case neg => exact nn_ c5_ hI
   rw [if_pos c5_] at hI
   have LM := Aside0.mk c5_
   clear c5_
   have HI := Aside0.mk hI
   clear hI
   go_wp2_with (first | ((with_reducible refine gate_dst (N := 9) rfl ?_); refine bx_ (N := 9) (cs := #[.int .i64 0, .int .i64 0, .int .i64 0, .bool false, .slice none 0 0, .slice none 0 0, .int .i64 0, .int .i64 0]) (t := 41) ?_; intro gb hg w2 hbox hb; have HG := am_ (show n1 ≤ gb by have := HN.out; omega); replace HT := am_ (Kd.R_below HT.out hb); replace HO := am_ (Kd.S_below (Kd.S_elderB (qS HO) gb (Nat.le_of_eq hg.symm)) hb); replace G4 := rB_ G4 hb; replace G5 := rB_ G5 hb; have BK := am_ hbox; have GW := gA_ hg HB; have IGE := gI_ GW; replace HB := bS_ HB hb; clear hb hbox hg; (try clear hx0 hx1 hx2 hx3 hx4 hx5 hx6 hx7)) | ((with_reducible refine gate_store (t := 41) (p := 9) rfl ?_); refine store_evs (t := 41) (p := 9) (j := 0) (cs := [.int .i64 t0, .int .i64 t1, .int .i64 t2, .bool t3, .slice A4 t4.length c4, .slice A5 t5.length c5, .int .i64 t6, .int .i64 t7]) (qK BK) ?_; intro w3 hw; have h_ := sR_ (g := gb) (j := 0) (cs := [.int .i64 t0, .int .i64 t1, .int .i64 t2, .bool t3, .slice A4 t4.length c4, .slice A5 t5.length c5, .int .i64 t6, .int .i64 t7]) HT.out (fun k_ hk => by have := HG.out; omega); rw [← hw] at h_; replace HT := am_ h_; clear h_; have h_ := sS_ (g := gb) (j := 0) (cs := [.int .i64 t0, .int .i64 t1, .int .i64 t2, .bool t3, .slice A4 t4.length c4, .slice A5 t5.length c5, .int .i64 t6, .int .i64 t7]) HO.out (fun k_ hk => hk.2); rw [← hw] at h_; replace HO := am_ h_; clear h_; have h_ := sR_ (g := gb) (j := 0) (cs := [.int .i64 t0, .int .i64 t1, .int .i64 t2, .bool t3, .slice A4 t4.length c4, .slice A5 t5.length c5, .int .i64 t6, .int .i64 t7]) G4.out (fun k_ hk => by have := HG.out; omega); rw [← hw] at h_; replace G4 := am_ h_; clear h_; have h_ := sR_ (g := gb) (j := 0) (cs := [.int .i64 t0, .int .i64 t1, .int .i64 t2, .bool t3, .slice A4 t4.length c4, .slice A5 t5.length c5, .int .i64 t6, .int .i64 t7]) G5.out (fun k_ hk => by have := HG.out; omega); rw [← hw] at h_; replace G5 := am_ h_; clear h_; replace HB := sB_ hw HB; replace BK := sW_ hw BK; clear hw; have zK := cz8 BK.out; have fK := fz8 BK.out) | ((with_reducible refine gate_builtin (b := .append) (xs := #[.tmp 34, .tmp 36]) rfl ?_); at_builtin; refine Kd.S_append k41 (w0 := w) w.heap.size rfl (.tmp 34) (.tmp 36) 52 41 (.agg #[(.int .i64 0), (.int .i64 0), (.int .i64 0), .bool false, .slice none 0 0, .slice none 0 0, (.int .i64 0), (.int .i64 0)]) 96 rfl Try.underlying52 info41 rfl (by decide) (by omega) u7 ys (⟨t0, t1, t2, t3, t4, t5, t6, t7⟩ : S41) [.int .i64 t0, .int .i64 t1, .int .i64 t2, .bool t3, .slice A4 t4.length c4, .slice A5 t5.length c5, .int .i64 t6, .int .i64 t7] (fun k_ => (¬ (n0 ≤ k_ ∧ k_ < n1) ∨ f k_ < (i + 1).toNat) ∧ k_ ≠ gb) (fun k_ => (n0 ≤ k_ ∧ k_ < n1) ∧ f k_ = i.toNat) rfl (by first | rfl | (go_simp; done) | (go_simp; rfl)) ?aP ?aK ?aF ?aO ?aB ?aS ?aL ?_; (case aP => refine k41_mkM _ _ _ (⟨t0, t1, t2, t3, t4, t5, t6, t7⟩ : S41) (Kd.R_lower ?_ HLE.out) (Kd.R_lower ?_ HLE.out); (exact (tR G4.out)); (exact (tR G5.out))); (case aK => exact fun k_ hk => ⟨⟨.inr (by have := HS.out; have := hk.2; omega), by have := HG.out; have := hk.1; omega⟩, fun e_ => HV.out k_ e_.symm hk.1⟩); (case aF => exact fun k_ hk => (by have h_ := Nat.lt_of_lt_of_le (blk_lt (qK BK)) hk; have := HG.out; exact ⟨.inl (by omega), by omega⟩)); (case aO => exact Kd.S_mono (tS HO.out) (fun k_ hk => ⟨⟨hk.1.elim .inl (fun h_ => .inr (by have := HS.out; omega)), hk.2⟩, fun h_ => hk.1.elim (fun q_ => q_ h_.1) (fun q_ => by have := h_.2; omega)⟩)); (case aB => exact (qB HB)); (case aS => exact (below_size (qB HB))); (case aL => have := LM.out; omega); intro v9 w9 ho hb hg hat; replace HT := am_ (Kd.R_grown (tR HT.out) hg (fun k_ hk e_ => HV.out k_ e_.symm hk)); replace HV := am_ (show ∀ k_, v9.ownBlock = some k_ → ¬ (n0 ≤ k_ ∧ k_ < n1) from fun k_ hk => hat.elim (fun e_ => HV.out k_ (e_ ▸ hk)) (fun ⟨b_, e_, l_⟩ => by have := HG.out; have h_ := Nat.lt_of_lt_of_le (blk_lt (qK BK)) l_; rw [e_] at hk; injection hk with hk; omega)); replace BK := am_ (blk_grown (qK BK) hg (Kd.S_away HO.out (fun _ hk => hk.2))); replace HB := am_ hb; replace HO := am_ ho; (try clear zK); (try clear fK); clear ho hb hg hat))
   have hw := HM.out.2.2.2
   go_roundg (((xs.length : Int) - (i + 1)).toNat)
   case measure => exact HM.out.1
   case rel => exact ⟨(ys ++ [(⟨t0, t1, t2, t3, t4, t5, t6, t7⟩ : S41)]), i + 1, by rw [hw], ⟨HM.out.2.1, HM.out.2.2.1, Nat.le_refl _⟩, HI, ⟨(tR HT.out)⟩, ⟨(Kd.S_mono (tS HO.out) (fun _ hk => hk.1))⟩, HV, ⟨Nat.le_of_lt (Nat.lt_of_le_of_lt HG.out (blk_lt (qK BK)))⟩, ⟨qB HB⟩⟩
  have c1b0 : (t0 == a1) = true := beq_iff_eq.mpr c1
  by_cases c2 : b = true
  rotate_left
  ·
   rw [if_neg (fun h_ => c2 h_.2)] at hI
   replace c2 := Bool.eq_false_iff.mpr c2
   subst c2
   clear c1
   by_cases c5_ : ys.length < 1466015503701
   case neg => exact nn_ c5_ hI
   rw [if_pos c5_] at hI
   have LM := Aside0.mk c5_
   clear c5_
   have HI := Aside0.mk hI
   clear hI
   go_wp2_with (first | ((with_reducible refine gate_dst (N := 9) rfl ?_); refine bx_ (N := 9) (cs := #[.int .i64 0, .int .i64 0, .int .i64 0, .bool false, .slice none 0 0, .slice none 0 0, .int .i64 0, .int .i64 0]) (t := 41) ?_; intro gb hg w2 hbox hb; have HG := am_ (show n1 ≤ gb by have := HN.out; omega); replace HT := am_ (Kd.R_below HT.out hb); replace HO := am_ (Kd.S_below (Kd.S_elderB (qS HO) gb (Nat.le_of_eq hg.symm)) hb); replace G4 := rB_ G4 hb; replace G5 := rB_ G5 hb; have BK := am_ hbox; have GW := gA_ hg HB; have IGE := gI_ GW; replace HB := bS_ HB hb; clear hb hbox hg; (try clear hx0 hx1 hx2 hx3 hx4 hx5 hx6 hx7)) | ((with_reducible refine gate_store (t := 41) (p := 9) rfl ?_); refine store_evs (t := 41) (p := 9) (j := 0) (cs := [.int .i64 t0, .int .i64 t1, .int .i64 t2, .bool t3, .slice A4 t4.length c4, .slice A5 t5.length c5, .int .i64 t6, .int .i64 t7]) (qK BK) ?_; intro w3 hw; have h_ := sR_ (g := gb) (j := 0) (cs := [.int .i64 t0, .int .i64 t1, .int .i64 t2, .bool t3, .slice A4 t4.length c4, .slice A5 t5.length c5, .int .i64 t6, .int .i64 t7]) HT.out (fun k_ hk => by have := HG.out; omega); rw [← hw] at h_; replace HT := am_ h_; clear h_; have h_ := sS_ (g := gb) (j := 0) (cs := [.int .i64 t0, .int .i64 t1, .int .i64 t2, .bool t3, .slice A4 t4.length c4, .slice A5 t5.length c5, .int .i64 t6, .int .i64 t7]) HO.out (fun k_ hk => hk.2); rw [← hw] at h_; replace HO := am_ h_; clear h_; have h_ := sR_ (g := gb) (j := 0) (cs := [.int .i64 t0, .int .i64 t1, .int .i64 t2, .bool t3, .slice A4 t4.length c4, .slice A5 t5.length c5, .int .i64 t6, .int .i64 t7]) G4.out (fun k_ hk => by have := HG.out; omega); rw [← hw] at h_; replace G4 := am_ h_; clear h_; have h_ := sR_ (g := gb) (j := 0) (cs := [.int .i64 t0, .int .i64 t1, .int .i64 t2, .bool t3, .slice A4 t4.length c4, .slice A5 t5.length c5, .int .i64 t6, .int .i64 t7]) G5.out (fun k_ hk => by have := HG.out; omega); rw [← hw] at h_; replace G5 := am_ h_; clear h_; replace HB := sB_ hw HB; replace BK := sW_ hw BK; clear hw; have zK := cz8 BK.out; have fK := fz8 BK.out) | (go_at_call 87; (with_reducible refine (impl_isIn.calls a2 1 3 _ _ HIN.out).mono ?_); rintro e w' ⟨rfl, ⟨nd, rfl⟩⟩) | ((with_reducible refine gate_builtin (b := .append) (xs := #[.tmp 34, .tmp 36]) rfl ?_); at_builtin; refine Kd.S_append k41 (w0 := w) w.heap.size rfl (.tmp 34) (.tmp 36) 52 41 (.agg #[(.int .i64 0), (.int .i64 0), (.int .i64 0), .bool false, .slice none 0 0, .slice none 0 0, (.int .i64 0), (.int .i64 0)]) 96 rfl Try.underlying52 info41 rfl (by decide) (by omega) u7 ys (⟨t0, t1, t2, t3, t4, t5, t6, t7⟩ : S41) [.int .i64 t0, .int .i64 t1, .int .i64 t2, .bool t3, .slice A4 t4.length c4, .slice A5 t5.length c5, .int .i64 t6, .int .i64 t7] (fun k_ => (¬ (n0 ≤ k_ ∧ k_ < n1) ∨ f k_ < (i + 1).toNat) ∧ k_ ≠ gb) (fun k_ => (n0 ≤ k_ ∧ k_ < n1) ∧ f k_ = i.toNat) rfl (by first | rfl | (go_simp; done) | (go_simp; rfl)) ?aP ?aK ?aF ?aO ?aB ?aS ?aL ?_; (case aP => refine k41_mkM _ _ _ (⟨t0, t1, t2, t3, t4, t5, t6, t7⟩ : S41) (Kd.R_lower ?_ HLE.out) (Kd.R_lower ?_ HLE.out); (exact (tR G4.out)); (exact (tR G5.out))); (case aK => exact fun k_ hk => ⟨⟨.inr (by have := HS.out; have := hk.2; omega), by have := HG.out; have := hk.1; omega⟩, fun e_ => HV.out k_ e_.symm hk.1⟩); (case aF => exact fun k_ hk => (by have h_ := Nat.lt_of_lt_of_le (blk_lt (qK BK)) hk; have := HG.out; exact ⟨.inl (by omega), by omega⟩)); (case aO => exact Kd.S_mono (tS HO.out) (fun k_ hk => ⟨⟨hk.1.elim .inl (fun h_ => .inr (by have := HS.out; omega)), hk.2⟩, fun h_ => hk.1.elim (fun q_ => q_ h_.1) (fun q_ => by have := h_.2; omega)⟩)); (case aB => exact (qB HB)); (case aS => exact (below_size (qB HB))); (case aL => have := LM.out; omega); intro v9 w9 ho hb hg hat; replace HT := am_ (Kd.R_grown (tR HT.out) hg (fun k_ hk e_ => HV.out k_ e_.symm hk)); replace HV := am_ (show ∀ k_, v9.ownBlock = some k_ → ¬ (n0 ≤ k_ ∧ k_ < n1) from fun k_ hk => hat.elim (fun e_ => HV.out k_ (e_ ▸ hk)) (fun ⟨b_, e_, l_⟩ => by have := HG.out; have h_ := Nat.lt_of_lt_of_le (blk_lt (qK BK)) l_; rw [e_] at hk; injection hk with hk; omega)); replace BK := am_ (blk_grown (qK BK) hg (Kd.S_away HO.out (fun _ hk => hk.2))); replace HB := am_ hb; replace HO := am_ ho; (try clear zK); (try clear fK); clear ho hb hg hat))
   have hw := HM.out.2.2.2
   go_roundg (((xs.length : Int) - (i + 1)).toNat)
   case measure => exact HM.out.1
   case rel => exact ⟨(ys ++ [(⟨t0, t1, t2, t3, t4, t5, t6, t7⟩ : S41)]), i + 1, by rw [hw], ⟨HM.out.2.1, HM.out.2.2.1, Nat.le_refl _⟩, HI, ⟨(tR HT.out)⟩, ⟨(Kd.S_mono (tS HO.out) (fun _ hk => hk.1))⟩, HV, ⟨Nat.le_of_lt (Nat.lt_of_le_of_lt HG.out (blk_lt (qK BK)))⟩, ⟨qB HB⟩⟩
  subst c2
  rw [if_pos ⟨c1, rfl⟩] at hI
  clear c1
  by_cases c4_ : (Go.bits .andNot .i64 t2 a2) = 0
  ·
   have c4b0 : ((Go.bits .andNot .i64 t2 a2) == 0) = true := beq_iff_eq.mpr c4_
   rw [if_pos c4_] at hI
   clear c4_
   have HI := Aside0.mk hI
   clear hI
   go_wp2_with (first | ((with_reducible refine gate_dst (N := 9) rfl ?_); refine bx_ (N := 9) (cs := #[.int .i64 0, .int .i64 0, .int .i64 0, .bool false, .slice none 0 0, .slice none 0 0, .int .i64 0, .int .i64 0]) (t := 41) ?_; intro gb hg w2 hbox hb; have HG := am_ (show n1 ≤ gb by have := HN.out; omega); replace HT := am_ (Kd.R_below HT.out hb); replace HO := am_ (Kd.S_below (Kd.S_elderB (qS HO) gb (Nat.le_of_eq hg.symm)) hb); replace G4 := rB_ G4 hb; replace G5 := rB_ G5 hb; have BK := am_ hbox; have GW := gA_ hg HB; have IGE := gI_ GW; replace HB := bS_ HB hb; clear hb hbox hg; (try clear hx0 hx1 hx2 hx3 hx4 hx5 hx6 hx7)) | ((with_reducible refine gate_store (t := 41) (p := 9) rfl ?_); refine store_evs (t := 41) (p := 9) (j := 0) (cs := [.int .i64 t0, .int .i64 t1, .int .i64 t2, .bool t3, .slice A4 t4.length c4, .slice A5 t5.length c5, .int .i64 t6, .int .i64 t7]) (qK BK) ?_; intro w3 hw; have h_ := sR_ (g := gb) (j := 0) (cs := [.int .i64 t0, .int .i64 t1, .int .i64 t2, .bool t3, .slice A4 t4.length c4, .slice A5 t5.length c5, .int .i64 t6, .int .i64 t7]) HT.out (fun k_ hk => by have := HG.out; omega); rw [← hw] at h_; replace HT := am_ h_; clear h_; have h_ := sS_ (g := gb) (j := 0) (cs := [.int .i64 t0, .int .i64 t1, .int .i64 t2, .bool t3, .slice A4 t4.length c4, .slice A5 t5.length c5, .int .i64 t6, .int .i64 t7]) HO.out (fun k_ hk => hk.2); rw [← hw] at h_; replace HO := am_ h_; clear h_; have h_ := sR_ (g := gb) (j := 0) (cs := [.int .i64 t0, .int .i64 t1, .int .i64 t2, .bool t3, .slice A4 t4.length c4, .slice A5 t5.length c5, .int .i64 t6, .int .i64 t7]) G4.out (fun k_ hk => by have := HG.out; omega); rw [← hw] at h_; replace G4 := am_ h_; clear h_; have h_ := sR_ (g := gb) (j := 0) (cs := [.int .i64 t0, .int .i64 t1, .int .i64 t2, .bool t3, .slice A4 t4.length c4, .slice A5 t5.length c5, .int .i64 t6, .int .i64 t7]) G5.out (fun k_ hk => by have := HG.out; omega); rw [← hw] at h_; replace G5 := am_ h_; clear h_; replace HB := sB_ hw HB; replace BK := sW_ hw BK; clear hw; have zK := cz8 BK.out; have fK := fz8 BK.out) | (go_at_call 87; (with_reducible refine (impl_isIn.calls a2 1 3 _ _ HIN.out).mono ?_); rintro e w' ⟨rfl, ⟨nd, rfl⟩⟩))
   have hw := HM.out.2.2.2
   go_roundg (((xs.length : Int) - (i + 1)).toNat)
   case measure => exact HM.out.1
   case rel => exact ⟨ys, i + 1, by rw [hw], ⟨HM.out.2.1, HM.out.2.2.1, Nat.le_refl _⟩, HI, ⟨(Kd.R_far (p := ⟨gb, 2, none⟩) (tR HT.out) (fun k_ hk => by have := HG.out; show k_ ≠ gb; omega) _)⟩, ⟨(Kd.S_mono (Kd.S_far (p := ⟨gb, 2, none⟩) (tS HO.out) (fun _ hk => hk.2) _) (fun k_ hk => hk.1.elim .inl (fun h_ => .inr (by have := HS.out; omega))))⟩, HV, ⟨Nat.le_of_lt (Nat.lt_of_le_of_lt HG.out (blk_lt (blk_put (cs := #[.int .i64 t0, .int .i64 t1, .int .i64 t2, .bool t3, .slice A4 t4.length c4, .slice A5 t5.length c5, .int .i64 t6, .int .i64 t7]) (qK BK) 2 _ rfl)))⟩, ⟨qB HB⟩⟩
  have c4b0 : ((Go.bits .andNot .i64 t2 a2) == 0) = false := beq_eq_false_iff_ne.mpr c4_
  rw [if_neg c4_] at hI
  clear c4_
  by_cases c5_ : ys.length < 1466015503701
  case neg => exact nn_ c5_ hI
  rw [if_pos c5_] at hI
  have LM := Aside0.mk c5_
  clear c5_
  have HI := Aside0.mk hI
  clear hI
  go_wp2_with (first | ((with_reducible refine gate_dst (N := 9) rfl ?_); refine bx_ (N := 9) (cs := #[.int .i64 0, .int .i64 0, .int .i64 0, .bool false, .slice none 0 0, .slice none 0 0, .int .i64 0, .int .i64 0]) (t := 41) ?_; intro gb hg w2 hbox hb; have HG := am_ (show n1 ≤ gb by have := HN.out; omega); replace HT := am_ (Kd.R_below HT.out hb); replace HO := am_ (Kd.S_below (Kd.S_elderB (qS HO) gb (Nat.le_of_eq hg.symm)) hb); replace G4 := rB_ G4 hb; replace G5 := rB_ G5 hb; have BK := am_ hbox; have GW := gA_ hg HB; have IGE := gI_ GW; replace HB := bS_ HB hb; clear hb hbox hg; (try clear hx0 hx1 hx2 hx3 hx4 hx5 hx6 hx7)) | ((with_reducible refine gate_store (t := 41) (p := 9) rfl ?_); refine store_evs (t := 41) (p := 9) (j := 0) (cs := [.int .i64 t0, .int .i64 t1, .int .i64 t2, .bool t3, .slice A4 t4.length c4, .slice A5 t5.length c5, .int .i64 t6, .int .i64 t7]) (qK BK) ?_; intro w3 hw; have h_ := sR_ (g := gb) (j := 0) (cs := [.int .i64 t0, .int .i64 t1, .int .i64 t2, .bool t3, .slice A4 t4.length c4, .slice A5 t5.length c5, .int .i64 t6, .int .i64 t7]) HT.out (fun k_ hk => by have := HG.out; omega); rw [← hw] at h_; replace HT := am_ h_; clear h_; have h_ := sS_ (g := gb) (j := 0) (cs := [.int .i64 t0, .int .i64 t1, .int .i64 t2, .bool t3, .slice A4 t4.length c4, .slice A5 t5.length c5, .int .i64 t6, .int .i64 t7]) HO.out (fun k_ hk => hk.2); rw [← hw] at h_; replace HO := am_ h_; clear h_; have h_ := sR_ (g := gb) (j := 0) (cs := [.int .i64 t0, .int .i64 t1, .int .i64 t2, .bool t3, .slice A4 t4.length c4, .slice A5 t5.length c5, .int .i64 t6, .int .i64 t7]) G4.out (fun k_ hk => by have := HG.out; omega); rw [← hw] at h_; replace G4 := am_ h_; clear h_; have h_ := sR_ (g := gb) (j := 0) (cs := [.int .i64 t0, .int .i64 t1, .int .i64 t2, .bool t3, .slice A4 t4.length c4, .slice A5 t5.length c5, .int .i64 t6, .int .i64 t7]) G5.out (fun k_ hk => by have := HG.out; omega); rw [← hw] at h_; replace G5 := am_ h_; clear h_; replace HB := sB_ hw HB; replace BK := sW_ hw BK; clear hw; have zK := cz8 BK.out; have fK := fz8 BK.out) | (go_at_call 87; (with_reducible refine (impl_isIn.calls a2 1 3 _ _ HIN.out).mono ?_); rintro e w' ⟨rfl, ⟨nd, rfl⟩⟩) | ((with_reducible refine gate_builtin (b := .append) (xs := #[.tmp 34, .tmp 36]) rfl ?_); at_builtin; refine Kd.S_append k41 (w0 := w) w.heap.size rfl (.tmp 34) (.tmp 36) 52 41 (.agg #[(.int .i64 0), (.int .i64 0), (.int .i64 0), .bool false, .slice none 0 0, .slice none 0 0, (.int .i64 0), (.int .i64 0)]) 96 rfl Try.underlying52 info41 rfl (by decide) (by omega) u7 ys (⟨t0, t1, (Go.bits .andNot .i64 t2 a2), t3, t4, t5, t6, t7⟩ : S41) [.int .i64 t0, .int .i64 t1, .int .i64 (Go.bits .andNot .i64 t2 a2), .bool t3, .slice A4 t4.length c4, .slice A5 t5.length c5, .int .i64 t6, .int .i64 t7] (fun k_ => (¬ (n0 ≤ k_ ∧ k_ < n1) ∨ f k_ < (i + 1).toNat) ∧ k_ ≠ gb) (fun k_ => (n0 ≤ k_ ∧ k_ < n1) ∧ f k_ = i.toNat) rfl (by first | rfl | (go_simp; done) | (go_simp; rfl)) ?aP ?aK ?aF ?aO ?aB ?aS ?aL ?_; (case aP => refine k41_mkM _ _ _ (⟨t0, t1, (Go.bits .andNot .i64 t2 a2), t3, t4, t5, t6, t7⟩ : S41) (Kd.R_lower ?_ HLE.out) (Kd.R_lower ?_ HLE.out); (exact (Kd.R_far (p := ⟨gb, 2, none⟩) (tR G4.out) (fun k_ hk => by have := HG.out; show k_ ≠ gb; omega) _)); (exact (Kd.R_far (p := ⟨gb, 2, none⟩) (tR G5.out) (fun k_ hk => by have := HG.out; show k_ ≠ gb; omega) _))); (case aK => exact fun k_ hk => ⟨⟨.inr (by have := HS.out; have := hk.2; omega), by have := HG.out; have := hk.1; omega⟩, fun e_ => HV.out k_ e_.symm hk.1⟩); (case aF => exact fun k_ hk => (by have h_ := Nat.lt_of_lt_of_le (blk_lt (blk_put (cs := #[.int .i64 t0, .int .i64 t1, .int .i64 t2, .bool t3, .slice A4 t4.length c4, .slice A5 t5.length c5, .int .i64 t6, .int .i64 t7]) (qK BK) 2 _ rfl)) hk; have := HG.out; exact ⟨.inl (by omega), by omega⟩)); (case aO => exact Kd.S_mono (Kd.S_far (p := ⟨gb, 2, none⟩) (tS HO.out) (fun _ hk => hk.2) _) (fun k_ hk => ⟨⟨hk.1.elim .inl (fun h_ => .inr (by have := HS.out; omega)), hk.2⟩, fun h_ => hk.1.elim (fun q_ => q_ h_.1) (fun q_ => by have := h_.2; omega)⟩)); (case aB => exact (qB HB)); (case aS => exact (below_size (qB HB))); (case aL => have := LM.out; omega); intro v9 w9 ho hb hg hat; replace HT := am_ (Kd.R_grown (Kd.R_far (p := ⟨gb, 2, none⟩) (tR HT.out) (fun k_ hk => by have := HG.out; show k_ ≠ gb; omega) _) hg (fun k_ hk e_ => HV.out k_ e_.symm hk)); replace HV := am_ (show ∀ k_, v9.ownBlock = some k_ → ¬ (n0 ≤ k_ ∧ k_ < n1) from fun k_ hk => hat.elim (fun e_ => HV.out k_ (e_ ▸ hk)) (fun ⟨b_, e_, l_⟩ => by have := HG.out; have h_ := Nat.lt_of_lt_of_le (blk_lt (blk_put (cs := #[.int .i64 t0, .int .i64 t1, .int .i64 t2, .bool t3, .slice A4 t4.length c4, .slice A5 t5.length c5, .int .i64 t6, .int .i64 t7]) (qK BK) 2 _ rfl)) l_; rw [e_] at hk; injection hk with hk; omega)); replace BK := am_ (blk_grown (blk_put (cs := #[.int .i64 t0, .int .i64 t1, .int .i64 t2, .bool t3, .slice A4 t4.length c4, .slice A5 t5.length c5, .int .i64 t6, .int .i64 t7]) (qK BK) 2 _ rfl) hg (Kd.S_away HO.out (fun _ hk => hk.2))); replace HB := am_ hb; replace HO := am_ ho; (try clear zK); (try clear fK); clear ho hb hg hat))
  have hw := HM.out.2.2.2
  go_roundg (((xs.length : Int) - (i + 1)).toNat)
  case measure => exact HM.out.1
  case rel => exact ⟨(ys ++ [(⟨t0, t1, (Go.bits .andNot .i64 t2 a2), t3, t4, t5, t6, t7⟩ : S41)]), i + 1, by rw [hw], ⟨HM.out.2.1, HM.out.2.2.1, Nat.le_refl _⟩, HI, ⟨(tR HT.out)⟩, ⟨(Kd.S_mono (tS HO.out) (fun _ hk => hk.1))⟩, HV, ⟨Nat.le_of_lt (Nat.lt_of_le_of_lt HG.out (blk_lt (qK BK)))⟩, ⟨qB HB⟩⟩

end Go.Proofs.Ytiffahfpfgnjnaa.PFnSocks
