-- Written by a program of this session (myprint.py, over the kit's print): contracts of FnSocks
import Derived.Test.YtiffahfpfgnjnaaPFnSocksx0
import Derived.Test.YtiffahfpfgnjnaaPFnSocksx3
import Derived.Test.YtiffahfpfgnjnaaPFnSocksx8
namespace Go.Proofs.Ytiffahfpfgnjnaa.PFnSocks
open Go.RowKit Go.Proofs.YtiffahfpfgnjnaaW.PrintWords Go.Proofs.YtiffahfpfgnjnaaW.PrintLast Go.Proofs.YtiffahfpfgnjnaaW.PrintMore Go.Proofs.YtiffahfpfgnjnaaV
attribute [local go_sem] max2_int min2_int max_two min_two max_three min_three max_four min_four   -- for this text's walks alone
set_option linter.unusedVariables false
set_option linter.unusedSimpArgs false

/-! ### spec_Free: function 33 -/
mutual
def spec_Free.l0 : Nat → List (S41) → Int → Int → List (S41) → Int → Option ((List (S41)))
 | 0, _, _, _, _, _ => none
 | k + 1, x0, x1, x2, x7, x8 => if x8 < (x0.length : Int) then (if 0 ≤ x8 then ((spec_l8Copy.f ((rd_T41 x0 x8).f0) ((rd_T41 x0 x8).f1) ((rd_T41 x0 x8).f2) ((rd_T41 x0 x8).f3) ((rd_T41 x0 x8).f4) ((rd_T41 x0 x8).f5) ((rd_T41 x0 x8).f6) ((rd_T41 x0 x8).f7)).bind fun bt668 => (if bt668.1 = x1 then ((spec_l1In.f x2 1 3).bind fun t681 => (spec_Free.j1 k x0 x1 x2 x7 x8 t681 bt668.1 bt668.2.1 bt668.2.2.1 bt668.2.2.2.1 bt668.2.2.2.2.1 bt668.2.2.2.2.2.1 bt668.2.2.2.2.2.2.1 bt668.2.2.2.2.2.2.2)) else (spec_Free.j1 k x0 x1 x2 x7 x8 false bt668.1 bt668.2.1 bt668.2.2.1 bt668.2.2.2.1 bt668.2.2.2.2.1 bt668.2.2.2.2.2.1 bt668.2.2.2.2.2.2.1 bt668.2.2.2.2.2.2.2))) else (none)) else (some x7)
def spec_Free.j1 : Nat → List (S41) → Int → Int → List (S41) → Int → Bool → Int → Int → Int → Bool → List Int → List Int → Int → Int → Option ((List (S41)))
 | 0, _, _, _, _, _, _, _, _, _, _, _, _, _, _ => none
 | k + 1, x0, x1, x2, x7, x8, x29, x681000, x681001, x681002, x681003, x681004, x681005, x681006, x681007 => if x29 = true then (if (Go.bits .andNot .i64 x681002 x2) = 0 then (spec_Free.l0 k x0 x1 x2 x7 (wrap64 (x8 + 1))) else (if x7.length < 1466015503701 then (spec_Free.l0 k x0 x1 x2 (x7 ++ [(⟨x681000, x681001, Go.bits .andNot .i64 x681002 x2, x681003, x681004, x681005, x681006, x681007⟩ : S41)]) (wrap64 (x8 + 1))) else (none))) else (if x7.length < 1466015503701 then (spec_Free.l0 k x0 x1 x2 (x7 ++ [(⟨x681000, x681001, x681002, x681003, x681004, x681005, x681006, x681007⟩ : S41)]) (wrap64 (x8 + 1))) else (none))
end
def spec_Free.f (k : Nat) (l0 : List (S41)) (a1 : Int) (a2 : Int) : Option ((List (S41))) := spec_Free.l0 k l0 a1 a2 (([] : List (S41))) 0
theorem spec_Free.mono_l : ∀ k, (∀ y0 y1 y2 y3 y4, LeO (spec_Free.l0 k y0 y1 y2 y3 y4) (spec_Free.l0 (k + 1) y0 y1 y2 y3 y4)) ∧ (∀ y0 y1 y2 y3 y4 y5 y6 y7 y8 y9 y10 y11 y12 y13, LeO (spec_Free.j1 k y0 y1 y2 y3 y4 y5 y6 y7 y8 y9 y10 y11 y12 y13) (spec_Free.j1 (k + 1) y0 y1 y2 y3 y4 y5 y6 y7 y8 y9 y10 y11 y12 y13))
 | 0 => ⟨fun _ _ _ _ _ r h => by simp [spec_Free.l0] at h, fun _ _ _ _ _ _ _ _ _ _ _ _ _ _ r h => by simp [spec_Free.j1] at h⟩
 | k + 1 => by
  obtain ⟨ih0, ih1⟩ := spec_Free.mono_l k
  refine ⟨?_, ?_⟩
  ·
   intro y0 y1 y2 y3 y4
   unfold spec_Free.l0
   exact mo_
  ·
   intro y0 y1 y2 y3 y4 y5 y6 y7 y8 y9 y10 y11 y12 y13
   unfold spec_Free.j1
   exact mo_
theorem spec_Free.mono : ∀ a0 a1 a2 k, LeO (spec_Free.f k a0 a1 a2) (spec_Free.f (k + 1) a0 a1 a2) := by
 intro a0 a1 a2 k
 obtain ⟨ih0, ih1⟩ := spec_Free.mono_l k
 unfold spec_Free.f
 exact mo_
set_option maxHeartbeats 8000000 in
set_option maxRecDepth 100000 in
theorem spec_Free.calls (k : Nat) (A0 : Option Addr) (c0 : Nat) (l0 : List (S41)) (a1 : Int) (a2 : Int) (r : List (S41)) (w : World) (hr0 : Kd.C k41 w A0 l0.length l0) (hc0 : l0.length ≤ c0) (h : spec_Free.f k l0 a1 a2 = some r) :
  Calls Try.prog 33 #[.slice A0 l0.length c0, .int .i64 a1, .int .i64 a2] w fun e w' => ∃ v0_ : Value, e = .returned (v0_) ∧ Kd.S k41 41 w' w.heap.size (fun _ => True) v0_ r ∧ Below w.heap.size w w' := by
 have hu41 := Try.underlying41
 have HR0 := Aside0.mk hr0
 have HC0 := Aside0.mk hc0
 clear hr0 hc0
 have HB := Aside0.mk (Below.refl w.heap.size w)
 have H : (spec_Free.l0 k l0 a1 a2 (([] : List (S41))) 0) = some r := h
 clear h
 obtain ⟨y664, hy664⟩ : ∃ y_ : List (S41), y_ = (([] : List (S41))) := ⟨_, rfl⟩
 rw [← hy664] at H
 have Ny664 := Aside0.mk hy664
 clear hy664
 have H' := Aside0.mk H
 clear H
 go_enter Try.func33, Try.ntmps33
 go_wp2_with (first | ((with_reducible refine gate_dst (N := 10) rfl ?_); refine Kd.S_lit k41 _ 41 ?hg (N := 10) ?hd (xs := ([] : List (S41))) (inner := []) (ok := fun _ => True) (okp := fun _ => True) ?hr ?hp (fun _ hk => hk) trivial (Below.refl _ _) (Nat.le_refl _) (by simp) ?_; (case hd => rfl); (case hg => rfl); (case hr => first | (go_simp; done) | (go_simp; rfl)); (case hp => exact (Reps.none _ _)); intro v665 w4 ho5 hb hg_ hnew_; clear hg_ hnew_; (first | rw [← Ny664.out] at ho5 | (simp only [Int.reduceToNat] at ho5; rw [← Ny664.out] at ho5)); have HO666 := am_ (Kd.S_lower ho5 (below_size (qB HB))); replace HB := bS_ HB hb; clear hb ho5))
 go_loopg [7, 8] k (fun kq v7 v8 w' => ∃ (x7_1 : List (S41)) (x8_1 : Int), v8 = .int .i64 x8_1 ∧ Aside0 (spec_Free.l0 kq l0 a1 a2 x7_1 x8_1 = some r) ∧ Aside0 (kq ≤ k) ∧ Aside0 (Kd.S k41 41 w' w.heap.size (fun _ => True) v7 x7_1) ∧ Aside0 (Below w.heap.size w w'))
 case atStart => exact ⟨(y664), (0), eqq_, H', ⟨Nat.le_refl _⟩, ⟨qS HO666⟩, ⟨qB HB⟩⟩
 case round =>
  clear H'
  try clear p2
  try clear c3
  obtain ⟨x7_1, x8_1, rfl, HA, HK1, HO_7, HB⟩ := hrel
  cases gk with
  | zero => exact absurd HA.out (by simp [spec_Free.l0])
  | succ k1 =>
   have H := HA.out
   clear HA
   simp only [spec_Free.l0] at H
   by_cases c6 : x8_1 < (l0.length : Int)
   rotate_left
   ·
    rw [if_neg c6] at H
    have c6b0 : decide (x8_1 < (l0.length : Int)) = false := decide_eq_false c6
    clear c6
    obtain rfl := Option.some.inj H
    go_wp2
    go_ret
    exact ⟨_, er_, qS HO_7, qB HB⟩
   rw [if_pos c6] at H
   have c6b0 : decide (x8_1 < (l0.length : Int)) = true := decide_eq_true c6
   clear c6
   by_cases c7 : 0 ≤ x8_1
   case neg => exact nn_ c7 H
   rw [if_pos c7] at H
   have c7b0 : decide (0 ≤ x8_1) = true := decide_eq_true c7
   clear c7
   replace H := bf_ H
   obtain ⟨f_, hf_, ⟨t668, t669, t670, t671, t672, t675, t678, t679⟩, A8, H⟩ := H
   subst hf_
   (try dsimp only at H)
   have HC9 := Aside0.mk H
   clear H
   have p667 : 0 ≤ (x8_1 : Int) := od_
   have q667 : x8_1 < (l0.length : Int) := od_
   obtain ⟨ad667, A667_4, c667_4, A667_5, c667_5, e667, hx667_0, hx667_1, hx667_2, hx667_3, hx667_4, hx667_5, hx667_6, hx667_7, hl667_4, hi667_4, hl667_5, hi667_5⟩ := at_T41 HR0.out x8_1 p667 q667
   cases e667
   replace hx667_0 := lb_ HB hx667_0
   replace hx667_1 := lb_ HB hx667_1
   replace hx667_2 := lb_ HB hx667_2
   replace hx667_3 := lb_ HB hx667_3
   replace hx667_4 := lb_ HB hx667_4
   replace hx667_5 := lb_ HB hx667_5
   replace hx667_6 := lb_ HB hx667_6
   replace hx667_7 := lb_ HB hx667_7
   have HR667_4 := Aside0.mk hi667_4
   have HC667_4 := Aside0.mk hl667_4
   clear hi667_4 hl667_4
   have HR667_5 := Aside0.mk hi667_5
   have HC667_5 := Aside0.mk hl667_5
   clear hi667_5 hl667_5
   replace p667 := eq_true p667
   replace q667 := eq_true q667
   go_upto_region 6 with (first | ((with_reducible refine gate_callee (f := 93) rfl ?_); refine gl_ (some 21) Try.func93 #[.agg #[.int .i64 ((rd_T41 l0 x8_1).f0), .int .i64 ((rd_T41 l0 x8_1).f1), .int .i64 ((rd_T41 l0 x8_1).f2), .bool ((rd_T41 l0 x8_1).f3), .slice A667_4 ((rd_T41 l0 x8_1).f4).length c667_4, .slice A667_5 ((rd_T41 l0 x8_1).f5).length c667_5, .int .i64 ((rd_T41 l0 x8_1).f6), .int .i64 ((rd_T41 l0 x8_1).f7)]] ?_; (with_reducible refine (spec_l8Copy.calls ((rd_T41 l0 x8_1).f0) ((rd_T41 l0 x8_1).f1) ((rd_T41 l0 x8_1).f2) ((rd_T41 l0 x8_1).f3) _ _ ((rd_T41 l0 x8_1).f4) _ _ ((rd_T41 l0 x8_1).f5) ((rd_T41 l0 x8_1).f6) ((rd_T41 l0 x8_1).f7) t668 t669 t670 t671 t672 t675 t678 t679 _ ?side1 ?side2 ?side3 ?side4 A8.out).mono ?_); (case side1 => exact qC (Kd.C_below HR667_4.out HB.out)); (case side2 => exact HC667_4.out); (case side3 => exact qC (Kd.C_below HR667_5.out HB.out)); (case side4 => exact HC667_5.out); rintro e w10 ⟨v673, v676, rfl, ho0, ho1, hb⟩; refine ⟨_, rfl, ?_⟩; replace HO_7 := am_ (Kd.S_mono (Kd.S_told (Kd.S_told (Kd.S_old (qS HO_7) hb) (Kd.R_base ho0)) (Kd.R_base ho1)) (fun _ h_ => h_.1)); have HO674 := am_ (Kd.R_lower ho0 (below_size (qB HB))); have HO677 := am_ (Kd.R_lower ho1 (below_size (qB HB))); replace HB := bS_ HB hb; (try clear hb); (try clear ho0); (try clear ho1)) | ((with_reducible refine gate_dst (N := 9) rfl ?_); refine bx_ (N := 9) (cs := #[.int .i64 0, .int .i64 0, .int .i64 0, .bool false, .slice none 0 0, .slice none 0 0, .int .i64 0, .int .i64 0]) (t := 41) ?_; intro gb680 hg w11 hbox hb; replace HO_7 := am_ (Kd.S_below (Kd.S_elderB (qS HO_7) gb680 (Nat.le_of_eq hg.symm)) hb); replace HO674 := rB_ HO674 hb; replace HO677 := rB_ HO677 hb; have BK680 := am_ (hbox); have GW680 := gA_ hg HB; have GE680 := GW680; have IGE680 := gI_ GE680; replace HB := bS_ HB hb; clear hb hbox hg; (try clear zK680); have zK680 := cz8 BK680.out; (try clear fK680); have fK680 := fz8 BK680.out; obtain ⟨Ao13, co13, eo13⟩ := Kd.R_slice HO674.out; subst eo13; obtain ⟨Ao14, co14, eo14⟩ := Kd.R_slice HO677.out; subst eo14))
   (try simp only [Act.put, List.setIfInBounds_toArray, List.set_cons_zero, List.set_cons_succ])
   go_cut [29] (fun v29 wc => ∃ (kq : Nat) (x29_8 : Bool), v29 = .bool x29_8 ∧ Aside0 (spec_Free.j1 kq l0 a1 a2 x7_1 x8_1 x29_8 t668 t669 t670 t671 t672 t675 t678 t679 = some r) ∧ Aside0 (kq ≤ k1) ∧ Aside0 (Kd.S k41 41 wc w.heap.size (fun k_ => nb Ao13 t672.length co13 k_ ∧ nb Ao14 t675.length co14 k_ ∧ k_ ≠ gb680) u7 x7_1) ∧ Aside0 (Kd.R (Kd.int .u8) 5 wc w.heap.size (fun k_ => nb Ao14 t675.length co14 k_) (.slice Ao13 t672.length co13) t672) ∧ Aside0 (Kd.R (Kd.int .u8) 5 wc w.heap.size (fun k_ => nb Ao13 t672.length co13 k_) (.slice Ao14 t675.length co14) t675) ∧ Aside0 (wc.heap[gb680]? = some (.cells #[.int .i64 t668, .int .i64 t669, .int .i64 t670, .bool t671, (.slice Ao13 t672.length co13), (.slice Ao14 t675.length co14), .int .i64 t678, .int .i64 t679] 41 (0, 0))) ∧ Aside0 (Below w.heap.size w wc))
   case first =>
    have H := HC9.out
    clear HC9
    by_cases c15 : t668 = a1
    rotate_left
    ·
     rw [if_neg c15] at H
     have c15b0 : (t668 == a1) = false := beq_eq_false_iff_ne.mpr c15
     have c15b1 : (t668 != a1) = true := bne_iff_ne.mpr c15
     (first | rw [c15b0] | rw [c15b1] | (simp only [i64_w, i32_w]; rw [c15b0]) | skip)
     have H' := Aside0.mk H
     clear H
     (try clear zK680)
     have zK680 := cz8 BK680.out
     (try clear fK680)
     have fK680 := fz8 BK680.out
     go_wp2
     go_meet
     case rel => exact ⟨_, (false), eqq_, H', ⟨by have := HK1.out; first | omega | exact Nat.le_refl _⟩, gS_ (g := gb680) HO_7, fR3_ HO674 BK680, fR3_ HO677 BK680, ⟨by (with_reducible repeat (first | refine blk_drewN ?_ _ | refine blk_drew ?_ | refine blk_alloc ?_ _)); refine blk_all8 (show _ = some (Go.Obj.cells #[.int .i64 0, .int .i64 0, .int .i64 0, .bool false, .slice none 0 0, .slice none 0 0, .int .i64 0, .int .i64 0] _ (0, 0)) from ?_); exact qK BK680⟩, ⟨qB HB⟩⟩
    rw [if_pos c15] at H
    have c15b0 : (t668 == a1) = true := beq_iff_eq.mpr c15
    have c15b1 : (t668 != a1) = false := bne_eq_false_iff_eq.mpr c15
    clear c15
    (first | rw [c15b0] | rw [c15b1] | (simp only [i64_w, i32_w]; rw [c15b0]) | skip)
    replace H := bd_ H
    obtain ⟨t681, A16, H⟩ := H
    have H' := Aside0.mk H
    clear H
    (try clear zK680)
    have zK680 := cz8 BK680.out
    (try clear fK680)
    have fK680 := fz8 BK680.out
    go_wp2_with (first | (go_at_call 83; (with_reducible refine (spec_l1In.calls a2 1 3 t681 _ A16.out).mono ?_); rintro e w' ⟨rfl, ⟨nd, rfl⟩⟩))
    go_meet
    case rel => exact ⟨_, (t681), eqq_, H', ⟨by have := HK1.out; first | omega | exact Nat.le_refl _⟩, gS_ (g := gb680) HO_7, fR3_ HO674 BK680, fR3_ HO677 BK680, ⟨by (with_reducible repeat (first | refine blk_drewN ?_ _ | refine blk_drew ?_ | refine blk_alloc ?_ _)); refine blk_all8 (show _ = some (Go.Obj.cells #[.int .i64 0, .int .i64 0, .int .i64 0, .bool false, .slice none 0 0, .slice none 0 0, .int .i64 0, .int .i64 0] _ (0, 0)) from ?_); exact qK BK680⟩, ⟨qB HB⟩⟩
   case rest =>
    clear HC9
    try clear c1
    try clear p2
    try clear c3
    try clear c6
    try clear c6b0
    try clear p6
    try clear q6
    try clear hx6
    try clear c7
    try clear c7b0
    try clear c9
    try clear c15
    try clear c15b0
    try clear c15b1
    (try clear zK680)
    (try clear zK680)
    (try clear zK680)
    (try clear fK680)
    (try clear fK680)
    (try clear fK680)
    try clear hx667_0
    try clear hx667_1
    try clear hx667_2
    try clear hx667_3
    try clear hx667_4
    try clear hx667_5
    try clear hx667_6
    try clear hx667_7
    try clear p2
    try clear p667
    try clear q667
    obtain ⟨kq, x29_8, rfl, HA, HJ8, HO_7, HO_681004, HO_681005, BK680, HB⟩ := hcut
    cases kq with
    | zero => exact absurd HA.out (by simp [spec_Free.j1])
    | succ kj8 =>
     have H := HA.out
     clear HA
     simp only [spec_Free.j1] at H
     by_cases c19 : x29_8 = true
     rotate_left
     ·
      replace c19 := Bool.eq_false_iff.mpr c19
      subst c19
      rw [if_neg (show ¬ (false = true) by decide)] at H
      by_cases c27 : x7_1.length < 1466015503701
      case neg => exact nn_ c27 H
      rw [if_pos c27] at H
      have LMc27 := Aside0.mk c27
      clear c27
      obtain ⟨y685, hy685⟩ : ∃ y_ : List (S41), y_ = (x7_1 ++ [(⟨t668, t669, t670, t671, t672, t675, t678, t679⟩ : S41)]) := ⟨_, rfl⟩
      rw [← hy685] at H
      have Ny685 := Aside0.mk hy685
      clear hy685
      have H' := Aside0.mk H
      clear H
      (try clear zK680)
      have zK680 := cz8 BK680.out
      (try clear fK680)
      have fK680 := fz8 BK680.out
      go_wp2_with (first | ((with_reducible refine gate_builtin (b := .append) (xs := #[.tmp 38, .tmp 40]) rfl ?_); at_builtin; refine Kd.S_append k41 (w0 := w) w.heap.size rfl (.tmp 38) (.tmp 40) 52 41 (.agg #[(.int .i64 0), (.int .i64 0), (.int .i64 0), (.bool false), (.slice none 0 0), (.slice none 0 0), (.int .i64 0), (.int .i64 0)]) 96 rfl Try.underlying52 info41 rfl (by decide) (by omega) u7 x7_1 (⟨t668, t669, t670, t671, t672, t675, t678, t679⟩ : S41) [.int .i64 t668, .int .i64 t669, .int .i64 t670, .bool t671, .slice Ao13 t672.length co13, .slice Ao14 t675.length co14, .int .i64 t678, .int .i64 t679] (fun k_ => k_ ≠ gb680) (fun k_ => some k_ = (.slice Ao13 t672.length co13 : Value).ownBlock ∨ some k_ = (.slice Ao14 t675.length co14 : Value).ownBlock) rfl rfl ?aP (fun k_ hk_ => hk_.elim (fun h_ => ((Kd.R_mono (ok' := fun k_ => ((fun k_ => k_ ≠ gb680)) k_ ∧ nv u7 k_) (Kd.R_types (Kd.R_apart' (HO_681004.out) (Kd.S_typed HO_7.out) (by decide)) BK680.out (by decide)) (fun k_ hk => ⟨hk.2, hk.1.2⟩))).1 k_ h_.symm) (fun h_ => ((Kd.R_mono (ok' := fun k_ => ((fun k_ => k_ ≠ gb680)) k_ ∧ nv u7 k_) (Kd.R_types (Kd.R_apart' (HO_681005.out) (Kd.S_typed HO_7.out) (by decide)) BK680.out (by decide)) (fun k_ hk => ⟨hk.2, hk.1.2⟩))).1 k_ h_.symm)) ?aF ?aO ?aB ?aS ?aL ?_; (case aP => exact k41_mkM _ _ _ (⟨t668, t669, t670, t671, t672, t675, t678, t679⟩ : S41) (Kd.R_mono (Kd.R_tight rfl (Kd.R_mono (ok' := fun k_ => ((fun k_ => k_ ≠ gb680)) k_ ∧ nv u7 k_) (Kd.R_types (Kd.R_apart' (HO_681004.out) (Kd.S_typed HO_7.out) (by decide)) BK680.out (by decide)) (fun k_ hk => ⟨hk.2, hk.1.2⟩))) (fun _ h_ => Or.inl h_)) (Kd.R_mono (Kd.R_tight rfl (Kd.R_mono (ok' := fun k_ => ((fun k_ => k_ ≠ gb680)) k_ ∧ nv u7 k_) (Kd.R_types (Kd.R_apart' (HO_681005.out) (Kd.S_typed HO_7.out) (by decide)) BK680.out (by decide)) (fun k_ hk => ⟨hk.2, hk.1.2⟩))) (fun _ h_ => Or.inr (h_)))); (case aB => exact (qB HB)); (case aF => exact (fun k_ hk => Kd.freshB (qK BK680) k_ hk)); (case aO => exact (tS (Kd.S_mono HO_7.out (fun k_ hk => ⟨hk.2.2, fun e_ => e_.elim (fun h_ => hk.1 h_) (fun h_ => hk.2.1 h_)⟩)))); (case aS => exact (below_size (qB HB))); (case aL => have := LMc27.out; omega); intro v686 w29 ho hb hg hat; rw [← Ny685.out] at ho; replace BK680 := am_ (blk_grown (qK BK680) hg (Kd.S_away HO_7.out (fun _ hk => hk.2.2))); replace HB := am_ (hb); have HO687 := am_ (ho); clear HO_7 HO_681004 HO_681005; clear ho hb hg hat))
      go_roundg kj8
      case measure => have := HK1.out; have := HJ8.out; omega
      case rel => exact ⟨(y685), (wrap64 (x8_1 + 1)), eqq_, H', ⟨by have := HK1.out; have := HJ8.out; omega⟩, xS_ HO687, ⟨qB HB⟩⟩
     subst c19
     rw [if_pos rfl] at H
     have HC20 := Aside0.mk H
     clear H
     (try clear zK680)
     have zK680 := cz8 BK680.out
     (try clear fK680)
     have fK680 := fz8 BK680.out
     go_upto_if 37 with (fail)
     have n0_ : Aside0 (Kd.S k41 41 (wc.setCell ⟨gb680, 2, none⟩ (.int .i64 (Go.bits .andNot .i64 t670 a2))) w.heap.size (fun k_ => nb Ao13 t672.length co13 k_ ∧ nb Ao14 t675.length co14 k_ ∧ k_ ≠ gb680) u7 x7_1) := gS_ (g := gb680) HO_7
     have n1_ : Aside0 (Kd.R (Kd.int .u8) 5 (wc.setCell ⟨gb680, 2, none⟩ (.int .i64 (Go.bits .andNot .i64 t670 a2))) w.heap.size (fun k_ => nb Ao14 t675.length co14 k_) (.slice Ao13 t672.length co13) t672) := fR3_ HO_681004 BK680
     have n2_ : Aside0 (Kd.R (Kd.int .u8) 5 (wc.setCell ⟨gb680, 2, none⟩ (.int .i64 (Go.bits .andNot .i64 t670 a2))) w.heap.size (fun k_ => nb Ao13 t672.length co13 k_) (.slice Ao14 t675.length co14) t675) := fR3_ HO_681005 BK680
     have n3_ : Aside0 ((wc.setCell ⟨gb680, 2, none⟩ (.int .i64 (Go.bits .andNot .i64 t670 a2))).heap[gb680]? = some (.cells #[.int .i64 t668, .int .i64 t669, .int .i64 (Go.bits .andNot .i64 t670 a2), .bool t671, .slice Ao13 t672.length co13, .slice Ao14 t675.length co14, .int .i64 t678, .int .i64 t679] 41 (0, 0))) := ⟨by (with_reducible repeat (first | refine blk_drewN ?_ _ | refine blk_drew ?_ | refine blk_alloc ?_ _)); refine blk_put (cs := #[.int .i64 t668, .int .i64 t669, .int .i64 t670, .bool t671, .slice Ao13 t672.length co13, .slice Ao14 t675.length co14, .int .i64 t678, .int .i64 t679]) ?_ 2 _ rfl; exact qK BK680⟩
     have n4_ : Aside0 (Below w.heap.size w (wc.setCell ⟨gb680, 2, none⟩ (.int .i64 (Go.bits .andNot .i64 t670 a2)))) := ⟨qB HB⟩
     (try clear HO_7)
     (try clear HO_681004)
     (try clear HO_681005)
     (try clear BK680)
     (try clear HB)
     generalize (wc.setCell ⟨gb680, 2, none⟩ (.int .i64 (Go.bits .andNot .i64 t670 a2))) = w22 at n0_ n1_ n2_ n3_ n4_ ⊢
     have HO_7 := n0_
     have HO_681004 := n1_
     have HO_681005 := n2_
     have BK680 := n3_
     have HB := n4_
     clear n0_ n1_ n2_ n3_ n4_
     have H := HC20.out
     clear HC20
     by_cases c23 : (Go.bits .andNot .i64 t670 a2) = 0
     ·
      rw [if_pos c23] at H
      have c23b0 : ((Go.bits .andNot .i64 t670 a2) == 0) = true := beq_iff_eq.mpr c23
      have c23b1 : ((Go.bits .andNot .i64 t670 a2) != 0) = false := bne_eq_false_iff_eq.mpr c23
      clear c23
      (first | rw [c23b0] | rw [c23b1] | (simp only [i64_w, i32_w]; rw [c23b0]) | skip)
      have H' := Aside0.mk H
      clear H
      go_wp2
      go_roundg kj8
      case measure => have := HK1.out; have := HJ8.out; omega
      case rel => exact ⟨(x7_1), (wrap64 (x8_1 + 1)), eqq_, H', ⟨by have := HK1.out; have := HJ8.out; omega⟩, xS_ HO_7, ⟨qB HB⟩⟩
     rw [if_neg c23] at H
     have c23b0 : ((Go.bits .andNot .i64 t670 a2) == 0) = false := beq_eq_false_iff_ne.mpr c23
     have c23b1 : ((Go.bits .andNot .i64 t670 a2) != 0) = true := bne_iff_ne.mpr c23
     (first | rw [c23b0] | rw [c23b1] | (simp only [i64_w, i32_w]; rw [c23b0]) | skip)
     by_cases c24 : x7_1.length < 1466015503701
     case neg => exact nn_ c24 H
     rw [if_pos c24] at H
     have LMc24 := Aside0.mk c24
     clear c24
     obtain ⟨y682, hy682⟩ : ∃ y_ : List (S41), y_ = (x7_1 ++ [(⟨t668, t669, Go.bits .andNot .i64 t670 a2, t671, t672, t675, t678, t679⟩ : S41)]) := ⟨_, rfl⟩
     rw [← hy682] at H
     have Ny682 := Aside0.mk hy682
     clear hy682
     have H' := Aside0.mk H
     clear H
     (try clear zK680)
     have zK680 := cz8 BK680.out
     (try clear fK680)
     have fK680 := fz8 BK680.out
     go_wp2_with (first | ((with_reducible refine gate_builtin (b := .append) (xs := #[.tmp 38, .tmp 40]) rfl ?_); at_builtin; refine Kd.S_append k41 (w0 := w) w.heap.size rfl (.tmp 38) (.tmp 40) 52 41 (.agg #[(.int .i64 0), (.int .i64 0), (.int .i64 0), (.bool false), (.slice none 0 0), (.slice none 0 0), (.int .i64 0), (.int .i64 0)]) 96 rfl Try.underlying52 info41 rfl (by decide) (by omega) u7 x7_1 (⟨t668, t669, Go.bits .andNot .i64 t670 a2, t671, t672, t675, t678, t679⟩ : S41) [.int .i64 t668, .int .i64 t669, .int .i64 (Go.bits .andNot .i64 t670 a2), .bool t671, .slice Ao13 t672.length co13, .slice Ao14 t675.length co14, .int .i64 t678, .int .i64 t679] (fun k_ => k_ ≠ gb680) (fun k_ => some k_ = (.slice Ao13 t672.length co13 : Value).ownBlock ∨ some k_ = (.slice Ao14 t675.length co14 : Value).ownBlock) rfl rfl ?aP (fun k_ hk_ => hk_.elim (fun h_ => ((Kd.R_mono (ok' := fun k_ => ((fun k_ => k_ ≠ gb680)) k_ ∧ nv u7 k_) (Kd.R_types (Kd.R_apart' (HO_681004.out) (Kd.S_typed HO_7.out) (by decide)) BK680.out (by decide)) (fun k_ hk => ⟨hk.2, hk.1.2⟩))).1 k_ h_.symm) (fun h_ => ((Kd.R_mono (ok' := fun k_ => ((fun k_ => k_ ≠ gb680)) k_ ∧ nv u7 k_) (Kd.R_types (Kd.R_apart' (HO_681005.out) (Kd.S_typed HO_7.out) (by decide)) BK680.out (by decide)) (fun k_ hk => ⟨hk.2, hk.1.2⟩))).1 k_ h_.symm)) ?aF ?aO ?aB ?aS ?aL ?_; (case aP => exact k41_mkM _ _ _ (⟨t668, t669, Go.bits .andNot .i64 t670 a2, t671, t672, t675, t678, t679⟩ : S41) (Kd.R_mono (Kd.R_tight rfl (Kd.R_mono (ok' := fun k_ => ((fun k_ => k_ ≠ gb680)) k_ ∧ nv u7 k_) (Kd.R_types (Kd.R_apart' (HO_681004.out) (Kd.S_typed HO_7.out) (by decide)) BK680.out (by decide)) (fun k_ hk => ⟨hk.2, hk.1.2⟩))) (fun _ h_ => Or.inl h_)) (Kd.R_mono (Kd.R_tight rfl (Kd.R_mono (ok' := fun k_ => ((fun k_ => k_ ≠ gb680)) k_ ∧ nv u7 k_) (Kd.R_types (Kd.R_apart' (HO_681005.out) (Kd.S_typed HO_7.out) (by decide)) BK680.out (by decide)) (fun k_ hk => ⟨hk.2, hk.1.2⟩))) (fun _ h_ => Or.inr (h_)))); (case aB => exact (qB HB)); (case aF => exact (fun k_ hk => Kd.freshB (qK BK680) k_ hk)); (case aO => exact (tS (Kd.S_mono HO_7.out (fun k_ hk => ⟨hk.2.2, fun e_ => e_.elim (fun h_ => hk.1 h_) (fun h_ => hk.2.1 h_)⟩)))); (case aS => exact (below_size (qB HB))); (case aL => have := LMc24.out; omega); intro v683 w26 ho hb hg hat; rw [← Ny682.out] at ho; replace BK680 := am_ (blk_grown (qK BK680) hg (Kd.S_away HO_7.out (fun _ hk => hk.2.2))); replace HB := am_ (hb); have HO684 := am_ (ho); clear HO_7 HO_681004 HO_681005; clear ho hb hg hat))
     go_roundg kj8
     case measure => have := HK1.out; have := HJ8.out; omega
     case rel => exact ⟨(y682), (wrap64 (x8_1 + 1)), eqq_, H', ⟨by have := HK1.out; have := HJ8.out; omega⟩, xS_ HO684, ⟨qB HB⟩⟩

end Go.Proofs.Ytiffahfpfgnjnaa.PFnSocks
