-- Written by a program of this session (myprint.py, over the kit's print): contracts of FnExactGetItem
import Derived.Test.YtahfemlfdpbkkaaPFnExactGetItemx0
import Derived.Test.YtahfemlfdpbkkaaPFnExactGetItemx3
namespace Go.Proofs.Ytahfemlfdpbkkaa.PFnExactGetItem
open Go.RowKit Go.Proofs.YtahfemlfdpbkkaaW.PrintWords Go.Proofs.YtahfemlfdpbkkaaW.PrintLast Go.Proofs.YtahfemlfdpbkkaaW.PrintMore Go.Proofs.YtahfemlfdpbkkaaV
attribute [local go_sem] max2_int min2_int max_two min_two max_three min_three max_four min_four   -- for this text's walks alone
set_option linter.unusedVariables false
set_option linter.unusedSimpArgs false

/-! ### spec_AskerOk: function 73 -/
mutual
def spec_AskerOk.j0 : Nat → Bool → Int → ByteArray → Int → Int → Int → ByteArray → Int → Int → Option (Bool)
 | 0, _, _, _, _, _, _, _, _, _ => none
 | k + 1, x24, x106000, x106001, x106002, x106003, x106004, x106005, x106006, x106007 => if x24 = true then (some false) else (if x106002 < 3 then (if x106006 = 0 then (spec_AskerOk.j1 k (x106007 != 0) x106000 x106001 x106002 x106003 x106004 x106005 x106006 x106007) else (spec_AskerOk.j1 k true x106000 x106001 x106002 x106003 x106004 x106005 x106006 x106007)) else (spec_AskerOk.j1 k false x106000 x106001 x106002 x106003 x106004 x106005 x106006 x106007))
def spec_AskerOk.j1 : Nat → Bool → Int → ByteArray → Int → Int → Int → ByteArray → Int → Int → Option (Bool)
 | 0, _, _, _, _, _, _, _, _, _ => none
 | k + 1, x37, x106000, x106001, x106002, x106003, x106004, x106005, x106006, x106007 => if x37 = true then (some false) else (if x106002 = 0 then (some (x106001.toList == ([] : List UInt8))) else (if x106002 = 1 then ((spec_l1Name.f k x106001).bind fun t107 => (some t107)) else (if x106002 = 2 then ((spec_l1Name.f k x106001).bind fun t108 => (if t108 = true then ((spec_l1In.f x106003 0 65535).bind fun t109 => (if t109 = true then ((spec_l9Time.f x106004).bind fun t110 => (if t110 = true then ((spec_TextOk.f k x106005).bind fun t111 => (some t111)) else (some false))) else (some false))) else (some false))) else (if x106002 = 3 then (spec_AskerOk.j2 k (x106002 == 3) x106000 x106001 x106002 x106003 x106004 x106005 x106006 x106007) else (spec_AskerOk.j2 k (x106002 == 4) x106000 x106001 x106002 x106003 x106004 x106005 x106006 x106007)))))
def spec_AskerOk.j2 : Nat → Bool → Int → ByteArray → Int → Int → Int → ByteArray → Int → Int → Option (Bool)
 | 0, _, _, _, _, _, _, _, _, _ => none
 | k + 1, x70, x106000, x106001, x106002, x106003, x106004, x106005, x106006, x106007 => if x70 = true then ((spec_l1Name.f k x106001).bind fun t112 => (if t112 = true then ((spec_l1In.f x106006 1 9999).bind fun t113 => (if t113 = true then (some (decide (x106007 ≥ 1))) else (some false))) else (some false))) else (some false)
end
def spec_AskerOk.f (k : Nat) (a0_0 : Int) (a0_1 : ByteArray) (a0_2 : Int) (a0_3 : Int) (a0_4 : Int) (a0_5 : ByteArray) (a0_6 : Int) (a0_7 : Int) : Option (Bool) := (spec_l1In.f a0_0 1 9999).bind fun t106 => (if t106 = true then (if a0_2 = 2 then (spec_AskerOk.j0 k false a0_0 a0_1 a0_2 a0_3 a0_4 a0_5 a0_6 a0_7) else (if a0_3 = 0 then (if a0_4 = 0 then (spec_AskerOk.j0 k (a0_5.toList != ([] : List UInt8)) a0_0 a0_1 a0_2 a0_3 a0_4 a0_5 a0_6 a0_7) else (spec_AskerOk.j0 k true a0_0 a0_1 a0_2 a0_3 a0_4 a0_5 a0_6 a0_7)) else (spec_AskerOk.j0 k true a0_0 a0_1 a0_2 a0_3 a0_4 a0_5 a0_6 a0_7))) else (some false))
theorem spec_AskerOk.mono_l : ∀ k, (∀ y0 y1 y2 y3 y4 y5 y6 y7 y8, LeO (spec_AskerOk.j0 k y0 y1 y2 y3 y4 y5 y6 y7 y8) (spec_AskerOk.j0 (k + 1) y0 y1 y2 y3 y4 y5 y6 y7 y8)) ∧ (∀ y0 y1 y2 y3 y4 y5 y6 y7 y8, LeO (spec_AskerOk.j1 k y0 y1 y2 y3 y4 y5 y6 y7 y8) (spec_AskerOk.j1 (k + 1) y0 y1 y2 y3 y4 y5 y6 y7 y8)) ∧ (∀ y0 y1 y2 y3 y4 y5 y6 y7 y8, LeO (spec_AskerOk.j2 k y0 y1 y2 y3 y4 y5 y6 y7 y8) (spec_AskerOk.j2 (k + 1) y0 y1 y2 y3 y4 y5 y6 y7 y8))
 | 0 => ⟨fun _ _ _ _ _ _ _ _ _ r h => by simp [spec_AskerOk.j0] at h, fun _ _ _ _ _ _ _ _ _ r h => by simp [spec_AskerOk.j1] at h, fun _ _ _ _ _ _ _ _ _ r h => by simp [spec_AskerOk.j2] at h⟩
 | k + 1 => by
  obtain ⟨ih0, ih1, ih2⟩ := spec_AskerOk.mono_l k
  refine ⟨?_, ?_, ?_⟩
  ·
   intro y0 y1 y2 y3 y4 y5 y6 y7 y8
   unfold spec_AskerOk.j0
   repeat' first
   | (with_reducible exact ih0 _ _ _ _ _ _ _ _ _)
   | (with_reducible exact ih1 _ _ _ _ _ _ _ _ _)
   | (with_reducible exact ih2 _ _ _ _ _ _ _ _ _)
   | (with_reducible exact spec_TextOk.mono _ _)
   | (with_reducible exact spec_l1Name.mono _ _)
   | (with_reducible exact LeO.refl _)
   | (with_reducible exact LeO.none _)
   | (with_reducible refine LeO.ite ?_ ?_)
   | (with_reducible refine LeO.bind ?_ (fun _ => ?_))
   | exact ih0 _ _ _ _ _ _ _ _ _
   | exact ih1 _ _ _ _ _ _ _ _ _
   | exact ih2 _ _ _ _ _ _ _ _ _
   | exact spec_TextOk.mono _ _
   | exact spec_l1Name.mono _ _
   | exact LeO.none _
   | refine LeO.ite ?_ ?_
   | refine LeO.bind ?_ (fun _ => ?_)
  ·
   intro y0 y1 y2 y3 y4 y5 y6 y7 y8
   unfold spec_AskerOk.j1
   repeat' first
   | (with_reducible exact ih0 _ _ _ _ _ _ _ _ _)
   | (with_reducible exact ih1 _ _ _ _ _ _ _ _ _)
   | (with_reducible exact ih2 _ _ _ _ _ _ _ _ _)
   | (with_reducible exact spec_TextOk.mono _ _)
   | (with_reducible exact spec_l1Name.mono _ _)
   | (with_reducible exact LeO.refl _)
   | (with_reducible exact LeO.none _)
   | (with_reducible refine LeO.ite ?_ ?_)
   | (with_reducible refine LeO.bind ?_ (fun _ => ?_))
   | exact ih0 _ _ _ _ _ _ _ _ _
   | exact ih1 _ _ _ _ _ _ _ _ _
   | exact ih2 _ _ _ _ _ _ _ _ _
   | exact spec_TextOk.mono _ _
   | exact spec_l1Name.mono _ _
   | exact LeO.none _
   | refine LeO.ite ?_ ?_
   | refine LeO.bind ?_ (fun _ => ?_)
  ·
   intro y0 y1 y2 y3 y4 y5 y6 y7 y8
   unfold spec_AskerOk.j2
   repeat' first
   | (with_reducible exact ih0 _ _ _ _ _ _ _ _ _)
   | (with_reducible exact ih1 _ _ _ _ _ _ _ _ _)
   | (with_reducible exact ih2 _ _ _ _ _ _ _ _ _)
   | (with_reducible exact spec_TextOk.mono _ _)
   | (with_reducible exact spec_l1Name.mono _ _)
   | (with_reducible exact LeO.refl _)
   | (with_reducible exact LeO.none _)
   | (with_reducible refine LeO.ite ?_ ?_)
   | (with_reducible refine LeO.bind ?_ (fun _ => ?_))
   | exact ih0 _ _ _ _ _ _ _ _ _
   | exact ih1 _ _ _ _ _ _ _ _ _
   | exact ih2 _ _ _ _ _ _ _ _ _
   | exact spec_TextOk.mono _ _
   | exact spec_l1Name.mono _ _
   | exact LeO.none _
   | refine LeO.ite ?_ ?_
   | refine LeO.bind ?_ (fun _ => ?_)
theorem spec_AskerOk.mono : ∀ a0 a1 a2 a3 a4 a5 a6 a7 k, LeO (spec_AskerOk.f k a0 a1 a2 a3 a4 a5 a6 a7) (spec_AskerOk.f (k + 1) a0 a1 a2 a3 a4 a5 a6 a7) := by
 intro a0 a1 a2 a3 a4 a5 a6 a7 k
 obtain ⟨ih0, ih1, ih2⟩ := spec_AskerOk.mono_l k
 unfold spec_AskerOk.f
 repeat' first
   | (with_reducible exact ih0 _ _ _ _ _ _ _ _ _)
   | (with_reducible exact ih1 _ _ _ _ _ _ _ _ _)
   | (with_reducible exact ih2 _ _ _ _ _ _ _ _ _)
   | (with_reducible exact spec_TextOk.mono _ _)
   | (with_reducible exact spec_l1Name.mono _ _)
   | (with_reducible exact LeO.refl _)
   | (with_reducible exact LeO.none _)
   | (with_reducible refine LeO.ite ?_ ?_)
   | (with_reducible refine LeO.bind ?_ (fun _ => ?_))
   | exact ih0 _ _ _ _ _ _ _ _ _
   | exact ih1 _ _ _ _ _ _ _ _ _
   | exact ih2 _ _ _ _ _ _ _ _ _
   | exact spec_TextOk.mono _ _
   | exact spec_l1Name.mono _ _
   | exact LeO.none _
   | refine LeO.ite ?_ ?_
   | refine LeO.bind ?_ (fun _ => ?_)
set_option maxHeartbeats 8000000 in
set_option maxRecDepth 100000 in
theorem spec_AskerOk.calls (k : Nat) (a0_0 : Int) (a0_1 : ByteArray) (a0_2 : Int) (a0_3 : Int) (a0_4 : Int) (a0_5 : ByteArray) (a0_6 : Int) (a0_7 : Int) (r : Bool) (w : World) (h : spec_AskerOk.f k a0_0 a0_1 a0_2 a0_3 a0_4 a0_5 a0_6 a0_7 = some r) :
  Calls Try.prog 73 #[.agg #[.int .i64 a0_0, .string a0_1, .int .i64 a0_2, .int .i64 a0_3, .int .i64 a0_4, .string a0_5, .int .i64 a0_6, .int .i64 a0_7]] w fun e w' => e = .returned (.bool r) ∧ Below w.heap.size w w' := by
 have hu45 := Try.underlying45
 have HB := Aside0.mk (Below.refl w.heap.size w)
 have H : ((spec_l1In.f a0_0 1 9999).bind fun t106 => (if t106 = true then (if a0_2 = 2 then (spec_AskerOk.j0 k false a0_0 a0_1 a0_2 a0_3 a0_4 a0_5 a0_6 a0_7) else (if a0_3 = 0 then (if a0_4 = 0 then (spec_AskerOk.j0 k (a0_5.toList != ([] : List UInt8)) a0_0 a0_1 a0_2 a0_3 a0_4 a0_5 a0_6 a0_7) else (spec_AskerOk.j0 k true a0_0 a0_1 a0_2 a0_3 a0_4 a0_5 a0_6 a0_7)) else (spec_AskerOk.j0 k true a0_0 a0_1 a0_2 a0_3 a0_4 a0_5 a0_6 a0_7))) else (some false))) = some r := h
 clear h
 obtain ⟨t106, A2, H⟩ := bd_ H
 have HC3 := Aside0.mk H
 clear H
 go_enter Try.func73, Try.ntmps73
 go_upto_if 6 with (first | ((with_reducible refine gate_dst (N := 1) rfl ?_); refine box_event ?hg (N := 1) ?hd (cs := #[.int .i64 a0_0, .string a0_1, .int .i64 a0_2, .int .i64 a0_3, .int .i64 a0_4, .string a0_5, .int .i64 a0_6, .int .i64 a0_7]) (t := 45) ?hr ?_; (case hd => rfl); (case hg => rfl); (case hr => first | (go_simp; done) | (go_simp; rfl)); intro gb105 hg w4 hbox hb; have BK105 := am_ (hbox); have GW105 := am_ ((gG_ hg (qB HB))); have IGW105 := gI_ GW105; have GE105 := am_ ((gG_ hg (qB HB))); have IGE105 := gI_ GE105; replace HB := am_ (below_step (qB HB) hb); clear hb hbox hg; obtain ⟨z5_0, z5_1, z5_2, z5_3, z5_4, z5_5, z5_6, z5_7⟩ := cz8 BK105.out; obtain ⟨f5_0, f5_1, f5_2, f5_3, f5_4, f5_5, f5_6, f5_7⟩ := fz8 BK105.out) | ((with_reducible refine gate_callee (f := 110) rfl ?_); refine goesL_ (some 5) rfl rfl Try.func110 (by kernel_rfl) rfl #[.int .i64 a0_0, .int .i64 1, .int .i64 9999] rfl la_ ?_; (with_reducible refine (spec_l1In.calls a0_0 1 9999 t106 _ A2.out).mono ?_); rintro e w' ⟨rfl, ⟨nd, rfl⟩⟩; refine ⟨_, rfl, ?_⟩))
 (try simp only [Act.put, List.setIfInBounds_toArray, List.set_cons_zero, List.set_cons_succ])
 (try (rw [drewN_self w4]; generalize hq_ : World.drewN w4 _ = w4; have n0_ : Aside0 (w4.heap[gb105]? = some (.cells #[.int .i64 a0_0, .string a0_1, .int .i64 a0_2, .int .i64 a0_3, .int .i64 a0_4, .string a0_5, .int .i64 a0_6, .int .i64 a0_7] 45 (0, 0))) := ⟨by rw [← hq_]; exact (qK BK105)⟩; have n1_ : Aside0 (Below w.heap.size w w4) := ⟨by rw [← hq_]; exact (qB HB)⟩; clear BK105 HB hq_; have BK105 := n0_; have HB := n1_; clear n0_ n1_))
 have H := HC3.out
 clear HC3
 by_cases c6 : t106 = true
 ·
  subst c6
  rw [if_pos rfl] at H
  have HC7 := Aside0.mk H
  clear H
  go_upto_region 3 with (fail)
  go_cut [24] (fun v24 wc => ∃ (kq : Nat) (x24_6 : Bool), v24 = .bool x24_6 ∧ Aside0 (spec_AskerOk.j0 kq x24_6 a0_0 a0_1 a0_2 a0_3 a0_4 a0_5 a0_6 a0_7 = some r) ∧ Aside0 (kq ≤ k) ∧ Aside0 (wc.heap[gb105]? = some (.cells #[.int .i64 a0_0, .string a0_1, .int .i64 a0_2, .int .i64 a0_3, .int .i64 a0_4, .string a0_5, .int .i64 a0_6, .int .i64 a0_7] 45 (0, 0))) ∧ Aside0 (Below w.heap.size w wc))
  case first =>
   have H := HC7.out
   clear HC7
   by_cases c8 : a0_2 = 2
   ·
    rw [if_pos c8] at H
    have c8b0 : (a0_2 == 2) = true := beq_iff_eq.mpr c8
    have c8b1 : (a0_2 != 2) = false := bne_eq_false_iff_eq.mpr c8
    clear c8
    (first | rw [c8b0] | rw [c8b1] | (simp only [i64_w, i32_w]; rw [c8b0]) | skip)
    have H' := Aside0.mk H
    clear H
    obtain ⟨z9_0, z9_1, z9_2, z9_3, z9_4, z9_5, z9_6, z9_7⟩ := cz8 BK105.out
    obtain ⟨f9_0, f9_1, f9_2, f9_3, f9_4, f9_5, f9_6, f9_7⟩ := fz8 BK105.out
    go_wp2
    go_meet
    case rel => exact ⟨_, (false), eqq_, H', ⟨by first | omega | exact Nat.le_refl _⟩, ⟨qK BK105⟩, ⟨qB HB⟩⟩
   ·
    rw [if_neg c8] at H
    have c8b0 : (a0_2 == 2) = false := beq_eq_false_iff_ne.mpr c8
    have c8b1 : (a0_2 != 2) = true := bne_iff_ne.mpr c8
    (first | rw [c8b0] | rw [c8b1] | (simp only [i64_w, i32_w]; rw [c8b0]) | skip)
    by_cases c10 : a0_3 = 0
    ·
     rw [if_pos c10] at H
     have c10b0 : (a0_3 == 0) = true := beq_iff_eq.mpr c10
     have c10b1 : (a0_3 != 0) = false := bne_eq_false_iff_eq.mpr c10
     clear c10
     by_cases c11 : a0_4 = 0
     ·
      rw [if_pos c11] at H
      have c11b0 : (a0_4 == 0) = true := beq_iff_eq.mpr c11
      have c11b1 : (a0_4 != 0) = false := bne_eq_false_iff_eq.mpr c11
      clear c11
      have H' := Aside0.mk H
      clear H
      obtain ⟨z12_0, z12_1, z12_2, z12_3, z12_4, z12_5, z12_6, z12_7⟩ := cz8 BK105.out
      obtain ⟨f12_0, f12_1, f12_2, f12_3, f12_4, f12_5, f12_6, f12_7⟩ := fz8 BK105.out
      go_wp2
      go_meet
      case rel => exact ⟨_, ((a0_5.toList != ([] : List UInt8))), eqq_, H', ⟨by first | omega | exact Nat.le_refl _⟩, ⟨qK BK105⟩, ⟨qB HB⟩⟩
     ·
      rw [if_neg c11] at H
      have c11b0 : (a0_4 == 0) = false := beq_eq_false_iff_ne.mpr c11
      have c11b1 : (a0_4 != 0) = true := bne_iff_ne.mpr c11
      have H' := Aside0.mk H
      clear H
      obtain ⟨z13_0, z13_1, z13_2, z13_3, z13_4, z13_5, z13_6, z13_7⟩ := cz8 BK105.out
      obtain ⟨f13_0, f13_1, f13_2, f13_3, f13_4, f13_5, f13_6, f13_7⟩ := fz8 BK105.out
      go_wp2
      go_meet
      case rel => exact ⟨_, (true), eqq_, H', ⟨by first | omega | exact Nat.le_refl _⟩, ⟨qK BK105⟩, ⟨qB HB⟩⟩
    ·
     rw [if_neg c10] at H
     have c10b0 : (a0_3 == 0) = false := beq_eq_false_iff_ne.mpr c10
     have c10b1 : (a0_3 != 0) = true := bne_iff_ne.mpr c10
     have H' := Aside0.mk H
     clear H
     obtain ⟨z14_0, z14_1, z14_2, z14_3, z14_4, z14_5, z14_6, z14_7⟩ := cz8 BK105.out
     obtain ⟨f14_0, f14_1, f14_2, f14_3, f14_4, f14_5, f14_6, f14_7⟩ := fz8 BK105.out
     go_wp2
     go_meet
     case rel => exact ⟨_, (true), eqq_, H', ⟨by first | omega | exact Nat.le_refl _⟩, ⟨qK BK105⟩, ⟨qB HB⟩⟩
  case rest =>
   clear HC7
   try clear c1
   try clear p2
   try clear c6
   try clear c7
   try clear c8
   try clear c8b0
   try clear c8b1
   try clear c10
   try clear c10b0
   try clear c10b1
   try clear c11
   try clear c11b0
   try clear c11b1
   (try clear z12_0 z12_1 z12_2 z12_3 z12_4 z12_5 z12_6 z12_7)
   (try clear z13_0 z13_1 z13_2 z13_3 z13_4 z13_5 z13_6 z13_7)
   (try clear z14_0 z14_1 z14_2 z14_3 z14_4 z14_5 z14_6 z14_7)
   (try clear z5_0 z5_1 z5_2 z5_3 z5_4 z5_5 z5_6 z5_7)
   (try clear z9_0 z9_1 z9_2 z9_3 z9_4 z9_5 z9_6 z9_7)
   (try clear f12_0 f12_1 f12_2 f12_3 f12_4 f12_5 f12_6 f12_7)
   (try clear f13_0 f13_1 f13_2 f13_3 f13_4 f13_5 f13_6 f13_7)
   (try clear f14_0 f14_1 f14_2 f14_3 f14_4 f14_5 f14_6 f14_7)
   (try clear f5_0 f5_1 f5_2 f5_3 f5_4 f5_5 f5_6 f5_7)
   (try clear f9_0 f9_1 f9_2 f9_3 f9_4 f9_5 f9_6 f9_7)
   obtain ⟨kq, x24_6, rfl, HA, HJ6, BK105, HB⟩ := hcut
   cases kq with
   | zero => exact absurd HA.out (by simp [spec_AskerOk.j0])
   | succ kj6 =>
    have H := HA.out
    clear HA
    simp only [spec_AskerOk.j0] at H
    by_cases c15 : x24_6 = true
    ·
     subst c15
     rw [if_pos rfl] at H
     obtain rfl := Option.some.inj H
     go_wp2
     go_ret
     exact ⟨by first | rfl | (simp [errW_none, errW_some] <;> rfl) | (simp [*, errW_none, errW_some] <;> rfl), qB HB⟩
    ·
     replace c15 := Bool.eq_false_iff.mpr c15
     subst c15
     rw [if_neg (show ¬ (false = true) by decide)] at H
     have HC16 := Aside0.mk H
     clear H
     go_upto_region 5 with (fail)
     go_cut [37] (fun v37 wc => ∃ (kq : Nat) (x37_15 : Bool), v37 = .bool x37_15 ∧ Aside0 (spec_AskerOk.j1 kq x37_15 a0_0 a0_1 a0_2 a0_3 a0_4 a0_5 a0_6 a0_7 = some r) ∧ Aside0 (kq ≤ kj6) ∧ Aside0 (wc.heap[gb105]? = some (.cells #[.int .i64 a0_0, .string a0_1, .int .i64 a0_2, .int .i64 a0_3, .int .i64 a0_4, .string a0_5, .int .i64 a0_6, .int .i64 a0_7] 45 (0, 0))) ∧ Aside0 (Below w.heap.size w wc))
     case first =>
      have H := HC16.out
      clear HC16
      by_cases c17 : a0_2 < 3
      ·
       rw [if_pos c17] at H
       have c17b0 : decide (a0_2 < 3) = true := decide_eq_true c17
       clear c17
       (first | rw [c17b0] | (simp only [i64_w, i32_w]; rw [c17b0]) | skip)
       by_cases c18 : a0_6 = 0
       ·
        rw [if_pos c18] at H
        have c18b0 : (a0_6 == 0) = true := beq_iff_eq.mpr c18
        have c18b1 : (a0_6 != 0) = false := bne_eq_false_iff_eq.mpr c18
        clear c18
        have H' := Aside0.mk H
        clear H
        obtain ⟨z19_0, z19_1, z19_2, z19_3, z19_4, z19_5, z19_6, z19_7⟩ := cz8 BK105.out
        obtain ⟨f19_0, f19_1, f19_2, f19_3, f19_4, f19_5, f19_6, f19_7⟩ := fz8 BK105.out
        go_wp2
        go_meet
        case rel => exact ⟨_, ((a0_7 != 0)), eqq_, H', ⟨by have := HJ6.out; first | omega | exact Nat.le_refl _⟩, ⟨qK BK105⟩, ⟨qB HB⟩⟩
       ·
        rw [if_neg c18] at H
        have c18b0 : (a0_6 == 0) = false := beq_eq_false_iff_ne.mpr c18
        have c18b1 : (a0_6 != 0) = true := bne_iff_ne.mpr c18
        have H' := Aside0.mk H
        clear H
        obtain ⟨z20_0, z20_1, z20_2, z20_3, z20_4, z20_5, z20_6, z20_7⟩ := cz8 BK105.out
        obtain ⟨f20_0, f20_1, f20_2, f20_3, f20_4, f20_5, f20_6, f20_7⟩ := fz8 BK105.out
        go_wp2
        go_meet
        case rel => exact ⟨_, (true), eqq_, H', ⟨by have := HJ6.out; first | omega | exact Nat.le_refl _⟩, ⟨qK BK105⟩, ⟨qB HB⟩⟩
      ·
       rw [if_neg c17] at H
       have c17b0 : decide (a0_2 < 3) = false := decide_eq_false c17
       clear c17
       (first | rw [c17b0] | (simp only [i64_w, i32_w]; rw [c17b0]) | skip)
       have H' := Aside0.mk H
       clear H
       obtain ⟨z21_0, z21_1, z21_2, z21_3, z21_4, z21_5, z21_6, z21_7⟩ := cz8 BK105.out
       obtain ⟨f21_0, f21_1, f21_2, f21_3, f21_4, f21_5, f21_6, f21_7⟩ := fz8 BK105.out
       go_wp2
       go_meet
       case rel => exact ⟨_, (false), eqq_, H', ⟨by have := HJ6.out; first | omega | exact Nat.le_refl _⟩, ⟨qK BK105⟩, ⟨qB HB⟩⟩
     case rest =>
      clear HC16
      try clear c1
      try clear p2
      try clear c6
      try clear c7
      try clear c8
      try clear c8b0
      try clear c8b1
      try clear c10
      try clear c10b0
      try clear c10b1
      try clear c11
      try clear c11b0
      try clear c11b1
      try clear c15
      try clear c17
      try clear c17b0
      try clear c18
      try clear c18b0
      try clear c18b1
      (try clear z12_0 z12_1 z12_2 z12_3 z12_4 z12_5 z12_6 z12_7)
      (try clear z13_0 z13_1 z13_2 z13_3 z13_4 z13_5 z13_6 z13_7)
      (try clear z14_0 z14_1 z14_2 z14_3 z14_4 z14_5 z14_6 z14_7)
      (try clear z19_0 z19_1 z19_2 z19_3 z19_4 z19_5 z19_6 z19_7)
      (try clear z20_0 z20_1 z20_2 z20_3 z20_4 z20_5 z20_6 z20_7)
      (try clear z21_0 z21_1 z21_2 z21_3 z21_4 z21_5 z21_6 z21_7)
      (try clear z5_0 z5_1 z5_2 z5_3 z5_4 z5_5 z5_6 z5_7)
      (try clear z9_0 z9_1 z9_2 z9_3 z9_4 z9_5 z9_6 z9_7)
      (try clear f12_0 f12_1 f12_2 f12_3 f12_4 f12_5 f12_6 f12_7)
      (try clear f13_0 f13_1 f13_2 f13_3 f13_4 f13_5 f13_6 f13_7)
      (try clear f14_0 f14_1 f14_2 f14_3 f14_4 f14_5 f14_6 f14_7)
      (try clear f19_0 f19_1 f19_2 f19_3 f19_4 f19_5 f19_6 f19_7)
      (try clear f20_0 f20_1 f20_2 f20_3 f20_4 f20_5 f20_6 f20_7)
      (try clear f21_0 f21_1 f21_2 f21_3 f21_4 f21_5 f21_6 f21_7)
      (try clear f5_0 f5_1 f5_2 f5_3 f5_4 f5_5 f5_6 f5_7)
      (try clear f9_0 f9_1 f9_2 f9_3 f9_4 f9_5 f9_6 f9_7)
      try clear p2
      obtain ⟨kq, x37_15, rfl, HA, HJ15, BK105, HB⟩ := hcut
      cases kq with
      | zero => exact absurd HA.out (by simp [spec_AskerOk.j1])
      | succ kj15 =>
       have H := HA.out
       clear HA
       simp only [spec_AskerOk.j1] at H
       by_cases c22 : x37_15 = true
       ·
        subst c22
        rw [if_pos rfl] at H
        obtain rfl := Option.some.inj H
        go_wp2
        go_ret
        exact ⟨by first | rfl | (simp [errW_none, errW_some] <;> rfl) | (simp [*, errW_none, errW_some] <;> rfl), qB HB⟩
       ·
        replace c22 := Bool.eq_false_iff.mpr c22
        subst c22
        rw [if_neg (show ¬ (false = true) by decide)] at H
        by_cases c23 : a0_2 = 0
        ·
         rw [if_pos c23] at H
         have c23b0 : (a0_2 == 0) = true := beq_iff_eq.mpr c23
         have c23b1 : (a0_2 != 0) = false := bne_eq_false_iff_eq.mpr c23
         clear c23
         obtain rfl := Option.some.inj H
         obtain ⟨z24_0, z24_1, z24_2, z24_3, z24_4, z24_5, z24_6, z24_7⟩ := cz8 BK105.out
         obtain ⟨f24_0, f24_1, f24_2, f24_3, f24_4, f24_5, f24_6, f24_7⟩ := fz8 BK105.out
         go_wp2
         go_ret
         exact ⟨by first | rfl | (simp [errW_none, errW_some] <;> rfl) | (simp [*, errW_none, errW_some] <;> rfl), qB HB⟩
        ·
         rw [if_neg c23] at H
         have c23b0 : (a0_2 == 0) = false := beq_eq_false_iff_ne.mpr c23
         have c23b1 : (a0_2 != 0) = true := bne_iff_ne.mpr c23
         by_cases c25 : a0_2 = 1
         ·
          rw [if_pos c25] at H
          have c25b0 : (a0_2 == 1) = true := beq_iff_eq.mpr c25
          have c25b1 : (a0_2 != 1) = false := bne_eq_false_iff_eq.mpr c25
          clear c25
          obtain ⟨t107, A26, H⟩ := bd_ H
          obtain rfl := Option.some.inj H
          obtain ⟨z27_0, z27_1, z27_2, z27_3, z27_4, z27_5, z27_6, z27_7⟩ := cz8 BK105.out
          obtain ⟨f27_0, f27_1, f27_2, f27_3, f27_4, f27_5, f27_6, f27_7⟩ := fz8 BK105.out
          go_wp2_with (first | ((with_reducible refine gate_callee (f := 144) rfl ?_); refine goesL_ (some 49) rfl rfl Try.func144 (by kernel_rfl) rfl #[.string a0_1] rfl la_ ?_; (with_reducible refine (spec_l1Name.calls kj15 a0_1 t107 _ A26.out).mono ?_); rintro e w' ⟨rfl, ⟨nd, rfl⟩⟩; refine ⟨_, rfl, ?_⟩))
          go_ret
          exact ⟨by first | rfl | (simp [errW_none, errW_some] <;> rfl) | (simp [*, errW_none, errW_some] <;> rfl), qB HB⟩
         ·
          rw [if_neg c25] at H
          have c25b0 : (a0_2 == 1) = false := beq_eq_false_iff_ne.mpr c25
          have c25b1 : (a0_2 != 1) = true := bne_iff_ne.mpr c25
          by_cases c28 : a0_2 = 2
          ·
           rw [if_pos c28] at H
           have c28b0 : (a0_2 == 2) = true := beq_iff_eq.mpr c28
           have c28b1 : (a0_2 != 2) = false := bne_eq_false_iff_eq.mpr c28
           clear c28
           obtain ⟨t108, A29, H⟩ := bd_ H
           by_cases c30 : t108 = true
           ·
            subst c30
            rw [if_pos rfl] at H
            obtain ⟨t109, A31, H⟩ := bd_ H
            by_cases c32 : t109 = true
            ·
             subst c32
             rw [if_pos rfl] at H
             obtain ⟨t110, A33, H⟩ := bd_ H
             by_cases c34 : t110 = true
             ·
              subst c34
              rw [if_pos rfl] at H
              obtain ⟨t111, A35, H⟩ := bd_ H
              obtain rfl := Option.some.inj H
              obtain ⟨z36_0, z36_1, z36_2, z36_3, z36_4, z36_5, z36_6, z36_7⟩ := cz8 BK105.out
              obtain ⟨f36_0, f36_1, f36_2, f36_3, f36_4, f36_5, f36_6, f36_7⟩ := fz8 BK105.out
              go_wp2_with (first | ((with_reducible refine gate_callee (f := 144) rfl ?_); refine goesL_ (some 54) rfl rfl Try.func144 (by kernel_rfl) rfl #[.string a0_1] rfl la_ ?_; (with_reducible refine (spec_l1Name.calls kj15 a0_1 true _ A29.out).mono ?_); rintro e w' ⟨rfl, ⟨nd, rfl⟩⟩; refine ⟨_, rfl, ?_⟩) | (go_at_call 110; (with_reducible refine (spec_l1In.calls a0_3 0 65535 true _ A31.out).mono ?_); rintro e w' ⟨rfl, ⟨nd, rfl⟩⟩) | (go_at_call 130; (with_reducible refine (spec_l9Time.calls a0_4 true _ A33.out).mono ?_); rintro e w' ⟨rfl, ⟨nd, rfl⟩⟩) | (go_at_call 145; (with_reducible refine (spec_TextOk.calls kj15 a0_5 t111 _ A35.out).mono ?_); rintro e w' ⟨rfl, ⟨nd, rfl⟩⟩))
              go_ret
              exact ⟨by first | rfl | (simp [errW_none, errW_some] <;> rfl) | (simp [*, errW_none, errW_some] <;> rfl), qB HB⟩
             ·
              replace c34 := Bool.eq_false_iff.mpr c34
              subst c34
              rw [if_neg (show ¬ (false = true) by decide)] at H
              obtain rfl := Option.some.inj H
              obtain ⟨z37_0, z37_1, z37_2, z37_3, z37_4, z37_5, z37_6, z37_7⟩ := cz8 BK105.out
              obtain ⟨f37_0, f37_1, f37_2, f37_3, f37_4, f37_5, f37_6, f37_7⟩ := fz8 BK105.out
              go_wp2_with (first | ((with_reducible refine gate_callee (f := 144) rfl ?_); refine goesL_ (some 54) rfl rfl Try.func144 (by kernel_rfl) rfl #[.string a0_1] rfl la_ ?_; (with_reducible refine (spec_l1Name.calls kj15 a0_1 true _ A29.out).mono ?_); rintro e w' ⟨rfl, ⟨nd, rfl⟩⟩; refine ⟨_, rfl, ?_⟩) | (go_at_call 110; (with_reducible refine (spec_l1In.calls a0_3 0 65535 true _ A31.out).mono ?_); rintro e w' ⟨rfl, ⟨nd, rfl⟩⟩) | (go_at_call 130; (with_reducible refine (spec_l9Time.calls a0_4 false _ A33.out).mono ?_); rintro e w' ⟨rfl, ⟨nd, rfl⟩⟩))
              go_ret
              exact ⟨by first | rfl | (simp [errW_none, errW_some] <;> rfl) | (simp [*, errW_none, errW_some] <;> rfl), qB HB⟩
            ·
             replace c32 := Bool.eq_false_iff.mpr c32
             subst c32
             rw [if_neg (show ¬ (false = true) by decide)] at H
             obtain rfl := Option.some.inj H
             obtain ⟨z38_0, z38_1, z38_2, z38_3, z38_4, z38_5, z38_6, z38_7⟩ := cz8 BK105.out
             obtain ⟨f38_0, f38_1, f38_2, f38_3, f38_4, f38_5, f38_6, f38_7⟩ := fz8 BK105.out
             go_wp2_with (first | ((with_reducible refine gate_callee (f := 144) rfl ?_); refine goesL_ (some 54) rfl rfl Try.func144 (by kernel_rfl) rfl #[.string a0_1] rfl la_ ?_; (with_reducible refine (spec_l1Name.calls kj15 a0_1 true _ A29.out).mono ?_); rintro e w' ⟨rfl, ⟨nd, rfl⟩⟩; refine ⟨_, rfl, ?_⟩) | (go_at_call 110; (with_reducible refine (spec_l1In.calls a0_3 0 65535 false _ A31.out).mono ?_); rintro e w' ⟨rfl, ⟨nd, rfl⟩⟩))
             go_ret
             exact ⟨by first | rfl | (simp [errW_none, errW_some] <;> rfl) | (simp [*, errW_none, errW_some] <;> rfl), qB HB⟩
           ·
            replace c30 := Bool.eq_false_iff.mpr c30
            subst c30
            rw [if_neg (show ¬ (false = true) by decide)] at H
            obtain rfl := Option.some.inj H
            obtain ⟨z39_0, z39_1, z39_2, z39_3, z39_4, z39_5, z39_6, z39_7⟩ := cz8 BK105.out
            obtain ⟨f39_0, f39_1, f39_2, f39_3, f39_4, f39_5, f39_6, f39_7⟩ := fz8 BK105.out
            go_wp2_with (first | ((with_reducible refine gate_callee (f := 144) rfl ?_); refine goesL_ (some 54) rfl rfl Try.func144 (by kernel_rfl) rfl #[.string a0_1] rfl la_ ?_; (with_reducible refine (spec_l1Name.calls kj15 a0_1 false _ A29.out).mono ?_); rintro e w' ⟨rfl, ⟨nd, rfl⟩⟩; refine ⟨_, rfl, ?_⟩))
            go_ret
            exact ⟨by first | rfl | (simp [errW_none, errW_some] <;> rfl) | (simp [*, errW_none, errW_some] <;> rfl), qB HB⟩
          ·
           rw [if_neg c28] at H
           have c28b0 : (a0_2 == 2) = false := beq_eq_false_iff_ne.mpr c28
           have c28b1 : (a0_2 != 2) = true := bne_iff_ne.mpr c28
           have HC40 := Aside0.mk H
           clear H
           obtain ⟨z41_0, z41_1, z41_2, z41_3, z41_4, z41_5, z41_6, z41_7⟩ := cz8 BK105.out
           obtain ⟨f41_0, f41_1, f41_2, f41_3, f41_4, f41_5, f41_6, f41_7⟩ := fz8 BK105.out
           go_upto_if 70 with (fail)
           go_cut [70] (fun v70 wc => ∃ (kq : Nat) (x70_39 : Bool), v70 = .bool x70_39 ∧ Aside0 (spec_AskerOk.j2 kq x70_39 a0_0 a0_1 a0_2 a0_3 a0_4 a0_5 a0_6 a0_7 = some r) ∧ Aside0 (kq ≤ kj15) ∧ Aside0 (wc.heap[gb105]? = some (.cells #[.int .i64 a0_0, .string a0_1, .int .i64 a0_2, .int .i64 a0_3, .int .i64 a0_4, .string a0_5, .int .i64 a0_6, .int .i64 a0_7] 45 (0, 0))) ∧ Aside0 (Below w.heap.size w wc))
           case first =>
            have H := HC40.out
            clear HC40
            by_cases c42 : a0_2 = 3
            ·
             rw [if_pos c42] at H
             have c42b0 : (a0_2 == 3) = true := beq_iff_eq.mpr c42
             have c42b1 : (a0_2 != 3) = false := bne_eq_false_iff_eq.mpr c42
             clear c42
             (first | rw [c42b0] | rw [c42b1] | (simp only [i64_w, i32_w]; rw [c42b0]) | skip)
             have H' := Aside0.mk H
             clear H
             go_wp2
             go_meet
             case rel => exact ⟨_, ((a0_2 == 3)), eqq_, H', ⟨by have := HJ6.out; have := HJ15.out; first | omega | exact Nat.le_refl _⟩, ⟨qK BK105⟩, ⟨qB HB⟩⟩
            ·
             rw [if_neg c42] at H
             have c42b0 : (a0_2 == 3) = false := beq_eq_false_iff_ne.mpr c42
             have c42b1 : (a0_2 != 3) = true := bne_iff_ne.mpr c42
             (first | rw [c42b0] | rw [c42b1] | (simp only [i64_w, i32_w]; rw [c42b0]) | skip)
             have H' := Aside0.mk H
             clear H
             go_wp2
             go_meet
             case rel => exact ⟨_, ((a0_2 == 4)), eqq_, H', ⟨by have := HJ6.out; have := HJ15.out; first | omega | exact Nat.le_refl _⟩, ⟨qK BK105⟩, ⟨qB HB⟩⟩
           case rest =>
            clear HC40
            try clear c1
            try clear c2
            try clear p2
            try clear c3
            try clear c4
            try clear c6
            try clear c7
            try clear c8
            try clear c8b0
            try clear c8b1
            try clear c10
            try clear c10b0
            try clear c10b1
            try clear c11
            try clear c11b0
            try clear c11b1
            try clear c14
            try clear c15
            try clear c17
            try clear c17b0
            try clear c18
            try clear c18b0
            try clear c18b1
            try clear c22
            try clear c23
            try clear c23b0
            try clear c23b1
            try clear c25
            try clear c25b0
            try clear c25b1
            try clear c28
            try clear c28b0
            try clear c28b1
            try clear c30
            try clear c32
            try clear c34
            try clear c42
            try clear c42b0
            try clear c42b1
            (try clear z12_0 z12_1 z12_2 z12_3 z12_4 z12_5 z12_6 z12_7)
            (try clear z13_0 z13_1 z13_2 z13_3 z13_4 z13_5 z13_6 z13_7)
            (try clear z14_0 z14_1 z14_2 z14_3 z14_4 z14_5 z14_6 z14_7)
            (try clear z19_0 z19_1 z19_2 z19_3 z19_4 z19_5 z19_6 z19_7)
            (try clear z20_0 z20_1 z20_2 z20_3 z20_4 z20_5 z20_6 z20_7)
            (try clear z21_0 z21_1 z21_2 z21_3 z21_4 z21_5 z21_6 z21_7)
            (try clear z24_0 z24_1 z24_2 z24_3 z24_4 z24_5 z24_6 z24_7)
            (try clear z27_0 z27_1 z27_2 z27_3 z27_4 z27_5 z27_6 z27_7)
            (try clear z36_0 z36_1 z36_2 z36_3 z36_4 z36_5 z36_6 z36_7)
            (try clear z37_0 z37_1 z37_2 z37_3 z37_4 z37_5 z37_6 z37_7)
            (try clear z38_0 z38_1 z38_2 z38_3 z38_4 z38_5 z38_6 z38_7)
            (try clear z39_0 z39_1 z39_2 z39_3 z39_4 z39_5 z39_6 z39_7)
            (try clear z41_0 z41_1 z41_2 z41_3 z41_4 z41_5 z41_6 z41_7)
            (try clear z5_0 z5_1 z5_2 z5_3 z5_4 z5_5 z5_6 z5_7)
            (try clear z9_0 z9_1 z9_2 z9_3 z9_4 z9_5 z9_6 z9_7)
            (try clear f12_0 f12_1 f12_2 f12_3 f12_4 f12_5 f12_6 f12_7)
            (try clear f13_0 f13_1 f13_2 f13_3 f13_4 f13_5 f13_6 f13_7)
            (try clear f14_0 f14_1 f14_2 f14_3 f14_4 f14_5 f14_6 f14_7)
            (try clear f19_0 f19_1 f19_2 f19_3 f19_4 f19_5 f19_6 f19_7)
            (try clear f20_0 f20_1 f20_2 f20_3 f20_4 f20_5 f20_6 f20_7)
            (try clear f21_0 f21_1 f21_2 f21_3 f21_4 f21_5 f21_6 f21_7)
            (try clear f24_0 f24_1 f24_2 f24_3 f24_4 f24_5 f24_6 f24_7)
            (try clear f27_0 f27_1 f27_2 f27_3 f27_4 f27_5 f27_6 f27_7)
            (try clear f36_0 f36_1 f36_2 f36_3 f36_4 f36_5 f36_6 f36_7)
            (try clear f37_0 f37_1 f37_2 f37_3 f37_4 f37_5 f37_6 f37_7)
            (try clear f38_0 f38_1 f38_2 f38_3 f38_4 f38_5 f38_6 f38_7)
            (try clear f39_0 f39_1 f39_2 f39_3 f39_4 f39_5 f39_6 f39_7)
            (try clear f41_0 f41_1 f41_2 f41_3 f41_4 f41_5 f41_6 f41_7)
            (try clear f5_0 f5_1 f5_2 f5_3 f5_4 f5_5 f5_6 f5_7)
            (try clear f9_0 f9_1 f9_2 f9_3 f9_4 f9_5 f9_6 f9_7)
            try clear p2
            obtain ⟨kq, x70_39, rfl, HA, HJ39, BK105, HB⟩ := hcut
            cases kq with
            | zero => exact absurd HA.out (by simp [spec_AskerOk.j2])
            | succ kj39 =>
             have H := HA.out
             clear HA
             simp only [spec_AskerOk.j2] at H
             by_cases c43 : x70_39 = true
             ·
              subst c43
              rw [if_pos rfl] at H
              obtain ⟨t112, A44, H⟩ := bd_ H
              by_cases c45 : t112 = true
              ·
               subst c45
               rw [if_pos rfl] at H
               obtain ⟨t113, A46, H⟩ := bd_ H
               by_cases c47 : t113 = true
               ·
                subst c47
                rw [if_pos rfl] at H
                obtain rfl := Option.some.inj H
                obtain ⟨z48_0, z48_1, z48_2, z48_3, z48_4, z48_5, z48_6, z48_7⟩ := cz8 BK105.out
                obtain ⟨f48_0, f48_1, f48_2, f48_3, f48_4, f48_5, f48_6, f48_7⟩ := fz8 BK105.out
                go_wp2_with (first | ((with_reducible refine gate_callee (f := 144) rfl ?_); refine goesL_ (some 75) rfl rfl Try.func144 (by kernel_rfl) rfl #[.string a0_1] rfl la_ ?_; (with_reducible refine (spec_l1Name.calls kj39 a0_1 true _ A44.out).mono ?_); rintro e w' ⟨rfl, ⟨nd, rfl⟩⟩; refine ⟨_, rfl, ?_⟩) | (go_at_call 110; (with_reducible refine (spec_l1In.calls a0_6 1 9999 true _ A46.out).mono ?_); rintro e w' ⟨rfl, ⟨nd, rfl⟩⟩))
                go_ret
                exact ⟨by first | rfl | (simp [errW_none, errW_some] <;> rfl) | (simp [*, errW_none, errW_some] <;> rfl), qB HB⟩
               ·
                replace c47 := Bool.eq_false_iff.mpr c47
                subst c47
                rw [if_neg (show ¬ (false = true) by decide)] at H
                obtain rfl := Option.some.inj H
                obtain ⟨z49_0, z49_1, z49_2, z49_3, z49_4, z49_5, z49_6, z49_7⟩ := cz8 BK105.out
                obtain ⟨f49_0, f49_1, f49_2, f49_3, f49_4, f49_5, f49_6, f49_7⟩ := fz8 BK105.out
                go_wp2_with (first | ((with_reducible refine gate_callee (f := 144) rfl ?_); refine goesL_ (some 75) rfl rfl Try.func144 (by kernel_rfl) rfl #[.string a0_1] rfl la_ ?_; (with_reducible refine (spec_l1Name.calls kj39 a0_1 true _ A44.out).mono ?_); rintro e w' ⟨rfl, ⟨nd, rfl⟩⟩; refine ⟨_, rfl, ?_⟩) | (go_at_call 110; (with_reducible refine (spec_l1In.calls a0_6 1 9999 false _ A46.out).mono ?_); rintro e w' ⟨rfl, ⟨nd, rfl⟩⟩))
                go_ret
                exact ⟨by first | rfl | (simp [errW_none, errW_some] <;> rfl) | (simp [*, errW_none, errW_some] <;> rfl), qB HB⟩
              ·
               replace c45 := Bool.eq_false_iff.mpr c45
               subst c45
               rw [if_neg (show ¬ (false = true) by decide)] at H
               obtain rfl := Option.some.inj H
               obtain ⟨z50_0, z50_1, z50_2, z50_3, z50_4, z50_5, z50_6, z50_7⟩ := cz8 BK105.out
               obtain ⟨f50_0, f50_1, f50_2, f50_3, f50_4, f50_5, f50_6, f50_7⟩ := fz8 BK105.out
               go_wp2_with (first | ((with_reducible refine gate_callee (f := 144) rfl ?_); refine goesL_ (some 75) rfl rfl Try.func144 (by kernel_rfl) rfl #[.string a0_1] rfl la_ ?_; (with_reducible refine (spec_l1Name.calls kj39 a0_1 false _ A44.out).mono ?_); rintro e w' ⟨rfl, ⟨nd, rfl⟩⟩; refine ⟨_, rfl, ?_⟩))
               go_ret
               exact ⟨by first | rfl | (simp [errW_none, errW_some] <;> rfl) | (simp [*, errW_none, errW_some] <;> rfl), qB HB⟩
             ·
              replace c43 := Bool.eq_false_iff.mpr c43
              subst c43
              rw [if_neg (show ¬ (false = true) by decide)] at H
              obtain rfl := Option.some.inj H
              go_wp2
              go_ret
              exact ⟨by first | rfl | (simp [errW_none, errW_some] <;> rfl) | (simp [*, errW_none, errW_some] <;> rfl), qB HB⟩
 ·
  replace c6 := Bool.eq_false_iff.mpr c6
  subst c6
  rw [if_neg (show ¬ (false = true) by decide)] at H
  obtain rfl := Option.some.inj H
  go_wp2
  go_ret
  exact ⟨by first | rfl | (simp [errW_none, errW_some] <;> rfl) | (simp [*, errW_none, errW_some] <;> rfl), qB HB⟩

end Go.Proofs.Ytahfemlfdpbkkaa.PFnExactGetItem
