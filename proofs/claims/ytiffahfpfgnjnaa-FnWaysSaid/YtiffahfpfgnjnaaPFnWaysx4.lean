-- Written by a program of this session (myprint.py, over the kit's print): contracts of FnWays
import Derived.Test.YtiffahfpfgnjnaaPFnWaysx0
import Derived.Test.YtiffahfpfgnjnaaPFnWaysx3
namespace Go.Proofs.Ytiffahfpfgnjnaa.PFnWays
open Go.RowKit Go.Proofs.YtiffahfpfgnjnaaW.PrintWords Go.Proofs.YtiffahfpfgnjnaaW.PrintLast Go.Proofs.YtiffahfpfgnjnaaW.PrintMore Go.Proofs.YtiffahfpfgnjnaaV
attribute [local go_sem] max2_int min2_int max_two min_two max_three min_three max_four min_four   -- for this text's walks alone
set_option linter.unusedVariables false
set_option linter.unusedSimpArgs false

/-! ### spec_AskerOk: function 17 -/
mutual
def spec_AskerOk.j0 : Nat → Bool → Int → ByteArray → Int → Int → Int → ByteArray → Int → Int → Option (Bool)
 | 0, _, _, _, _, _, _, _, _, _ => none
 | k + 1, x24, x127000, x127001, x127002, x127003, x127004, x127005, x127006, x127007 => if x24 = true then (some false) else (if x127002 < 3 then (if x127006 = 0 then (spec_AskerOk.j1 k (x127007 != 0) x127000 x127001 x127002 x127003 x127004 x127005 x127006 x127007) else (spec_AskerOk.j1 k true x127000 x127001 x127002 x127003 x127004 x127005 x127006 x127007)) else (spec_AskerOk.j1 k false x127000 x127001 x127002 x127003 x127004 x127005 x127006 x127007))
def spec_AskerOk.j1 : Nat → Bool → Int → ByteArray → Int → Int → Int → ByteArray → Int → Int → Option (Bool)
 | 0, _, _, _, _, _, _, _, _, _ => none
 | k + 1, x37, x127000, x127001, x127002, x127003, x127004, x127005, x127006, x127007 => if x37 = true then (some false) else (if x127002 = 0 then (some (x127001.toList == ([] : List UInt8))) else (if x127002 = 1 then ((spec_l1Name.f k x127001).bind fun t128 => (some t128)) else (if x127002 = 2 then ((spec_l1Name.f k x127001).bind fun t129 => (if t129 = true then ((spec_l1In.f x127003 0 65535).bind fun t130 => (if t130 = true then ((spec_l9Time.f x127004).bind fun t131 => (if t131 = true then ((spec_TextOk.f k x127005).bind fun t132 => (some t132)) else (some false))) else (some false))) else (some false))) else (if x127002 = 3 then (spec_AskerOk.j2 k (x127002 == 3) x127000 x127001 x127002 x127003 x127004 x127005 x127006 x127007) else (spec_AskerOk.j2 k (x127002 == 4) x127000 x127001 x127002 x127003 x127004 x127005 x127006 x127007)))))
def spec_AskerOk.j2 : Nat → Bool → Int → ByteArray → Int → Int → Int → ByteArray → Int → Int → Option (Bool)
 | 0, _, _, _, _, _, _, _, _, _ => none
 | k + 1, x70, x127000, x127001, x127002, x127003, x127004, x127005, x127006, x127007 => if x70 = true then ((spec_l1Name.f k x127001).bind fun t133 => (if t133 = true then ((spec_l1In.f x127006 1 9999).bind fun t134 => (if t134 = true then (some (decide (x127007 ≥ 1))) else (some false))) else (some false))) else (some false)
end
def spec_AskerOk.f (k : Nat) (a0_0 : Int) (a0_1 : ByteArray) (a0_2 : Int) (a0_3 : Int) (a0_4 : Int) (a0_5 : ByteArray) (a0_6 : Int) (a0_7 : Int) : Option (Bool) := (spec_l1In.f a0_0 1 9999).bind fun t127 => (if t127 = true then (if a0_2 = 2 then (spec_AskerOk.j0 k false a0_0 a0_1 a0_2 a0_3 a0_4 a0_5 a0_6 a0_7) else (if a0_3 = 0 then (if a0_4 = 0 then (spec_AskerOk.j0 k (a0_5.toList != ([] : List UInt8)) a0_0 a0_1 a0_2 a0_3 a0_4 a0_5 a0_6 a0_7) else (spec_AskerOk.j0 k true a0_0 a0_1 a0_2 a0_3 a0_4 a0_5 a0_6 a0_7)) else (spec_AskerOk.j0 k true a0_0 a0_1 a0_2 a0_3 a0_4 a0_5 a0_6 a0_7))) else (some false))
theorem spec_AskerOk.mono_l : ∀ k, (∀ y0 y1 y2 y3 y4 y5 y6 y7 y8, LeO (spec_AskerOk.j0 k y0 y1 y2 y3 y4 y5 y6 y7 y8) (spec_AskerOk.j0 (k + 1) y0 y1 y2 y3 y4 y5 y6 y7 y8)) ∧ (∀ y0 y1 y2 y3 y4 y5 y6 y7 y8, LeO (spec_AskerOk.j1 k y0 y1 y2 y3 y4 y5 y6 y7 y8) (spec_AskerOk.j1 (k + 1) y0 y1 y2 y3 y4 y5 y6 y7 y8)) ∧ (∀ y0 y1 y2 y3 y4 y5 y6 y7 y8, LeO (spec_AskerOk.j2 k y0 y1 y2 y3 y4 y5 y6 y7 y8) (spec_AskerOk.j2 (k + 1) y0 y1 y2 y3 y4 y5 y6 y7 y8))
 | 0 => ⟨fun _ _ _ _ _ _ _ _ _ r h => by simp [spec_AskerOk.j0] at h, fun _ _ _ _ _ _ _ _ _ r h => by simp [spec_AskerOk.j1] at h, fun _ _ _ _ _ _ _ _ _ r h => by simp [spec_AskerOk.j2] at h⟩
 | k + 1 => by
  obtain ⟨ih0, ih1, ih2⟩ := spec_AskerOk.mono_l k
  refine ⟨?_, ?_, ?_⟩
  ·
   intro y0 y1 y2 y3 y4 y5 y6 y7 y8
   unfold spec_AskerOk.j0
   have m0 := @spec_TextOk.mono; have m1 := @spec_l1Name.mono; exact mo_
  ·
   intro y0 y1 y2 y3 y4 y5 y6 y7 y8
   unfold spec_AskerOk.j1
   have m0 := @spec_TextOk.mono; have m1 := @spec_l1Name.mono; exact mo_
  ·
   intro y0 y1 y2 y3 y4 y5 y6 y7 y8
   unfold spec_AskerOk.j2
   have m0 := @spec_TextOk.mono; have m1 := @spec_l1Name.mono; exact mo_
theorem spec_AskerOk.mono : ∀ a0 a1 a2 a3 a4 a5 a6 a7 k, LeO (spec_AskerOk.f k a0 a1 a2 a3 a4 a5 a6 a7) (spec_AskerOk.f (k + 1) a0 a1 a2 a3 a4 a5 a6 a7) := by
 intro a0 a1 a2 a3 a4 a5 a6 a7 k
 obtain ⟨ih0, ih1, ih2⟩ := spec_AskerOk.mono_l k
 unfold spec_AskerOk.f
 have m0 := @spec_TextOk.mono; have m1 := @spec_l1Name.mono; exact mo_
set_option maxHeartbeats 8000000 in
set_option maxRecDepth 100000 in
theorem spec_AskerOk.calls (k : Nat) (a0_0 : Int) (a0_1 : ByteArray) (a0_2 : Int) (a0_3 : Int) (a0_4 : Int) (a0_5 : ByteArray) (a0_6 : Int) (a0_7 : Int) (r : Bool) (w : World) (h : spec_AskerOk.f k a0_0 a0_1 a0_2 a0_3 a0_4 a0_5 a0_6 a0_7 = some r) :
  Calls Try.prog 17 #[.agg #[.int .i64 a0_0, .string a0_1, .int .i64 a0_2, .int .i64 a0_3, .int .i64 a0_4, .string a0_5, .int .i64 a0_6, .int .i64 a0_7]] w fun e w' => e = .returned (.bool r) ∧ Below w.heap.size w w' := by
 have hu25 := Try.underlying25
 have HB := Aside0.mk (Below.refl w.heap.size w)
 have H := h
 unfold spec_AskerOk.f at H
 clear h
 replace H := bd_ H
 obtain ⟨t127, A2, H⟩ := H
 have HC3 := Aside0.mk H
 clear H
 go_enter Try.func17, Try.ntmps17
 go_upto_if 6 with (first | ((with_reducible refine gate_dst (N := 1) rfl ?_); refine bx_ (N := 1) (cs := #[.int .i64 a0_0, .string a0_1, .int .i64 a0_2, .int .i64 a0_3, .int .i64 a0_4, .string a0_5, .int .i64 a0_6, .int .i64 a0_7]) (t := 25) ?_; intro gb126 hg w4 hbox hb; have BK126 := am_ (hbox); have GW126 := gA_ hg HB; have GE126 := GW126; have IGE126 := gI_ GE126; replace HB := bS_ HB hb; clear hb hbox hg; (try clear zK126); have zK126 := cz8 BK126.out) | ((with_reducible refine gate_callee (f := 83) rfl ?_); refine gl_ (some 5) Try.func83 #[.int .i64 a0_0, .int .i64 1, .int .i64 9999] ?_; (with_reducible refine (spec_l1In.calls a0_0 1 9999 t127 _ A2.out).mono ?_); rintro e w' ⟨rfl, ⟨nd, rfl⟩⟩; refine ⟨_, rfl, ?_⟩))
 (try simp only [Act.put, List.setIfInBounds_toArray, List.set_cons_zero, List.set_cons_succ])
 (try (rw [drewN_self w4]; generalize hq_ : World.drewN w4 _ = w4; have n0_ : Aside0 (w4.heap[gb126]? = some (.cells #[.int .i64 a0_0, .string a0_1, .int .i64 a0_2, .int .i64 a0_3, .int .i64 a0_4, .string a0_5, .int .i64 a0_6, .int .i64 a0_7] 25 (0, 0))) := ⟨by rw [← hq_]; exact (qK BK126)⟩; have n1_ : Aside0 (Below w.heap.size w w4) := ⟨by rw [← hq_]; exact (qB HB)⟩; clear BK126 HB hq_; have BK126 := n0_; have HB := n1_; clear n0_ n1_))
 have H := HC3.out
 clear HC3
 by_cases c6 : t127 = true
 rotate_left
 ·
  replace c6 := Bool.eq_false_iff.mpr c6
  subst c6
  rw [if_neg (show ¬ (false = true) by decide)] at H
  obtain rfl := Option.some.inj H
  go_wp2
  go_ret
  exact ⟨er_, qB HB⟩
 subst c6
 rw [if_pos rfl] at H
 have HC7 := Aside0.mk H
 clear H
 go_upto_region 3 with (fail)
 go_cut [24] (fun v24 wc => ∃ (kq : Nat) (x24_6 : Bool), v24 = .bool x24_6 ∧ Aside0 (spec_AskerOk.j0 kq x24_6 a0_0 a0_1 a0_2 a0_3 a0_4 a0_5 a0_6 a0_7 = some r) ∧ Aside0 (kq ≤ k) ∧ Aside0 (wc.heap[gb126]? = some (.cells #[.int .i64 a0_0, .string a0_1, .int .i64 a0_2, .int .i64 a0_3, .int .i64 a0_4, .string a0_5, .int .i64 a0_6, .int .i64 a0_7] 25 (0, 0))) ∧ Aside0 (Below w.heap.size w wc))
 case first =>
  have H := HC7.out
  clear HC7
  by_cases c8 : a0_2 = 2
  ·
   rw [if_pos c8] at H
   have c8b0 : (a0_2 == 2) = true := beq_iff_eq.mpr c8
   have c8b1 : (a0_2 != 2) = false := bne_eq_false_iff_eq.mpr c8
   clear c8
   (first | rw [c8b0] | rw [c8b1] | (simp only [i64_w, i32_w]; rw [c8b0]) | skip)
   have H' := Aside0.mk H
   clear H
   (try clear zK126)
   have zK126 := cz8 BK126.out
   go_wp2
   go_meet
   case rel => exact ⟨_, (false), eqq_, H', ⟨by first | omega | exact Nat.le_refl _⟩, ⟨qK BK126⟩, ⟨qB HB⟩⟩
  rw [if_neg c8] at H
  have c8b0 : (a0_2 == 2) = false := beq_eq_false_iff_ne.mpr c8
  have c8b1 : (a0_2 != 2) = true := bne_iff_ne.mpr c8
  (first | rw [c8b0] | rw [c8b1] | (simp only [i64_w, i32_w]; rw [c8b0]) | skip)
  by_cases c10 : a0_3 = 0
  rotate_left
  ·
   rw [if_neg c10] at H
   have c10b0 : (a0_3 == 0) = false := beq_eq_false_iff_ne.mpr c10
   have c10b1 : (a0_3 != 0) = true := bne_iff_ne.mpr c10
   have H' := Aside0.mk H
   clear H
   (try clear zK126)
   have zK126 := cz8 BK126.out
   go_wp2
   go_meet
   case rel => exact ⟨_, (true), eqq_, H', ⟨by first | omega | exact Nat.le_refl _⟩, ⟨qK BK126⟩, ⟨qB HB⟩⟩
  rw [if_pos c10] at H
  have c10b0 : (a0_3 == 0) = true := beq_iff_eq.mpr c10
  have c10b1 : (a0_3 != 0) = false := bne_eq_false_iff_eq.mpr c10
  clear c10
  by_cases c11 : a0_4 = 0
  rotate_left
  ·
   rw [if_neg c11] at H
   have c11b0 : (a0_4 == 0) = false := beq_eq_false_iff_ne.mpr c11
   have c11b1 : (a0_4 != 0) = true := bne_iff_ne.mpr c11
   have H' := Aside0.mk H
   clear H
   (try clear zK126)
   have zK126 := cz8 BK126.out
   go_wp2
   go_meet
   case rel => exact ⟨_, (true), eqq_, H', ⟨by first | omega | exact Nat.le_refl _⟩, ⟨qK BK126⟩, ⟨qB HB⟩⟩
  rw [if_pos c11] at H
  have c11b0 : (a0_4 == 0) = true := beq_iff_eq.mpr c11
  have c11b1 : (a0_4 != 0) = false := bne_eq_false_iff_eq.mpr c11
  clear c11
  have H' := Aside0.mk H
  clear H
  (try clear zK126)
  have zK126 := cz8 BK126.out
  go_wp2
  go_meet
  case rel => exact ⟨_, ((a0_5.toList != ([] : List UInt8))), eqq_, H', ⟨by first | omega | exact Nat.le_refl _⟩, ⟨qK BK126⟩, ⟨qB HB⟩⟩
 case rest =>
  clear HC7
  try clear c1
  try clear p2
  try clear c6
  try clear c8
  try clear c8b0
  try clear c8b1
  try clear c10
  try clear c10b0
  try clear c10b1
  try clear c11
  try clear c11b0
  try clear c11b1
  (try clear zK126)
  (try clear zK126)
  (try clear zK126)
  (try clear zK126)
  (try clear zK126)
  (try clear f12)
  (try clear f13)
  (try clear f14)
  (try clear f5)
  (try clear f9)
  obtain ⟨kq, x24_6, rfl, HA, HJ6, BK126, HB⟩ := hcut
  cases kq with
  | zero => exact absurd HA.out (by simp [spec_AskerOk.j0])
  | succ kj6 =>
   have H := HA.out
   clear HA
   simp only [spec_AskerOk.j0] at H
   by_cases c15 : x24_6 = true
   ·
    subst c15
    rw [if_pos rfl] at H
    obtain rfl := Option.some.inj H
    go_wp2
    go_ret
    exact ⟨er_, qB HB⟩
   replace c15 := Bool.eq_false_iff.mpr c15
   subst c15
   rw [if_neg (show ¬ (false = true) by decide)] at H
   have HC16 := Aside0.mk H
   clear H
   go_upto_region 5 with (fail)
   go_cut [37] (fun v37 wc => ∃ (kq : Nat) (x37_15 : Bool), v37 = .bool x37_15 ∧ Aside0 (spec_AskerOk.j1 kq x37_15 a0_0 a0_1 a0_2 a0_3 a0_4 a0_5 a0_6 a0_7 = some r) ∧ Aside0 (kq ≤ kj6) ∧ Aside0 (wc.heap[gb126]? = some (.cells #[.int .i64 a0_0, .string a0_1, .int .i64 a0_2, .int .i64 a0_3, .int .i64 a0_4, .string a0_5, .int .i64 a0_6, .int .i64 a0_7] 25 (0, 0))) ∧ Aside0 (Below w.heap.size w wc))
   case first =>
    have H := HC16.out
    clear HC16
    by_cases c17 : a0_2 < 3
    rotate_left
    ·
     rw [if_neg c17] at H
     have c17b0 : decide (a0_2 < 3) = false := decide_eq_false c17
     clear c17
     (first | rw [c17b0] | (simp only [i64_w, i32_w]; rw [c17b0]) | skip)
     have H' := Aside0.mk H
     clear H
     (try clear zK126)
     have zK126 := cz8 BK126.out
     go_wp2
     go_meet
     case rel => exact ⟨_, (false), eqq_, H', ⟨by have := HJ6.out; first | omega | exact Nat.le_refl _⟩, ⟨qK BK126⟩, ⟨qB HB⟩⟩
    rw [if_pos c17] at H
    have c17b0 : decide (a0_2 < 3) = true := decide_eq_true c17
    clear c17
    (first | rw [c17b0] | (simp only [i64_w, i32_w]; rw [c17b0]) | skip)
    by_cases c18 : a0_6 = 0
    rotate_left
    ·
     rw [if_neg c18] at H
     have c18b0 : (a0_6 == 0) = false := beq_eq_false_iff_ne.mpr c18
     have c18b1 : (a0_6 != 0) = true := bne_iff_ne.mpr c18
     have H' := Aside0.mk H
     clear H
     (try clear zK126)
     have zK126 := cz8 BK126.out
     go_wp2
     go_meet
     case rel => exact ⟨_, (true), eqq_, H', ⟨by have := HJ6.out; first | omega | exact Nat.le_refl _⟩, ⟨qK BK126⟩, ⟨qB HB⟩⟩
    rw [if_pos c18] at H
    have c18b0 : (a0_6 == 0) = true := beq_iff_eq.mpr c18
    have c18b1 : (a0_6 != 0) = false := bne_eq_false_iff_eq.mpr c18
    clear c18
    have H' := Aside0.mk H
    clear H
    (try clear zK126)
    have zK126 := cz8 BK126.out
    go_wp2
    go_meet
    case rel => exact ⟨_, ((a0_7 != 0)), eqq_, H', ⟨by have := HJ6.out; first | omega | exact Nat.le_refl _⟩, ⟨qK BK126⟩, ⟨qB HB⟩⟩
   case rest =>
    clear HC16
    try clear c1
    try clear p2
    try clear c6
    try clear c8
    try clear c8b0
    try clear c8b1
    try clear c10
    try clear c10b0
    try clear c10b1
    try clear c11
    try clear c11b0
    try clear c11b1
    try clear c15
    try clear c17
    try clear c17b0
    try clear c18
    try clear c18b0
    try clear c18b1
    (try clear zK126)
    (try clear zK126)
    (try clear zK126)
    (try clear zK126)
    (try clear zK126)
    (try clear zK126)
    (try clear zK126)
    (try clear zK126)
    (try clear f12)
    (try clear f13)
    (try clear f14)
    (try clear f19)
    (try clear f20)
    (try clear f21)
    (try clear f5)
    (try clear f9)
    try clear p2
    obtain ⟨kq, x37_15, rfl, HA, HJ15, BK126, HB⟩ := hcut
    cases kq with
    | zero => exact absurd HA.out (by simp [spec_AskerOk.j1])
    | succ kj15 =>
     have H := HA.out
     clear HA
     simp only [spec_AskerOk.j1] at H
     by_cases c22 : x37_15 = true
     ·
      subst c22
      rw [if_pos rfl] at H
      obtain rfl := Option.some.inj H
      go_wp2
      go_ret
      exact ⟨er_, qB HB⟩
     replace c22 := Bool.eq_false_iff.mpr c22
     subst c22
     rw [if_neg (show ¬ (false = true) by decide)] at H
     by_cases c23 : a0_2 = 0
     ·
      rw [if_pos c23] at H
      have c23b0 : (a0_2 == 0) = true := beq_iff_eq.mpr c23
      have c23b1 : (a0_2 != 0) = false := bne_eq_false_iff_eq.mpr c23
      clear c23
      obtain rfl := Option.some.inj H
      (try clear zK126)
      have zK126 := cz8 BK126.out
      go_wp2
      go_ret
      exact ⟨er_, qB HB⟩
     rw [if_neg c23] at H
     have c23b0 : (a0_2 == 0) = false := beq_eq_false_iff_ne.mpr c23
     have c23b1 : (a0_2 != 0) = true := bne_iff_ne.mpr c23
     by_cases c25 : a0_2 = 1
     ·
      rw [if_pos c25] at H
      have c25b0 : (a0_2 == 1) = true := beq_iff_eq.mpr c25
      have c25b1 : (a0_2 != 1) = false := bne_eq_false_iff_eq.mpr c25
      clear c25
      replace H := bd_ H
      obtain ⟨t128, A26, H⟩ := H
      obtain rfl := Option.some.inj H
      (try clear zK126)
      have zK126 := cz8 BK126.out
      go_wp2_with (first | ((with_reducible refine gate_callee (f := 84) rfl ?_); refine gl_ (some 49) Try.func84 #[.string a0_1] ?_; (with_reducible refine (spec_l1Name.calls kj15 a0_1 t128 _ A26.out).mono ?_); rintro e w' ⟨rfl, ⟨nd, rfl⟩⟩; refine ⟨_, rfl, ?_⟩))
      go_ret
      exact ⟨er_, qB HB⟩
     rw [if_neg c25] at H
     have c25b0 : (a0_2 == 1) = false := beq_eq_false_iff_ne.mpr c25
     have c25b1 : (a0_2 != 1) = true := bne_iff_ne.mpr c25
     by_cases c28 : a0_2 = 2
     ·
      rw [if_pos c28] at H
      have c28b0 : (a0_2 == 2) = true := beq_iff_eq.mpr c28
      have c28b1 : (a0_2 != 2) = false := bne_eq_false_iff_eq.mpr c28
      clear c28
      replace H := bd_ H
      obtain ⟨t129, A29, H⟩ := H
      by_cases c30 : t129 = true
      rotate_left
      ·
       replace c30 := Bool.eq_false_iff.mpr c30
       subst c30
       rw [if_neg (show ¬ (false = true) by decide)] at H
       obtain rfl := Option.some.inj H
       (try clear zK126)
       have zK126 := cz8 BK126.out
       go_wp2_with (first | ((with_reducible refine gate_callee (f := 84) rfl ?_); refine gl_ (some 54) Try.func84 #[.string a0_1] ?_; (with_reducible refine (spec_l1Name.calls kj15 a0_1 false _ A29.out).mono ?_); rintro e w' ⟨rfl, ⟨nd, rfl⟩⟩; refine ⟨_, rfl, ?_⟩))
       go_ret
       exact ⟨er_, qB HB⟩
      subst c30
      rw [if_pos rfl] at H
      replace H := bd_ H
      obtain ⟨t130, A31, H⟩ := H
      by_cases c32 : t130 = true
      rotate_left
      ·
       replace c32 := Bool.eq_false_iff.mpr c32
       subst c32
       rw [if_neg (show ¬ (false = true) by decide)] at H
       obtain rfl := Option.some.inj H
       (try clear zK126)
       have zK126 := cz8 BK126.out
       go_wp2_with (first | ((with_reducible refine gate_callee (f := 84) rfl ?_); refine gl_ (some 54) Try.func84 #[.string a0_1] ?_; (with_reducible refine (spec_l1Name.calls kj15 a0_1 true _ A29.out).mono ?_); rintro e w' ⟨rfl, ⟨nd, rfl⟩⟩; refine ⟨_, rfl, ?_⟩) | (go_at_call 83; (with_reducible refine (spec_l1In.calls a0_3 0 65535 false _ A31.out).mono ?_); rintro e w' ⟨rfl, ⟨nd, rfl⟩⟩))
       go_ret
       exact ⟨er_, qB HB⟩
      subst c32
      rw [if_pos rfl] at H
      replace H := bd_ H
      obtain ⟨t131, A33, H⟩ := H
      by_cases c34 : t131 = true
      rotate_left
      ·
       replace c34 := Bool.eq_false_iff.mpr c34
       subst c34
       rw [if_neg (show ¬ (false = true) by decide)] at H
       obtain rfl := Option.some.inj H
       (try clear zK126)
       have zK126 := cz8 BK126.out
       go_wp2_with (first | ((with_reducible refine gate_callee (f := 84) rfl ?_); refine gl_ (some 54) Try.func84 #[.string a0_1] ?_; (with_reducible refine (spec_l1Name.calls kj15 a0_1 true _ A29.out).mono ?_); rintro e w' ⟨rfl, ⟨nd, rfl⟩⟩; refine ⟨_, rfl, ?_⟩) | (go_at_call 83; (with_reducible refine (spec_l1In.calls a0_3 0 65535 true _ A31.out).mono ?_); rintro e w' ⟨rfl, ⟨nd, rfl⟩⟩) | (go_at_call 85; (with_reducible refine (spec_l9Time.calls a0_4 false _ A33.out).mono ?_); rintro e w' ⟨rfl, ⟨nd, rfl⟩⟩))
       go_ret
       exact ⟨er_, qB HB⟩
      subst c34
      rw [if_pos rfl] at H
      replace H := bd_ H
      obtain ⟨t132, A35, H⟩ := H
      obtain rfl := Option.some.inj H
      (try clear zK126)
      have zK126 := cz8 BK126.out
      go_wp2_with (first | ((with_reducible refine gate_callee (f := 84) rfl ?_); refine gl_ (some 54) Try.func84 #[.string a0_1] ?_; (with_reducible refine (spec_l1Name.calls kj15 a0_1 true _ A29.out).mono ?_); rintro e w' ⟨rfl, ⟨nd, rfl⟩⟩; refine ⟨_, rfl, ?_⟩) | (go_at_call 83; (with_reducible refine (spec_l1In.calls a0_3 0 65535 true _ A31.out).mono ?_); rintro e w' ⟨rfl, ⟨nd, rfl⟩⟩) | (go_at_call 85; (with_reducible refine (spec_l9Time.calls a0_4 true _ A33.out).mono ?_); rintro e w' ⟨rfl, ⟨nd, rfl⟩⟩) | (go_at_call 86; (with_reducible refine (spec_TextOk.calls kj15 a0_5 t132 _ A35.out).mono ?_); rintro e w' ⟨rfl, ⟨nd, rfl⟩⟩))
      go_ret
      exact ⟨er_, qB HB⟩
     rw [if_neg c28] at H
     have c28b0 : (a0_2 == 2) = false := beq_eq_false_iff_ne.mpr c28
     have c28b1 : (a0_2 != 2) = true := bne_iff_ne.mpr c28
     have HC40 := Aside0.mk H
     clear H
     (try clear zK126)
     have zK126 := cz8 BK126.out
     go_upto_if 70 with (fail)
     go_cut [70] (fun v70 wc => ∃ (kq : Nat) (x70_39 : Bool), v70 = .bool x70_39 ∧ Aside0 (spec_AskerOk.j2 kq x70_39 a0_0 a0_1 a0_2 a0_3 a0_4 a0_5 a0_6 a0_7 = some r) ∧ Aside0 (kq ≤ kj15) ∧ Aside0 (wc.heap[gb126]? = some (.cells #[.int .i64 a0_0, .string a0_1, .int .i64 a0_2, .int .i64 a0_3, .int .i64 a0_4, .string a0_5, .int .i64 a0_6, .int .i64 a0_7] 25 (0, 0))) ∧ Aside0 (Below w.heap.size w wc))
     case first =>
      have H := HC40.out
      clear HC40
      by_cases c42 : a0_2 = 3
      rotate_left
      ·
       rw [if_neg c42] at H
       have c42b0 : (a0_2 == 3) = false := beq_eq_false_iff_ne.mpr c42
       have c42b1 : (a0_2 != 3) = true := bne_iff_ne.mpr c42
       (first | rw [c42b0] | rw [c42b1] | (simp only [i64_w, i32_w]; rw [c42b0]) | skip)
       have H' := Aside0.mk H
       clear H
       go_wp2
       go_meet
       case rel => exact ⟨_, ((a0_2 == 4)), eqq_, H', ⟨by have := HJ6.out; have := HJ15.out; first | omega | exact Nat.le_refl _⟩, ⟨qK BK126⟩, ⟨qB HB⟩⟩
      rw [if_pos c42] at H
      have c42b0 : (a0_2 == 3) = true := beq_iff_eq.mpr c42
      have c42b1 : (a0_2 != 3) = false := bne_eq_false_iff_eq.mpr c42
      clear c42
      (first | rw [c42b0] | rw [c42b1] | (simp only [i64_w, i32_w]; rw [c42b0]) | skip)
      have H' := Aside0.mk H
      clear H
      go_wp2
      go_meet
      case rel => exact ⟨_, ((a0_2 == 3)), eqq_, H', ⟨by have := HJ6.out; have := HJ15.out; first | omega | exact Nat.le_refl _⟩, ⟨qK BK126⟩, ⟨qB HB⟩⟩
     case rest =>
      clear HC40
      try clear c1
      try clear c2
      try clear p2
      try clear c3
      try clear c4
      try clear c6
      try clear c8
      try clear c8b0
      try clear c8b1
      try clear c10
      try clear c10b0
      try clear c10b1
      try clear c11
      try clear c11b0
      try clear c11b1
      try clear c15
      try clear c17
      try clear c17b0
      try clear c18
      try clear c18b0
      try clear c18b1
      try clear c22
      try clear c23
      try clear c23b0
      try clear c23b1
      try clear c25
      try clear c25b0
      try clear c25b1
      try clear c28
      try clear c28b0
      try clear c28b1
      try clear c30
      try clear c32
      try clear c34
      try clear c42
      try clear c42b0
      try clear c42b1
      (try clear zK126)
      (try clear zK126)
      (try clear zK126)
      (try clear zK126)
      (try clear zK126)
      (try clear zK126)
      (try clear zK126)
      (try clear zK126)
      (try clear zK126)
      (try clear zK126)
      (try clear zK126)
      (try clear zK126)
      (try clear zK126)
      (try clear zK126)
      (try clear zK126)
      (try clear f12)
      (try clear f13)
      (try clear f14)
      (try clear f19)
      (try clear f20)
      (try clear f21)
      (try clear f24)
      (try clear f27)
      (try clear f36)
      (try clear f37)
      (try clear f38)
      (try clear f39)
      (try clear f41)
      (try clear f5)
      (try clear f9)
      try clear p2
      obtain ⟨kq, x70_39, rfl, HA, HJ39, BK126, HB⟩ := hcut
      cases kq with
      | zero => exact absurd HA.out (by simp [spec_AskerOk.j2])
      | succ kj39 =>
       have H := HA.out
       clear HA
       simp only [spec_AskerOk.j2] at H
       by_cases c43 : x70_39 = true
       rotate_left
       ·
        replace c43 := Bool.eq_false_iff.mpr c43
        subst c43
        rw [if_neg (show ¬ (false = true) by decide)] at H
        obtain rfl := Option.some.inj H
        go_wp2
        go_ret
        exact ⟨er_, qB HB⟩
       subst c43
       rw [if_pos rfl] at H
       replace H := bd_ H
       obtain ⟨t133, A44, H⟩ := H
       by_cases c45 : t133 = true
       rotate_left
       ·
        replace c45 := Bool.eq_false_iff.mpr c45
        subst c45
        rw [if_neg (show ¬ (false = true) by decide)] at H
        obtain rfl := Option.some.inj H
        (try clear zK126)
        have zK126 := cz8 BK126.out
        go_wp2_with (first | ((with_reducible refine gate_callee (f := 84) rfl ?_); refine gl_ (some 75) Try.func84 #[.string a0_1] ?_; (with_reducible refine (spec_l1Name.calls kj39 a0_1 false _ A44.out).mono ?_); rintro e w' ⟨rfl, ⟨nd, rfl⟩⟩; refine ⟨_, rfl, ?_⟩))
        go_ret
        exact ⟨er_, qB HB⟩
       subst c45
       rw [if_pos rfl] at H
       replace H := bd_ H
       obtain ⟨t134, A46, H⟩ := H
       by_cases c47 : t134 = true
       ·
        subst c47
        rw [if_pos rfl] at H
        obtain rfl := Option.some.inj H
        (try clear zK126)
        have zK126 := cz8 BK126.out
        go_wp2_with (first | ((with_reducible refine gate_callee (f := 84) rfl ?_); refine gl_ (some 75) Try.func84 #[.string a0_1] ?_; (with_reducible refine (spec_l1Name.calls kj39 a0_1 true _ A44.out).mono ?_); rintro e w' ⟨rfl, ⟨nd, rfl⟩⟩; refine ⟨_, rfl, ?_⟩) | (go_at_call 83; (with_reducible refine (spec_l1In.calls a0_6 1 9999 true _ A46.out).mono ?_); rintro e w' ⟨rfl, ⟨nd, rfl⟩⟩))
        go_ret
        exact ⟨er_, qB HB⟩
       replace c47 := Bool.eq_false_iff.mpr c47
       subst c47
       rw [if_neg (show ¬ (false = true) by decide)] at H
       obtain rfl := Option.some.inj H
       (try clear zK126)
       have zK126 := cz8 BK126.out
       go_wp2_with (first | ((with_reducible refine gate_callee (f := 84) rfl ?_); refine gl_ (some 75) Try.func84 #[.string a0_1] ?_; (with_reducible refine (spec_l1Name.calls kj39 a0_1 true _ A44.out).mono ?_); rintro e w' ⟨rfl, ⟨nd, rfl⟩⟩; refine ⟨_, rfl, ?_⟩) | (go_at_call 83; (with_reducible refine (spec_l1In.calls a0_6 1 9999 false _ A46.out).mono ?_); rintro e w' ⟨rfl, ⟨nd, rfl⟩⟩))
       go_ret
       exact ⟨er_, qB HB⟩

end Go.Proofs.Ytiffahfpfgnjnaa.PFnWays
