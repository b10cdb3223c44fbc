-- Written by a program of this session (myprint.py, over the kit's print): contracts of FnExactGetCtl
import Derived.Test.YtiffahfpfgnjnabPFnExactGetCtlx0
import Derived.Test.YtiffahfpfgnjnabPFnExactGetCtlx4
namespace Go.Proofs.Ytiffahfpfgnjnab.PFnExactGetCtl
open Go.RowKit Go.Proofs.YtiffahfpfgnjnabW.PrintWords Go.Proofs.YtiffahfpfgnjnabW.PrintLast Go.Proofs.YtiffahfpfgnjnabW.PrintMore Go.Proofs.YtiffahfpfgnjnabV
attribute [local go_sem] max2_int min2_int max_two min_two max_three min_three max_four min_four   -- for this text's walks alone
set_option linter.unusedVariables false
set_option linter.unusedSimpArgs false

/-! ### spec_AskerOk: function 122 -/
mutual
def spec_AskerOk.j0 : Nat → Bool → Int → ByteArray → Int → Int → Int → ByteArray → Int → Int → Option (Bool)
 | 0, _, _, _, _, _, _, _, _, _ => none
 | k + 1, x24, x136000, x136001, x136002, x136003, x136004, x136005, x136006, x136007 => if x24 = true then (some false) else (if x136002 < 3 then (if x136006 = 0 then (spec_AskerOk.j1 k (x136007 != 0) x136000 x136001 x136002 x136003 x136004 x136005 x136006 x136007) else (spec_AskerOk.j1 k true x136000 x136001 x136002 x136003 x136004 x136005 x136006 x136007)) else (spec_AskerOk.j1 k false x136000 x136001 x136002 x136003 x136004 x136005 x136006 x136007))
def spec_AskerOk.j1 : Nat → Bool → Int → ByteArray → Int → Int → Int → ByteArray → Int → Int → Option (Bool)
 | 0, _, _, _, _, _, _, _, _, _ => none
 | k + 1, x37, x136000, x136001, x136002, x136003, x136004, x136005, x136006, x136007 => if x37 = true then (some false) else (if x136002 = 0 then (some (x136001.toList == ([] : List UInt8))) else (if x136002 = 1 then ((spec_l1Name.f k x136001).bind fun t137 => (some t137)) else (if x136002 = 2 then ((spec_l1Name.f k x136001).bind fun t138 => (if t138 = true then ((spec_l1In.f x136003 0 65535).bind fun t139 => (if t139 = true then ((spec_l9Time.f x136004).bind fun t140 => (if t140 = true then ((spec_TextOk.f k x136005).bind fun t141 => (some t141)) else (some false))) else (some false))) else (some false))) else (if x136002 = 3 then (spec_AskerOk.j2 k (x136002 == 3) x136000 x136001 x136002 x136003 x136004 x136005 x136006 x136007) else (spec_AskerOk.j2 k (x136002 == 4) x136000 x136001 x136002 x136003 x136004 x136005 x136006 x136007)))))
def spec_AskerOk.j2 : Nat → Bool → Int → ByteArray → Int → Int → Int → ByteArray → Int → Int → Option (Bool)
 | 0, _, _, _, _, _, _, _, _, _ => none
 | k + 1, x70, x136000, x136001, x136002, x136003, x136004, x136005, x136006, x136007 => if x70 = true then ((spec_l1Name.f k x136001).bind fun t142 => (if t142 = true then ((spec_l1In.f x136006 1 9999).bind fun t143 => (if t143 = true then (some (decide (x136007 ≥ 1))) else (some false))) else (some false))) else (some false)
end
def spec_AskerOk.f (k : Nat) (a0_0 : Int) (a0_1 : ByteArray) (a0_2 : Int) (a0_3 : Int) (a0_4 : Int) (a0_5 : ByteArray) (a0_6 : Int) (a0_7 : Int) : Option (Bool) := (spec_l1In.f a0_0 1 9999).bind fun t136 => (if t136 = true then (if a0_2 = 2 then (spec_AskerOk.j0 k false a0_0 a0_1 a0_2 a0_3 a0_4 a0_5 a0_6 a0_7) else (if a0_3 = 0 then (if a0_4 = 0 then (spec_AskerOk.j0 k (a0_5.toList != ([] : List UInt8)) a0_0 a0_1 a0_2 a0_3 a0_4 a0_5 a0_6 a0_7) else (spec_AskerOk.j0 k true a0_0 a0_1 a0_2 a0_3 a0_4 a0_5 a0_6 a0_7)) else (spec_AskerOk.j0 k true a0_0 a0_1 a0_2 a0_3 a0_4 a0_5 a0_6 a0_7))) else (some false))
theorem spec_AskerOk.mono_l : ∀ k, (∀ y0 y1 y2 y3 y4 y5 y6 y7 y8, LeO (spec_AskerOk.j0 k y0 y1 y2 y3 y4 y5 y6 y7 y8) (spec_AskerOk.j0 (k + 1) y0 y1 y2 y3 y4 y5 y6 y7 y8)) ∧ (∀ y0 y1 y2 y3 y4 y5 y6 y7 y8, LeO (spec_AskerOk.j1 k y0 y1 y2 y3 y4 y5 y6 y7 y8) (spec_AskerOk.j1 (k + 1) y0 y1 y2 y3 y4 y5 y6 y7 y8)) ∧ (∀ y0 y1 y2 y3 y4 y5 y6 y7 y8, LeO (spec_AskerOk.j2 k y0 y1 y2 y3 y4 y5 y6 y7 y8) (spec_AskerOk.j2 (k + 1) y0 y1 y2 y3 y4 y5 y6 y7 y8))
 | 0 => ⟨fun _ _ _ _ _ _ _ _ _ r h => by simp [spec_AskerOk.j0] at h, fun _ _ _ _ _ _ _ _ _ r h => by simp [spec_AskerOk.j1] at h, fun _ _ _ _ _ _ _ _ _ r h => by simp [spec_AskerOk.j2] at h⟩
 | k + 1 => by
  obtain ⟨ih0, ih1, ih2⟩ := spec_AskerOk.mono_l k
  refine ⟨?_, ?_, ?_⟩
  ·
   intro y0 y1 y2 y3 y4 y5 y6 y7 y8
   unfold spec_AskerOk.j0
   have m0 := @spec_TextOk.mono; have m1 := @spec_l1Name.mono; exact mo_
  ·
   intro y0 y1 y2 y3 y4 y5 y6 y7 y8
   unfold spec_AskerOk.j1
   have m0 := @spec_TextOk.mono; have m1 := @spec_l1Name.mono; exact mo_
  ·
   intro y0 y1 y2 y3 y4 y5 y6 y7 y8
   unfold spec_AskerOk.j2
   have m0 := @spec_TextOk.mono; have m1 := @spec_l1Name.mono; exact mo_
theorem spec_AskerOk.mono : ∀ a0 a1 a2 a3 a4 a5 a6 a7 k, LeO (spec_AskerOk.f k a0 a1 a2 a3 a4 a5 a6 a7) (spec_AskerOk.f (k + 1) a0 a1 a2 a3 a4 a5 a6 a7) := by
 intro a0 a1 a2 a3 a4 a5 a6 a7 k
 obtain ⟨ih0, ih1, ih2⟩ := spec_AskerOk.mono_l k
 unfold spec_AskerOk.f
 have m0 := @spec_TextOk.mono; have m1 := @spec_l1Name.mono; exact mo_
set_option maxHeartbeats 8000000 in
set_option maxRecDepth 100000 in
theorem spec_AskerOk.calls (k : Nat) (a0_0 : Int) (a0_1 : ByteArray) (a0_2 : Int) (a0_3 : Int) (a0_4 : Int) (a0_5 : ByteArray) (a0_6 : Int) (a0_7 : Int) (r : Bool) (w : World) (h : spec_AskerOk.f k a0_0 a0_1 a0_2 a0_3 a0_4 a0_5 a0_6 a0_7 = some r) :
  Calls Try.prog 122 #[.agg #[.int .i64 a0_0, .string a0_1, .int .i64 a0_2, .int .i64 a0_3, .int .i64 a0_4, .string a0_5, .int .i64 a0_6, .int .i64 a0_7]] w fun e w' => e = .returned (.bool r) ∧ Below w.heap.size w w' := by
 have hu90 := Try.underlying90
 have HB := Aside0.mk (Below.refl w.heap.size w)
 have H := h
 unfold spec_AskerOk.f at H
 clear h
 replace H := bd_ H
 obtain ⟨t136, A2, H⟩ := H
 have HC3 := Aside0.mk H
 clear H
 go_enter Try.func122, Try.ntmps122
 go_upto_if 6 with (first | ((with_reducible refine gate_dst (N := 1) rfl ?_); refine bx_ (N := 1) (cs := #[.int .i64 a0_0, .string a0_1, .int .i64 a0_2, .int .i64 a0_3, .int .i64 a0_4, .string a0_5, .int .i64 a0_6, .int .i64 a0_7]) (t := 90) ?_; intro gb135 hg w4 hbox hb; have BK135 := am_ (hbox); have GW135 := gA_ hg HB; have GE135 := GW135; have IGE135 := gI_ GE135; replace HB := bS_ HB hb; clear hb hbox hg; (try clear zK135); have zK135 := cz8 BK135.out) | ((with_reducible refine gate_callee (f := 42) rfl ?_); refine gl_ (some 5) Try.func42 #[.int .i64 a0_0, .int .i64 1, .int .i64 9999] ?_; (with_reducible refine (spec_l1In.calls a0_0 1 9999 t136 _ A2.out).mono ?_); rintro e w' ⟨rfl, ⟨nd, rfl⟩⟩; refine ⟨_, rfl, ?_⟩))
 (try simp only [Act.put, List.setIfInBounds_toArray, List.set_cons_zero, List.set_cons_succ])
 (try (rw [drewN_self w4]; generalize hq_ : World.drewN w4 _ = w4; have n0_ : Aside0 (w4.heap[gb135]? = some (.cells #[.int .i64 a0_0, .string a0_1, .int .i64 a0_2, .int .i64 a0_3, .int .i64 a0_4, .string a0_5, .int .i64 a0_6, .int .i64 a0_7] 90 (0, 0))) := ⟨by rw [← hq_]; exact (qK BK135)⟩; have n1_ : Aside0 (Below w.heap.size w w4) := ⟨by rw [← hq_]; exact (qB HB)⟩; clear BK135 HB hq_; have BK135 := n0_; have HB := n1_; clear n0_ n1_))
 have H := HC3.out
 clear HC3
 by_cases c6 : t136 = true
 rotate_left
 ·
  replace c6 := Bool.eq_false_iff.mpr c6
  subst c6
  rw [if_neg (show ¬ (false = true) by decide)] at H
  obtain rfl := Option.some.inj H
  go_wp2
  go_ret
  exact ⟨er_, qB HB⟩
 subst c6
 rw [if_pos rfl] at H
 have HC7 := Aside0.mk H
 clear H
 go_upto_region 3 with (fail)
 go_cut [24] (fun v24 wc => ∃ (kq : Nat) (x24_6 : Bool), v24 = .bool x24_6 ∧ Aside0 (spec_AskerOk.j0 kq x24_6 a0_0 a0_1 a0_2 a0_3 a0_4 a0_5 a0_6 a0_7 = some r) ∧ Aside0 (kq ≤ k) ∧ Aside0 (wc.heap[gb135]? = some (.cells #[.int .i64 a0_0, .string a0_1, .int .i64 a0_2, .int .i64 a0_3, .int .i64 a0_4, .string a0_5, .int .i64 a0_6, .int .i64 a0_7] 90 (0, 0))) ∧ Aside0 (Below w.heap.size w wc))
 case first =>
  have H := HC7.out
  clear HC7
  replace H := ie_ H
  obtain ⟨-, H, c8b0, c8b1⟩ | ⟨c8, H, c8b0, c8b1⟩ := H
  ·
   (first | rw [c8b0] | rw [c8b1] | (simp only [i64_w, i32_w]; rw [c8b0]) | skip)
   have H' := Aside0.mk H
   clear H
   (try clear zK135)
   have zK135 := cz8 BK135.out
   go_wp2
   go_meet
   case rel => exact ⟨_, (false), eqq_, H', ⟨by first | omega | exact Nat.le_refl _⟩, ⟨qK BK135⟩, ⟨qB HB⟩⟩
  (first | rw [c8b0] | rw [c8b1] | (simp only [i64_w, i32_w]; rw [c8b0]) | skip)
  replace H := ie_ H
  obtain ⟨-, H, c10b0, c10b1⟩ | ⟨c10, H, c10b0, c10b1⟩ := H
  rotate_left
  ·
   have H' := Aside0.mk H
   clear H
   (try clear zK135)
   have zK135 := cz8 BK135.out
   go_wp2
   go_meet
   case rel => exact ⟨_, (true), eqq_, H', ⟨by first | omega | exact Nat.le_refl _⟩, ⟨qK BK135⟩, ⟨qB HB⟩⟩
  replace H := ie_ H
  obtain ⟨-, H, c11b0, c11b1⟩ | ⟨c11, H, c11b0, c11b1⟩ := H
  rotate_left
  ·
   have H' := Aside0.mk H
   clear H
   (try clear zK135)
   have zK135 := cz8 BK135.out
   go_wp2
   go_meet
   case rel => exact ⟨_, (true), eqq_, H', ⟨by first | omega | exact Nat.le_refl _⟩, ⟨qK BK135⟩, ⟨qB HB⟩⟩
  have H' := Aside0.mk H
  clear H
  (try clear zK135)
  have zK135 := cz8 BK135.out
  go_wp2
  go_meet
  case rel => exact ⟨_, ((a0_5.toList != ([] : List UInt8))), eqq_, H', ⟨by first | omega | exact Nat.le_refl _⟩, ⟨qK BK135⟩, ⟨qB HB⟩⟩
 case rest =>
  clear HC7
  try clear c1
  try clear p2
  try clear c4
  try clear c6
  try clear c8
  try clear c8b0
  try clear c8b1
  try clear c10
  try clear c10b0
  try clear c10b1
  try clear c11
  try clear c11b0
  try clear c11b1
  try clear c12
  (try clear zK135)
  (try clear zK135)
  (try clear zK135)
  (try clear zK135)
  (try clear zK135)
  (try clear f12)
  (try clear f13)
  (try clear f14)
  (try clear f5)
  (try clear f9)
  obtain ⟨kq, x24_6, rfl, HA, HJ6, BK135, HB⟩ := hcut
  cases kq with
  | zero => exact absurd HA.out (by simp [spec_AskerOk.j0])
  | succ kj6 =>
   have H := HA.out
   clear HA
   simp only [spec_AskerOk.j0] at H
   by_cases c15 : x24_6 = true
   ·
    subst c15
    rw [if_pos rfl] at H
    obtain rfl := Option.some.inj H
    go_wp2
    go_ret
    exact ⟨er_, qB HB⟩
   replace c15 := Bool.eq_false_iff.mpr c15
   subst c15
   rw [if_neg (show ¬ (false = true) by decide)] at H
   have HC16 := Aside0.mk H
   clear H
   go_upto_region 5 with (fail)
   go_cut [37] (fun v37 wc => ∃ (kq : Nat) (x37_15 : Bool), v37 = .bool x37_15 ∧ Aside0 (spec_AskerOk.j1 kq x37_15 a0_0 a0_1 a0_2 a0_3 a0_4 a0_5 a0_6 a0_7 = some r) ∧ Aside0 (kq ≤ kj6) ∧ Aside0 (wc.heap[gb135]? = some (.cells #[.int .i64 a0_0, .string a0_1, .int .i64 a0_2, .int .i64 a0_3, .int .i64 a0_4, .string a0_5, .int .i64 a0_6, .int .i64 a0_7] 90 (0, 0))) ∧ Aside0 (Below w.heap.size w wc))
   case first =>
    have H := HC16.out
    clear HC16
    replace H := id_ H
    obtain ⟨-, H, c17b0⟩ | ⟨-, H, c17b0⟩ := H
    rotate_left
    ·
     (first | rw [c17b0] | (simp only [i64_w, i32_w]; rw [c17b0]) | skip)
     have H' := Aside0.mk H
     clear H
     (try clear zK135)
     have zK135 := cz8 BK135.out
     go_wp2
     go_meet
     case rel => exact ⟨_, (false), eqq_, H', ⟨by have := HJ6.out; first | omega | exact Nat.le_refl _⟩, ⟨qK BK135⟩, ⟨qB HB⟩⟩
    (first | rw [c17b0] | (simp only [i64_w, i32_w]; rw [c17b0]) | skip)
    replace H := ie_ H
    obtain ⟨-, H, c18b0, c18b1⟩ | ⟨c18, H, c18b0, c18b1⟩ := H
    rotate_left
    ·
     have H' := Aside0.mk H
     clear H
     (try clear zK135)
     have zK135 := cz8 BK135.out
     go_wp2
     go_meet
     case rel => exact ⟨_, (true), eqq_, H', ⟨by have := HJ6.out; first | omega | exact Nat.le_refl _⟩, ⟨qK BK135⟩, ⟨qB HB⟩⟩
    have H' := Aside0.mk H
    clear H
    (try clear zK135)
    have zK135 := cz8 BK135.out
    go_wp2
    go_meet
    case rel => exact ⟨_, ((a0_7 != 0)), eqq_, H', ⟨by have := HJ6.out; first | omega | exact Nat.le_refl _⟩, ⟨qK BK135⟩, ⟨qB HB⟩⟩
   case rest =>
    clear HC16
    try clear c1
    try clear p2
    try clear c4
    try clear c6
    try clear c8
    try clear c8b0
    try clear c8b1
    try clear c10
    try clear c10b0
    try clear c10b1
    try clear c11
    try clear c11b0
    try clear c11b1
    try clear c12
    try clear c15
    try clear c17
    try clear c17b0
    try clear c18
    try clear c18b0
    try clear c18b1
    (try clear zK135)
    (try clear zK135)
    (try clear zK135)
    (try clear zK135)
    (try clear zK135)
    (try clear zK135)
    (try clear zK135)
    (try clear zK135)
    (try clear f12)
    (try clear f13)
    (try clear f14)
    (try clear f19)
    (try clear f20)
    (try clear f21)
    (try clear f5)
    (try clear f9)
    try clear p2
    obtain ⟨kq, x37_15, rfl, HA, HJ15, BK135, HB⟩ := hcut
    cases kq with
    | zero => exact absurd HA.out (by simp [spec_AskerOk.j1])
    | succ kj15 =>
     have H := HA.out
     clear HA
     simp only [spec_AskerOk.j1] at H
     by_cases c22 : x37_15 = true
     ·
      subst c22
      rw [if_pos rfl] at H
      obtain rfl := Option.some.inj H
      go_wp2
      go_ret
      exact ⟨er_, qB HB⟩
     replace c22 := Bool.eq_false_iff.mpr c22
     subst c22
     rw [if_neg (show ¬ (false = true) by decide)] at H
     replace H := ie_ H
     obtain ⟨-, H, c23b0, c23b1⟩ | ⟨c23, H, c23b0, c23b1⟩ := H
     ·
      obtain rfl := Option.some.inj H
      (try clear zK135)
      have zK135 := cz8 BK135.out
      go_wp2
      go_ret
      exact ⟨er_, qB HB⟩
     replace H := ie_ H
     obtain ⟨-, H, c25b0, c25b1⟩ | ⟨c25, H, c25b0, c25b1⟩ := H
     ·
      replace H := bd_ H
      obtain ⟨t137, A26, H⟩ := H
      obtain rfl := Option.some.inj H
      (try clear zK135)
      have zK135 := cz8 BK135.out
      go_wp2_with (first | ((with_reducible refine gate_callee (f := 132) rfl ?_); refine gl_ (some 49) Try.func132 #[.string a0_1] ?_; (with_reducible refine (spec_l1Name.calls kj15 a0_1 t137 _ A26.out).mono ?_); rintro e w' ⟨rfl, ⟨nd, rfl⟩⟩; refine ⟨_, rfl, ?_⟩))
      go_ret
      exact ⟨er_, qB HB⟩
     replace H := ie_ H
     obtain ⟨-, H, c28b0, c28b1⟩ | ⟨c28, H, c28b0, c28b1⟩ := H
     ·
      replace H := bd_ H
      obtain ⟨t138, A29, H⟩ := H
      by_cases c30 : t138 = true
      rotate_left
      ·
       replace c30 := Bool.eq_false_iff.mpr c30
       subst c30
       rw [if_neg (show ¬ (false = true) by decide)] at H
       obtain rfl := Option.some.inj H
       (try clear zK135)
       have zK135 := cz8 BK135.out
       go_wp2_with (first | ((with_reducible refine gate_callee (f := 132) rfl ?_); refine gl_ (some 54) Try.func132 #[.string a0_1] ?_; (with_reducible refine (spec_l1Name.calls kj15 a0_1 false _ A29.out).mono ?_); rintro e w' ⟨rfl, ⟨nd, rfl⟩⟩; refine ⟨_, rfl, ?_⟩))
       go_ret
       exact ⟨er_, qB HB⟩
      subst c30
      rw [if_pos rfl] at H
      replace H := bd_ H
      obtain ⟨t139, A31, H⟩ := H
      by_cases c32 : t139 = true
      rotate_left
      ·
       replace c32 := Bool.eq_false_iff.mpr c32
       subst c32
       rw [if_neg (show ¬ (false = true) by decide)] at H
       obtain rfl := Option.some.inj H
       (try clear zK135)
       have zK135 := cz8 BK135.out
       go_wp2_with (first | ((with_reducible refine gate_callee (f := 132) rfl ?_); refine gl_ (some 54) Try.func132 #[.string a0_1] ?_; (with_reducible refine (spec_l1Name.calls kj15 a0_1 true _ A29.out).mono ?_); rintro e w' ⟨rfl, ⟨nd, rfl⟩⟩; refine ⟨_, rfl, ?_⟩) | (go_at_call 42; (with_reducible refine (spec_l1In.calls a0_3 0 65535 false _ A31.out).mono ?_); rintro e w' ⟨rfl, ⟨nd, rfl⟩⟩))
       go_ret
       exact ⟨er_, qB HB⟩
      subst c32
      rw [if_pos rfl] at H
      replace H := bd_ H
      obtain ⟨t140, A33, H⟩ := H
      by_cases c34 : t140 = true
      rotate_left
      ·
       replace c34 := Bool.eq_false_iff.mpr c34
       subst c34
       rw [if_neg (show ¬ (false = true) by decide)] at H
       obtain rfl := Option.some.inj H
       (try clear zK135)
       have zK135 := cz8 BK135.out
       go_wp2_with (first | ((with_reducible refine gate_callee (f := 132) rfl ?_); refine gl_ (some 54) Try.func132 #[.string a0_1] ?_; (with_reducible refine (spec_l1Name.calls kj15 a0_1 true _ A29.out).mono ?_); rintro e w' ⟨rfl, ⟨nd, rfl⟩⟩; refine ⟨_, rfl, ?_⟩) | (go_at_call 42; (with_reducible refine (spec_l1In.calls a0_3 0 65535 true _ A31.out).mono ?_); rintro e w' ⟨rfl, ⟨nd, rfl⟩⟩) | (go_at_call 133; (with_reducible refine (spec_l9Time.calls a0_4 false _ A33.out).mono ?_); rintro e w' ⟨rfl, ⟨nd, rfl⟩⟩))
       go_ret
       exact ⟨er_, qB HB⟩
      subst c34
      rw [if_pos rfl] at H
      replace H := bd_ H
      obtain ⟨t141, A35, H⟩ := H
      obtain rfl := Option.some.inj H
      (try clear zK135)
      have zK135 := cz8 BK135.out
      go_wp2_with (first | ((with_reducible refine gate_callee (f := 132) rfl ?_); refine gl_ (some 54) Try.func132 #[.string a0_1] ?_; (with_reducible refine (spec_l1Name.calls kj15 a0_1 true _ A29.out).mono ?_); rintro e w' ⟨rfl, ⟨nd, rfl⟩⟩; refine ⟨_, rfl, ?_⟩) | (go_at_call 42; (with_reducible refine (spec_l1In.calls a0_3 0 65535 true _ A31.out).mono ?_); rintro e w' ⟨rfl, ⟨nd, rfl⟩⟩) | (go_at_call 133; (with_reducible refine (spec_l9Time.calls a0_4 true _ A33.out).mono ?_); rintro e w' ⟨rfl, ⟨nd, rfl⟩⟩) | (go_at_call 134; (with_reducible refine (spec_TextOk.calls kj15 a0_5 t141 _ A35.out).mono ?_); rintro e w' ⟨rfl, ⟨nd, rfl⟩⟩))
      go_ret
      exact ⟨er_, qB HB⟩
     have HC40 := Aside0.mk H
     clear H
     (try clear zK135)
     have zK135 := cz8 BK135.out
     go_upto_if 70 with (fail)
     go_cut [70] (fun v70 wc => ∃ (kq : Nat) (x70_39 : Bool), v70 = .bool x70_39 ∧ Aside0 (spec_AskerOk.j2 kq x70_39 a0_0 a0_1 a0_2 a0_3 a0_4 a0_5 a0_6 a0_7 = some r) ∧ Aside0 (kq ≤ kj15) ∧ Aside0 (wc.heap[gb135]? = some (.cells #[.int .i64 a0_0, .string a0_1, .int .i64 a0_2, .int .i64 a0_3, .int .i64 a0_4, .string a0_5, .int .i64 a0_6, .int .i64 a0_7] 90 (0, 0))) ∧ Aside0 (Below w.heap.size w wc))
     case first =>
      have H := HC40.out
      clear HC40
      replace H := ie_ H
      obtain ⟨-, H, c42b0, c42b1⟩ | ⟨c42, H, c42b0, c42b1⟩ := H
      rotate_left
      ·
       (first | rw [c42b0] | rw [c42b1] | (simp only [i64_w, i32_w]; rw [c42b0]) | skip)
       have H' := Aside0.mk H
       clear H
       go_wp2
       go_meet
       case rel => exact ⟨_, ((a0_2 == 4)), eqq_, H', ⟨by have := HJ6.out; have := HJ15.out; first | omega | exact Nat.le_refl _⟩, ⟨qK BK135⟩, ⟨qB HB⟩⟩
      (first | rw [c42b0] | rw [c42b1] | (simp only [i64_w, i32_w]; rw [c42b0]) | skip)
      have H' := Aside0.mk H
      clear H
      go_wp2
      go_meet
      case rel => exact ⟨_, ((a0_2 == 3)), eqq_, H', ⟨by have := HJ6.out; have := HJ15.out; first | omega | exact Nat.le_refl _⟩, ⟨qK BK135⟩, ⟨qB HB⟩⟩
     case rest =>
      clear HC40
      try clear c1
      try clear c2
      try clear p2
      try clear c3
      try clear c4
      try clear c6
      try clear c8
      try clear c8b0
      try clear c8b1
      try clear c10
      try clear c10b0
      try clear c10b1
      try clear c11
      try clear c11b0
      try clear c11b1
      try clear c12
      try clear c13
      try clear c15
      try clear c17
      try clear c17b0
      try clear c18
      try clear c18b0
      try clear c18b1
      try clear c22
      try clear c23
      try clear c23b0
      try clear c23b1
      try clear c25
      try clear c25b0
      try clear c25b1
      try clear c28
      try clear c28b0
      try clear c28b1
      try clear c30
      try clear c32
      try clear c34
      try clear c42
      try clear c42b0
      try clear c42b1
      (try clear zK135)
      (try clear zK135)
      (try clear zK135)
      (try clear zK135)
      (try clear zK135)
      (try clear zK135)
      (try clear zK135)
      (try clear zK135)
      (try clear zK135)
      (try clear zK135)
      (try clear zK135)
      (try clear zK135)
      (try clear zK135)
      (try clear zK135)
      (try clear zK135)
      (try clear f12)
      (try clear f13)
      (try clear f14)
      (try clear f19)
      (try clear f20)
      (try clear f21)
      (try clear f24)
      (try clear f27)
      (try clear f36)
      (try clear f37)
      (try clear f38)
      (try clear f39)
      (try clear f41)
      (try clear f5)
      (try clear f9)
      try clear p2
      obtain ⟨kq, x70_39, rfl, HA, HJ39, BK135, HB⟩ := hcut
      cases kq with
      | zero => exact absurd HA.out (by simp [spec_AskerOk.j2])
      | succ kj39 =>
       have H := HA.out
       clear HA
       simp only [spec_AskerOk.j2] at H
       by_cases c43 : x70_39 = true
       rotate_left
       ·
        replace c43 := Bool.eq_false_iff.mpr c43
        subst c43
        rw [if_neg (show ¬ (false = true) by decide)] at H
        obtain rfl := Option.some.inj H
        go_wp2
        go_ret
        exact ⟨er_, qB HB⟩
       subst c43
       rw [if_pos rfl] at H
       replace H := bd_ H
       obtain ⟨t142, A44, H⟩ := H
       by_cases c45 : t142 = true
       rotate_left
       ·
        replace c45 := Bool.eq_false_iff.mpr c45
        subst c45
        rw [if_neg (show ¬ (false = true) by decide)] at H
        obtain rfl := Option.some.inj H
        (try clear zK135)
        have zK135 := cz8 BK135.out
        go_wp2_with (first | ((with_reducible refine gate_callee (f := 132) rfl ?_); refine gl_ (some 75) Try.func132 #[.string a0_1] ?_; (with_reducible refine (spec_l1Name.calls kj39 a0_1 false _ A44.out).mono ?_); rintro e w' ⟨rfl, ⟨nd, rfl⟩⟩; refine ⟨_, rfl, ?_⟩))
        go_ret
        exact ⟨er_, qB HB⟩
       subst c45
       rw [if_pos rfl] at H
       replace H := bd_ H
       obtain ⟨t143, A46, H⟩ := H
       by_cases c47 : t143 = true
       ·
        subst c47
        rw [if_pos rfl] at H
        obtain rfl := Option.some.inj H
        (try clear zK135)
        have zK135 := cz8 BK135.out
        go_wp2_with (first | ((with_reducible refine gate_callee (f := 132) rfl ?_); refine gl_ (some 75) Try.func132 #[.string a0_1] ?_; (with_reducible refine (spec_l1Name.calls kj39 a0_1 true _ A44.out).mono ?_); rintro e w' ⟨rfl, ⟨nd, rfl⟩⟩; refine ⟨_, rfl, ?_⟩) | (go_at_call 42; (with_reducible refine (spec_l1In.calls a0_6 1 9999 true _ A46.out).mono ?_); rintro e w' ⟨rfl, ⟨nd, rfl⟩⟩))
        go_ret
        exact ⟨er_, qB HB⟩
       replace c47 := Bool.eq_false_iff.mpr c47
       subst c47
       rw [if_neg (show ¬ (false = true) by decide)] at H
       obtain rfl := Option.some.inj H
       (try clear zK135)
       have zK135 := cz8 BK135.out
       go_wp2_with (first | ((with_reducible refine gate_callee (f := 132) rfl ?_); refine gl_ (some 75) Try.func132 #[.string a0_1] ?_; (with_reducible refine (spec_l1Name.calls kj39 a0_1 true _ A44.out).mono ?_); rintro e w' ⟨rfl, ⟨nd, rfl⟩⟩; refine ⟨_, rfl, ?_⟩) | (go_at_call 42; (with_reducible refine (spec_l1In.calls a0_6 1 9999 false _ A46.out).mono ?_); rintro e w' ⟨rfl, ⟨nd, rfl⟩⟩))
       go_ret
       exact ⟨er_, qB HB⟩

end Go.Proofs.Ytiffahfpfgnjnab.PFnExactGetCtl
