-- Written by a program of this session (myprint.py, over the kit's print): contracts of FnCtls
import Derived.Test.YtiffahfpfgnjnaaPFnCtlsx14
namespace Go.Proofs.Ytiffahfpfgnjnaa.PFnCtls
open Go.RowKit Go.Proofs.YtiffahfpfgnjnaaW.PrintWords Go.Proofs.YtiffahfpfgnjnaaW.PrintLast Go.Proofs.YtiffahfpfgnjnaaW.PrintMore Go.Proofs.YtiffahfpfgnjnaaV
attribute [local go_sem] max2_int min2_int max_two min_two max_three min_three max_four min_four
set_option linter.unusedVariables false
set_option linter.unusedSimpArgs false

/-! ### spec_AskerOk: function 17 -/
mutual
def spec_AskerOk.j0 : Nat → Bool → Int → ByteArray → Int → Int → Int → ByteArray → Int → Int → Option (Bool)
 | 0, _, _, _, _, _, _, _, _, _ => none
 | k + 1, x24, x637000, x637001, x637002, x637003, x637004, x637005, x637006, x637007 => if x24 = true then (some false) else (if x637002 < 3 then (if x637006 = 0 then (spec_AskerOk.j1 k (x637007 != 0) x637000 x637001 x637002 x637003 x637004 x637005 x637006 x637007) else (spec_AskerOk.j1 k true x637000 x637001 x637002 x637003 x637004 x637005 x637006 x637007)) else (spec_AskerOk.j1 k false x637000 x637001 x637002 x637003 x637004 x637005 x637006 x637007))
def spec_AskerOk.j1 : Nat → Bool → Int → ByteArray → Int → Int → Int → ByteArray → Int → Int → Option (Bool)
 | 0, _, _, _, _, _, _, _, _, _ => none
 | k + 1, x37, x637000, x637001, x637002, x637003, x637004, x637005, x637006, x637007 => if x37 = true then (some false) else (if x637002 = 0 then (some (x637001.toList == ([] : List UInt8))) else (if x637002 = 1 then ((spec_l1Name.f k x637001).bind fun t638 => (some t638)) else (if x637002 = 2 then ((spec_l1Name.f k x637001).bind fun t639 => (if t639 = true then ((spec_l1In.f x637003 0 65535).bind fun t640 => (if t640 = true then ((spec_l9Time.f x637004).bind fun t641 => (if t641 = true then ((spec_TextOk.f k x637005).bind fun t642 => (some t642)) else (some false))) else (some false))) else (some false))) else (if x637002 = 3 then (spec_AskerOk.j2 k (x637002 == 3) x637000 x637001 x637002 x637003 x637004 x637005 x637006 x637007) else (spec_AskerOk.j2 k (x637002 == 4) x637000 x637001 x637002 x637003 x637004 x637005 x637006 x637007)))))
def spec_AskerOk.j2 : Nat → Bool → Int → ByteArray → Int → Int → Int → ByteArray → Int → Int → Option (Bool)
 | 0, _, _, _, _, _, _, _, _, _ => none
 | k + 1, x70, x637000, x637001, x637002, x637003, x637004, x637005, x637006, x637007 => if x70 = true then ((spec_l1Name.f k x637001).bind fun t643 => (if t643 = true then ((spec_l1In.f x637006 1 9999).bind fun t644 => (if t644 = true then (some (decide (x637007 ≥ 1))) else (some false))) else (some false))) else (some false)
end
def spec_AskerOk.f (k : Nat) (a0_0 : Int) (a0_1 : ByteArray) (a0_2 : Int) (a0_3 : Int) (a0_4 : Int) (a0_5 : ByteArray) (a0_6 : Int) (a0_7 : Int) : Option (Bool) := (spec_l1In.f a0_0 1 9999).bind fun t637 => (if t637 = true then (if a0_2 = 2 then (spec_AskerOk.j0 k false a0_0 a0_1 a0_2 a0_3 a0_4 a0_5 a0_6 a0_7) else (if a0_3 = 0 then (if a0_4 = 0 then (spec_AskerOk.j0 k (a0_5.toList != ([] : List UInt8)) a0_0 a0_1 a0_2 a0_3 a0_4 a0_5 a0_6 a0_7) else (spec_AskerOk.j0 k true a0_0 a0_1 a0_2 a0_3 a0_4 a0_5 a0_6 a0_7)) else (spec_AskerOk.j0 k true a0_0 a0_1 a0_2 a0_3 a0_4 a0_5 a0_6 a0_7))) else (some false))
theorem spec_AskerOk.mono_l : ∀ k, (∀ y0 y1 y2 y3 y4 y5 y6 y7 y8, LeO (spec_AskerOk.j0 k y0 y1 y2 y3 y4 y5 y6 y7 y8) (spec_AskerOk.j0 (k + 1) y0 y1 y2 y3 y4 y5 y6 y7 y8)) ∧ (∀ y0 y1 y2 y3 y4 y5 y6 y7 y8, LeO (spec_AskerOk.j1 k y0 y1 y2 y3 y4 y5 y6 y7 y8) (spec_AskerOk.j1 (k + 1) y0 y1 y2 y3 y4 y5 y6 y7 y8)) ∧ (∀ y0 y1 y2 y3 y4 y5 y6 y7 y8, LeO (spec_AskerOk.j2 k y0 y1 y2 y3 y4 y5 y6 y7 y8) (spec_AskerOk.j2 (k + 1) y0 y1 y2 y3 y4 y5 y6 y7 y8))
 | 0 => ⟨fun _ _ _ _ _ _ _ _ _ r h => by simp [spec_AskerOk.j0] at h, fun _ _ _ _ _ _ _ _ _ r h => by simp [spec_AskerOk.j1] at h, fun _ _ _ _ _ _ _ _ _ r h => by simp [spec_AskerOk.j2] at h⟩
 | k + 1 => by
  obtain ⟨ih0, ih1, ih2⟩ := spec_AskerOk.mono_l k
  refine ⟨?_, ?_, ?_⟩
  ·
   intro y0 y1 y2 y3 y4 y5 y6 y7 y8
   unfold spec_AskerOk.j0
   have m0 := @spec_TextOk.mono; have m1 := @spec_l1Name.mono; exact mo_
  ·
   intro y0 y1 y2 y3 y4 y5 y6 y7 y8
   unfold spec_AskerOk.j1
   have m0 := @spec_TextOk.mono; have m1 := @spec_l1Name.mono; exact mo_
  ·
   intro y0 y1 y2 y3 y4 y5 y6 y7 y8
   unfold spec_AskerOk.j2
   have m0 := @spec_TextOk.mono; have m1 := @spec_l1Name.mono; exact mo_
theorem spec_AskerOk.mono : ∀ a0 a1 a2 a3 a4 a5 a6 a7 k, LeO (spec_AskerOk.f k a0 a1 a2 a3 a4 a5 a6 a7) (spec_AskerOk.f (k + 1) a0 a1 a2 a3 a4 a5 a6 a7) := by
 intro a0 a1 a2 a3 a4 a5 a6 a7 k
 obtain ⟨ih0, ih1, ih2⟩ := spec_AskerOk.mono_l k
 unfold spec_AskerOk.f
 have m0 := @spec_TextOk.mono; have m1 := @spec_l1Name.mono; exact mo_
set_option maxHeartbeats 8000000 in
set_option maxRecDepth 100000 in
theorem spec_AskerOk.calls (k : Nat) (a0_0 : Int) (a0_1 : ByteArray) (a0_2 : Int) (a0_3 : Int) (a0_4 : Int) (a0_5 : ByteArray) (a0_6 : Int) (a0_7 : Int) (r : Bool) (w : World) (h : spec_AskerOk.f k a0_0 a0_1 a0_2 a0_3 a0_4 a0_5 a0_6 a0_7 = some r) :
  Calls Try.prog 17 #[.agg #[.int .i64 a0_0, .string a0_1, .int .i64 a0_2, .int .i64 a0_3, .int .i64 a0_4, .string a0_5, .int .i64 a0_6, .int .i64 a0_7]] w fun e w' => e = .returned (.bool r) ∧ Below w.heap.size w w' := by
 have hu25 := Try.underlying25
 have HB := Aside0.mk (Below.refl w.heap.size w)
 have H := h
 unfold spec_AskerOk.f at H
 clear h
 replace H := bd_ H
 obtain ⟨t637, A2, H⟩ := H
 have HC3 := am_ H
 clear H
 go_enter Try.func17, Try.ntmps17
 go_upto_if 6 with (first | (refine gd_ 1 rfl ?_; refine bx_ (N := 1) (cs := #[.int .i64 a0_0, .string a0_1, .int .i64 a0_2, .int .i64 a0_3, .int .i64 a0_4, .string a0_5, .int .i64 a0_6, .int .i64 a0_7]) (t := 25) ?_; intro gb636 hg w4 hbox hb; have BK636 := am_ (hbox); have GW636 := gA_ hg HB; have GE636 := GW636; have IGE636 := gI_ GE636; replace HB := bS_ HB hb; clear hb hbox hg; (try clear zK636); have zK636 := cz8 BK636.out) | (refine gc_ 83 rfl ?_; refine gl_ (some 5) Try.func83 #[.int .i64 a0_0, .int .i64 1, .int .i64 9999] ?_; (with_reducible refine (spec_l1In.calls a0_0 1 9999 t637 _ A2.out).mono ?_); rintro e w' ⟨rfl, ⟨nd, rfl⟩⟩; refine ⟨_, rfl, ?_⟩))
 (try simp only [Act.put, List.setIfInBounds_toArray, List.set_cons_zero, List.set_cons_succ])
 (try (rw [drewN_self w4]; generalize hq_ : World.drewN w4 _ = w4; have n0_ : Aside0 (w4.heap[gb636]? = some (.cells #[.int .i64 a0_0, .string a0_1, .int .i64 a0_2, .int .i64 a0_3, .int .i64 a0_4, .string a0_5, .int .i64 a0_6, .int .i64 a0_7] 25 (0, 0))) := ⟨by rw [← hq_]; exact (qK BK636)⟩; have n1_ : Aside0 (Below w.heap.size w w4) := ⟨by rw [← hq_]; exact (qB HB)⟩; clear BK636 HB hq_; have BK636 := n0_; have HB := n1_; clear n0_ n1_))
 have H := HC3.out
 clear HC3
 by_cases c6 : t637 = true
 rotate_left
 ·
  replace c6 := nf_ c6
  subst c6
  rw [if_neg (show ¬ (false = true) by decide)] at H
  obtain rfl := si_ H
  go_wp2
  go_ret
  exact ⟨er_, qB HB⟩
 subst c6
 rw [if_pos rfl] at H
 have HC7 := am_ H
 clear H
 go_upto_region 3 with (fail)
 go_cut [24] (fun v24 wc => ∃ (kq : Nat) (x24_6 : Bool), v24 = .bool x24_6 ∧ Aside0 (spec_AskerOk.j0 kq x24_6 a0_0 a0_1 a0_2 a0_3 a0_4 a0_5 a0_6 a0_7 = some r) ∧ Aside0 (kq ≤ k) ∧ Aside0 (wc.heap[gb636]? = some (.cells #[.int .i64 a0_0, .string a0_1, .int .i64 a0_2, .int .i64 a0_3, .int .i64 a0_4, .string a0_5, .int .i64 a0_6, .int .i64 a0_7] 25 (0, 0))) ∧ Aside0 (Below w.heap.size w wc))
 case first =>
  have H := HC7.out
  clear HC7
  replace H := ie_ H
  obtain ⟨-, H, c8b0, c8b1⟩ | ⟨c8, H, c8b0, c8b1⟩ := H
  ·
   (first | rw [c8b0] | rw [c8b1] | (simp only [i64_w, i32_w]; rw [c8b0]) | skip)
   have H' := Aside0.mk H
   clear H
   (try clear zK636)
   have zK636 := cz8 BK636.out
   go_wp2
   go_meet
   case rel => exact ⟨_, (false), eqq_, H', ⟨by first | omega | exact Nat.le_refl _⟩, ⟨qK BK636⟩, ⟨qB HB⟩⟩
  (first | rw [c8b0] | rw [c8b1] | (simp only [i64_w, i32_w]; rw [c8b0]) | skip)
  replace H := ie_ H
  obtain ⟨-, H, c10b0, c10b1⟩ | ⟨c10, H, c10b0, c10b1⟩ := H
  rotate_left
  ·
   have H' := Aside0.mk H
   clear H
   (try clear zK636)
   have zK636 := cz8 BK636.out
   go_wp2
   go_meet
   case rel => exact ⟨_, (true), eqq_, H', ⟨by first | omega | exact Nat.le_refl _⟩, ⟨qK BK636⟩, ⟨qB HB⟩⟩
  replace H := ie_ H
  obtain ⟨-, H, c11b0, c11b1⟩ | ⟨c11, H, c11b0, c11b1⟩ := H
  rotate_left
  ·
   have H' := Aside0.mk H
   clear H
   (try clear zK636)
   have zK636 := cz8 BK636.out
   go_wp2
   go_meet
   case rel => exact ⟨_, (true), eqq_, H', ⟨by first | omega | exact Nat.le_refl _⟩, ⟨qK BK636⟩, ⟨qB HB⟩⟩
  have H' := Aside0.mk H
  clear H
  (try clear zK636)
  have zK636 := cz8 BK636.out
  go_wp2
  go_meet
  case rel => exact ⟨_, ((a0_5.toList != ([] : List UInt8))), eqq_, H', ⟨by first | omega | exact Nat.le_refl _⟩, ⟨qK BK636⟩, ⟨qB HB⟩⟩
 case rest =>
  clear HC7
  try clear c1
  try clear p2
  try clear c6
  try clear c8
  try clear c8b0
  try clear c8b1
  try clear c10
  try clear c10b0
  try clear c10b1
  try clear c11
  try clear c11b0
  try clear c11b1
  (try clear zK636)
  (try clear zK636)
  (try clear zK636)
  (try clear zK636)
  (try clear zK636)
  (try clear f12)
  (try clear f13)
  (try clear f14)
  (try clear f5)
  (try clear f9)
  obtain ⟨kq, x24_6, rfl, HA, HJ6, BK636, HB⟩ := hcut
  cases kq with
  | zero => exact absurd HA.out (by simp [spec_AskerOk.j0])
  | succ kj6 =>
   have H := HA.out
   clear HA
   simp only [spec_AskerOk.j0] at H
   by_cases c15 : x24_6 = true
   ·
    subst c15
    rw [if_pos rfl] at H
    obtain rfl := si_ H
    go_wp2
    go_ret
    exact ⟨er_, qB HB⟩
   replace c15 := nf_ c15
   subst c15
   rw [if_neg (show ¬ (false = true) by decide)] at H
   have HC16 := am_ H
   clear H
   go_upto_region 5 with (fail)
   go_cut [37] (fun v37 wc => ∃ (kq : Nat) (x37_15 : Bool), v37 = .bool x37_15 ∧ Aside0 (spec_AskerOk.j1 kq x37_15 a0_0 a0_1 a0_2 a0_3 a0_4 a0_5 a0_6 a0_7 = some r) ∧ Aside0 (kq ≤ kj6) ∧ Aside0 (wc.heap[gb636]? = some (.cells #[.int .i64 a0_0, .string a0_1, .int .i64 a0_2, .int .i64 a0_3, .int .i64 a0_4, .string a0_5, .int .i64 a0_6, .int .i64 a0_7] 25 (0, 0))) ∧ Aside0 (Below w.heap.size w wc))
   case first =>
    have H := HC16.out
    clear HC16
    replace H := id_ H
    obtain ⟨-, H, c17b0⟩ | ⟨-, H, c17b0⟩ := H
    rotate_left
    ·
     (first | rw [c17b0] | (simp only [i64_w, i32_w]; rw [c17b0]) | skip)
     have H' := Aside0.mk H
     clear H
     (try clear zK636)
     have zK636 := cz8 BK636.out
     go_wp2
     go_meet
     case rel => exact ⟨_, (false), eqq_, H', ⟨by have := HJ6.out; first | omega | exact Nat.le_refl _⟩, ⟨qK BK636⟩, ⟨qB HB⟩⟩
    (first | rw [c17b0] | (simp only [i64_w, i32_w]; rw [c17b0]) | skip)
    replace H := ie_ H
    obtain ⟨-, H, c18b0, c18b1⟩ | ⟨c18, H, c18b0, c18b1⟩ := H
    rotate_left
    ·
     have H' := Aside0.mk H
     clear H
     (try clear zK636)
     have zK636 := cz8 BK636.out
     go_wp2
     go_meet
     case rel => exact ⟨_, (true), eqq_, H', ⟨by have := HJ6.out; first | omega | exact Nat.le_refl _⟩, ⟨qK BK636⟩, ⟨qB HB⟩⟩
    have H' := Aside0.mk H
    clear H
    (try clear zK636)
    have zK636 := cz8 BK636.out
    go_wp2
    go_meet
    case rel => exact ⟨_, ((a0_7 != 0)), eqq_, H', ⟨by have := HJ6.out; first | omega | exact Nat.le_refl _⟩, ⟨qK BK636⟩, ⟨qB HB⟩⟩
   case rest =>
    clear HC16
    try clear c1
    try clear p2
    try clear c6
    try clear c8
    try clear c8b0
    try clear c8b1
    try clear c10
    try clear c10b0
    try clear c10b1
    try clear c11
    try clear c11b0
    try clear c11b1
    try clear c15
    try clear c17
    try clear c17b0
    try clear c18
    try clear c18b0
    try clear c18b1
    (try clear zK636)
    (try clear zK636)
    (try clear zK636)
    (try clear zK636)
    (try clear zK636)
    (try clear zK636)
    (try clear zK636)
    (try clear zK636)
    (try clear f12)
    (try clear f13)
    (try clear f14)
    (try clear f19)
    (try clear f20)
    (try clear f21)
    (try clear f5)
    (try clear f9)
    try clear p2
    obtain ⟨kq, x37_15, rfl, HA, HJ15, BK636, HB⟩ := hcut
    cases kq with
    | zero => exact absurd HA.out (by simp [spec_AskerOk.j1])
    | succ kj15 =>
     have H := HA.out
     clear HA
     simp only [spec_AskerOk.j1] at H
     by_cases c22 : x37_15 = true
     ·
      subst c22
      rw [if_pos rfl] at H
      obtain rfl := si_ H
      go_wp2
      go_ret
      exact ⟨er_, qB HB⟩
     replace c22 := nf_ c22
     subst c22
     rw [if_neg (show ¬ (false = true) by decide)] at H
     replace H := ie_ H
     obtain ⟨-, H, c23b0, c23b1⟩ | ⟨c23, H, c23b0, c23b1⟩ := H
     ·
      obtain rfl := si_ H
      (try clear zK636)
      have zK636 := cz8 BK636.out
      go_wp2
      go_ret
      exact ⟨er_, qB HB⟩
     replace H := ie_ H
     obtain ⟨-, H, c25b0, c25b1⟩ | ⟨c25, H, c25b0, c25b1⟩ := H
     ·
      replace H := bd_ H
      obtain ⟨t638, A26, H⟩ := H
      obtain rfl := si_ H
      (try clear zK636)
      have zK636 := cz8 BK636.out
      go_wp2_with (first | (refine gc_ 84 rfl ?_; refine gl_ (some 49) Try.func84 #[.string a0_1] ?_; (with_reducible refine (spec_l1Name.calls kj15 a0_1 t638 _ A26.out).mono ?_); rintro e w' ⟨rfl, ⟨nd, rfl⟩⟩; refine ⟨_, rfl, ?_⟩))
      go_ret
      exact ⟨er_, qB HB⟩
     replace H := ie_ H
     obtain ⟨-, H, c28b0, c28b1⟩ | ⟨c28, H, c28b0, c28b1⟩ := H
     ·
      replace H := bd_ H
      obtain ⟨t639, A29, H⟩ := H
      by_cases c30 : t639 = true
      rotate_left
      ·
       replace c30 := nf_ c30
       subst c30
       rw [if_neg (show ¬ (false = true) by decide)] at H
       obtain rfl := si_ H
       (try clear zK636)
       have zK636 := cz8 BK636.out
       go_wp2_with (first | (refine gc_ 84 rfl ?_; refine gl_ (some 54) Try.func84 #[.string a0_1] ?_; (with_reducible refine (spec_l1Name.calls kj15 a0_1 false _ A29.out).mono ?_); rintro e w' ⟨rfl, ⟨nd, rfl⟩⟩; refine ⟨_, rfl, ?_⟩))
       go_ret
       exact ⟨er_, qB HB⟩
      subst c30
      rw [if_pos rfl] at H
      replace H := bd_ H
      obtain ⟨t640, A31, H⟩ := H
      by_cases c32 : t640 = true
      rotate_left
      ·
       replace c32 := nf_ c32
       subst c32
       rw [if_neg (show ¬ (false = true) by decide)] at H
       obtain rfl := si_ H
       (try clear zK636)
       have zK636 := cz8 BK636.out
       go_wp2_with (first | (refine gc_ 84 rfl ?_; refine gl_ (some 54) Try.func84 #[.string a0_1] ?_; (with_reducible refine (spec_l1Name.calls kj15 a0_1 true _ A29.out).mono ?_); rintro e w' ⟨rfl, ⟨nd, rfl⟩⟩; refine ⟨_, rfl, ?_⟩) | (go_at_call 83; (with_reducible refine (spec_l1In.calls a0_3 0 65535 false _ A31.out).mono ?_); rintro e w' ⟨rfl, ⟨nd, rfl⟩⟩))
       go_ret
       exact ⟨er_, qB HB⟩
      subst c32
      rw [if_pos rfl] at H
      replace H := bd_ H
      obtain ⟨t641, A33, H⟩ := H
      by_cases c34 : t641 = true
      rotate_left
      ·
       replace c34 := nf_ c34
       subst c34
       rw [if_neg (show ¬ (false = true) by decide)] at H
       obtain rfl := si_ H
       (try clear zK636)
       have zK636 := cz8 BK636.out
       go_wp2_with (first | (refine gc_ 84 rfl ?_; refine gl_ (some 54) Try.func84 #[.string a0_1] ?_; (with_reducible refine (spec_l1Name.calls kj15 a0_1 true _ A29.out).mono ?_); rintro e w' ⟨rfl, ⟨nd, rfl⟩⟩; refine ⟨_, rfl, ?_⟩) | (go_at_call 83; (with_reducible refine (spec_l1In.calls a0_3 0 65535 true _ A31.out).mono ?_); rintro e w' ⟨rfl, ⟨nd, rfl⟩⟩) | (go_at_call 85; (with_reducible refine (spec_l9Time.calls a0_4 false _ A33.out).mono ?_); rintro e w' ⟨rfl, ⟨nd, rfl⟩⟩))
       go_ret
       exact ⟨er_, qB HB⟩
      subst c34
      rw [if_pos rfl] at H
      replace H := bd_ H
      obtain ⟨t642, A35, H⟩ := H
      obtain rfl := si_ H
      (try clear zK636)
      have zK636 := cz8 BK636.out
      go_wp2_with (first | (refine gc_ 84 rfl ?_; refine gl_ (some 54) Try.func84 #[.string a0_1] ?_; (with_reducible refine (spec_l1Name.calls kj15 a0_1 true _ A29.out).mono ?_); rintro e w' ⟨rfl, ⟨nd, rfl⟩⟩; refine ⟨_, rfl, ?_⟩) | (go_at_call 83; (with_reducible refine (spec_l1In.calls a0_3 0 65535 true _ A31.out).mono ?_); rintro e w' ⟨rfl, ⟨nd, rfl⟩⟩) | (go_at_call 85; (with_reducible refine (spec_l9Time.calls a0_4 true _ A33.out).mono ?_); rintro e w' ⟨rfl, ⟨nd, rfl⟩⟩) | (go_at_call 86; (with_reducible refine (spec_TextOk.calls kj15 a0_5 t642 _ A35.out).mono ?_); rintro e w' ⟨rfl, ⟨nd, rfl⟩⟩))
      go_ret
      exact ⟨er_, qB HB⟩
     have HC40 := am_ H
     clear H
     (try clear zK636)
     have zK636 := cz8 BK636.out
     go_upto_if 70 with (fail)
     go_cut [70] (fun v70 wc => ∃ (kq : Nat) (x70_39 : Bool), v70 = .bool x70_39 ∧ Aside0 (spec_AskerOk.j2 kq x70_39 a0_0 a0_1 a0_2 a0_3 a0_4 a0_5 a0_6 a0_7 = some r) ∧ Aside0 (kq ≤ kj15) ∧ Aside0 (wc.heap[gb636]? = some (.cells #[.int .i64 a0_0, .string a0_1, .int .i64 a0_2, .int .i64 a0_3, .int .i64 a0_4, .string a0_5, .int .i64 a0_6, .int .i64 a0_7] 25 (0, 0))) ∧ Aside0 (Below w.heap.size w wc))
     case first =>
      have H := HC40.out
      clear HC40
      replace H := ie_ H
      obtain ⟨-, H, c42b0, c42b1⟩ | ⟨c42, H, c42b0, c42b1⟩ := H
      rotate_left
      ·
       (first | rw [c42b0] | rw [c42b1] | (simp only [i64_w, i32_w]; rw [c42b0]) | skip)
       have H' := Aside0.mk H
       clear H
       go_wp2
       go_meet
       case rel => exact ⟨_, ((a0_2 == 4)), eqq_, H', ⟨by have := HJ6.out; have := HJ15.out; first | omega | exact Nat.le_refl _⟩, ⟨qK BK636⟩, ⟨qB HB⟩⟩
      (first | rw [c42b0] | rw [c42b1] | (simp only [i64_w, i32_w]; rw [c42b0]) | skip)
      have H' := Aside0.mk H
      clear H
      go_wp2
      go_meet
      case rel => exact ⟨_, ((a0_2 == 3)), eqq_, H', ⟨by have := HJ6.out; have := HJ15.out; first | omega | exact Nat.le_refl _⟩, ⟨qK BK636⟩, ⟨qB HB⟩⟩
     case rest =>
      clear HC40
      try clear c1
      try clear c2
      try clear p2
      try clear c3
      try clear c4
      try clear c6
      try clear c8
      try clear c8b0
      try clear c8b1
      try clear c10
      try clear c10b0
      try clear c10b1
      try clear c11
      try clear c11b0
      try clear c11b1
      try clear c15
      try clear c17
      try clear c17b0
      try clear c18
      try clear c18b0
      try clear c18b1
      try clear c22
      try clear c23
      try clear c23b0
      try clear c23b1
      try clear c25
      try clear c25b0
      try clear c25b1
      try clear c28
      try clear c28b0
      try clear c28b1
      try clear c30
      try clear c32
      try clear c34
      try clear c42
      try clear c42b0
      try clear c42b1
      (try clear zK636)
      (try clear zK636)
      (try clear zK636)
      (try clear zK636)
      (try clear zK636)
      (try clear zK636)
      (try clear zK636)
      (try clear zK636)
      (try clear zK636)
      (try clear zK636)
      (try clear zK636)
      (try clear zK636)
      (try clear zK636)
      (try clear zK636)
      (try clear zK636)
      (try clear f12)
      (try clear f13)
      (try clear f14)
      (try clear f19)
      (try clear f20)
      (try clear f21)
      (try clear f24)
      (try clear f27)
      (try clear f36)
      (try clear f37)
      (try clear f38)
      (try clear f39)
      (try clear f41)
      (try clear f5)
      (try clear f9)
      try clear p2
      obtain ⟨kq, x70_39, rfl, HA, HJ39, BK636, HB⟩ := hcut
      cases kq with
      | zero => exact absurd HA.out (by simp [spec_AskerOk.j2])
      | succ kj39 =>
       have H := HA.out
       clear HA
       simp only [spec_AskerOk.j2] at H
       by_cases c43 : x70_39 = true
       rotate_left
       ·
        replace c43 := nf_ c43
        subst c43
        rw [if_neg (show ¬ (false = true) by decide)] at H
        obtain rfl := si_ H
        go_wp2
        go_ret
        exact ⟨er_, qB HB⟩
       subst c43
       rw [if_pos rfl] at H
       replace H := bd_ H
       obtain ⟨t643, A44, H⟩ := H
       by_cases c45 : t643 = true
       rotate_left
       ·
        replace c45 := nf_ c45
        subst c45
        rw [if_neg (show ¬ (false = true) by decide)] at H
        obtain rfl := si_ H
        (try clear zK636)
        have zK636 := cz8 BK636.out
        go_wp2_with (first | (refine gc_ 84 rfl ?_; refine gl_ (some 75) Try.func84 #[.string a0_1] ?_; (with_reducible refine (spec_l1Name.calls kj39 a0_1 false _ A44.out).mono ?_); rintro e w' ⟨rfl, ⟨nd, rfl⟩⟩; refine ⟨_, rfl, ?_⟩))
        go_ret
        exact ⟨er_, qB HB⟩
       subst c45
       rw [if_pos rfl] at H
       replace H := bd_ H
       obtain ⟨t644, A46, H⟩ := H
       by_cases c47 : t644 = true
       ·
        subst c47
        rw [if_pos rfl] at H
        obtain rfl := si_ H
        (try clear zK636)
        have zK636 := cz8 BK636.out
        go_wp2_with (first | (refine gc_ 84 rfl ?_; refine gl_ (some 75) Try.func84 #[.string a0_1] ?_; (with_reducible refine (spec_l1Name.calls kj39 a0_1 true _ A44.out).mono ?_); rintro e w' ⟨rfl, ⟨nd, rfl⟩⟩; refine ⟨_, rfl, ?_⟩) | (go_at_call 83; (with_reducible refine (spec_l1In.calls a0_6 1 9999 true _ A46.out).mono ?_); rintro e w' ⟨rfl, ⟨nd, rfl⟩⟩))
        go_ret
        exact ⟨er_, qB HB⟩
       replace c47 := nf_ c47
       subst c47
       rw [if_neg (show ¬ (false = true) by decide)] at H
       obtain rfl := si_ H
       (try clear zK636)
       have zK636 := cz8 BK636.out
       go_wp2_with (first | (refine gc_ 84 rfl ?_; refine gl_ (some 75) Try.func84 #[.string a0_1] ?_; (with_reducible refine (spec_l1Name.calls kj39 a0_1 true _ A44.out).mono ?_); rintro e w' ⟨rfl, ⟨nd, rfl⟩⟩; refine ⟨_, rfl, ?_⟩) | (go_at_call 83; (with_reducible refine (spec_l1In.calls a0_6 1 9999 false _ A46.out).mono ?_); rintro e w' ⟨rfl, ⟨nd, rfl⟩⟩))
       go_ret
       exact ⟨er_, qB HB⟩


/-! ### spec_LineOk: function 19 -/
def spec_LineOk.j0 : Nat → Bool → Int → ByteArray → Int → Int → Int → Int → Int → Option (Bool)
 | 0, _, _, _, _, _, _, _, _ => none
 | k + 1, x18, x646000, x646001, x646002, x646003, x646004, x646005, x646006 => if x18 = true then (some false) else (if x646003 = 0 then ((spec_l9Time.f x646004).bind fun t649 => (if t649 = true then (if x646005 = 0 then (some (x646006 == 0)) else (some false)) else (some false))) else ((spec_l1In.f x646003 1 2).bind fun t650 => (if t650 = true then (if x646004 = 0 then ((spec_l1In.f x646005 1 9999).bind fun t651 => (if t651 = true then (some (decide (x646006 ≥ 1))) else (some false))) else (some false)) else (some false))))
def spec_LineOk.f (k : Nat) (a0_0 : Int) (a0_1 : ByteArray) (a0_2 : Int) (a0_3 : Int) (a0_4 : Int) (a0_5 : Int) (a0_6 : Int) : Option (Bool) := (spec_l1In.f a0_0 1 9999).bind fun t646 => (if t646 = true then ((spec_l1Name.f k a0_1).bind fun t647 => (if t647 = true then ((spec_l1In.f a0_2 1 60000).bind fun t648 => (spec_LineOk.j0 k (!t648) a0_0 a0_1 a0_2 a0_3 a0_4 a0_5 a0_6)) else (spec_LineOk.j0 k true a0_0 a0_1 a0_2 a0_3 a0_4 a0_5 a0_6))) else (spec_LineOk.j0 k true a0_0 a0_1 a0_2 a0_3 a0_4 a0_5 a0_6))
theorem spec_LineOk.mono_l : ∀ k, (∀ y0 y1 y2 y3 y4 y5 y6 y7, LeO (spec_LineOk.j0 k y0 y1 y2 y3 y4 y5 y6 y7) (spec_LineOk.j0 (k + 1) y0 y1 y2 y3 y4 y5 y6 y7))
 | 0 => fun _ _ _ _ _ _ _ _ r h => by simp [spec_LineOk.j0] at h
 | k + 1 => by
  have ih0 := spec_LineOk.mono_l k
  ·
   intro y0 y1 y2 y3 y4 y5 y6 y7
   unfold spec_LineOk.j0
   have m0 := @spec_l1Name.mono; exact mo_
theorem spec_LineOk.mono : ∀ a0 a1 a2 a3 a4 a5 a6 k, LeO (spec_LineOk.f k a0 a1 a2 a3 a4 a5 a6) (spec_LineOk.f (k + 1) a0 a1 a2 a3 a4 a5 a6) := by
 intro a0 a1 a2 a3 a4 a5 a6 k
 have ih0 := spec_LineOk.mono_l k
 unfold spec_LineOk.f
 have m0 := @spec_l1Name.mono; exact mo_
set_option maxHeartbeats 8000000 in
set_option maxRecDepth 100000 in
theorem spec_LineOk.calls (k : Nat) (a0_0 : Int) (a0_1 : ByteArray) (a0_2 : Int) (a0_3 : Int) (a0_4 : Int) (a0_5 : Int) (a0_6 : Int) (r : Bool) (w : World) (h : spec_LineOk.f k a0_0 a0_1 a0_2 a0_3 a0_4 a0_5 a0_6 = some r) :
  Calls Try.prog 19 #[.agg #[.int .i64 a0_0, .string a0_1, .int .i64 a0_2, .int .i64 a0_3, .int .i64 a0_4, .int .i64 a0_5, .int .i64 a0_6]] w fun e w' => e = .returned (.bool r) ∧ Below w.heap.size w w' := by
 have hu27 := Try.underlying27
 have HB := Aside0.mk (Below.refl w.heap.size w)
 have H := h
 unfold spec_LineOk.f at H
 clear h
 have HC2 := am_ H
 clear H
 go_enter Try.func19, Try.ntmps19
 go_upto_region 1 with (first | (refine gd_ 1 rfl ?_; refine bx_ (N := 1) (cs := #[.int .i64 a0_0, .string a0_1, .int .i64 a0_2, .int .i64 a0_3, .int .i64 a0_4, .int .i64 a0_5, .int .i64 a0_6]) (t := 27) ?_; intro gb645 hg w3 hbox hb; have BK645 := am_ (hbox); have GW645 := gA_ hg HB; have GE645 := GW645; have IGE645 := gI_ GE645; replace HB := bS_ HB hb; clear hb hbox hg))
 (try simp only [Act.put, List.setIfInBounds_toArray, List.set_cons_zero, List.set_cons_succ])
 go_cut [18] (fun v18 wc => ∃ (kq : Nat) (x18_1 : Bool), v18 = .bool x18_1 ∧ Aside0 (spec_LineOk.j0 kq x18_1 a0_0 a0_1 a0_2 a0_3 a0_4 a0_5 a0_6 = some r) ∧ Aside0 (kq ≤ k) ∧ Aside0 (wc.heap[gb645]? = some (.cells #[.int .i64 a0_0, .string a0_1, .int .i64 a0_2, .int .i64 a0_3, .int .i64 a0_4, .int .i64 a0_5, .int .i64 a0_6] 27 (0, 0))) ∧ Aside0 (Below w.heap.size w wc))
 case first =>
  have H := HC2.out
  clear HC2
  replace H := bd_ H
  obtain ⟨t646, A4, H⟩ := H
  by_cases c5 : t646 = true
  rotate_left
  ·
   replace c5 := nf_ c5
   subst c5
   rw [if_neg (show ¬ (false = true) by decide)] at H
   have H' := Aside0.mk H
   clear H
   (try clear zK645)
   have zK645 := cz7 BK645.out
   go_wp2_with (first | (refine gc_ 83 rfl ?_; refine gl_ (some 5) Try.func83 #[.int .i64 a0_0, .int .i64 1, .int .i64 9999] ?_; (with_reducible refine (spec_l1In.calls a0_0 1 9999 false _ A4.out).mono ?_); rintro e w' ⟨rfl, ⟨nd, rfl⟩⟩; refine ⟨_, rfl, ?_⟩))
   go_meet
   case rel => exact ⟨_, (true), eqq_, H', ⟨by first | omega | exact Nat.le_refl _⟩, ⟨qK BK645⟩, ⟨qB HB⟩⟩
  subst c5
  rw [if_pos rfl] at H
  replace H := bd_ H
  obtain ⟨t647, A6, H⟩ := H
  by_cases c7 : t647 = true
  rotate_left
  ·
   replace c7 := nf_ c7
   subst c7
   rw [if_neg (show ¬ (false = true) by decide)] at H
   have H' := Aside0.mk H
   clear H
   (try clear zK645)
   have zK645 := cz7 BK645.out
   go_wp2_with (first | (refine gc_ 83 rfl ?_; refine gl_ (some 5) Try.func83 #[.int .i64 a0_0, .int .i64 1, .int .i64 9999] ?_; (with_reducible refine (spec_l1In.calls a0_0 1 9999 true _ A4.out).mono ?_); rintro e w' ⟨rfl, ⟨nd, rfl⟩⟩; refine ⟨_, rfl, ?_⟩) | (go_at_call 84; (with_reducible refine (spec_l1Name.calls k a0_1 false _ A6.out).mono ?_); rintro e w' ⟨rfl, ⟨nd, rfl⟩⟩))
   go_meet
   case rel => exact ⟨_, (true), eqq_, H', ⟨by first | omega | exact Nat.le_refl _⟩, ⟨qK BK645⟩, ⟨qB HB⟩⟩
  subst c7
  rw [if_pos rfl] at H
  replace H := bd_ H
  obtain ⟨t648, A8, H⟩ := H
  have H' := Aside0.mk H
  clear H
  (try clear zK645)
  have zK645 := cz7 BK645.out
  go_wp2_with (first | (refine gc_ 83 rfl ?_; refine gl_ (some 5) Try.func83 #[.int .i64 a0_0, .int .i64 1, .int .i64 9999] ?_; (with_reducible refine (spec_l1In.calls a0_0 1 9999 true _ A4.out).mono ?_); rintro e w' ⟨rfl, ⟨nd, rfl⟩⟩; refine ⟨_, rfl, ?_⟩) | (go_at_call 84; (with_reducible refine (spec_l1Name.calls k a0_1 true _ A6.out).mono ?_); rintro e w' ⟨rfl, ⟨nd, rfl⟩⟩) | (go_at_call 83; (with_reducible refine (spec_l1In.calls a0_2 1 60000 t648 _ A8.out).mono ?_); rintro e w' ⟨rfl, ⟨nd, rfl⟩⟩))
  go_meet
  case rel => exact ⟨_, (!t648), eqq_, H', ⟨by first | omega | exact Nat.le_refl _⟩, ⟨qK BK645⟩, ⟨qB HB⟩⟩
 case rest =>
  clear HC2
  try clear c1
  try clear p2
  try clear c5
  try clear c7
  try clear c8
  (try clear zK645)
  (try clear zK645)
  (try clear zK645)
  (try clear f10)
  (try clear f11)
  (try clear f9)
  obtain ⟨kq, x18_1, rfl, HA, HJ1, BK645, HB⟩ := hcut
  cases kq with
  | zero => exact absurd HA.out (by simp [spec_LineOk.j0])
  | succ kj1 =>
   have H := HA.out
   clear HA
   simp only [spec_LineOk.j0] at H
   by_cases c12 : x18_1 = true
   ·
    subst c12
    rw [if_pos rfl] at H
    obtain rfl := si_ H
    go_wp2
    go_ret
    exact ⟨er_, qB HB⟩
   replace c12 := nf_ c12
   subst c12
   rw [if_neg (show ¬ (false = true) by decide)] at H
   replace H := ie_ H
   obtain ⟨-, H, c13b0, c13b1⟩ | ⟨c13, H, c13b0, c13b1⟩ := H
   ·
    replace H := bd_ H
    obtain ⟨t649, A14, H⟩ := H
    by_cases c15 : t649 = true
    rotate_left
    ·
     replace c15 := nf_ c15
     subst c15
     rw [if_neg (show ¬ (false = true) by decide)] at H
     obtain rfl := si_ H
     (try clear zK645)
     have zK645 := cz7 BK645.out
     go_wp2_with (first | (refine gc_ 85 rfl ?_; refine gl_ (some 24) Try.func85 #[.int .i64 a0_4] ?_; (with_reducible refine (spec_l9Time.calls a0_4 false _ A14.out).mono ?_); rintro e w' ⟨rfl, ⟨nd, rfl⟩⟩; refine ⟨_, rfl, ?_⟩))
     go_ret
     exact ⟨er_, qB HB⟩
    subst c15
    rw [if_pos rfl] at H
    replace H := ie_ H
    obtain ⟨-, H, c16b0, c16b1⟩ | ⟨c16, H, c16b0, c16b1⟩ := H
    rotate_left
    ·
     obtain rfl := si_ H
     (try clear zK645)
     have zK645 := cz7 BK645.out
     go_wp2_with (first | (refine gc_ 85 rfl ?_; refine gl_ (some 24) Try.func85 #[.int .i64 a0_4] ?_; (with_reducible refine (spec_l9Time.calls a0_4 true _ A14.out).mono ?_); rintro e w' ⟨rfl, ⟨nd, rfl⟩⟩; refine ⟨_, rfl, ?_⟩))
     go_ret
     exact ⟨er_, qB HB⟩
    obtain rfl := si_ H
    (try clear zK645)
    have zK645 := cz7 BK645.out
    go_wp2_with (first | (refine gc_ 85 rfl ?_; refine gl_ (some 24) Try.func85 #[.int .i64 a0_4] ?_; (with_reducible refine (spec_l9Time.calls a0_4 true _ A14.out).mono ?_); rintro e w' ⟨rfl, ⟨nd, rfl⟩⟩; refine ⟨_, rfl, ?_⟩))
    go_ret
    exact ⟨er_, qB HB⟩
   replace H := bd_ H
   obtain ⟨t650, A20, H⟩ := H
   by_cases c21 : t650 = true
   rotate_left
   ·
    replace c21 := nf_ c21
    subst c21
    rw [if_neg (show ¬ (false = true) by decide)] at H
    obtain rfl := si_ H
    (try clear zK645)
    have zK645 := cz7 BK645.out
    go_wp2_with (first | (refine gc_ 83 rfl ?_; refine gl_ (some 37) Try.func83 #[.int .i64 a0_3, .int .i64 1, .int .i64 2] ?_; (with_reducible refine (spec_l1In.calls a0_3 1 2 false _ A20.out).mono ?_); rintro e w' ⟨rfl, ⟨nd, rfl⟩⟩; refine ⟨_, rfl, ?_⟩))
    go_ret
    exact ⟨er_, qB HB⟩
   subst c21
   rw [if_pos rfl] at H
   replace H := ie_ H
   obtain ⟨-, H, c22b0, c22b1⟩ | ⟨c22, H, c22b0, c22b1⟩ := H
   rotate_left
   ·
    obtain rfl := si_ H
    (try clear zK645)
    have zK645 := cz7 BK645.out
    go_wp2_with (first | (refine gc_ 83 rfl ?_; refine gl_ (some 37) Try.func83 #[.int .i64 a0_3, .int .i64 1, .int .i64 2] ?_; (with_reducible refine (spec_l1In.calls a0_3 1 2 true _ A20.out).mono ?_); rintro e w' ⟨rfl, ⟨nd, rfl⟩⟩; refine ⟨_, rfl, ?_⟩))
    go_ret
    exact ⟨er_, qB HB⟩
   replace H := bd_ H
   obtain ⟨t651, A23, H⟩ := H
   by_cases c24 : t651 = true
   ·
    subst c24
    rw [if_pos rfl] at H
    obtain rfl := si_ H
    (try clear zK645)
    have zK645 := cz7 BK645.out
    go_wp2_with (first | (refine gc_ 83 rfl ?_; refine gl_ (some 37) Try.func83 #[.int .i64 a0_3, .int .i64 1, .int .i64 2] ?_; (with_reducible refine (spec_l1In.calls a0_3 1 2 true _ A20.out).mono ?_); rintro e w' ⟨rfl, ⟨nd, rfl⟩⟩; refine ⟨_, rfl, ?_⟩) | (go_at_call 83; (with_reducible refine (spec_l1In.calls a0_5 1 9999 true _ A23.out).mono ?_); rintro e w' ⟨rfl, ⟨nd, rfl⟩⟩))
    go_ret
    exact ⟨er_, qB HB⟩
   replace c24 := nf_ c24
   subst c24
   rw [if_neg (show ¬ (false = true) by decide)] at H
   obtain rfl := si_ H
   (try clear zK645)
   have zK645 := cz7 BK645.out
   go_wp2_with (first | (refine gc_ 83 rfl ?_; refine gl_ (some 37) Try.func83 #[.int .i64 a0_3, .int .i64 1, .int .i64 2] ?_; (with_reducible refine (spec_l1In.calls a0_3 1 2 true _ A20.out).mono ?_); rintro e w' ⟨rfl, ⟨nd, rfl⟩⟩; refine ⟨_, rfl, ?_⟩) | (go_at_call 83; (with_reducible refine (spec_l1In.calls a0_5 1 9999 false _ A23.out).mono ?_); rintro e w' ⟨rfl, ⟨nd, rfl⟩⟩))
   go_ret
   exact ⟨er_, qB HB⟩

/-! ### spec_PutText: function 88 -/
def spec_PutText.f (k : Nat) (l0 : List Int) (a1 : ByteArray) : Option (List Int) := (some (([] : List Int) : List Int)).bind fun y652 => (if y652.length + l0.length < 140737488355328 then ((some (y652 ++ l0 : List Int)).bind fun y655 => ((spec_TextOk.f k a1).bind fun t658 => (if t658 = true then (if y655.length < 140737488355328 then ((some (y655 ++ [((a1.size : Int)) % 256] : List Int)).bind fun y659 => (if y659.length + a1.size < 140737488355328 then (some (y659 ++ bytesOf a1)) else (none))) else (none)) else (some y655)))) else (none))
theorem spec_PutText.mono : ∀ a0 a1 k, LeO (spec_PutText.f k a0 a1) (spec_PutText.f (k + 1) a0 a1) := by
 intro a0 a1 k
 unfold spec_PutText.f
 have m0 := @spec_TextOk.mono; exact mo_
set_option maxHeartbeats 8000000 in
set_option maxRecDepth 100000 in
theorem spec_PutText.calls (k : Nat) (A0 : Option Addr) (c0 : Nat) (l0 : List Int) (a1 : ByteArray) (r : List Int) (w : World) (hr0 : Kd.C (Kd.int .u8) w A0 l0.length l0) (hc0 : l0.length ≤ c0) (h : spec_PutText.f k l0 a1 = some r) :
  Calls Try.prog 88 #[.slice A0 l0.length c0, .string a1] w fun e w' => ∃ v0_ : Value, e = .returned (v0_) ∧ Kd.R (Kd.int .u8) 5 w' w.heap.size (fun _ => True) v0_ r ∧ Below w.heap.size w w' := by
 have HR0 := am_ hr0
 have HC0 := am_ hc0
 clear hr0 hc0
 have HB := Aside0.mk (Below.refl w.heap.size w)
 have H := h
 unfold spec_PutText.f at H
 clear h
 replace H := my_ (([] : List Int)) H
 obtain ⟨y652, Ny652, H⟩ := H
 (try dsimp only at H)
 replace H := ip_ H
 obtain ⟨c3, H, -⟩ := H
 have LMc3 := am_ c3
 clear c3
 replace H := my_ (y652 ++ l0) H
 obtain ⟨y655, Ny655, H⟩ := H
 (try dsimp only at H)
 replace H := bd_ H
 obtain ⟨t658, A4, H⟩ := H
 have HC5 := am_ H
 clear H
 go_enter Try.func88, Try.ntmps88
 go_upto_if 11 with (first | (refine gd_ 6 rfl ?_; refine l8_ 5 6 ([] : List Int) [] ?_; intro v653 w6 ho7 hb hg_ hnew_; clear hg_ hnew_; (first | rw [← Ny652.out] at ho7 | (simp only [Int.reduceToNat] at ho7; rw [← Ny652.out] at ho7)); have HO654 := am_ (Kd.R_lower ho7 (below_size (qB HB))); replace HB := bS_ HB hb; clear hb ho7) | ((with_reducible refine gate_builtin (b := .append) (xs := #[.tmp 6, .tmp 7]) rfl ?_); at_builtin; refine Kd.R_append_rows (Kd.int .u8) (w0 := w) w.heap.size rfl (.tmp 6) (.tmp 7) 22 5 (.int .u8 0) 1 rfl Try.underlying22 info5 rfl (by decide) (by omega) v653 y652 l0 _ _ _ (fun _ => True) (fun _ => False) rfl rfl ?aO ?aR (fun _ _ h => h) (fun _ h => h.elim) ?aF ?aB ?aS ?aL ?_; (case aR => exact qC (Kd.C_below HR0.out HB.out)); (case aB => exact (qB HB)); (case aF => exact (fun _ _ => trivial)); (case aO => exact (qR HO654)); (case aS => exact (below_size (qB HB))); (case aL => have := LMc3.out; omega); intro v656 w8 ho hb hg hat; rw [← Ny655.out] at ho; replace HB := am_ (hb); have HO657 := am_ (ho); clear HO654; clear ho hb hg hat) | (refine gc_ 86 rfl ?_; refine gl_ (some 10) Try.func86 #[.string a1] ?_; (with_reducible refine (spec_TextOk.calls k a1 t658 _ A4.out).mono ?_); rintro e w' ⟨rfl, ⟨nd, rfl⟩⟩; refine ⟨_, rfl, ?_⟩))
 (try simp only [Act.put, List.setIfInBounds_toArray, List.set_cons_zero, List.set_cons_succ])
 (try (rw [drewN_self w8]; generalize hq_ : World.drewN w8 _ = w8; have n0_ : Aside0 (Kd.R (Kd.int .u8) 5 w8 w.heap.size (fun _ => True) v656 y655) := ⟨by rw [← hq_]; exact (qR HO657)⟩; have n1_ : Aside0 (Below w.heap.size w w8) := ⟨by rw [← hq_]; exact (qB HB)⟩; clear HO657 HB hq_; have HO657 := n0_; have HB := n1_; clear n0_ n1_))
 have H := HC5.out
 clear HC5
 by_cases c9 : t658 = true
 rotate_left
 ·
  replace c9 := nf_ c9
  subst c9
  rw [if_neg (show ¬ (false = true) by decide)] at H
  obtain rfl := si_ H
  go_wp2
  go_ret
  exact ⟨_, er_, qR HO657, qB HB⟩
 subst c9
 rw [if_pos rfl] at H
 replace H := ip_ H
 obtain ⟨c10, H, -⟩ := H
 have LMc10 := am_ c10
 clear c10
 replace H := my_ (y655 ++ [((a1.size : Int)) % 256]) H
 obtain ⟨y659, Ny659, H⟩ := H
 (try dsimp only at H)
 replace H := ip_ H
 obtain ⟨c11, H, -⟩ := H
 have LMc11 := am_ c11
 clear c11
 obtain ⟨y662, hy662⟩ : ∃ y_ : List Int, y_ = (y659 ++ bytesOf a1) := ⟨_, rfl⟩
 rw [← hy662] at H
 have Ny662 := am_ hy662
 clear hy662
 obtain rfl := si_ H
 go_wp2_with (first | ((with_reducible refine gate_builtin (b := .append) (xs := #[.tmp 13, .tmp 17]) rfl ?_); at_builtin; refine Kd.R_append (Kd.int .u8) (w0 := w) w.heap.size rfl (.tmp 13) (.tmp 17) 22 5 (.int .u8 0) 1 rfl Try.underlying22 info5 rfl (by decide) (by omega) v656 y655 (((a1.size : Int)) % 256) [.int .u8 (((a1.size : Int)) % 256)] (fun _ => True) (fun _ => False) rfl rfl ?aP (fun _ hk => hk.elim) ?aF ?aO ?aB ?aS ?aL ?_; (case aP => exact rfl); (case aB => exact (qB HB)); (case aF => exact (fun _ _ => trivial)); (case aO => exact (qR HO657)); (case aS => exact (below_size (qB HB))); (case aL => have := LMc10.out; omega); intro v660 w12 ho hb hg hat; rw [← Ny659.out] at ho; replace HB := am_ (hb); have HO661 := am_ (ho); clear HO657; clear ho hb hg hat) | (at_builtin; refine print_append_str (w0 := w) w.heap.size rfl (.tmp 18) _ 22 9 5 rfl Try.underlying22 Try.underlying9 info5 v660 y659 a1 rfl rfl ?aO ?aB ?aS ?aL ?_; (case aB => exact (qB HB)); (case aO => exact (Kd.own_of_R (qR HO661))); (case aS => exact (below_size (qB HB))); (case aL => have := LMc11.out; omega); intro v663 w13 ho0 hb hg; have ho := Kd.R_of_own (h1 := fun _ => rfl) (ok := fun _ => True) ho0 (fun _ _ => trivial); clear ho0; have hat := True.intro; rw [← Ny662.out] at ho; change Kd.R (Kd.int .u8) 5 w13 w.heap.size (fun _ => True) v663 y662 at ho; replace HB := am_ (hb); have HO664 := am_ (ho); clear HO661; clear ho hb hg hat))
 go_ret
 exact ⟨_, er_, qR HO664, qB HB⟩
end Go.Proofs.Ytiffahfpfgnjnaa.PFnCtls
