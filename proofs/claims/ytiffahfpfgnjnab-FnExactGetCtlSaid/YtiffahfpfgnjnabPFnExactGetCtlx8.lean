-- Written by a program of this session (myprint.py, over the kit's print): contracts of FnExactGetCtl
import Derived.Test.YtiffahfpfgnjnabPFnExactGetCtlx0
import Derived.Test.YtiffahfpfgnjnabPFnExactGetCtlx4
import Derived.Test.YtiffahfpfgnjnabPFnExactGetCtlx7
namespace Go.Proofs.Ytiffahfpfgnjnab.PFnExactGetCtl
open Go.RowKit Go.Proofs.YtiffahfpfgnjnabW.PrintWords Go.Proofs.YtiffahfpfgnjnabW.PrintLast Go.Proofs.YtiffahfpfgnjnabW.PrintMore Go.Proofs.YtiffahfpfgnjnabV
attribute [local go_sem] max2_int min2_int max_two min_two max_three min_three max_four min_four   -- for this text's walks alone
set_option linter.unusedVariables false
set_option linter.unusedSimpArgs false

/-! ### spec_CtlOk: function 69 -/
mutual
def spec_CtlOk.j0 : Nat → Bool → Int → Int → Int → Int → Int → Bool → Int → List (S126) → Option (Bool)
 | 0, _, _, _, _, _, _, _, _, _ => none
 | k + 1, x13, x245000, x245001, x245002, x245003, x245004, x245005, x245006, x245007 => if x13 = true then (some false) else (if x245000 = 1 then (spec_CtlOk.l0 k 0 x245000 x245001 x245002 x245003 x245004 x245005 x245006 x245007) else (if x245004 = 0 then (if x245005 = true then (some false) else (if x245006 = 0 then (if (x245007.length : Int) = 0 then (if x245000 = 2 then ((spec_l1In.f x245003 0 20).bind fun t254 => (if t254 = true then (some true) else (if x245000 = 3 then (some (x245003 == 0)) else (some false)))) else (if x245000 = 3 then (some (x245003 == 0)) else (some false))) else (some false)) else (some false))) else (some false)))
def spec_CtlOk.l0 : Nat → Int → Int → Int → Int → Int → Int → Bool → Int → List (S126) → Option (Bool)
 | 0, _, _, _, _, _, _, _, _, _ => none
 | k + 1, x3, x245000, x245001, x245002, x245003, x245004, x245005, x245006, x245007 => if x3 < (x245007.length : Int) then (if 0 ≤ x3 then ((spec_PutItem.f k ((rd_T126 x245007 x3).f0) ((rd_T126 x245007 x3).f1.f0) ((rd_T126 x245007 x3).f1.f1) ((rd_T126 x245007 x3).f1.f2) ((rd_T126 x245007 x3).f1.f3) ((rd_T126 x245007 x3).f1.f4) ((rd_T126 x245007 x3).f1.f5) ((rd_T126 x245007 x3).f1.f6) ((rd_T126 x245007 x3).f1.f7) ((rd_T126 x245007 x3).f2.f0) ((rd_T126 x245007 x3).f2.f1) ((rd_T126 x245007 x3).f2.f2) ((rd_T126 x245007 x3).f2.f3) ((rd_T126 x245007 x3).f2.f4) ((rd_T126 x245007 x3).f2.f5) ((rd_T126 x245007 x3).f2.f6)).bind fun t248 => (if (t248.length : Int) = 0 then (some false) else (spec_CtlOk.l0 k (wrap64 (x3 + 1)) x245000 x245001 x245002 x245003 x245004 x245005 x245006 x245007))) else (none)) else ((spec_l1In.f x245004 1 20).bind fun t251 => (if t251 = true then ((spec_l1In.f x245003 0 (wrap64 (x245004 - 1))).bind fun t252 => (if t252 = true then ((spec_l1In.f x245006 0 65535).bind fun t253 => (if t253 = true then (some (decide ((x245007.length : Int) ≤ 2))) else (some false))) else (some false))) else (some false)))
end
def spec_CtlOk.f (k : Nat) (a0_0 : Int) (a0_1 : Int) (a0_2 : Int) (a0_3 : Int) (a0_4 : Int) (a0_5 : Bool) (a0_6 : Int) (l0_7 : List (S126)) : Option (Bool) := (spec_l1In.f a0_1 0 1).bind fun t245 => (if t245 = true then ((spec_l1In.f a0_2 1 60000).bind fun t246 => (spec_CtlOk.j0 k (!t246) a0_0 a0_1 a0_2 a0_3 a0_4 a0_5 a0_6 l0_7)) else (spec_CtlOk.j0 k true a0_0 a0_1 a0_2 a0_3 a0_4 a0_5 a0_6 l0_7))
theorem spec_CtlOk.mono_l : ∀ k, (∀ y0 y1 y2 y3 y4 y5 y6 y7 y8, LeO (spec_CtlOk.j0 k y0 y1 y2 y3 y4 y5 y6 y7 y8) (spec_CtlOk.j0 (k + 1) y0 y1 y2 y3 y4 y5 y6 y7 y8)) ∧ (∀ y0 y1 y2 y3 y4 y5 y6 y7 y8, LeO (spec_CtlOk.l0 k y0 y1 y2 y3 y4 y5 y6 y7 y8) (spec_CtlOk.l0 (k + 1) y0 y1 y2 y3 y4 y5 y6 y7 y8))
 | 0 => ⟨fun _ _ _ _ _ _ _ _ _ r h => by simp [spec_CtlOk.j0] at h, fun _ _ _ _ _ _ _ _ _ r h => by simp [spec_CtlOk.l0] at h⟩
 | k + 1 => by
  obtain ⟨ih0, ih1⟩ := spec_CtlOk.mono_l k
  refine ⟨?_, ?_⟩
  ·
   intro y0 y1 y2 y3 y4 y5 y6 y7 y8
   unfold spec_CtlOk.j0
   have m0 := @spec_PutItem.mono; exact mo_
  ·
   intro y0 y1 y2 y3 y4 y5 y6 y7 y8
   unfold spec_CtlOk.l0
   have m0 := @spec_PutItem.mono; exact mo_
theorem spec_CtlOk.mono : ∀ a0 a1 a2 a3 a4 a5 a6 a7 k, LeO (spec_CtlOk.f k a0 a1 a2 a3 a4 a5 a6 a7) (spec_CtlOk.f (k + 1) a0 a1 a2 a3 a4 a5 a6 a7) := by
 intro a0 a1 a2 a3 a4 a5 a6 a7 k
 obtain ⟨ih0, ih1⟩ := spec_CtlOk.mono_l k
 unfold spec_CtlOk.f
 have m0 := @spec_PutItem.mono; exact mo_
set_option maxHeartbeats 8000000 in
set_option maxRecDepth 100000 in
theorem spec_CtlOk.calls (k : Nat) (a0_0 : Int) (a0_1 : Int) (a0_2 : Int) (a0_3 : Int) (a0_4 : Int) (a0_5 : Bool) (a0_6 : Int) (A0_7 : Option Addr) (c0_7 : Nat) (l0_7 : List (S126)) (r : Bool) (w : World) (hr0_7 : Kd.C k126 w A0_7 l0_7.length l0_7) (hc0_7 : l0_7.length ≤ c0_7) (h : spec_CtlOk.f k a0_0 a0_1 a0_2 a0_3 a0_4 a0_5 a0_6 l0_7 = some r) :
  Calls Try.prog 69 #[.agg #[.int .i64 a0_0, .int .i64 a0_1, .int .i64 a0_2, .int .i64 a0_3, .int .i64 a0_4, .bool a0_5, .int .i64 a0_6, .slice A0_7 l0_7.length c0_7]] w fun e w' => e = .returned (.bool r) ∧ Below w.heap.size w w' := by
 have hu63 := Try.underlying63
 have hu126 := Try.underlying126
 have HR0_7 := Aside0.mk hr0_7
 have HC0_7 := Aside0.mk hc0_7
 clear hr0_7 hc0_7
 have HB := Aside0.mk (Below.refl w.heap.size w)
 have H := h
 unfold spec_CtlOk.f at H
 clear h
 have HC2 := Aside0.mk H
 clear H
 go_enter Try.func69, Try.ntmps69
 go_upto_region 1 with (first | ((with_reducible refine gate_dst (N := 1) rfl ?_); (try (refine gate_guard (by rfl) ?_; dsimp only)); refine bx_ (N := 1) (cs := #[.int .i64 a0_0, .int .i64 a0_1, .int .i64 a0_2, .int .i64 a0_3, .int .i64 a0_4, .bool a0_5, .int .i64 a0_6, .slice A0_7 l0_7.length c0_7]) (t := 63) ?_; intro gb244 hg w3 hbox hb; have BK244 := am_ (hbox); have GW244 := gA_ hg HB; have GE244 := GW244; have IGE244 := gI_ GE244; replace HB := bS_ HB hb; clear hb hbox hg))
 (try simp only [Act.put, List.setIfInBounds_toArray, List.set_cons_zero, List.set_cons_succ])
 go_cut [13] (fun v13 wc => ∃ (kq : Nat) (x13_1 : Bool), v13 = .bool x13_1 ∧ Aside0 (spec_CtlOk.j0 kq x13_1 a0_0 a0_1 a0_2 a0_3 a0_4 a0_5 a0_6 l0_7 = some r) ∧ Aside0 (kq ≤ k) ∧ Aside0 (wc.heap[gb244]? = some (.cells #[.int .i64 a0_0, .int .i64 a0_1, .int .i64 a0_2, .int .i64 a0_3, .int .i64 a0_4, .bool a0_5, .int .i64 a0_6, (.slice A0_7 l0_7.length c0_7)] 63 (0, 0))) ∧ Aside0 (Below w.heap.size w wc))
 case first =>
  have H := HC2.out
  clear HC2
  replace H := bd_ H
  obtain ⟨t245, A4, H⟩ := H
  by_cases c5 : t245 = true
  rotate_left
  ·
   replace c5 := Bool.eq_false_iff.mpr c5
   subst c5
   rw [if_neg (show ¬ (false = true) by decide)] at H
   have H' := Aside0.mk H
   clear H
   (try clear zK244)
   have zK244 := cz8 BK244.out
   go_wp2_with (first | ((with_reducible refine gate_callee (f := 42) rfl ?_); refine gl_ (some 6) Try.func42 #[.int .i64 a0_1, .int .i64 0, .int .i64 1] ?_; (with_reducible refine (spec_l1In.calls a0_1 0 1 false _ A4.out).mono ?_); rintro e w' ⟨rfl, ⟨nd, rfl⟩⟩; refine ⟨_, rfl, ?_⟩))
   go_meet
   case rel => exact ⟨_, (true), eqq_, H', ⟨by first | omega | exact Nat.le_refl _⟩, ⟨qK BK244⟩, ⟨qB HB⟩⟩
  subst c5
  rw [if_pos rfl] at H
  replace H := bd_ H
  obtain ⟨t246, A6, H⟩ := H
  have H' := Aside0.mk H
  clear H
  (try clear zK244)
  have zK244 := cz8 BK244.out
  go_wp2_with (first | ((with_reducible refine gate_callee (f := 42) rfl ?_); refine gl_ (some 6) Try.func42 #[.int .i64 a0_1, .int .i64 0, .int .i64 1] ?_; (with_reducible refine (spec_l1In.calls a0_1 0 1 true _ A4.out).mono ?_); rintro e w' ⟨rfl, ⟨nd, rfl⟩⟩; refine ⟨_, rfl, ?_⟩) | (go_at_call 42; (with_reducible refine (spec_l1In.calls a0_2 1 60000 t246 _ A6.out).mono ?_); rintro e w' ⟨rfl, ⟨nd, rfl⟩⟩))
  go_meet
  case rel => exact ⟨_, (!t246), eqq_, H', ⟨by first | omega | exact Nat.le_refl _⟩, ⟨qK BK244⟩, ⟨qB HB⟩⟩
 case rest =>
  clear HC2
  try clear p2
  try clear c4
  try clear c5
  try clear c6
  (try clear zK244)
  (try clear zK244)
  (try clear f7)
  (try clear f8)
  obtain ⟨kq, x13_1, rfl, HA, HJ1, BK244, HB⟩ := hcut
  cases kq with
  | zero => exact absurd HA.out (by simp [spec_CtlOk.j0])
  | succ kj1 =>
   have H := HA.out
   clear HA
   simp only [spec_CtlOk.j0] at H
   by_cases c9 : x13_1 = true
   ·
    subst c9
    rw [if_pos rfl] at H
    obtain rfl := Option.some.inj H
    go_wp2
    go_ret
    exact ⟨er_, qB HB⟩
   replace c9 := Bool.eq_false_iff.mpr c9
   subst c9
   rw [if_neg (show ¬ (false = true) by decide)] at H
   replace H := ie_ H
   obtain ⟨-, H, c10b0, c10b1⟩ | ⟨c10, H, c10b0, c10b1⟩ := H
   rotate_left
   ·
    replace H := ie_ H
    obtain ⟨-, H, c30b0, c30b1⟩ | ⟨c30, H, c30b0, c30b1⟩ := H
    rotate_left
    ·
     obtain rfl := Option.some.inj H
     (try clear zK244)
     have zK244 := cz8 BK244.out
     go_wp2
     go_ret
     exact ⟨er_, qB HB⟩
    by_cases c31 : a0_5 = true
    ·
     subst c31
     rw [if_pos rfl] at H
     obtain rfl := Option.some.inj H
     (try clear zK244)
     have zK244 := cz8 BK244.out
     go_wp2
     go_ret
     exact ⟨er_, qB HB⟩
    replace c31 := Bool.eq_false_iff.mpr c31
    subst c31
    rw [if_neg (show ¬ (false = true) by decide)] at H
    replace H := ie_ H
    obtain ⟨-, H, c33b0, c33b1⟩ | ⟨c33, H, c33b0, c33b1⟩ := H
    rotate_left
    ·
     obtain rfl := Option.some.inj H
     (try clear zK244)
     have zK244 := cz8 BK244.out
     go_wp2
     go_ret
     exact ⟨er_, qB HB⟩
    replace H := ie_ H
    obtain ⟨-, H, c34b0, c34b1⟩ | ⟨c34, H, c34b0, c34b1⟩ := H
    rotate_left
    ·
     have c34b2 : ¬ (l0_7 = []) := fun h_ => c34 (by rw [h_]; rfl)
     obtain rfl := Option.some.inj H
     (try clear zK244)
     have zK244 := cz8 BK244.out
     go_wp2
     go_ret
     exact ⟨er_, qB HB⟩
    replace H := ie_ H
    obtain ⟨-, H, c35b0, c35b1⟩ | ⟨c35, H, c35b0, c35b1⟩ := H
    rotate_left
    ·
     replace H := ie_ H
     obtain ⟨-, H, c42b0, c42b1⟩ | ⟨c42, H, c42b0, c42b1⟩ := H
     rotate_left
     ·
      obtain rfl := Option.some.inj H
      (try clear zK244)
      have zK244 := cz8 BK244.out
      go_wp2
      go_ret
      exact ⟨er_, qB HB⟩
     obtain rfl := Option.some.inj H
     (try clear zK244)
     have zK244 := cz8 BK244.out
     go_wp2
     go_ret
     exact ⟨er_, qB HB⟩
    replace H := bd_ H
    obtain ⟨t254, A36, H⟩ := H
    by_cases c37 : t254 = true
    ·
     subst c37
     rw [if_pos rfl] at H
     obtain rfl := Option.some.inj H
     (try clear zK244)
     have zK244 := cz8 BK244.out
     go_wp2_with (first | (go_at_call 42; (with_reducible refine (spec_l1In.calls a0_3 0 20 true _ A36.out).mono ?_); rintro e w' ⟨rfl, ⟨nd, rfl⟩⟩))
     go_ret
     exact ⟨er_, qB HB⟩
    replace c37 := Bool.eq_false_iff.mpr c37
    subst c37
    rw [if_neg (show ¬ (false = true) by decide)] at H
    replace H := ie_ H
    obtain ⟨-, H, c39b0, c39b1⟩ | ⟨c39, H, c39b0, c39b1⟩ := H
    rotate_left
    ·
     obtain rfl := Option.some.inj H
     (try clear zK244)
     have zK244 := cz8 BK244.out
     go_wp2_with (first | (go_at_call 42; (with_reducible refine (spec_l1In.calls a0_3 0 20 false _ A36.out).mono ?_); rintro e w' ⟨rfl, ⟨nd, rfl⟩⟩))
     go_ret
     exact ⟨er_, qB HB⟩
    obtain rfl := Option.some.inj H
    (try clear zK244)
    have zK244 := cz8 BK244.out
    go_wp2_with (first | (go_at_call 42; (with_reducible refine (spec_l1In.calls a0_3 0 20 false _ A36.out).mono ?_); rintro e w' ⟨rfl, ⟨nd, rfl⟩⟩))
    go_ret
    exact ⟨er_, qB HB⟩
   have H' := Aside0.mk H
   clear H
   (try clear zK244)
   have zK244 := cz8 BK244.out
   go_wp2
   go_loopg [3] kj1 (fun kq v3 w' => ∃ (x3_2 : Int), v3 = .int .i64 x3_2 ∧ Aside0 (spec_CtlOk.l0 kq x3_2 a0_0 a0_1 a0_2 a0_3 a0_4 a0_5 a0_6 l0_7 = some r) ∧ Aside0 (kq ≤ kj1) ∧ Aside0 (w'.heap[gb244]? = some (.cells #[.int .i64 a0_0, .int .i64 a0_1, .int .i64 a0_2, .int .i64 a0_3, .int .i64 a0_4, .bool a0_5, .int .i64 a0_6, (.slice A0_7 l0_7.length c0_7)] 63 (0, 0))) ∧ Aside0 (Below w.heap.size w w'))
   case atStart => exact ⟨(0), eqq_, H', ⟨Nat.le_refl _⟩, ⟨qK BK244⟩, ⟨qB HB⟩⟩
   case round =>
    clear H'
    try clear c1
    try clear p2
    try clear c4
    try clear c5
    try clear c6
    try clear c9
    try clear c10
    try clear c10b0
    try clear c10b1
    (try clear zK244)
    (try clear zK244)
    (try clear zK244)
    (try clear f11)
    (try clear f7)
    (try clear f8)
    try clear p2
    obtain ⟨x3_2, rfl, HA, HK2, BK244, HB⟩ := hrel
    cases gk with
    | zero => exact absurd HA.out (by simp [spec_CtlOk.l0])
    | succ k2 =>
     have H := HA.out
     clear HA
     simp only [spec_CtlOk.l0] at H
     replace H := id_ H
     obtain ⟨-, H, c12b0⟩ | ⟨-, H, c12b0⟩ := H
     rotate_left
     ·
      replace H := bd_ H
      obtain ⟨t251, A20, H⟩ := H
      by_cases c21 : t251 = true
      rotate_left
      ·
       replace c21 := Bool.eq_false_iff.mpr c21
       subst c21
       rw [if_neg (show ¬ (false = true) by decide)] at H
       obtain rfl := Option.some.inj H
       (try clear zK244)
       have zK244 := cz8 BK244.out
       go_wp2_with (first | ((with_reducible refine gate_callee (f := 42) rfl ?_); refine gl_ (some 34) Try.func42 #[.int .i64 a0_4, .int .i64 1, .int .i64 20] ?_; (with_reducible refine (spec_l1In.calls a0_4 1 20 false _ A20.out).mono ?_); rintro e w' ⟨rfl, ⟨nd, rfl⟩⟩; refine ⟨_, rfl, ?_⟩))
       go_ret
       exact ⟨er_, qB HB⟩
      subst c21
      rw [if_pos rfl] at H
      replace H := bd_ H
      obtain ⟨t252, A22, H⟩ := H
      by_cases c23 : t252 = true
      rotate_left
      ·
       replace c23 := Bool.eq_false_iff.mpr c23
       subst c23
       rw [if_neg (show ¬ (false = true) by decide)] at H
       obtain rfl := Option.some.inj H
       (try clear zK244)
       have zK244 := cz8 BK244.out
       go_wp2_with (first | ((with_reducible refine gate_callee (f := 42) rfl ?_); refine gl_ (some 34) Try.func42 #[.int .i64 a0_4, .int .i64 1, .int .i64 20] ?_; (with_reducible refine (spec_l1In.calls a0_4 1 20 true _ A20.out).mono ?_); rintro e w' ⟨rfl, ⟨nd, rfl⟩⟩; refine ⟨_, rfl, ?_⟩) | (go_at_call 42; (with_reducible refine (spec_l1In.calls a0_3 0 (wrap64 (a0_4 - 1)) false _ A22.out).mono ?_); rintro e w' ⟨rfl, ⟨nd, rfl⟩⟩))
       go_ret
       exact ⟨er_, qB HB⟩
      subst c23
      rw [if_pos rfl] at H
      replace H := bd_ H
      obtain ⟨t253, A24, H⟩ := H
      by_cases c25 : t253 = true
      ·
       subst c25
       rw [if_pos rfl] at H
       obtain rfl := Option.some.inj H
       (try clear zK244)
       have zK244 := cz8 BK244.out
       go_wp2_with (first | ((with_reducible refine gate_callee (f := 42) rfl ?_); refine gl_ (some 34) Try.func42 #[.int .i64 a0_4, .int .i64 1, .int .i64 20] ?_; (with_reducible refine (spec_l1In.calls a0_4 1 20 true _ A20.out).mono ?_); rintro e w' ⟨rfl, ⟨nd, rfl⟩⟩; refine ⟨_, rfl, ?_⟩) | (go_at_call 42; (with_reducible refine (spec_l1In.calls a0_3 0 (wrap64 (a0_4 - 1)) true _ A22.out).mono ?_); rintro e w' ⟨rfl, ⟨nd, rfl⟩⟩) | (go_at_call 42; (with_reducible refine (spec_l1In.calls a0_6 0 65535 true _ A24.out).mono ?_); rintro e w' ⟨rfl, ⟨nd, rfl⟩⟩))
       go_ret
       exact ⟨er_, qB HB⟩
      replace c25 := Bool.eq_false_iff.mpr c25
      subst c25
      rw [if_neg (show ¬ (false = true) by decide)] at H
      obtain rfl := Option.some.inj H
      (try clear zK244)
      have zK244 := cz8 BK244.out
      go_wp2_with (first | ((with_reducible refine gate_callee (f := 42) rfl ?_); refine gl_ (some 34) Try.func42 #[.int .i64 a0_4, .int .i64 1, .int .i64 20] ?_; (with_reducible refine (spec_l1In.calls a0_4 1 20 true _ A20.out).mono ?_); rintro e w' ⟨rfl, ⟨nd, rfl⟩⟩; refine ⟨_, rfl, ?_⟩) | (go_at_call 42; (with_reducible refine (spec_l1In.calls a0_3 0 (wrap64 (a0_4 - 1)) true _ A22.out).mono ?_); rintro e w' ⟨rfl, ⟨nd, rfl⟩⟩) | (go_at_call 42; (with_reducible refine (spec_l1In.calls a0_6 0 65535 false _ A24.out).mono ?_); rintro e w' ⟨rfl, ⟨nd, rfl⟩⟩))
      go_ret
      exact ⟨er_, qB HB⟩
     replace H := ip_ H
     obtain ⟨-, H, c13b0⟩ := H
     replace H := bd_ H
     obtain ⟨t248, A14, H⟩ := H
     have HC15 := Aside0.mk H
     clear H
     (try clear zK244)
     have zK244 := cz8 BK244.out
     have p247 : 0 ≤ (x3_2 : Int) := od_
     have q247 : x3_2 < (l0_7.length : Int) := od_
     obtain ⟨ad247, e247, hx247_0, hx247_1, hx247_2, hx247_3, hx247_4, hx247_5, hx247_6, hx247_7, hx247_8, hx247_9, hx247_10, hx247_11, hx247_12, hx247_13, hx247_14, hx247_15⟩ := at_T126 HR0_7.out x3_2 p247 q247
     cases e247
     replace hx247_0 := lb_ HB hx247_0
     replace hx247_1 := lb_ HB hx247_1
     replace hx247_2 := lb_ HB hx247_2
     replace hx247_3 := lb_ HB hx247_3
     replace hx247_4 := lb_ HB hx247_4
     replace hx247_5 := lb_ HB hx247_5
     replace hx247_6 := lb_ HB hx247_6
     replace hx247_7 := lb_ HB hx247_7
     replace hx247_8 := lb_ HB hx247_8
     replace hx247_9 := lb_ HB hx247_9
     replace hx247_10 := lb_ HB hx247_10
     replace hx247_11 := lb_ HB hx247_11
     replace hx247_12 := lb_ HB hx247_12
     replace hx247_13 := lb_ HB hx247_13
     replace hx247_14 := lb_ HB hx247_14
     replace hx247_15 := lb_ HB hx247_15
     replace p247 := eq_true p247
     replace q247 := eq_true q247
     go_upto_if 31 with (first | ((with_reducible refine gate_callee (f := 105) rfl ?_); refine gl_ (some 29) Try.func105 #[.agg #[.int .i64 ((rd_T126 l0_7 x3_2).f0), .int .i64 ((rd_T126 l0_7 x3_2).f1.f0), .string ((rd_T126 l0_7 x3_2).f1.f1), .int .i64 ((rd_T126 l0_7 x3_2).f1.f2), .int .i64 ((rd_T126 l0_7 x3_2).f1.f3), .int .i64 ((rd_T126 l0_7 x3_2).f1.f4), .string ((rd_T126 l0_7 x3_2).f1.f5), .int .i64 ((rd_T126 l0_7 x3_2).f1.f6), .int .i64 ((rd_T126 l0_7 x3_2).f1.f7), .int .i64 ((rd_T126 l0_7 x3_2).f2.f0), .string ((rd_T126 l0_7 x3_2).f2.f1), .int .i64 ((rd_T126 l0_7 x3_2).f2.f2), .int .i64 ((rd_T126 l0_7 x3_2).f2.f3), .int .i64 ((rd_T126 l0_7 x3_2).f2.f4), .int .i64 ((rd_T126 l0_7 x3_2).f2.f5), .int .i64 ((rd_T126 l0_7 x3_2).f2.f6)]] ?_; (with_reducible refine (spec_PutItem.calls k2 ((rd_T126 l0_7 x3_2).f0) ((rd_T126 l0_7 x3_2).f1.f0) ((rd_T126 l0_7 x3_2).f1.f1) ((rd_T126 l0_7 x3_2).f1.f2) ((rd_T126 l0_7 x3_2).f1.f3) ((rd_T126 l0_7 x3_2).f1.f4) ((rd_T126 l0_7 x3_2).f1.f5) ((rd_T126 l0_7 x3_2).f1.f6) ((rd_T126 l0_7 x3_2).f1.f7) ((rd_T126 l0_7 x3_2).f2.f0) ((rd_T126 l0_7 x3_2).f2.f1) ((rd_T126 l0_7 x3_2).f2.f2) ((rd_T126 l0_7 x3_2).f2.f3) ((rd_T126 l0_7 x3_2).f2.f4) ((rd_T126 l0_7 x3_2).f2.f5) ((rd_T126 l0_7 x3_2).f2.f6) t248 _ A14.out).mono ?_); rintro e w17 ⟨v249, rfl, ho0, hb⟩; refine ⟨_, rfl, ?_⟩; have HO250 := am_ (Kd.R_lower ho0 (below_size (qB HB))); replace BK244 := bK_ BK244 hb; replace HB := bS_ HB hb; (try clear hb); (try clear ho0); obtain ⟨Ao18, co18, eo18⟩ := Kd.R_slice HO250.out; subst eo18))
     (try simp only [Act.put, List.setIfInBounds_toArray, List.set_cons_zero, List.set_cons_succ])
     have H := HC15.out
     clear HC15
     replace H := ie_ H
     obtain ⟨-, H, c19b0, c19b1⟩ | ⟨c19, H, c19b0, c19b1⟩ := H
     ·
      (first | rw [c19b0] | rw [c19b1] | (simp only [i64_w, i32_w]; rw [c19b0]) | skip)
      obtain rfl := Option.some.inj H
      go_wp2
      go_ret
      exact ⟨er_, qB HB⟩
     have c19b2 : ¬ (t248 = []) := fun h_ => c19 (by rw [h_]; rfl)
     (first | rw [c19b0] | rw [c19b1] | rw [c19b2] | (simp only [i64_w, i32_w]; rw [c19b0]) | skip)
     have H' := Aside0.mk H
     clear H
     go_wp2
     go_roundg k2
     case measure => have := HJ1.out; have := HK2.out; omega
     case rel => exact ⟨(wrap64 (x3_2 + 1)), eqq_, H', ⟨by have := HJ1.out; have := HK2.out; omega⟩, ⟨qK BK244⟩, ⟨qB HB⟩⟩

/-! ### spec_Sum: function 107 -/
mutual
def spec_Sum.l0 : Nat → List Int → Int → Int → Option (Int)
 | 0, _, _, _ => none
 | k + 1, x0, x3, x4 => if x4 < (x0.length : Int) then (if 0 ≤ x4 then (spec_Sum.l1 k x0 (Go.bits .xor .i64 x3 (wrap64 ((wrap64 (rd x0 x4)) * 256))) x4 0) else (none)) else (some (Go.bits .and .i64 x3 65535))
def spec_Sum.l1 : Nat → List Int → Int → Int → Int → Option (Int)
 | 0, _, _, _, _ => none
 | k + 1, x0, x3, x4, x5 => if x5 < 8 then (if (wrap64 (x3 * 2)) > 65535 then (spec_Sum.l1 k x0 (Go.bits .xor .i64 (wrap64 (x3 * 2)) 69665) x4 (wrap64 (x5 + 1))) else (spec_Sum.l1 k x0 (wrap64 (x3 * 2)) x4 (wrap64 (x5 + 1)))) else (spec_Sum.l0 k x0 x3 (wrap64 (x4 + 1)))
end
def spec_Sum.f (k : Nat) (l0 : List Int) : Option (Int) := spec_Sum.l0 k l0 65535 0
theorem spec_Sum.mono_l : ∀ k, (∀ y0 y1 y2, LeO (spec_Sum.l0 k y0 y1 y2) (spec_Sum.l0 (k + 1) y0 y1 y2)) ∧ (∀ y0 y1 y2 y3, LeO (spec_Sum.l1 k y0 y1 y2 y3) (spec_Sum.l1 (k + 1) y0 y1 y2 y3))
 | 0 => ⟨fun _ _ _ r h => by simp [spec_Sum.l0] at h, fun _ _ _ _ r h => by simp [spec_Sum.l1] at h⟩
 | k + 1 => by
  obtain ⟨ih0, ih1⟩ := spec_Sum.mono_l k
  refine ⟨?_, ?_⟩
  ·
   intro y0 y1 y2
   unfold spec_Sum.l0
   exact mo_
  ·
   intro y0 y1 y2 y3
   unfold spec_Sum.l1
   exact mo_
theorem spec_Sum.mono : ∀ a0 k, LeO (spec_Sum.f k a0) (spec_Sum.f (k + 1) a0) := by
 intro a0 k
 obtain ⟨ih0, ih1⟩ := spec_Sum.mono_l k
 unfold spec_Sum.f
 exact mo_
set_option maxHeartbeats 8000000 in
set_option maxRecDepth 100000 in
theorem spec_Sum.calls (k : Nat) (A0 : Option Addr) (c0 : Nat) (l0 : List Int) (r : Int) (w : World) (hr0 : Kd.C (Kd.int .u8) w A0 l0.length l0) (hc0 : l0.length ≤ c0) (h : spec_Sum.f k l0 = some r) :
  Calls Try.prog 107 #[.slice A0 l0.length c0] w fun e w' => e = .returned (.int .i64 r) ∧ Drawn0 w w' := by
 have HR0 := Aside0.mk hr0
 have HC0 := Aside0.mk hc0
 clear hr0 hc0
 have H : (spec_Sum.l0 k l0 65535 0) = some r := h
 clear h
 have H' := Aside0.mk H
 clear H
 go_enter Try.func107, Try.ntmps107
 go_wp2
 go_loopg [3, 4] k (fun kq v3 v4 w' => ∃ (x3_1 : Int) (x4_1 : Int), v3 = .int .i64 x3_1 ∧ v4 = .int .i64 x4_1 ∧ Aside0 (spec_Sum.l0 kq l0 x3_1 x4_1 = some r) ∧ Aside0 (kq ≤ k) ∧ Drawn0 w w')
 case atStart => exact ⟨(65535), (0), eqq_, eqq_, H', ⟨Nat.le_refl _⟩, by repeat (first | exact Drawn0.refl _ | apply Drawn0.step)⟩
 case round =>
  clear H'
  try clear c1
  obtain ⟨x3_1, x4_1, rfl, rfl, HA, HK1, ⟨m1, rfl⟩⟩ := hrel
  cases gk with
  | zero => exact absurd HA.out (by simp [spec_Sum.l0])
  | succ k1 =>
   have H := HA.out
   clear HA
   simp only [spec_Sum.l0] at H
   replace H := id_ H
   obtain ⟨-, H, c2b0⟩ | ⟨-, H, c2b0⟩ := H
   rotate_left
   ·
    obtain rfl := Option.some.inj H
    go_wp2
    go_ret
    exact ⟨by first | rfl | (simp; done) | (simp [*]; done), by repeat (first | exact Drawn0.refl _ | apply Drawn0.step)⟩
   replace H := ip_ H
   obtain ⟨-, H, c3b0⟩ := H
   have H' := Aside0.mk H
   clear H
   have p255 : 0 ≤ (x4_1 : Int) := od_
   have q255 : x4_1 < (l0.length : Int) := od_
   obtain ⟨ad255, e255, hx255_0⟩ := Kd.at_int HR0.out x4_1 p255 q255
   cases e255
   replace p255 := eq_true p255
   replace q255 := eq_true q255
   go_wp2
   go_loopg [3, 5] k1 (fun kq v3 v5 w' => ∃ (x3_2 : Int) (x5_2 : Int), v3 = .int .i64 x3_2 ∧ v5 = .int .i64 x5_2 ∧ Aside0 (spec_Sum.l1 kq l0 x3_2 x4_1 x5_2 = some r) ∧ Aside0 (kq ≤ k1) ∧ Drawn0 w w')
   case atStart => exact ⟨(Go.bits .xor .i64 x3_1 (wrap64 ((wrap64 (rd l0 x4_1)) * 256))), (0), eqq_, eqq_, H', ⟨Nat.le_refl _⟩, by repeat (first | exact Drawn0.refl _ | apply Drawn0.step)⟩
   case round =>
    clear H'
    try clear c1
    try clear c2
    try clear c2b0
    try clear p2
    try clear q2
    try clear hx2
    try clear c3
    try clear c3b0
    try clear hx255_0
    try clear p255
    try clear q255
    obtain ⟨x3_2, x5_2, rfl, rfl, HA, HK2, ⟨m2, rfl⟩⟩ := hrel
    cases gk with
    | zero => exact absurd HA.out (by simp [spec_Sum.l1])
    | succ k2 =>
     have H := HA.out
     clear HA
     simp only [spec_Sum.l1] at H
     replace H := id_ H
     obtain ⟨-, H, c4b0⟩ | ⟨-, H, c4b0⟩ := H
     rotate_left
     ·
      have H' := Aside0.mk H
      clear H
      go_wp2
      go_roundg k2
      case measure => have := HK1.out; have := HK2.out; omega
      case rel => exact ⟨(x3_2), (wrap64 (x4_1 + 1)), eqq_, eqq_, H', ⟨by have := HK1.out; have := HK2.out; omega⟩, by repeat (first | exact Drawn0.refl _ | apply Drawn0.step)⟩
     replace H := id_ H
     obtain ⟨-, H, c5b0⟩ | ⟨-, H, c5b0⟩ := H
     ·
      have H' := Aside0.mk H
      clear H
      go_wp2
      go_roundg k2
      case measure => have := HK1.out; have := HK2.out; omega
      case rel => exact ⟨(Go.bits .xor .i64 (wrap64 (x3_2 * 2)) 69665), (wrap64 (x5_2 + 1)), eqq_, eqq_, H', ⟨by have := HK1.out; have := HK2.out; omega⟩, by repeat (first | exact Drawn0.refl _ | apply Drawn0.step)⟩
     have H' := Aside0.mk H
     clear H
     go_wp2
     go_roundg k2
     case measure => have := HK1.out; have := HK2.out; omega
     case rel => exact ⟨(wrap64 (x3_2 * 2)), (wrap64 (x5_2 + 1)), eqq_, eqq_, H', ⟨by have := HK1.out; have := HK2.out; omega⟩, by repeat (first | exact Drawn0.refl _ | apply Drawn0.step)⟩

end Go.Proofs.Ytiffahfpfgnjnab.PFnExactGetCtl
