-- Written by a program of this session (myprint.py, over the kit's print): contracts of FnCtls
import Derived.Test.YtiffahfpfgnjnaaPFnCtlsx17
namespace Go.Proofs.Ytiffahfpfgnjnaa.PFnCtls
open Go.RowKit Go.Proofs.YtiffahfpfgnjnaaW.PrintWords Go.Proofs.YtiffahfpfgnjnaaW.PrintLast Go.Proofs.YtiffahfpfgnjnaaW.PrintMore Go.Proofs.YtiffahfpfgnjnaaV
attribute [local go_sem] max2_int min2_int max_two min_two max_three min_three max_four min_four
set_option linter.unusedVariables false
set_option linter.unusedSimpArgs false

/-! ### spec_CtlOk: function 57 -/
mutual
def spec_CtlOk.j0 : Nat → Bool → Int → Int → Int → Int → Int → Bool → Int → List (S29) → Option (Bool)
 | 0, _, _, _, _, _, _, _, _, _ => none
 | k + 1, x13, x746000, x746001, x746002, x746003, x746004, x746005, x746006, x746007 => if x13 = true then (some false) else (if x746000 = 1 then (spec_CtlOk.l0 k 0 x746000 x746001 x746002 x746003 x746004 x746005 x746006 x746007) else (if x746004 = 0 then (if x746005 = true then (some false) else (if x746006 = 0 then (if (x746007.length : Int) = 0 then (if x746000 = 2 then ((spec_l1In.f x746003 0 20).bind fun t755 => (if t755 = true then (some true) else (if x746000 = 3 then (some (x746003 == 0)) else (some false)))) else (if x746000 = 3 then (some (x746003 == 0)) else (some false))) else (some false)) else (some false))) else (some false)))
def spec_CtlOk.l0 : Nat → Int → Int → Int → Int → Int → Int → Bool → Int → List (S29) → Option (Bool)
 | 0, _, _, _, _, _, _, _, _, _ => none
 | k + 1, x3, x746000, x746001, x746002, x746003, x746004, x746005, x746006, x746007 => if x3 < (x746007.length : Int) then (if 0 ≤ x3 then ((spec_PutItem.f k ((rd_T29 x746007 x3).f0) ((rd_T29 x746007 x3).f1.f0) ((rd_T29 x746007 x3).f1.f1) ((rd_T29 x746007 x3).f1.f2) ((rd_T29 x746007 x3).f1.f3) ((rd_T29 x746007 x3).f1.f4) ((rd_T29 x746007 x3).f1.f5) ((rd_T29 x746007 x3).f1.f6) ((rd_T29 x746007 x3).f1.f7) ((rd_T29 x746007 x3).f2.f0) ((rd_T29 x746007 x3).f2.f1) ((rd_T29 x746007 x3).f2.f2) ((rd_T29 x746007 x3).f2.f3) ((rd_T29 x746007 x3).f2.f4) ((rd_T29 x746007 x3).f2.f5) ((rd_T29 x746007 x3).f2.f6)).bind fun t749 => (if (t749.length : Int) = 0 then (some false) else (spec_CtlOk.l0 k (wrap64 (x3 + 1)) x746000 x746001 x746002 x746003 x746004 x746005 x746006 x746007))) else (none)) else ((spec_l1In.f x746004 1 20).bind fun t752 => (if t752 = true then ((spec_l1In.f x746003 0 (wrap64 (x746004 - 1))).bind fun t753 => (if t753 = true then ((spec_l1In.f x746006 0 65535).bind fun t754 => (if t754 = true then (some (decide ((x746007.length : Int) ≤ 2))) else (some false))) else (some false))) else (some false)))
end
def spec_CtlOk.f (k : Nat) (a0_0 : Int) (a0_1 : Int) (a0_2 : Int) (a0_3 : Int) (a0_4 : Int) (a0_5 : Bool) (a0_6 : Int) (l0_7 : List (S29)) : Option (Bool) := (spec_l1In.f a0_1 0 1).bind fun t746 => (if t746 = true then ((spec_l1In.f a0_2 1 60000).bind fun t747 => (spec_CtlOk.j0 k (!t747) a0_0 a0_1 a0_2 a0_3 a0_4 a0_5 a0_6 l0_7)) else (spec_CtlOk.j0 k true a0_0 a0_1 a0_2 a0_3 a0_4 a0_5 a0_6 l0_7))
theorem spec_CtlOk.mono_l : ∀ k, (∀ y0 y1 y2 y3 y4 y5 y6 y7 y8, LeO (spec_CtlOk.j0 k y0 y1 y2 y3 y4 y5 y6 y7 y8) (spec_CtlOk.j0 (k + 1) y0 y1 y2 y3 y4 y5 y6 y7 y8)) ∧ (∀ y0 y1 y2 y3 y4 y5 y6 y7 y8, LeO (spec_CtlOk.l0 k y0 y1 y2 y3 y4 y5 y6 y7 y8) (spec_CtlOk.l0 (k + 1) y0 y1 y2 y3 y4 y5 y6 y7 y8))
 | 0 => ⟨fun _ _ _ _ _ _ _ _ _ r h => by simp [spec_CtlOk.j0] at h, fun _ _ _ _ _ _ _ _ _ r h => by simp [spec_CtlOk.l0] at h⟩
 | k + 1 => by
  obtain ⟨ih0, ih1⟩ := spec_CtlOk.mono_l k
  refine ⟨?_, ?_⟩
  ·
   intro y0 y1 y2 y3 y4 y5 y6 y7 y8
   unfold spec_CtlOk.j0
   have m0 := @spec_PutItem.mono; exact mo_
  ·
   intro y0 y1 y2 y3 y4 y5 y6 y7 y8
   unfold spec_CtlOk.l0
   have m0 := @spec_PutItem.mono; exact mo_
theorem spec_CtlOk.mono : ∀ a0 a1 a2 a3 a4 a5 a6 a7 k, LeO (spec_CtlOk.f k a0 a1 a2 a3 a4 a5 a6 a7) (spec_CtlOk.f (k + 1) a0 a1 a2 a3 a4 a5 a6 a7) := by
 intro a0 a1 a2 a3 a4 a5 a6 a7 k
 obtain ⟨ih0, ih1⟩ := spec_CtlOk.mono_l k
 unfold spec_CtlOk.f
 have m0 := @spec_PutItem.mono; exact mo_
set_option maxHeartbeats 8000000 in
set_option maxRecDepth 100000 in
theorem spec_CtlOk.calls (k : Nat) (a0_0 : Int) (a0_1 : Int) (a0_2 : Int) (a0_3 : Int) (a0_4 : Int) (a0_5 : Bool) (a0_6 : Int) (A0_7 : Option Addr) (c0_7 : Nat) (l0_7 : List (S29)) (r : Bool) (w : World) (hr0_7 : Kd.C k29 w A0_7 l0_7.length l0_7) (hc0_7 : l0_7.length ≤ c0_7) (h : spec_CtlOk.f k a0_0 a0_1 a0_2 a0_3 a0_4 a0_5 a0_6 l0_7 = some r) :
  Calls Try.prog 57 #[.agg #[.int .i64 a0_0, .int .i64 a0_1, .int .i64 a0_2, .int .i64 a0_3, .int .i64 a0_4, .bool a0_5, .int .i64 a0_6, .slice A0_7 l0_7.length c0_7]] w fun e w' => e = .returned (.bool r) ∧ Below w.heap.size w w' := by
 have hu75 := Try.underlying75
 have hu29 := Try.underlying29
 have HR0_7 := am_ hr0_7
 have HC0_7 := am_ hc0_7
 clear hr0_7 hc0_7
 have HB := Aside0.mk (Below.refl w.heap.size w)
 have H := h
 unfold spec_CtlOk.f at H
 clear h
 have HC2 := am_ H
 clear H
 go_enter Try.func57, Try.ntmps57
 go_upto_region 1 with (first | (refine gd_ 1 rfl ?_; (try (refine gate_guard (by rfl) ?_; dsimp only)); refine bx_ (N := 1) (cs := #[.int .i64 a0_0, .int .i64 a0_1, .int .i64 a0_2, .int .i64 a0_3, .int .i64 a0_4, .bool a0_5, .int .i64 a0_6, .slice A0_7 l0_7.length c0_7]) (t := 75) ?_; intro gb745 hg w3 hbox hb; have BK745 := am_ (hbox); have GW745 := gA_ hg HB; have GE745 := GW745; have IGE745 := gI_ GE745; replace HB := bS_ HB hb; clear hb hbox hg))
 (try simp only [Act.put, List.setIfInBounds_toArray, List.set_cons_zero, List.set_cons_succ])
 go_cut [13] (fun v13 wc => ∃ (kq : Nat) (x13_1 : Bool), v13 = .bool x13_1 ∧ Aside0 (spec_CtlOk.j0 kq x13_1 a0_0 a0_1 a0_2 a0_3 a0_4 a0_5 a0_6 l0_7 = some r) ∧ Aside0 (kq ≤ k) ∧ Aside0 (wc.heap[gb745]? = some (.cells #[.int .i64 a0_0, .int .i64 a0_1, .int .i64 a0_2, .int .i64 a0_3, .int .i64 a0_4, .bool a0_5, .int .i64 a0_6, (.slice A0_7 l0_7.length c0_7)] 75 (0, 0))) ∧ Aside0 (Below w.heap.size w wc))
 case first =>
  have H := HC2.out
  clear HC2
  replace H := bd_ H
  obtain ⟨t746, A4, H⟩ := H
  by_cases c5 : t746 = true
  rotate_left
  ·
   replace c5 := nf_ c5
   subst c5
   rw [if_neg (show ¬ (false = true) by decide)] at H
   have H' := Aside0.mk H
   clear H
   (try clear zK745)
   have zK745 := cz8 BK745.out
   go_wp2_with (first | (refine gc_ 83 rfl ?_; refine gl_ (some 6) Try.func83 #[.int .i64 a0_1, .int .i64 0, .int .i64 1] ?_; (with_reducible refine (spec_l1In.calls a0_1 0 1 false _ A4.out).mono ?_); rintro e w' ⟨rfl, ⟨nd, rfl⟩⟩; refine ⟨_, rfl, ?_⟩))
   go_meet
   case rel => exact ⟨_, (true), eqq_, H', ⟨by first | omega | exact Nat.le_refl _⟩, ⟨qK BK745⟩, ⟨qB HB⟩⟩
  subst c5
  rw [if_pos rfl] at H
  replace H := bd_ H
  obtain ⟨t747, A6, H⟩ := H
  have H' := Aside0.mk H
  clear H
  (try clear zK745)
  have zK745 := cz8 BK745.out
  go_wp2_with (first | (refine gc_ 83 rfl ?_; refine gl_ (some 6) Try.func83 #[.int .i64 a0_1, .int .i64 0, .int .i64 1] ?_; (with_reducible refine (spec_l1In.calls a0_1 0 1 true _ A4.out).mono ?_); rintro e w' ⟨rfl, ⟨nd, rfl⟩⟩; refine ⟨_, rfl, ?_⟩) | (go_at_call 83; (with_reducible refine (spec_l1In.calls a0_2 1 60000 t747 _ A6.out).mono ?_); rintro e w' ⟨rfl, ⟨nd, rfl⟩⟩))
  go_meet
  case rel => exact ⟨_, (!t747), eqq_, H', ⟨by first | omega | exact Nat.le_refl _⟩, ⟨qK BK745⟩, ⟨qB HB⟩⟩
 case rest =>
  clear HC2
  try clear p2
  try clear c5
  try clear c8
  (try clear zK745)
  (try clear zK745)
  (try clear f7)
  (try clear f8)
  obtain ⟨kq, x13_1, rfl, HA, HJ1, BK745, HB⟩ := hcut
  cases kq with
  | zero => exact absurd HA.out (by simp [spec_CtlOk.j0])
  | succ kj1 =>
   have H := HA.out
   clear HA
   simp only [spec_CtlOk.j0] at H
   by_cases c9 : x13_1 = true
   ·
    subst c9
    rw [if_pos rfl] at H
    obtain rfl := si_ H
    go_wp2
    go_ret
    exact ⟨er_, qB HB⟩
   replace c9 := nf_ c9
   subst c9
   rw [if_neg (show ¬ (false = true) by decide)] at H
   replace H := ie_ H
   obtain ⟨-, H, c10b0, c10b1⟩ | ⟨c10, H, c10b0, c10b1⟩ := H
   rotate_left
   ·
    replace H := ie_ H
    obtain ⟨-, H, c30b0, c30b1⟩ | ⟨c30, H, c30b0, c30b1⟩ := H
    rotate_left
    ·
     obtain rfl := si_ H
     (try clear zK745)
     have zK745 := cz8 BK745.out
     go_wp2
     go_ret
     exact ⟨er_, qB HB⟩
    by_cases c31 : a0_5 = true
    ·
     subst c31
     rw [if_pos rfl] at H
     obtain rfl := si_ H
     (try clear zK745)
     have zK745 := cz8 BK745.out
     go_wp2
     go_ret
     exact ⟨er_, qB HB⟩
    replace c31 := nf_ c31
    subst c31
    rw [if_neg (show ¬ (false = true) by decide)] at H
    replace H := ie_ H
    obtain ⟨-, H, c33b0, c33b1⟩ | ⟨c33, H, c33b0, c33b1⟩ := H
    rotate_left
    ·
     obtain rfl := si_ H
     (try clear zK745)
     have zK745 := cz8 BK745.out
     go_wp2
     go_ret
     exact ⟨er_, qB HB⟩
    replace H := ie_ H
    obtain ⟨-, H, c34b0, c34b1⟩ | ⟨c34, H, c34b0, c34b1⟩ := H
    rotate_left
    ·
     have c34b2 : ¬ (l0_7 = []) := fun h_ => c34 (by rw [h_]; rfl)
     obtain rfl := si_ H
     (try clear zK745)
     have zK745 := cz8 BK745.out
     go_wp2
     go_ret
     exact ⟨er_, qB HB⟩
    replace H := ie_ H
    obtain ⟨-, H, c35b0, c35b1⟩ | ⟨c35, H, c35b0, c35b1⟩ := H
    rotate_left
    ·
     replace H := ie_ H
     obtain ⟨-, H, c42b0, c42b1⟩ | ⟨c42, H, c42b0, c42b1⟩ := H
     rotate_left
     ·
      obtain rfl := si_ H
      (try clear zK745)
      have zK745 := cz8 BK745.out
      go_wp2
      go_ret
      exact ⟨er_, qB HB⟩
     obtain rfl := si_ H
     (try clear zK745)
     have zK745 := cz8 BK745.out
     go_wp2
     go_ret
     exact ⟨er_, qB HB⟩
    replace H := bd_ H
    obtain ⟨t755, A36, H⟩ := H
    by_cases c37 : t755 = true
    ·
     subst c37
     rw [if_pos rfl] at H
     obtain rfl := si_ H
     (try clear zK745)
     have zK745 := cz8 BK745.out
     go_wp2_with (first | (go_at_call 83; (with_reducible refine (spec_l1In.calls a0_3 0 20 true _ A36.out).mono ?_); rintro e w' ⟨rfl, ⟨nd, rfl⟩⟩))
     go_ret
     exact ⟨er_, qB HB⟩
    replace c37 := nf_ c37
    subst c37
    rw [if_neg (show ¬ (false = true) by decide)] at H
    replace H := ie_ H
    obtain ⟨-, H, c39b0, c39b1⟩ | ⟨c39, H, c39b0, c39b1⟩ := H
    rotate_left
    ·
     obtain rfl := si_ H
     (try clear zK745)
     have zK745 := cz8 BK745.out
     go_wp2_with (first | (go_at_call 83; (with_reducible refine (spec_l1In.calls a0_3 0 20 false _ A36.out).mono ?_); rintro e w' ⟨rfl, ⟨nd, rfl⟩⟩))
     go_ret
     exact ⟨er_, qB HB⟩
    obtain rfl := si_ H
    (try clear zK745)
    have zK745 := cz8 BK745.out
    go_wp2_with (first | (go_at_call 83; (with_reducible refine (spec_l1In.calls a0_3 0 20 false _ A36.out).mono ?_); rintro e w' ⟨rfl, ⟨nd, rfl⟩⟩))
    go_ret
    exact ⟨er_, qB HB⟩
   have H' := Aside0.mk H
   clear H
   (try clear zK745)
   have zK745 := cz8 BK745.out
   go_wp2
   go_loopg [3] kj1 (fun kq v3 w' => ∃ (x3_2 : Int), v3 = .int .i64 x3_2 ∧ Aside0 (spec_CtlOk.l0 kq x3_2 a0_0 a0_1 a0_2 a0_3 a0_4 a0_5 a0_6 l0_7 = some r) ∧ Aside0 (kq ≤ kj1) ∧ Aside0 (w'.heap[gb745]? = some (.cells #[.int .i64 a0_0, .int .i64 a0_1, .int .i64 a0_2, .int .i64 a0_3, .int .i64 a0_4, .bool a0_5, .int .i64 a0_6, (.slice A0_7 l0_7.length c0_7)] 75 (0, 0))) ∧ Aside0 (Below w.heap.size w w'))
   case atStart => exact ⟨(0), eqq_, H', ⟨Nat.le_refl _⟩, ⟨qK BK745⟩, ⟨qB HB⟩⟩
   case round =>
    clear H'
    try clear c1
    try clear p2
    try clear c5
    try clear c8
    try clear c9
    try clear c10
    try clear c10b0
    try clear c10b1
    (try clear zK745)
    (try clear zK745)
    (try clear zK745)
    (try clear f11)
    (try clear f7)
    (try clear f8)
    try clear p2
    obtain ⟨x3_2, rfl, HA, HK2, BK745, HB⟩ := hrel
    cases gk with
    | zero => exact absurd HA.out (by simp [spec_CtlOk.l0])
    | succ k2 =>
     have H := HA.out
     clear HA
     simp only [spec_CtlOk.l0] at H
     replace H := id_ H
     obtain ⟨-, H, c12b0⟩ | ⟨-, H, c12b0⟩ := H
     rotate_left
     ·
      replace H := bd_ H
      obtain ⟨t752, A20, H⟩ := H
      by_cases c21 : t752 = true
      rotate_left
      ·
       replace c21 := nf_ c21
       subst c21
       rw [if_neg (show ¬ (false = true) by decide)] at H
       obtain rfl := si_ H
       (try clear zK745)
       have zK745 := cz8 BK745.out
       go_wp2_with (first | (refine gc_ 83 rfl ?_; refine gl_ (some 34) Try.func83 #[.int .i64 a0_4, .int .i64 1, .int .i64 20] ?_; (with_reducible refine (spec_l1In.calls a0_4 1 20 false _ A20.out).mono ?_); rintro e w' ⟨rfl, ⟨nd, rfl⟩⟩; refine ⟨_, rfl, ?_⟩))
       go_ret
       exact ⟨er_, qB HB⟩
      subst c21
      rw [if_pos rfl] at H
      replace H := bd_ H
      obtain ⟨t753, A22, H⟩ := H
      by_cases c23 : t753 = true
      rotate_left
      ·
       replace c23 := nf_ c23
       subst c23
       rw [if_neg (show ¬ (false = true) by decide)] at H
       obtain rfl := si_ H
       (try clear zK745)
       have zK745 := cz8 BK745.out
       go_wp2_with (first | (refine gc_ 83 rfl ?_; refine gl_ (some 34) Try.func83 #[.int .i64 a0_4, .int .i64 1, .int .i64 20] ?_; (with_reducible refine (spec_l1In.calls a0_4 1 20 true _ A20.out).mono ?_); rintro e w' ⟨rfl, ⟨nd, rfl⟩⟩; refine ⟨_, rfl, ?_⟩) | (go_at_call 83; (with_reducible refine (spec_l1In.calls a0_3 0 (wrap64 (a0_4 - 1)) false _ A22.out).mono ?_); rintro e w' ⟨rfl, ⟨nd, rfl⟩⟩))
       go_ret
       exact ⟨er_, qB HB⟩
      subst c23
      rw [if_pos rfl] at H
      replace H := bd_ H
      obtain ⟨t754, A24, H⟩ := H
      by_cases c25 : t754 = true
      ·
       subst c25
       rw [if_pos rfl] at H
       obtain rfl := si_ H
       (try clear zK745)
       have zK745 := cz8 BK745.out
       go_wp2_with (first | (refine gc_ 83 rfl ?_; refine gl_ (some 34) Try.func83 #[.int .i64 a0_4, .int .i64 1, .int .i64 20] ?_; (with_reducible refine (spec_l1In.calls a0_4 1 20 true _ A20.out).mono ?_); rintro e w' ⟨rfl, ⟨nd, rfl⟩⟩; refine ⟨_, rfl, ?_⟩) | (go_at_call 83; (with_reducible refine (spec_l1In.calls a0_3 0 (wrap64 (a0_4 - 1)) true _ A22.out).mono ?_); rintro e w' ⟨rfl, ⟨nd, rfl⟩⟩) | (go_at_call 83; (with_reducible refine (spec_l1In.calls a0_6 0 65535 true _ A24.out).mono ?_); rintro e w' ⟨rfl, ⟨nd, rfl⟩⟩))
       go_ret
       exact ⟨er_, qB HB⟩
      replace c25 := nf_ c25
      subst c25
      rw [if_neg (show ¬ (false = true) by decide)] at H
      obtain rfl := si_ H
      (try clear zK745)
      have zK745 := cz8 BK745.out
      go_wp2_with (first | (refine gc_ 83 rfl ?_; refine gl_ (some 34) Try.func83 #[.int .i64 a0_4, .int .i64 1, .int .i64 20] ?_; (with_reducible refine (spec_l1In.calls a0_4 1 20 true _ A20.out).mono ?_); rintro e w' ⟨rfl, ⟨nd, rfl⟩⟩; refine ⟨_, rfl, ?_⟩) | (go_at_call 83; (with_reducible refine (spec_l1In.calls a0_3 0 (wrap64 (a0_4 - 1)) true _ A22.out).mono ?_); rintro e w' ⟨rfl, ⟨nd, rfl⟩⟩) | (go_at_call 83; (with_reducible refine (spec_l1In.calls a0_6 0 65535 false _ A24.out).mono ?_); rintro e w' ⟨rfl, ⟨nd, rfl⟩⟩))
      go_ret
      exact ⟨er_, qB HB⟩
     replace H := ip_ H
     obtain ⟨-, H, c13b0⟩ := H
     replace H := bd_ H
     obtain ⟨t749, A14, H⟩ := H
     have HC15 := am_ H
     clear H
     (try clear zK745)
     have zK745 := cz8 BK745.out
     have p748 : 0 ≤ (x3_2 : Int) := od_
     have q748 : x3_2 < (l0_7.length : Int) := od_
     obtain ⟨ad748, e748, hx748_0, hx748_1, hx748_2, hx748_3, hx748_4, hx748_5, hx748_6, hx748_7, hx748_8, hx748_9, hx748_10, hx748_11, hx748_12, hx748_13, hx748_14, hx748_15⟩ := at_T29 HR0_7.out x3_2 p748 q748
     cases e748
     replace hx748_0 := lb_ HB hx748_0
     replace hx748_1 := lb_ HB hx748_1
     replace hx748_2 := lb_ HB hx748_2
     replace hx748_3 := lb_ HB hx748_3
     replace hx748_4 := lb_ HB hx748_4
     replace hx748_5 := lb_ HB hx748_5
     replace hx748_6 := lb_ HB hx748_6
     replace hx748_7 := lb_ HB hx748_7
     replace hx748_8 := lb_ HB hx748_8
     replace hx748_9 := lb_ HB hx748_9
     replace hx748_10 := lb_ HB hx748_10
     replace hx748_11 := lb_ HB hx748_11
     replace hx748_12 := lb_ HB hx748_12
     replace hx748_13 := lb_ HB hx748_13
     replace hx748_14 := lb_ HB hx748_14
     replace hx748_15 := lb_ HB hx748_15
     replace p748 := eq_true p748
     replace q748 := eq_true q748
     go_upto_if 31 with (first | (refine gc_ 20 rfl ?_; refine gl_ (some 29) Try.func20 #[.agg #[.int .i64 ((rd_T29 l0_7 x3_2).f0), .int .i64 ((rd_T29 l0_7 x3_2).f1.f0), .string ((rd_T29 l0_7 x3_2).f1.f1), .int .i64 ((rd_T29 l0_7 x3_2).f1.f2), .int .i64 ((rd_T29 l0_7 x3_2).f1.f3), .int .i64 ((rd_T29 l0_7 x3_2).f1.f4), .string ((rd_T29 l0_7 x3_2).f1.f5), .int .i64 ((rd_T29 l0_7 x3_2).f1.f6), .int .i64 ((rd_T29 l0_7 x3_2).f1.f7), .int .i64 ((rd_T29 l0_7 x3_2).f2.f0), .string ((rd_T29 l0_7 x3_2).f2.f1), .int .i64 ((rd_T29 l0_7 x3_2).f2.f2), .int .i64 ((rd_T29 l0_7 x3_2).f2.f3), .int .i64 ((rd_T29 l0_7 x3_2).f2.f4), .int .i64 ((rd_T29 l0_7 x3_2).f2.f5), .int .i64 ((rd_T29 l0_7 x3_2).f2.f6)]] ?_; (with_reducible refine (spec_PutItem.calls k2 ((rd_T29 l0_7 x3_2).f0) ((rd_T29 l0_7 x3_2).f1.f0) ((rd_T29 l0_7 x3_2).f1.f1) ((rd_T29 l0_7 x3_2).f1.f2) ((rd_T29 l0_7 x3_2).f1.f3) ((rd_T29 l0_7 x3_2).f1.f4) ((rd_T29 l0_7 x3_2).f1.f5) ((rd_T29 l0_7 x3_2).f1.f6) ((rd_T29 l0_7 x3_2).f1.f7) ((rd_T29 l0_7 x3_2).f2.f0) ((rd_T29 l0_7 x3_2).f2.f1) ((rd_T29 l0_7 x3_2).f2.f2) ((rd_T29 l0_7 x3_2).f2.f3) ((rd_T29 l0_7 x3_2).f2.f4) ((rd_T29 l0_7 x3_2).f2.f5) ((rd_T29 l0_7 x3_2).f2.f6) t749 _ A14.out).mono ?_); rintro e w17 ⟨v750, rfl, ho0, hb⟩; refine ⟨_, rfl, ?_⟩; have HO751 := am_ (Kd.R_lower ho0 (below_size (qB HB))); replace BK745 := bK_ BK745 hb; replace HB := bS_ HB hb; (try clear hb); (try clear ho0); obtain ⟨Ao18, co18, eo18⟩ := Kd.R_slice HO751.out; subst eo18))
     (try simp only [Act.put, List.setIfInBounds_toArray, List.set_cons_zero, List.set_cons_succ])
     have H := HC15.out
     clear HC15
     replace H := ie_ H
     obtain ⟨-, H, c19b0, c19b1⟩ | ⟨c19, H, c19b0, c19b1⟩ := H
     ·
      (first | rw [c19b0] | rw [c19b1] | (simp only [i64_w, i32_w]; rw [c19b0]) | skip)
      obtain rfl := si_ H
      go_wp2
      go_ret
      exact ⟨er_, qB HB⟩
     have c19b2 : ¬ (t749 = []) := fun h_ => c19 (by rw [h_]; rfl)
     (first | rw [c19b0] | rw [c19b1] | rw [c19b2] | (simp only [i64_w, i32_w]; rw [c19b0]) | skip)
     have H' := Aside0.mk H
     clear H
     go_wp2
     go_roundg k2
     case measure => have := HJ1.out; have := HK2.out; omega
     case rel => exact ⟨(wrap64 (x3_2 + 1)), eqq_, H', ⟨by have := HJ1.out; have := HK2.out; omega⟩, ⟨qK BK745⟩, ⟨qB HB⟩⟩

/-! ### spec_Sum: function 111 -/
mutual
def spec_Sum.l0 : Nat → List Int → Int → Int → Option (Int)
 | 0, _, _, _ => none
 | k + 1, x0, x3, x4 => if x4 < (x0.length : Int) then (if 0 ≤ x4 then (spec_Sum.l1 k x0 (Go.bits .xor .i64 x3 (wrap64 ((wrap64 (rd x0 x4)) * 256))) x4 0) else (none)) else (some (Go.bits .and .i64 x3 65535))
def spec_Sum.l1 : Nat → List Int → Int → Int → Int → Option (Int)
 | 0, _, _, _, _ => none
 | k + 1, x0, x3, x4, x5 => if x5 < 8 then (if (wrap64 (x3 * 2)) > 65535 then (spec_Sum.l1 k x0 (Go.bits .xor .i64 (wrap64 (x3 * 2)) 69665) x4 (wrap64 (x5 + 1))) else (spec_Sum.l1 k x0 (wrap64 (x3 * 2)) x4 (wrap64 (x5 + 1)))) else (spec_Sum.l0 k x0 x3 (wrap64 (x4 + 1)))
end
def spec_Sum.f (k : Nat) (l0 : List Int) : Option (Int) := spec_Sum.l0 k l0 65535 0
theorem spec_Sum.mono_l : ∀ k, (∀ y0 y1 y2, LeO (spec_Sum.l0 k y0 y1 y2) (spec_Sum.l0 (k + 1) y0 y1 y2)) ∧ (∀ y0 y1 y2 y3, LeO (spec_Sum.l1 k y0 y1 y2 y3) (spec_Sum.l1 (k + 1) y0 y1 y2 y3))
 | 0 => ⟨fun _ _ _ r h => by simp [spec_Sum.l0] at h, fun _ _ _ _ r h => by simp [spec_Sum.l1] at h⟩
 | k + 1 => by
  obtain ⟨ih0, ih1⟩ := spec_Sum.mono_l k
  refine ⟨?_, ?_⟩
  ·
   intro y0 y1 y2
   unfold spec_Sum.l0
   exact mo_
  ·
   intro y0 y1 y2 y3
   unfold spec_Sum.l1
   exact mo_
theorem spec_Sum.mono : ∀ a0 k, LeO (spec_Sum.f k a0) (spec_Sum.f (k + 1) a0) := by
 intro a0 k
 obtain ⟨ih0, ih1⟩ := spec_Sum.mono_l k
 unfold spec_Sum.f
 exact mo_
set_option maxHeartbeats 8000000 in
set_option maxRecDepth 100000 in
theorem spec_Sum.calls (k : Nat) (A0 : Option Addr) (c0 : Nat) (l0 : List Int) (r : Int) (w : World) (hr0 : Kd.C (Kd.int .u8) w A0 l0.length l0) (hc0 : l0.length ≤ c0) (h : spec_Sum.f k l0 = some r) :
  Calls Try.prog 111 #[.slice A0 l0.length c0] w fun e w' => e = .returned (.int .i64 r) ∧ Drawn0 w w' := by
 have HR0 := am_ hr0
 have HC0 := am_ hc0
 clear hr0 hc0
 have H : (spec_Sum.l0 k l0 65535 0) = some r := h
 clear h
 have H' := Aside0.mk H
 clear H
 go_enter Try.func111, Try.ntmps111
 go_wp2
 go_loopg [3, 4] k (fun kq v3 v4 w' => ∃ (x3_1 : Int) (x4_1 : Int), v3 = .int .i64 x3_1 ∧ v4 = .int .i64 x4_1 ∧ Aside0 (spec_Sum.l0 kq l0 x3_1 x4_1 = some r) ∧ Aside0 (kq ≤ k) ∧ Drawn0 w w')
 case atStart => exact ⟨(65535), (0), eqq_, eqq_, H', ⟨Nat.le_refl _⟩, by repeat (first | exact Drawn0.refl _ | apply Drawn0.step)⟩
 case round =>
  clear H'
  try clear c1
  obtain ⟨x3_1, x4_1, rfl, rfl, HA, HK1, ⟨m1, rfl⟩⟩ := hrel
  cases gk with
  | zero => exact absurd HA.out (by simp [spec_Sum.l0])
  | succ k1 =>
   have H := HA.out
   clear HA
   simp only [spec_Sum.l0] at H
   replace H := id_ H
   obtain ⟨-, H, c2b0⟩ | ⟨-, H, c2b0⟩ := H
   rotate_left
   ·
    obtain rfl := si_ H
    go_wp2
    go_ret
    exact ⟨ea_, dn_⟩
   replace H := ip_ H
   obtain ⟨-, H, c3b0⟩ := H
   have H' := Aside0.mk H
   clear H
   have p756 : 0 ≤ (x4_1 : Int) := od_
   have q756 : x4_1 < (l0.length : Int) := od_
   obtain ⟨ad756, e756, hx756_0⟩ := Kd.at_int HR0.out x4_1 p756 q756
   cases e756
   replace p756 := eq_true p756
   replace q756 := eq_true q756
   go_wp2
   go_loopg [3, 5] k1 (fun kq v3 v5 w' => ∃ (x3_2 : Int) (x5_2 : Int), v3 = .int .i64 x3_2 ∧ v5 = .int .i64 x5_2 ∧ Aside0 (spec_Sum.l1 kq l0 x3_2 x4_1 x5_2 = some r) ∧ Aside0 (kq ≤ k1) ∧ Drawn0 w w')
   case atStart => exact ⟨(Go.bits .xor .i64 x3_1 (wrap64 ((wrap64 (rd l0 x4_1)) * 256))), (0), eqq_, eqq_, H', ⟨Nat.le_refl _⟩, by repeat (first | exact Drawn0.refl _ | apply Drawn0.step)⟩
   case round =>
    clear H'
    try clear c1
    try clear c2
    try clear c2b0
    try clear p2
    try clear c3
    try clear c3b0
    try clear hx756_0
    try clear p756
    try clear q756
    obtain ⟨x3_2, x5_2, rfl, rfl, HA, HK2, ⟨m2, rfl⟩⟩ := hrel
    cases gk with
    | zero => exact absurd HA.out (by simp [spec_Sum.l1])
    | succ k2 =>
     have H := HA.out
     clear HA
     simp only [spec_Sum.l1] at H
     replace H := id_ H
     obtain ⟨-, H, c4b0⟩ | ⟨-, H, c4b0⟩ := H
     rotate_left
     ·
      have H' := Aside0.mk H
      clear H
      go_wp2
      go_roundg k2
      case measure => have := HK1.out; have := HK2.out; omega
      case rel => exact ⟨(x3_2), (wrap64 (x4_1 + 1)), eqq_, eqq_, H', ⟨by have := HK1.out; have := HK2.out; omega⟩, by repeat (first | exact Drawn0.refl _ | apply Drawn0.step)⟩
     replace H := id_ H
     obtain ⟨-, H, c5b0⟩ | ⟨-, H, c5b0⟩ := H
     ·
      have H' := Aside0.mk H
      clear H
      go_wp2
      go_roundg k2
      case measure => have := HK1.out; have := HK2.out; omega
      case rel => exact ⟨(Go.bits .xor .i64 (wrap64 (x3_2 * 2)) 69665), (wrap64 (x5_2 + 1)), eqq_, eqq_, H', ⟨by have := HK1.out; have := HK2.out; omega⟩, by repeat (first | exact Drawn0.refl _ | apply Drawn0.step)⟩
     have H' := Aside0.mk H
     clear H
     go_wp2
     go_roundg k2
     case measure => have := HK1.out; have := HK2.out; omega
     case rel => exact ⟨(wrap64 (x3_2 * 2)), (wrap64 (x5_2 + 1)), eqq_, eqq_, H', ⟨by have := HK1.out; have := HK2.out; omega⟩, by repeat (first | exact Drawn0.refl _ | apply Drawn0.step)⟩


/-! ### spec_PutCtl: function 107 -/
mutual
def spec_PutCtl.j0 : Nat → Int → Int → Int → Int → Int → Int → Bool → Int → List (S29) → Option (List Int)
 | 0, _, _, _, _, _, _, _, _, _ => none
 | k + 1, x3, x758000, x758001, x758002, x758003, x758004, x758005, x758006, x758007 => (spec_PutWord.f (([(x758000) % 256, (x758001) % 256] : List Int)) x758002).bind fun t765 => ((some (([(x758003) % 256, (x758004) % 256, (x3) % 256] : List Int) : List Int)).bind fun y768 => (if t765.length + y768.length < 140737488355328 then ((spec_PutWord.f (t765 ++ y768) x758006).bind fun t774 => ((some (([((x758007.length : Int)) % 256] : List Int) : List Int)).bind fun y777 => (if t774.length + y777.length < 140737488355328 then (spec_PutCtl.l0 k (t774 ++ y777) 0 x758000 x758001 x758002 x758003 x758004 x758005 x758006 x758007) else (none)))) else (none)))
def spec_PutCtl.l0 : Nat → List Int → Int → Int → Int → Int → Int → Int → Bool → Int → List (S29) → Option (List Int)
 | 0, _, _, _, _, _, _, _, _, _, _ => none
 | k + 1, x4, x5, x758000, x758001, x758002, x758003, x758004, x758005, x758006, x758007 => if x5 < (x758007.length : Int) then (if 0 ≤ x5 then ((spec_PutItem.f k ((rd_T29 x758007 x5).f0) ((rd_T29 x758007 x5).f1.f0) ((rd_T29 x758007 x5).f1.f1) ((rd_T29 x758007 x5).f1.f2) ((rd_T29 x758007 x5).f1.f3) ((rd_T29 x758007 x5).f1.f4) ((rd_T29 x758007 x5).f1.f5) ((rd_T29 x758007 x5).f1.f6) ((rd_T29 x758007 x5).f1.f7) ((rd_T29 x758007 x5).f2.f0) ((rd_T29 x758007 x5).f2.f1) ((rd_T29 x758007 x5).f2.f2) ((rd_T29 x758007 x5).f2.f3) ((rd_T29 x758007 x5).f2.f4) ((rd_T29 x758007 x5).f2.f5) ((rd_T29 x758007 x5).f2.f6)).bind fun t784 => ((some (([((t784.length : Int)) % 256] : List Int) : List Int)).bind fun y787 => (if x4.length + y787.length < 140737488355328 then ((some (x4 ++ y787 : List Int)).bind fun y790 => (if y790.length + t784.length < 140737488355328 then (spec_PutCtl.l0 k (y790 ++ t784) (wrap64 (x5 + 1)) x758000 x758001 x758002 x758003 x758004 x758005 x758006 x758007) else (none))) else (none)))) else (none)) else ((spec_Sum.f k x4).bind fun t796 => ((spec_PutWord.f x4 t796).bind fun t797 => (some t797)))
end
def spec_PutCtl.f (k : Nat) (a0_0 : Int) (a0_1 : Int) (a0_2 : Int) (a0_3 : Int) (a0_4 : Int) (a0_5 : Bool) (a0_6 : Int) (l0_7 : List (S29)) : Option (List Int) := (spec_CtlOk.f k a0_0 a0_1 a0_2 a0_3 a0_4 a0_5 a0_6 l0_7).bind fun t758 => (if t758 = true then (if a0_5 = true then (spec_PutCtl.j0 k 1 a0_0 a0_1 a0_2 a0_3 a0_4 a0_5 a0_6 l0_7) else (spec_PutCtl.j0 k 0 a0_0 a0_1 a0_2 a0_3 a0_4 a0_5 a0_6 l0_7)) else (some (([] : List Int))))
theorem spec_PutCtl.mono_l : ∀ k, (∀ y0 y1 y2 y3 y4 y5 y6 y7 y8, LeO (spec_PutCtl.j0 k y0 y1 y2 y3 y4 y5 y6 y7 y8) (spec_PutCtl.j0 (k + 1) y0 y1 y2 y3 y4 y5 y6 y7 y8)) ∧ (∀ y0 y1 y2 y3 y4 y5 y6 y7 y8 y9, LeO (spec_PutCtl.l0 k y0 y1 y2 y3 y4 y5 y6 y7 y8 y9) (spec_PutCtl.l0 (k + 1) y0 y1 y2 y3 y4 y5 y6 y7 y8 y9))
 | 0 => ⟨fun _ _ _ _ _ _ _ _ _ r h => by simp [spec_PutCtl.j0] at h, fun _ _ _ _ _ _ _ _ _ _ r h => by simp [spec_PutCtl.l0] at h⟩
 | k + 1 => by
  obtain ⟨ih0, ih1⟩ := spec_PutCtl.mono_l k
  refine ⟨?_, ?_⟩
  ·
   intro y0 y1 y2 y3 y4 y5 y6 y7 y8
   unfold spec_PutCtl.j0
   have m0 := @spec_CtlOk.mono; have m1 := @spec_PutItem.mono; have m2 := @spec_Sum.mono; exact mo_
  ·
   intro y0 y1 y2 y3 y4 y5 y6 y7 y8 y9
   unfold spec_PutCtl.l0
   have m0 := @spec_CtlOk.mono; have m1 := @spec_PutItem.mono; have m2 := @spec_Sum.mono; exact mo_
theorem spec_PutCtl.mono : ∀ a0 a1 a2 a3 a4 a5 a6 a7 k, LeO (spec_PutCtl.f k a0 a1 a2 a3 a4 a5 a6 a7) (spec_PutCtl.f (k + 1) a0 a1 a2 a3 a4 a5 a6 a7) := by
 intro a0 a1 a2 a3 a4 a5 a6 a7 k
 obtain ⟨ih0, ih1⟩ := spec_PutCtl.mono_l k
 unfold spec_PutCtl.f
 have m0 := @spec_CtlOk.mono; have m1 := @spec_PutItem.mono; have m2 := @spec_Sum.mono; exact mo_
def spec_PutCtl.T7 : Bool × List (List Nat × List Nat) := (true, [([], []), ([], []), ([1], [1]), ([2], [2]), ([], []), ([4], [4]), ([5], [5]), ([], []), ([7], [7]), ([3, 6, 8], [3, 6, 8]), ([0, 9], [0, 9]), ([], []), ([11], [11]), ([10, 12, 10], [10, 12]), ([], []), ([14], [14]), ([15], [15]), ([16], [16]), ([17], [17]), ([13, 18, 13], [13, 18]), ([19, 19, 0, 1, 2, 3, 4, 5, 6, 7, 8, 9, 10, 11, 12, 13, 14, 15, 16, 17, 18, 19], [0, 19])])
def spec_PutCtl.B7 : List Nat := [0, 0, 2, 6, 0, 16, 48, 0, 128, 510, 1023, 0, 2048, 8191, 0, 16384, 49152, 114688, 245760, 524287, 1048575]
theorem spec_PutCtl.tab7 : rtab .any (opsOf Try.f107 7) = spec_PutCtl.T7 := by kernel_rfl
theorem spec_PutCtl.bits7 : waitsOk spec_PutCtl.T7.2 spec_PutCtl.B7 = true := by kernel_rfl
set_option maxHeartbeats 8000000 in
set_option maxRecDepth 100000 in
theorem spec_PutCtl.calls (k : Nat) (a0_0 : Int) (a0_1 : Int) (a0_2 : Int) (a0_3 : Int) (a0_4 : Int) (a0_5 : Bool) (a0_6 : Int) (A0_7 : Option Addr) (c0_7 : Nat) (l0_7 : List (S29)) (r : List Int) (w : World) (hr0_7 : Kd.C k29 w A0_7 l0_7.length l0_7) (hc0_7 : l0_7.length ≤ c0_7) (h : spec_PutCtl.f k a0_0 a0_1 a0_2 a0_3 a0_4 a0_5 a0_6 l0_7 = some r) :
  Calls Try.prog 107 #[.agg #[.int .i64 a0_0, .int .i64 a0_1, .int .i64 a0_2, .int .i64 a0_3, .int .i64 a0_4, .bool a0_5, .int .i64 a0_6, .slice A0_7 l0_7.length c0_7]] w fun e w' => ∃ v0_ : Value, e = .returned (v0_) ∧ Kd.R (Kd.int .u8) 5 w' w.heap.size (fun _ => True) v0_ r ∧ Below w.heap.size w w' := by
 have hu75 := Try.underlying75
 have hu29 := Try.underlying29
 have HR0_7 := am_ hr0_7
 have HC0_7 := am_ hc0_7
 clear hr0_7 hc0_7
 have HB := Aside0.mk (Below.refl w.heap.size w)
 have H := h
 unfold spec_PutCtl.f at H
 clear h
 replace H := bd_ H
 obtain ⟨t758, A2, H⟩ := H
 have HC3 := am_ H
 clear H
 go_enter Try.func107, Try.ntmps107
 go_upto_if 9 with (first | (refine gd_ 1 rfl ?_; refine bx_ (N := 1) (cs := #[.int .i64 a0_0, .int .i64 a0_1, .int .i64 a0_2, .int .i64 a0_3, .int .i64 a0_4, .bool a0_5, .int .i64 a0_6, .slice A0_7 l0_7.length c0_7]) (t := 75) ?_; intro gb757 hg w4 hbox hb; have BK757 := am_ (hbox); have GW757 := gA_ hg HB; have GE757 := GW757; have IGE757 := gI_ GE757; replace HB := bS_ HB hb; clear hb hbox hg; (try clear zK757); have zK757 := cf8 BK757.out) | (refine gc_ 57 rfl ?_; refine gl_ (some 8) Try.func57 #[.agg #[.int .i64 a0_0, .int .i64 a0_1, .int .i64 a0_2, .int .i64 a0_3, .int .i64 a0_4, .bool a0_5, .int .i64 a0_6, .slice A0_7 l0_7.length c0_7]] ?_; (with_reducible refine (spec_CtlOk.calls k a0_0 a0_1 a0_2 a0_3 a0_4 a0_5 a0_6 _ _ l0_7 t758 _ ?side1 ?side2 A2.out).mono ?_); (case side1 => exact qC (Kd.C_below HR0_7.out HB.out)); (case side2 => exact HC0_7.out); rintro e w6 ⟨rfl, hb⟩; refine ⟨_, rfl, ?_⟩; replace BK757 := bK_ BK757 hb; replace HB := bS_ HB hb; (try clear hb)))
 (try simp only [Act.put, List.setIfInBounds_toArray, List.set_cons_zero, List.set_cons_succ])
 have H := HC3.out
 clear HC3
 by_cases c7 : t758 = true
 rotate_left
 ·
  replace c7 := nf_ c7
  subst c7
  rw [if_neg (show ¬ (false = true) by decide)] at H
  obtain ⟨y759, hy759⟩ : ∃ y_ : List Int, y_ = (([] : List Int)) := ⟨_, rfl⟩
  rw [← hy759] at H
  have Ny759 := am_ hy759
  clear hy759
  obtain rfl := si_ H
  go_wp2_with (first | (refine gd_ 10 rfl ?_; refine l8_ 5 10 ([] : List Int) [] ?_; intro v760 w52 ho53 hb hg_ hnew_; clear hg_ hnew_; (first | rw [← Ny759.out] at ho53 | (simp only [Int.reduceToNat] at ho53; rw [← Ny759.out] at ho53)); have HO761 := am_ (Kd.R_lower ho53 (below_size (qB HB))); replace BK757 := bK_ BK757 hb; replace HB := bS_ HB hb; clear hb ho53))
  go_ret
  exact ⟨_, er_, qR HO761, qB HB⟩
 subst c7
 rw [if_pos rfl] at H
 have HC8 := am_ H
 clear H
 (try clear zK757)
 have zK757 := cf8 BK757.out
 go_upto_if 12 with (fail)
 go_cut [3] (fun v3 wc => ∃ (kq : Nat) (x3_7 : Int), v3 = .int .i64 x3_7 ∧ Aside0 (spec_PutCtl.j0 kq x3_7 a0_0 a0_1 a0_2 a0_3 a0_4 a0_5 a0_6 l0_7 = some r) ∧ Aside0 (kq ≤ k) ∧ Aside0 (wc.heap[gb757]? = some (.cells #[.int .i64 a0_0, .int .i64 a0_1, .int .i64 a0_2, .int .i64 a0_3, .int .i64 a0_4, .bool a0_5, .int .i64 a0_6, (.slice A0_7 l0_7.length c0_7)] 75 (0, 0))) ∧ Aside0 (Below w.heap.size w wc))
 case first =>
  have H := HC8.out
  clear HC8
  by_cases c10 : a0_5 = true
  ·
   subst c10
   rw [if_pos rfl] at H
   have H' := Aside0.mk H
   clear H
   go_wp2
   go_meet
   case rel => exact ⟨_, (1), eqq_, H', ⟨by first | omega | exact Nat.le_refl _⟩, ⟨qK BK757⟩, ⟨qB HB⟩⟩
  replace c10 := nf_ c10
  subst c10
  rw [if_neg (show ¬ (false = true) by decide)] at H
  have H' := Aside0.mk H
  clear H
  go_wp2
  go_meet
  case rel => exact ⟨_, (0), eqq_, H', ⟨by first | omega | exact Nat.le_refl _⟩, ⟨qK BK757⟩, ⟨qB HB⟩⟩
 case rest =>
  clear HC8
  try clear c1
  try clear p2
  try clear c5
  try clear c7
  try clear c10
  (try clear zK757)
  (try clear zK757)
  (try clear fK757)
  (try clear fK757)
  obtain ⟨kq, x3_7, rfl, HA, HJ7, BK757, HB⟩ := hcut
  cases kq with
  | zero => exact absurd HA.out (by simp [spec_PutCtl.j0])
  | succ kj7 =>
   have H := HA.out
   clear HA
   simp only [spec_PutCtl.j0] at H
   obtain ⟨y762, hy762⟩ : ∃ y_ : List Int, y_ = (([(a0_0) % 256, (a0_1) % 256] : List Int)) := ⟨_, rfl⟩
   rw [← hy762] at H
   have Ny762 := am_ hy762
   clear hy762
   replace H := bd_ H
   obtain ⟨t765, A11, H⟩ := H
   replace H := my_ (([(a0_3) % 256, (a0_4) % 256, (x3_7) % 256] : List Int)) H
   obtain ⟨y768, Ny768, H⟩ := H
   (try dsimp only at H)
   replace H := ip_ H
   obtain ⟨c12, H, -⟩ := H
   have LMc12 := am_ c12
   clear c12
   obtain ⟨y771, hy771⟩ : ∃ y_ : List Int, y_ = (t765 ++ y768) := ⟨_, rfl⟩
   replace H : ((spec_PutWord.f y771 a0_6).bind fun t774 => ((some (([((l0_7.length : Int)) % 256] : List Int) : List Int)).bind fun y777 => (if t774.length + y777.length < 140737488355328 then (spec_PutCtl.l0 kj7 (t774 ++ y777) 0 a0_0 a0_1 a0_2 a0_3 a0_4 a0_5 a0_6 l0_7) else (none)))) = some r := by first | (rw [hy771]; with_reducible exact H) | (have H2_ := (Option.bind_some _ _).symm.trans H; rw [hy771]; with_reducible exact H2_) | (have H2_ := (Option.bind_some _ _).symm.trans H; with_reducible exact H2_) | with_reducible exact H | (rw [hy771]; exact H) | exact H
   have Ny771 := am_ hy771
   clear hy771
   replace H := bd_ H
   obtain ⟨t774, A13, H⟩ := H
   replace H := my_ (([((l0_7.length : Int)) % 256] : List Int)) H
   obtain ⟨y777, Ny777, H⟩ := H
   (try dsimp only at H)
   replace H := ip_ H
   obtain ⟨c14, H, -⟩ := H
   have LMc14 := am_ c14
   clear c14
   obtain ⟨y780, hy780⟩ : ∃ y_ : List Int, y_ = (t774 ++ y777) := ⟨_, rfl⟩
   replace H : (spec_PutCtl.l0 kj7 y780 0 a0_0 a0_1 a0_2 a0_3 a0_4 a0_5 a0_6 l0_7) = some r := by first | (rw [hy780]; with_reducible exact H) | (have H2_ := (Option.bind_some _ _).symm.trans H; rw [hy780]; with_reducible exact H2_) | (have H2_ := (Option.bind_some _ _).symm.trans H; with_reducible exact H2_) | with_reducible exact H | (rw [hy780]; exact H) | exact H
   have Ny780 := am_ hy780
   clear hy780
   have H' := Aside0.mk H
   clear H
   (try clear zK757)
   have zK757 := cf8 BK757.out
   try go_wp2_with (first | (refine gd_ 19 rfl ?_; refine l8_ 5 19 ([(a0_0) % 256, (a0_1) % 256] : List Int) [.int .u8 ((a0_0) % 256), .int .u8 ((a0_1) % 256)] ?_; intro v763 w16 ho17 hb hg_ hnew_; clear hg_ hnew_; (first | rw [← Ny762.out] at ho17 | (simp only [Int.reduceToNat] at ho17; rw [← Ny762.out] at ho17)); have HO764 := am_ (Kd.R_lower ho17 (below_size (qB HB))); replace BK757 := bK_ BK757 hb; replace HB := bS_ HB hb; clear hb ho17; (try clear zK757); have zK757 := cf8 BK757.out; obtain ⟨Ao19, co19, eo19⟩ := Kd.R_slice HO764.out; subst eo19) | (refine gc_ 89 rfl ?_; refine gl_ (some 22) Try.func89 #[.slice Ao19 y762.length co19, .int .i64 a0_2] ?_; (with_reducible refine (spec_PutWord.calls _ _ y762 a0_2 t765 _ (rC_ HO764) ?side2 A11.out).mono ?_); (case side2 => exact (rL_ HO764)); rintro e w20 ⟨v766, rfl, ho0, hb⟩; refine ⟨_, rfl, ?_⟩; have HO767 := am_ (Kd.R_lower (Kd.R_new' ho0 (Kd.R_lt (qR HO764))) (below_size (qB HB))); replace HO764 := eA_ HO764 ho0 hb; replace BK757 := bK_ BK757 hb; replace HB := bS_ HB hb; (try clear hb); (try clear ho0); obtain ⟨Ao21, co21, eo21⟩ := Kd.R_slice HO767.out; subst eo21))
   replace HO767 := am_ (Kd.R_drew HO767.out)
   replace BK757 := am_ (blk_drew BK757.out)
   replace HB := am_ (below_drew1 HB.out)
   refine start_ (n := 21) (S := fun w' => w'.cell? ⟨gb757, 0, none⟩ = some (.int .i64 a0_0) ∧ w'.cell? ⟨gb757, 1, none⟩ = some (.int .i64 a0_1) ∧ w'.cell? ⟨gb757, 2, none⟩ = some (.int .i64 a0_2) ∧ w'.cell? ⟨gb757, 3, none⟩ = some (.int .i64 a0_3) ∧ w'.cell? ⟨gb757, 4, none⟩ = some (.int .i64 a0_4) ∧ w'.cell? ⟨gb757, 5, none⟩ = some (.bool a0_5) ∧ w'.cell? ⟨gb757, 6, none⟩ = some (.int .i64 a0_6) ∧ w'.cell? ⟨gb757, 7, none⟩ = some (.slice A0_7 l0_7.length c0_7)) (ds := []) (rl [0,21]) (by kernel_rfl) rfl rfl (cz8 BK757.out) (fun hHeld => ?_); refine with_tabW spec_PutCtl.tab7 spec_PutCtl.bits7 (fun HT_ HW_ => ?_)
   generalize w20.drew = w22 at HO767 BK757 HB hHeld ⊢
   refine pq_ 0 23 HT_ (rl [1,20]) ?_
   refine pq_ 1 24 HT_ (rl [2,19]) ?_
   refine pq_ 4 27 HT_ (rl [2,2,1,16]) ?_
   refine pq_ 7 30 HT_ (rl [2,2,1,2,1,13]) ?_
   refine pq_ 8 31 HT_ (rl [2,2,1,2,2,12]) ?_
   refine pq_ 11 34 HT_ (rl [2,2,1,2,2,2,1,9]) ?_
   refine pq_ 14 37 HT_ (rl [2,2,1,2,2,2,1,2,1,6]) ?_
   refine tz_ (i := 2) (N := some 25) HT_ HW_ (rl [3,1,1,2,2,2,1,2,1,6]) rfl rfl hHeld ?_
   refine pq_ 3 26 HT_ (rl [5,2,2,2,1,2,1,6]) ?_
   refine tz_ (i := 5) (N := some 28) HT_ HW_ (rl [6,1,2,2,1,2,1,6]) rfl rfl hHeld ?_
   refine pq_ 6 29 HT_ (rl [9,2,1,2,1,6]) ?_
   refine tz_ (i := 12) (N := some 35) HT_ HW_ (rl [9,2,2,1,1,6]) rfl rfl hHeld ?_
   refine tz_ (i := 15) (N := some 38) HT_ HW_ (rl [9,2,2,1,2,5]) rfl rfl hHeld ?_
   refine pq_ 16 39 HT_ (rl [9,2,2,1,3,4]) ?_
   refine pq_ 17 40 HT_ (rl [9,2,2,1,4,3]) ?_
   refine join_ (σ := Value × Value × Value × Value) 2 (rl [19,2]) (fun s_ => [(32, s_.1), (33, s_.2.1), (36, s_.2.2.1), (41, s_.2.2.2)]) (fun s_ w' => (w'.cell? ⟨gb757, 0, none⟩ = some (.int .i64 a0_0) ∧ w'.cell? ⟨gb757, 1, none⟩ = some (.int .i64 a0_1) ∧ w'.cell? ⟨gb757, 2, none⟩ = some (.int .i64 a0_2) ∧ w'.cell? ⟨gb757, 3, none⟩ = some (.int .i64 a0_3) ∧ w'.cell? ⟨gb757, 4, none⟩ = some (.int .i64 a0_4) ∧ w'.cell? ⟨gb757, 5, none⟩ = some (.bool a0_5) ∧ w'.cell? ⟨gb757, 6, none⟩ = some (.int .i64 a0_6) ∧ w'.cell? ⟨gb757, 7, none⟩ = some (.slice A0_7 l0_7.length c0_7)) ∧ (Kd.R (Kd.int .u8) 5 w' w.heap.size (fun k_ => some k_ ≠ (s_.2.1 : Value).ownBlock ∧ some k_ ≠ (s_.2.2.1 : Value).ownBlock ∧ some k_ ≠ (s_.2.2.2 : Value).ownBlock) s_.1 y768) ∧ (Kd.R (Kd.int .u8) 5 w' w.heap.size (fun k_ => some k_ ≠ (s_.1 : Value).ownBlock ∧ some k_ ≠ (s_.2.2.1 : Value).ownBlock ∧ some k_ ≠ (s_.2.2.2 : Value).ownBlock) s_.2.1 y771) ∧ (Kd.R (Kd.int .u8) 5 w' w.heap.size (fun k_ => some k_ ≠ (s_.1 : Value).ownBlock ∧ some k_ ≠ (s_.2.1 : Value).ownBlock ∧ some k_ ≠ (s_.2.2.2 : Value).ownBlock) s_.2.2.1 t774) ∧ (Kd.R (Kd.int .u8) 5 w' w.heap.size (fun k_ => some k_ ≠ (s_.1 : Value).ownBlock ∧ some k_ ≠ (s_.2.1 : Value).ownBlock ∧ some k_ ≠ (s_.2.2.1 : Value).ownBlock) s_.2.2.2 y777) ∧ (w'.heap[gb757]? = some (.cells #[.int .i64 a0_0, .int .i64 a0_1, .int .i64 a0_2, .int .i64 a0_3, .int .i64 a0_4, .bool a0_5, .int .i64 a0_6, .slice A0_7 l0_7.length c0_7] 75 (0, 0))) ∧ (Below w.heap.size w w')) ?_ ?_
   rotate_left
   ·
    intro hCont
    refine two_ (i := 9) (j := 18) (Ni := some 32) (Nj := some 41) (rl [10,1,2,1,4,3]) (rl [9,2,2,1,5,2]) rfl rfl rfl rfl (two_of HT_.out (by kernel_rfl)) (by decide) (by decide) (fun K hK => ?_) (fun K hK => ?_)
    ·
     skip
     refine l8s_ 5 32 ([(a0_3) % 256, (a0_4) % 256, (x3_7) % 256] : List Int) [.int .u8 ((a0_3) % 256), .int .u8 ((a0_4) % 256), .int .u8 ((x3_7) % 256)] ?_
     intro v769 w23 ho24 hb hg_ hnew_
     clear hg_ hnew_
     (first | rw [← Ny768.out] at ho24 | (simp only [Int.reduceToNat] at ho24; rw [← Ny768.out] at ho24))
     have HO770 := am_ (Kd.R_lower (Kd.R_new' ho24 (Kd.R_lt (qR HO767))) (below_size (qB HB)))
     replace HO767 := eA_ HO767 ho24 hb
     replace BK757 := bK_ BK757 hb
     replace HB := bS_ HB hb
     clear hb ho24
     obtain ⟨Ao26, co26, eo26⟩ := Kd.R_slice HO770.out
     (first | subst eo26 | (injection eo26 with f1_ f2_ f3_; have f4_ := f1_.symm; have f5_ := f3_.symm; clear f1_ f2_ f3_; subst f4_; subst f5_))
     refine hK.out _ _ (cz8 BK757.out) (fun hHeld => ?_)
     clear hK K
     refine nm_ (some 32) ?_
     refine two_ (i := 10) (j := 18) (Ni := some 33) (Nj := some 41) (rl [13,1,4,3]) (rl [10,1,2,1,5,2]) rfl rfl rfl rfl (two_of HT_.out (by kernel_rfl)) (by decide) (by decide) (fun K hK => ?_) (fun K hK => ?_)
     ·
      skip
      refine Kd.R_append_rows_step (Kd.int .u8) (w0 := w) w.heap.size (by rfl) (.tmp 23) (.tmp 32) 22 5 (.int .u8 0) 1 rfl Try.underlying22 info5 rfl (by decide) (by omega) (.slice Ao21 t765.length co21) t765 y768 _ _ _ (fun k_ => nb Ao26 y768.length co26 k_) (fun _ => False) rfl rfl ?aO ?aR (fun _ _ h => h) (fun _ h => h.elim) ?aF ?aB ?aS ?aL ?_
      (case aR => exact rC_ HO770)
      (case aB => exact (qB HB))
      (case aF => exact (fun k_ hk => Kd.fresh' (Kd.R_lt (qR HO770)) k_ hk))
      (case aO => exact (xR1_ HO767))
      (case aS => exact (below_size (qB HB)))
      (case aL => have := LMc12.out; omega)
      intro v772 w25 ho hb hg hat
      rw [← Ny771.out] at ho
      replace BK757 := kG_ BK757 HO767 hg
      replace HO770 := am_ (Kd.R_after (ok := (fun _ => True)) (xR1_ HO770) hg hat)
      replace HB := am_ (hb)
      have HO773 := am_ (ho)
      clear HO767
      clear ho hb hg hat
      obtain ⟨Ao27, co27, eo27⟩ := Kd.R_slice HO773.out
      (first | subst eo27 | (injection eo27 with f1_ f2_ f3_; have f4_ := f1_.symm; have f5_ := f3_.symm; clear f1_ f2_ f3_; subst f4_; subst f5_))
      refine hK.out _ _ (cz8 BK757.out) (fun hHeld => ?_)
      clear hK K
      refine nm_ (some 33) ?_
      refine two_ (i := 13) (j := 18) (Ni := some 36) (Nj := some 41) (rl [18,3]) (rl [13,1,5,2]) rfl rfl rfl rfl (two_of HT_.out (by kernel_rfl)) (by decide) (by decide) (fun K hK => ?_) (fun K hK => ?_)
      ·
       skip
       refine goes_ Try.func89 (by kernel_rfl) rfl #[.slice Ao27 y771.length co27, .int .i64 a0_6] (by rfl) rfl rfl la_ ?_
       with_reducible refine (spec_PutWord.calls _ _ y771 a0_6 t774 _ (rC_ HO773) ?side2 A13.out).mono ?_
       (case side2 => exact (rL_ HO773))
       rintro e w28 ⟨v775, rfl, ho0, hb⟩
       refine ⟨_, rfl, ?_⟩
       have HO776 := am_ (Kd.R_lower (Kd.R_new' (Kd.R_new' ho0 (Kd.R_lt (qR HO770))) (Kd.R_lt (qR HO773))) (below_size (qB HB)))
       replace HO770 := eA_ HO770 ho0 hb
       replace HO773 := eA_ HO773 ho0 hb
       replace BK757 := bK_ BK757 hb
       replace HB := bS_ HB hb
       (try clear hb ho0)
       refine hK.out _ _ (cz8 BK757.out) (fun hHeld => ?_)
       clear hK K
       refine nm_ (some 36) ?_
       refine on_ HT_ (i := 18) (N := some 41) (rl [19,2]) (fun K hK => ?_)
       refine l8s_ 5 41 ([((l0_7.length : Int)) % 256] : List Int) [.int .u8 (((l0_7.length : Int)) % 256)] ?_
       intro v778 w29 ho30 hb hg_ hnew_
       clear hg_ hnew_
       (first | rw [← Ny777.out] at ho30 | (simp only [Int.reduceToNat] at ho30; rw [← Ny777.out] at ho30))
       have HO779 := am_ (Kd.R_lower (Kd.R_new' (Kd.R_new' (Kd.R_new' ho30 (Kd.R_lt (qR HO770))) (Kd.R_lt (qR HO773))) (Kd.R_lt (qR HO776))) (below_size (qB HB)))
       replace HO770 := eA_ HO770 ho30 hb
       replace HO773 := eA_ HO773 ho30 hb
       replace HO776 := eA_ HO776 ho30 hb
       replace BK757 := bK_ BK757 hb
       replace HB := bS_ HB hb
       clear hb ho30
       refine hK.out _ _ (cz8 BK757.out) (fun hHeld => ?_)
       clear hK K
       refine nm_ (some 41) ?_
       exact nr_ (hCont (.slice Ao26 y768.length co26, .slice Ao27 y771.length co27, v775, v778) _ ⟨hHeld, (xR1_ HO770), (xR1_ HO773), (xR1_ HO776), (xR1_ HO779), (qK BK757), (qB HB)⟩)
      ·
       skip
       refine l8s_ 5 41 ([((l0_7.length : Int)) % 256] : List Int) [.int .u8 (((l0_7.length : Int)) % 256)] ?_
       intro v778 w27 ho28 hb hg_ hnew_
       clear hg_ hnew_
       (first | rw [← Ny777.out] at ho28 | (simp only [Int.reduceToNat] at ho28; rw [← Ny777.out] at ho28))
       have HO779 := am_ (Kd.R_lower (Kd.R_new' (Kd.R_new' ho28 (Kd.R_lt (qR HO770))) (Kd.R_lt (qR HO773))) (below_size (qB HB)))
       replace HO770 := eA_ HO770 ho28 hb
       replace HO773 := eA_ HO773 ho28 hb
       replace BK757 := bK_ BK757 hb
       replace HB := bS_ HB hb
       clear hb ho28
       obtain ⟨Ao29, co29, eo29⟩ := Kd.R_slice HO773.out
       (first | subst eo29 | (injection eo29 with f1_ f2_ f3_; have f4_ := f1_.symm; have f5_ := f3_.symm; clear f1_ f2_ f3_; subst f4_; subst f5_))
       refine hK.out _ _ (cz8 BK757.out) (fun hHeld => ?_)
       clear hK K
       refine nm_ (some 41) ?_
       refine on_ HT_ (i := 13) (N := some 36) (rl [19,2]) (fun K hK => ?_)
       refine goes_ Try.func89 (by kernel_rfl) rfl #[.slice Ao29 y771.length co29, .int .i64 a0_6] (by rfl) rfl rfl la_ ?_
       with_reducible refine (spec_PutWord.calls _ _ y771 a0_6 t774 _ (rC_ HO773) ?side2 A13.out).mono ?_
       (case side2 => exact (rL_ HO773))
       rintro e w30 ⟨v775, rfl, ho0, hb⟩
       refine ⟨_, rfl, ?_⟩
       have HO776 := am_ (Kd.R_lower (Kd.R_new' (Kd.R_new' (Kd.R_new' ho0 (Kd.R_lt (qR HO770))) (Kd.R_lt (qR HO773))) (Kd.R_lt (qR HO779))) (below_size (qB HB)))
       replace HO770 := eA_ HO770 ho0 hb
       replace HO773 := eA_ HO773 ho0 hb
       replace HO779 := eA_ HO779 ho0 hb
       replace BK757 := bK_ BK757 hb
       replace HB := bS_ HB hb
       (try clear hb ho0)
       refine hK.out _ _ (cz8 BK757.out) (fun hHeld => ?_)
       clear hK K
       refine nm_ (some 36) ?_
       exact nr_ (hCont (.slice Ao26 y768.length co26, .slice Ao29 y771.length co29, v775, v778) _ ⟨hHeld, (xR1_ HO770), (xR1_ HO773), (xR1_ HO776), (xR1_ HO779), (qK BK757), (qB HB)⟩)
     ·
      skip
      refine l8s_ 5 41 ([((l0_7.length : Int)) % 256] : List Int) [.int .u8 (((l0_7.length : Int)) % 256)] ?_
      intro v778 w25 ho26 hb hg_ hnew_
      clear hg_ hnew_
      (first | rw [← Ny777.out] at ho26 | (simp only [Int.reduceToNat] at ho26; rw [← Ny777.out] at ho26))
      have HO779 := am_ (Kd.R_lower (Kd.R_new' (Kd.R_new' ho26 (Kd.R_lt (qR HO767))) (Kd.R_lt (qR HO770))) (below_size (qB HB)))
      replace HO767 := eA_ HO767 ho26 hb
      replace HO770 := eA_ HO770 ho26 hb
      replace BK757 := bK_ BK757 hb
      replace HB := bS_ HB hb
      clear hb ho26
      obtain ⟨Ao28, co28, eo28⟩ := Kd.R_slice HO770.out
      (first | subst eo28 | (injection eo28 with f1_ f2_ f3_; have f4_ := f1_.symm; have f5_ := f3_.symm; clear f1_ f2_ f3_; subst f4_; subst f5_))
      refine hK.out _ _ (cz8 BK757.out) (fun hHeld => ?_)
      clear hK K
      refine nm_ (some 41) ?_
      refine on_ HT_ (i := 10) (N := some 33) (rl [13,1,5,2]) (fun K hK => ?_)
      refine Kd.R_append_rows_step (Kd.int .u8) (w0 := w) w.heap.size (by rfl) (.tmp 23) (.tmp 32) 22 5 (.int .u8 0) 1 rfl Try.underlying22 info5 rfl (by decide) (by omega) (.slice Ao21 t765.length co21) t765 y768 _ _ _ (fun k_ => nb Ao28 y768.length co28 k_ ∧ nv v778 k_) (fun _ => False) rfl rfl ?aO ?aR (fun _ _ h => h) (fun _ h => h.elim) ?aF ?aB ?aS ?aL ?_
      (case aR => exact rC_ HO770)
      (case aB => exact (qB HB))
      (case aF => exact (fun k_ hk => ⟨Kd.fresh' (Kd.R_lt (qR HO770)) k_ hk, Kd.fresh' (Kd.R_lt (qR HO779)) k_ hk⟩))
      (case aO => exact (xR1_ HO767))
      (case aS => exact (below_size (qB HB)))
      (case aL => have := LMc12.out; omega)
      intro v772 w27 ho hb hg hat
      rw [← Ny771.out] at ho
      replace BK757 := kG_ BK757 HO767 hg
      replace HO770 := am_ (Kd.R_after (ok := (fun k_ => nv v778 k_)) (xR1_ HO770) hg hat)
      replace HO779 := am_ (Kd.R_after (ok := (fun k_ => nb Ao28 y768.length co28 k_)) (xR1_ HO779) hg hat)
      replace HB := am_ (hb)
      have HO773 := am_ (ho)
      clear HO767
      clear ho hb hg hat
      obtain ⟨Ao29, co29, eo29⟩ := Kd.R_slice HO773.out
      (first | subst eo29 | (injection eo29 with f1_ f2_ f3_; have f4_ := f1_.symm; have f5_ := f3_.symm; clear f1_ f2_ f3_; subst f4_; subst f5_))
      refine hK.out _ _ (cz8 BK757.out) (fun hHeld => ?_)
      clear hK K
      refine nm_ (some 33) ?_
      refine on_ HT_ (i := 13) (N := some 36) (rl [19,2]) (fun K hK => ?_)
      refine goes_ Try.func89 (by kernel_rfl) rfl #[.slice Ao29 y771.length co29, .int .i64 a0_6] (by rfl) rfl rfl la_ ?_
      with_reducible refine (spec_PutWord.calls _ _ y771 a0_6 t774 _ (rC_ HO773) ?side2 A13.out).mono ?_
      (case side2 => exact (rL_ HO773))
      rintro e w30 ⟨v775, rfl, ho0, hb⟩
      refine ⟨_, rfl, ?_⟩
      have HO776 := am_ (Kd.R_lower (Kd.R_new' (Kd.R_new' (Kd.R_new' ho0 (Kd.R_lt (qR HO770))) (Kd.R_lt (qR HO779))) (Kd.R_lt (qR HO773))) (below_size (qB HB)))
      replace HO770 := eA_ HO770 ho0 hb
      replace HO779 := eA_ HO779 ho0 hb
      replace HO773 := eA_ HO773 ho0 hb
      replace BK757 := bK_ BK757 hb
      replace HB := bS_ HB hb
      (try clear hb ho0)
      refine hK.out _ _ (cz8 BK757.out) (fun hHeld => ?_)
      clear hK K
      refine nm_ (some 36) ?_
      exact nr_ (hCont (.slice Ao28 y768.length co28, .slice Ao29 y771.length co29, v775, v778) _ ⟨hHeld, (xR1_ HO770), (xR1_ HO773), (xR1_ HO776), (xR1_ HO779), (qK BK757), (qB HB)⟩)
    ·
     skip
     refine l8s_ 5 41 ([((l0_7.length : Int)) % 256] : List Int) [.int .u8 (((l0_7.length : Int)) % 256)] ?_
     intro v778 w23 ho24 hb hg_ hnew_
     clear hg_ hnew_
     (first | rw [← Ny777.out] at ho24 | (simp only [Int.reduceToNat] at ho24; rw [← Ny777.out] at ho24))
     have HO779 := am_ (Kd.R_lower (Kd.R_new' ho24 (Kd.R_lt (qR HO767))) (below_size (qB HB)))
     replace HO767 := eA_ HO767 ho24 hb
     replace BK757 := bK_ BK757 hb
     replace HB := bS_ HB hb
     clear hb ho24
     refine hK.out _ _ (cz8 BK757.out) (fun hHeld => ?_)
     clear hK K
     refine nm_ (some 41) ?_
     refine on_ HT_ (i := 9) (N := some 32) (rl [10,1,2,1,5,2]) (fun K hK => ?_)
     refine l8s_ 5 32 ([(a0_3) % 256, (a0_4) % 256, (x3_7) % 256] : List Int) [.int .u8 ((a0_3) % 256), .int .u8 ((a0_4) % 256), .int .u8 ((x3_7) % 256)] ?_
     intro v769 w25 ho26 hb hg_ hnew_
     clear hg_ hnew_
     (first | rw [← Ny768.out] at ho26 | (simp only [Int.reduceToNat] at ho26; rw [← Ny768.out] at ho26))
     have HO770 := am_ (Kd.R_lower (Kd.R_new' (Kd.R_new' ho26 (Kd.R_lt (qR HO767))) (Kd.R_lt (qR HO779))) (below_size (qB HB)))
     replace HO767 := eA_ HO767 ho26 hb
     replace HO779 := eA_ HO779 ho26 hb
     replace BK757 := bK_ BK757 hb
     replace HB := bS_ HB hb
     clear hb ho26
     obtain ⟨Ao28, co28, eo28⟩ := Kd.R_slice HO770.out
     (first | subst eo28 | (injection eo28 with f1_ f2_ f3_; have f4_ := f1_.symm; have f5_ := f3_.symm; clear f1_ f2_ f3_; subst f4_; subst f5_))
     refine hK.out _ _ (cz8 BK757.out) (fun hHeld => ?_)
     clear hK K
     refine nm_ (some 32) ?_
     refine on_ HT_ (i := 10) (N := some 33) (rl [13,1,5,2]) (fun K hK => ?_)
     refine Kd.R_append_rows_step (Kd.int .u8) (w0 := w) w.heap.size (by rfl) (.tmp 23) (.tmp 32) 22 5 (.int .u8 0) 1 rfl Try.underlying22 info5 rfl (by decide) (by omega) (.slice Ao21 t765.length co21) t765 y768 _ _ _ (fun k_ => nv v778 k_ ∧ nb Ao28 y768.length co28 k_) (fun _ => False) rfl rfl ?aO ?aR (fun _ _ h => h) (fun _ h => h.elim) ?aF ?aB ?aS ?aL ?_
     (case aR => exact rC_ HO770)
     (case aB => exact (qB HB))
     (case aF => exact (fun k_ hk => ⟨Kd.fresh' (Kd.R_lt (qR HO779)) k_ hk, Kd.fresh' (Kd.R_lt (qR HO770)) k_ hk⟩))
     (case aO => exact (xR1_ HO767))
     (case aS => exact (below_size (qB HB)))
     (case aL => have := LMc12.out; omega)
     intro v772 w27 ho hb hg hat
     rw [← Ny771.out] at ho
     replace BK757 := kG_ BK757 HO767 hg
     replace HO779 := am_ (Kd.R_after (ok := (fun k_ => nb Ao28 y768.length co28 k_)) (xR1_ HO779) hg hat)
     replace HO770 := am_ (Kd.R_after (ok := (fun k_ => nv v778 k_)) (xR1_ HO770) hg hat)
     replace HB := am_ (hb)
     have HO773 := am_ (ho)
     clear ho hb hg hat
     obtain ⟨Ao29, co29, eo29⟩ := Kd.R_slice HO773.out
     (first | subst eo29 | (injection eo29 with f1_ f2_ f3_; have f4_ := f1_.symm; have f5_ := f3_.symm; clear f1_ f2_ f3_; subst f4_; subst f5_))
     refine hK.out _ _ (cz8 BK757.out) (fun hHeld => ?_)
     clear hK K
     refine nm_ (some 33) ?_
     refine on_ HT_ (i := 13) (N := some 36) (rl [19,2]) (fun K hK => ?_)
     refine goes_ Try.func89 (by kernel_rfl) rfl #[.slice Ao29 y771.length co29, .int .i64 a0_6] (by rfl) rfl rfl la_ ?_
     with_reducible refine (spec_PutWord.calls _ _ y771 a0_6 t774 _ (rC_ HO773) ?side2 A13.out).mono ?_
     (case side2 => exact (rL_ HO773))
     rintro e w30 ⟨v775, rfl, ho0, hb⟩
     refine ⟨_, rfl, ?_⟩
     have HO776 := am_ (Kd.R_lower (Kd.R_new' (Kd.R_new' (Kd.R_new' ho0 (Kd.R_lt (qR HO779))) (Kd.R_lt (qR HO770))) (Kd.R_lt (qR HO773))) (below_size (qB HB)))
     replace HO779 := eA_ HO779 ho0 hb
     replace HO770 := eA_ HO770 ho0 hb
     replace HO773 := eA_ HO773 ho0 hb
     replace BK757 := bK_ BK757 hb
     replace HB := bS_ HB hb
     (try clear hb ho0)
     refine hK.out _ _ (cz8 BK757.out) (fun hHeld => ?_)
     clear hK K
     refine nm_ (some 36) ?_
     exact nr_ (hCont (.slice Ao28 y768.length co28, .slice Ao29 y771.length co29, v775, v778) _ ⟨hHeld, (xR1_ HO770), (xR1_ HO773), (xR1_ HO776), (xR1_ HO779), (qK BK757), (qB HB)⟩)
   rintro ⟨v769, v772, v775, v778⟩ w31 ⟨hS_, h1_, h2_, h3_, h4_, h5_, h6_⟩
   (try dsimp only at h1_ h2_ h3_ h4_ h5_ h6_)
   have n1_ := am_ h1_
   have n2_ := am_ h2_
   have n3_ := am_ h3_
   have n4_ := am_ h4_
   have n5_ := am_ h5_
   have n6_ := am_ h6_
   clear BK757
   clear HB
   clear h1_ h2_ h3_ h4_ h5_ h6_
   have HO770 := n1_
   have HO773 := n2_
   have HO776 := n3_
   have HO779 := n4_
   have BK757 := n5_
   have HB := n6_
   clear n1_ n2_ n3_ n4_ n5_ n6_
   have hHeld : w31.cell? ⟨gb757, 0, none⟩ = some (.int .i64 a0_0) ∧ w31.cell? ⟨gb757, 1, none⟩ = some (.int .i64 a0_1) ∧ w31.cell? ⟨gb757, 2, none⟩ = some (.int .i64 a0_2) ∧ w31.cell? ⟨gb757, 3, none⟩ = some (.int .i64 a0_3) ∧ w31.cell? ⟨gb757, 4, none⟩ = some (.int .i64 a0_4) ∧ w31.cell? ⟨gb757, 5, none⟩ = some (.bool a0_5) ∧ w31.cell? ⟨gb757, 6, none⟩ = some (.int .i64 a0_6) ∧ w31.cell? ⟨gb757, 7, none⟩ = some (.slice A0_7 l0_7.length c0_7) := hS_
   obtain ⟨Ao33, co33, eo33⟩ := Kd.R_slice HO779.out
   (first | subst eo33 | (injection eo33 with f1_ f2_ f3_; have f4_ := f1_.symm; have f5_ := f3_.symm; clear f1_ f2_ f3_; subst f4_; subst f5_))
   refine norm_ (a' := ?_) ?_ ?_
   rotate_left
   ·
    simp only [putAll, Act.put, List.setIfInBounds_toArray, List.set_cons_zero, List.set_cons_succ]
    rfl
   refine on_ HT_ (i := 19) (N := some 42) (rl [20,1]) (fun K hK => ?_)
   refine Kd.R_append_rows_step (Kd.int .u8) (w0 := w) w.heap.size (by rfl) (.tmp 36) (.tmp 41) 22 5 (.int .u8 0) 1 rfl Try.underlying22 info5 rfl (by decide) (by omega) v775 t774 y777 _ _ _ (fun k_ => nb Ao33 y777.length co33 k_) (fun _ => False) rfl rfl ?aO ?aR (fun _ _ h => h) (fun _ h => h.elim) ?aF ?aB ?aS ?aL ?_
   (case aR => exact rC_ HO779)
   (case aB => exact (qB HB))
   (case aF => exact (fun k_ hk => Kd.fresh' (Kd.R_lt (qR HO779)) k_ hk))
   (case aO => exact (xR1_ HO776))
   (case aS => exact (below_size (qB HB)))
   (case aL => have := LMc14.out; omega)
   intro v781 w32 ho hb hg hat
   rw [← Ny780.out] at ho
   replace BK757 := kG_ BK757 HO776 hg
   replace HB := am_ (hb)
   have HO782 := am_ (ho)
   clear ho hb hg hat
   refine hK.out _ _ (cz8 BK757.out) (fun hHeld => ?_)
   clear hK K
   refine nm_ (some 42) ?_
   refine pq_ 20 4 HT_ (rl [21]) ?_
   refine done_ (done_of HT_.out (by kernel_rfl)) ?_
   try go_wp2
   go_loopg [4, 5] kj7 (fun kq v4 v5 w' => ∃ (x4_2 : List Int) (x5_2 : Int), v5 = .int .i64 x5_2 ∧ Aside0 (spec_PutCtl.l0 kq x4_2 x5_2 a0_0 a0_1 a0_2 a0_3 a0_4 a0_5 a0_6 l0_7 = some r) ∧ Aside0 (kq ≤ kj7) ∧ Aside0 (Kd.R (Kd.int .u8) 5 w' w.heap.size (fun _ => True) v4 x4_2) ∧ Aside0 (w'.heap[gb757]? = some (.cells #[.int .i64 a0_0, .int .i64 a0_1, .int .i64 a0_2, .int .i64 a0_3, .int .i64 a0_4, .bool a0_5, .int .i64 a0_6, (.slice A0_7 l0_7.length c0_7)] 75 (0, 0))) ∧ Aside0 (Below w.heap.size w w'))
   case atStart => exact ⟨(y780), (0), eqq_, H', ⟨Nat.le_refl _⟩, xR_ HO782, ⟨qK BK757⟩, ⟨qB HB⟩⟩
   case round =>
    clear H'
    try clear c1
    try clear p2
    try clear c8
    try clear c12
    try clear c14
    obtain ⟨x4_2, x5_2, rfl, HA, HK2, HO_4, BK757, HB⟩ := hrel
    cases gk with
    | zero => exact absurd HA.out (by simp [spec_PutCtl.l0])
    | succ k2 =>
     have H := HA.out
     clear HA
     simp only [spec_PutCtl.l0] at H
     replace H := id_ H
     obtain ⟨-, H, c34b0⟩ | ⟨-, H, c34b0⟩ := H
     rotate_left
     ·
      replace H := bd_ H
      obtain ⟨t796, A47, H⟩ := H
      replace H := bd_ H
      obtain ⟨t797, A48, H⟩ := H
      obtain rfl := si_ H
      (try clear zK757)
      have zK757 := cz8 BK757.out
      obtain ⟨Ao50, co50, eo50⟩ := Kd.R_slice HO_4.out
      subst eo50
      go_wp2_with (first | (refine gc_ 111 rfl ?_; refine gl_ (some 66) Try.func111 #[.slice Ao50 x4_2.length co50] ?_; (with_reducible refine (spec_Sum.calls k2 _ _ x4_2 t796 _ (rC_ HO_4) ?side2 A47.out).mono ?_); (case side2 => exact (rL_ HO_4)); rintro e w' ⟨rfl, ⟨nd, rfl⟩⟩; refine ⟨_, rfl, ?_⟩) | (refine gc_ 89 rfl ?_; refine gl_ (some 67) Try.func89 #[.slice Ao50 x4_2.length co50, .int .i64 t796] ?_; (with_reducible refine (spec_PutWord.calls _ _ x4_2 t796 t797 _ (rC_ HO_4) ?side2 A48.out).mono ?_); (case side2 => exact (rL_ HO_4)); rintro e w51 ⟨v798, rfl, ho0, hb⟩; refine ⟨_, rfl, ?_⟩; have HO799 := am_ (Kd.R_lower (Kd.R_new' ho0 (Kd.R_lt (qR HO_4))) (below_size (qB HB))); replace HO_4 := eA_ HO_4 ho0 hb; replace BK757 := bK_ BK757 hb; replace HB := bS_ HB hb; (try clear hb); (try clear ho0)))
      go_ret
      exact ⟨_, er_, (xR1_ HO799), qB HB⟩
     replace H := ip_ H
     obtain ⟨-, H, c35b0⟩ := H
     replace H := bd_ H
     obtain ⟨t784, A36, H⟩ := H
     replace H := my_ (([((t784.length : Int)) % 256] : List Int)) H
     obtain ⟨y787, Ny787, H⟩ := H
     (try dsimp only at H)
     replace H := ip_ H
     obtain ⟨c37, H, -⟩ := H
     have LMc37 := am_ c37
     clear c37
     replace H := my_ (x4_2 ++ y787) H
     obtain ⟨y790, Ny790, H⟩ := H
     (try dsimp only at H)
     replace H := ip_ H
     obtain ⟨c38, H, -⟩ := H
     have LMc38 := am_ c38
     clear c38
     obtain ⟨y793, hy793⟩ : ∃ y_ : List Int, y_ = (y790 ++ t784) := ⟨_, rfl⟩
     replace H : (spec_PutCtl.l0 k2 y793 (wrap64 (x5_2 + 1)) a0_0 a0_1 a0_2 a0_3 a0_4 a0_5 a0_6 l0_7) = some r := by first | (rw [hy793]; with_reducible exact H) | (have H2_ := (Option.bind_some _ _).symm.trans H; rw [hy793]; with_reducible exact H2_) | (have H2_ := (Option.bind_some _ _).symm.trans H; with_reducible exact H2_) | with_reducible exact H | (rw [hy793]; exact H) | exact H
     have Ny793 := am_ hy793
     clear hy793
     have H' := Aside0.mk H
     clear H
     (try clear zK757)
     have zK757 := cz8 BK757.out
     have p783 : 0 ≤ (x5_2 : Int) := od_
     have q783 : x5_2 < (l0_7.length : Int) := od_
     obtain ⟨ad783, e783, hx783_0, hx783_1, hx783_2, hx783_3, hx783_4, hx783_5, hx783_6, hx783_7, hx783_8, hx783_9, hx783_10, hx783_11, hx783_12, hx783_13, hx783_14, hx783_15⟩ := at_T29 HR0_7.out x5_2 p783 q783
     cases e783
     replace hx783_0 := lb_ HB hx783_0
     replace hx783_1 := lb_ HB hx783_1
     replace hx783_2 := lb_ HB hx783_2
     replace hx783_3 := lb_ HB hx783_3
     replace hx783_4 := lb_ HB hx783_4
     replace hx783_5 := lb_ HB hx783_5
     replace hx783_6 := lb_ HB hx783_6
     replace hx783_7 := lb_ HB hx783_7
     replace hx783_8 := lb_ HB hx783_8
     replace hx783_9 := lb_ HB hx783_9
     replace hx783_10 := lb_ HB hx783_10
     replace hx783_11 := lb_ HB hx783_11
     replace hx783_12 := lb_ HB hx783_12
     replace hx783_13 := lb_ HB hx783_13
     replace hx783_14 := lb_ HB hx783_14
     replace hx783_15 := lb_ HB hx783_15
     replace p783 := eq_true p783
     replace q783 := eq_true q783
     go_wp2_with (first | (refine gc_ 20 rfl ?_; refine gl_ (some 55) Try.func20 #[.agg #[.int .i64 ((rd_T29 l0_7 x5_2).f0), .int .i64 ((rd_T29 l0_7 x5_2).f1.f0), .string ((rd_T29 l0_7 x5_2).f1.f1), .int .i64 ((rd_T29 l0_7 x5_2).f1.f2), .int .i64 ((rd_T29 l0_7 x5_2).f1.f3), .int .i64 ((rd_T29 l0_7 x5_2).f1.f4), .string ((rd_T29 l0_7 x5_2).f1.f5), .int .i64 ((rd_T29 l0_7 x5_2).f1.f6), .int .i64 ((rd_T29 l0_7 x5_2).f1.f7), .int .i64 ((rd_T29 l0_7 x5_2).f2.f0), .string ((rd_T29 l0_7 x5_2).f2.f1), .int .i64 ((rd_T29 l0_7 x5_2).f2.f2), .int .i64 ((rd_T29 l0_7 x5_2).f2.f3), .int .i64 ((rd_T29 l0_7 x5_2).f2.f4), .int .i64 ((rd_T29 l0_7 x5_2).f2.f5), .int .i64 ((rd_T29 l0_7 x5_2).f2.f6)]] ?_; (with_reducible refine (spec_PutItem.calls k2 ((rd_T29 l0_7 x5_2).f0) ((rd_T29 l0_7 x5_2).f1.f0) ((rd_T29 l0_7 x5_2).f1.f1) ((rd_T29 l0_7 x5_2).f1.f2) ((rd_T29 l0_7 x5_2).f1.f3) ((rd_T29 l0_7 x5_2).f1.f4) ((rd_T29 l0_7 x5_2).f1.f5) ((rd_T29 l0_7 x5_2).f1.f6) ((rd_T29 l0_7 x5_2).f1.f7) ((rd_T29 l0_7 x5_2).f2.f0) ((rd_T29 l0_7 x5_2).f2.f1) ((rd_T29 l0_7 x5_2).f2.f2) ((rd_T29 l0_7 x5_2).f2.f3) ((rd_T29 l0_7 x5_2).f2.f4) ((rd_T29 l0_7 x5_2).f2.f5) ((rd_T29 l0_7 x5_2).f2.f6) t784 _ A36.out).mono ?_); rintro e w40 ⟨v785, rfl, ho0, hb⟩; refine ⟨_, rfl, ?_⟩; have HO786 := am_ (Kd.R_lower (Kd.R_new' ho0 (Kd.R_lt (qR HO_4))) (below_size (qB HB))); replace HO_4 := eA_ HO_4 ho0 hb; replace BK757 := bK_ BK757 hb; replace HB := bS_ HB hb; (try clear hb); (try clear ho0); obtain ⟨Ao41, co41, eo41⟩ := Kd.R_slice HO786.out; subst eo41) | (refine gd_ 60 rfl ?_; refine l8_ 5 60 ([((t784.length : Int)) % 256] : List Int) [.int .u8 (((t784.length : Int)) % 256)] ?_; intro v788 w42 ho43 hb hg_ hnew_; clear hg_ hnew_; (first | rw [← Ny787.out] at ho43 | (simp only [Int.reduceToNat] at ho43; rw [← Ny787.out] at ho43)); have HO789 := am_ (Kd.R_lower (Kd.R_new' (Kd.R_new' ho43 (Kd.R_lt (qR HO_4))) (Kd.R_lt (qR HO786))) (below_size (qB HB))); replace HO_4 := eA_ HO_4 ho43 hb; replace HO786 := eA_ HO786 ho43 hb; replace BK757 := bK_ BK757 hb; replace HB := bS_ HB hb; clear hb ho43; obtain ⟨Ao45, co45, eo45⟩ := Kd.R_slice HO789.out; subst eo45) | ((with_reducible refine gate_builtin (b := .append) (xs := #[.tmp 56, .tmp 60]) rfl ?_); at_builtin; refine Kd.R_append_rows (Kd.int .u8) (w0 := w) w.heap.size rfl (.tmp 56) (.tmp 60) 22 5 (.int .u8 0) 1 rfl Try.underlying22 info5 rfl (by decide) (by omega) u4 x4_2 y787 _ _ _ (fun k_ => nb Ao41 t784.length co41 k_ ∧ nb Ao45 y787.length co45 k_) (fun _ => False) rfl rfl ?aO ?aR (fun _ _ h => h) (fun _ h => h.elim) ?aF ?aB ?aS ?aL ?_; (case aR => exact rC_ HO789); (case aB => exact (qB HB)); (case aF => exact (fun k_ hk => ⟨Kd.fresh' (Kd.R_lt (qR HO786)) k_ hk, Kd.fresh' (Kd.R_lt (qR HO789)) k_ hk⟩)); (case aO => exact (xR1_ HO_4)); (case aS => exact (below_size (qB HB))); (case aL => have := LMc37.out; omega); intro v791 w44 ho hb hg hat; rw [← Ny790.out] at ho; replace BK757 := kG_ BK757 HO_4 hg; replace HO786 := am_ (Kd.R_after (ok := (fun k_ => nb Ao45 y787.length co45 k_)) (xR1_ HO786) hg hat); replace HO789 := am_ (Kd.R_after (ok := (fun k_ => nb Ao41 t784.length co41 k_)) (xR1_ HO789) hg hat); replace HB := am_ (hb); have HO792 := am_ (ho); clear HO_4; clear ho hb hg hat) | ((with_reducible refine gate_builtin (b := .append) (xs := #[.tmp 61, .tmp 62]) rfl ?_); at_builtin; refine Kd.R_append_rows (Kd.int .u8) (w0 := w) w.heap.size rfl (.tmp 61) (.tmp 62) 22 5 (.int .u8 0) 1 rfl Try.underlying22 info5 rfl (by decide) (by omega) v791 y790 t784 _ _ _ (fun k_ => nb Ao41 t784.length co41 k_ ∧ nb Ao45 y787.length co45 k_) (fun _ => False) rfl rfl ?aO ?aR (fun _ _ h => h) (fun _ h => h.elim) ?aF ?aB ?aS ?aL ?_; (case aR => exact rC_ HO786); (case aB => exact (qB HB)); (case aF => exact (fun k_ hk => ⟨Kd.fresh' (Kd.R_lt (qR HO786)) k_ hk, Kd.fresh' (Kd.R_lt (qR HO789)) k_ hk⟩)); (case aO => exact (xR1_ HO792)); (case aS => exact (below_size (qB HB))); (case aL => have := LMc38.out; omega); intro v794 w46 ho hb hg hat; rw [← Ny793.out] at ho; replace BK757 := kG_ BK757 HO792 hg; replace HO786 := aR_ HO786 hg hat; replace HO789 := aR_ HO789 hg hat; replace HB := am_ (hb); have HO795 := am_ (ho); clear HO792; clear ho hb hg hat))
     go_roundg k2
     case measure => have := HJ7.out; have := HK2.out; omega
     case rel => exact ⟨(y793), (wrap64 (x5_2 + 1)), eqq_, H', ⟨by have := HJ7.out; have := HK2.out; omega⟩, xR_ HO795, ⟨qK BK757⟩, ⟨qB HB⟩⟩
end Go.Proofs.Ytiffahfpfgnjnaa.PFnCtls
