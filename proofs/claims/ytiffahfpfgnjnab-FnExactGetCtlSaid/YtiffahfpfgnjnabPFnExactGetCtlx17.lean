-- Written by a program of this session (myprint.py, over the kit's print): contracts of FnExactGetCtl
import Derived.Test.YtiffahfpfgnjnabPFnExactGetCtlx0
import Derived.Test.YtiffahfpfgnjnabPFnExactGetCtlx13
import Derived.Test.YtiffahfpfgnjnabPFnExactGetCtlx16
namespace Go.Proofs.Ytiffahfpfgnjnab.PFnExactGetCtl
open Go.RowKit Go.Proofs.YtiffahfpfgnjnabW.PrintWords Go.Proofs.YtiffahfpfgnjnabW.PrintLast Go.Proofs.YtiffahfpfgnjnabW.PrintMore Go.Proofs.YtiffahfpfgnjnabV
attribute [local go_sem] max2_int min2_int max_two min_two max_three min_three max_four min_four   -- for this text's walks alone
set_option linter.unusedVariables false
set_option linter.unusedSimpArgs false

/-! ### impl_CtlOk: function 74 -/
mutual
def impl_CtlOk.j0 : Nat → Bool → Int → Int → Int → Int → Int → Bool → Int → List (S126) → Option (Bool)
 | 0, _, _, _, _, _, _, _, _, _ => none
 | k + 1, x14, x549000, x549001, x549002, x549003, x549004, x549005, x549006, x549007 => if x14 = true then (some false) else (if x549000 = 1 then (impl_CtlOk.l0 k x549007 (x549007.length : Int) 0 x549000 x549001 x549002 x549003 x549004 x549005 x549006 x549007) else (if x549000 = 2 then ((impl_isIn.f x549003 0 20).bind fun t559 => (if t559 = true then (if x549004 = 0 then (if x549005 = true then (some false) else (if x549006 = 0 then (some ((x549007.length : Int) == 0)) else (some false))) else (some false)) else (some false))) else (if x549000 = 3 then ((impl_isIn.f x549003 0 20).bind fun t560 => (if t560 = true then (if x549003 = 0 then (if x549004 = 0 then (if x549005 = true then (some false) else (if x549006 = 0 then (some ((x549007.length : Int) == 0)) else (some false))) else (some false)) else (some false)) else (some false))) else (some false))))
def impl_CtlOk.l0 : Nat → List (S126) → Int → Int → Int → Int → Int → Int → Int → Bool → Int → List (S126) → Option (Bool)
 | 0, _, _, _, _, _, _, _, _, _, _, _ => none
 | k + 1, x20, x21, x22, x549000, x549001, x549002, x549003, x549004, x549005, x549006, x549007 => if x22 < x21 then (if 0 ≤ x22 then (if x22 < (x20.length : Int) then ((impl_PutItem.f k ((rd_T126 x20 x22).f0) ((rd_T126 x20 x22).f1.f0) ((rd_T126 x20 x22).f1.f1) ((rd_T126 x20 x22).f1.f2) ((rd_T126 x20 x22).f1.f3) ((rd_T126 x20 x22).f1.f4) ((rd_T126 x20 x22).f1.f5) ((rd_T126 x20 x22).f1.f6) ((rd_T126 x20 x22).f1.f7) ((rd_T126 x20 x22).f2.f0) ((rd_T126 x20 x22).f2.f1) ((rd_T126 x20 x22).f2.f2) ((rd_T126 x20 x22).f2.f3) ((rd_T126 x20 x22).f2.f4) ((rd_T126 x20 x22).f2.f5) ((rd_T126 x20 x22).f2.f6)).bind fun t553 => (if (t553.length : Int) = 0 then (some false) else (impl_CtlOk.l0 k x20 x21 (wrap64 (x22 + 1)) x549000 x549001 x549002 x549003 x549004 x549005 x549006 x549007))) else (none)) else (none)) else ((impl_isIn.f x549004 1 20).bind fun t556 => (if t556 = true then ((impl_isIn.f x549003 0 (wrap64 (x549004 - 1))).bind fun t557 => (if t557 = true then ((impl_wordOk.f x549006).bind fun t558 => (if t558 = true then (some (decide ((x549007.length : Int) ≤ 2))) else (some false))) else (some false))) else (some false)))
end
def impl_CtlOk.f (k : Nat) (a0_0 : Int) (a0_1 : Int) (a0_2 : Int) (a0_3 : Int) (a0_4 : Int) (a0_5 : Bool) (a0_6 : Int) (l0_7 : List (S126)) : Option (Bool) := (impl_isIn.f a0_1 0 1).bind fun t549 => (if t549 = true then ((impl_isIn.f a0_2 1 60000).bind fun t550 => (impl_CtlOk.j0 k (!t550) a0_0 a0_1 a0_2 a0_3 a0_4 a0_5 a0_6 l0_7)) else (impl_CtlOk.j0 k true a0_0 a0_1 a0_2 a0_3 a0_4 a0_5 a0_6 l0_7))
theorem impl_CtlOk.mono_l : ∀ k, (∀ y0 y1 y2 y3 y4 y5 y6 y7 y8, LeO (impl_CtlOk.j0 k y0 y1 y2 y3 y4 y5 y6 y7 y8) (impl_CtlOk.j0 (k + 1) y0 y1 y2 y3 y4 y5 y6 y7 y8)) ∧ (∀ y0 y1 y2 y3 y4 y5 y6 y7 y8 y9 y10, LeO (impl_CtlOk.l0 k y0 y1 y2 y3 y4 y5 y6 y7 y8 y9 y10) (impl_CtlOk.l0 (k + 1) y0 y1 y2 y3 y4 y5 y6 y7 y8 y9 y10))
 | 0 => ⟨fun _ _ _ _ _ _ _ _ _ r h => by simp [impl_CtlOk.j0] at h, fun _ _ _ _ _ _ _ _ _ _ _ r h => by simp [impl_CtlOk.l0] at h⟩
 | k + 1 => by
  obtain ⟨ih0, ih1⟩ := impl_CtlOk.mono_l k
  refine ⟨?_, ?_⟩
  ·
   intro y0 y1 y2 y3 y4 y5 y6 y7 y8
   unfold impl_CtlOk.j0
   have m0 := @impl_PutItem.mono; exact mo_
  ·
   intro y0 y1 y2 y3 y4 y5 y6 y7 y8 y9 y10
   unfold impl_CtlOk.l0
   have m0 := @impl_PutItem.mono; exact mo_
theorem impl_CtlOk.mono : ∀ a0 a1 a2 a3 a4 a5 a6 a7 k, LeO (impl_CtlOk.f k a0 a1 a2 a3 a4 a5 a6 a7) (impl_CtlOk.f (k + 1) a0 a1 a2 a3 a4 a5 a6 a7) := by
 intro a0 a1 a2 a3 a4 a5 a6 a7 k
 obtain ⟨ih0, ih1⟩ := impl_CtlOk.mono_l k
 unfold impl_CtlOk.f
 have m0 := @impl_PutItem.mono; exact mo_
set_option maxHeartbeats 8000000 in
set_option maxRecDepth 100000 in
theorem impl_CtlOk.calls (k : Nat) (a0_0 : Int) (a0_1 : Int) (a0_2 : Int) (a0_3 : Int) (a0_4 : Int) (a0_5 : Bool) (a0_6 : Int) (A0_7 : Option Addr) (c0_7 : Nat) (l0_7 : List (S126)) (r : Bool) (w : World) (hr0_7 : Kd.C k126 w A0_7 l0_7.length l0_7) (hc0_7 : l0_7.length ≤ c0_7) (h : impl_CtlOk.f k a0_0 a0_1 a0_2 a0_3 a0_4 a0_5 a0_6 l0_7 = some r) :
  Calls Try.prog 74 #[.agg #[.int .i64 a0_0, .int .i64 a0_1, .int .i64 a0_2, .int .i64 a0_3, .int .i64 a0_4, .bool a0_5, .int .i64 a0_6, .slice A0_7 l0_7.length c0_7]] w fun e w' => e = .returned (.bool r) ∧ Below w.heap.size w w' := by
 have hu63 := Try.underlying63
 have hu126 := Try.underlying126
 have HR0_7 := Aside0.mk hr0_7
 have HC0_7 := Aside0.mk hc0_7
 clear hr0_7 hc0_7
 have HB := Aside0.mk (Below.refl w.heap.size w)
 have H := h
 unfold impl_CtlOk.f at H
 clear h
 have HC2 := Aside0.mk H
 clear H
 go_enter Try.func74, Try.ntmps74
 go_upto_region 1 with (first | ((with_reducible refine gate_dst (N := 1) rfl ?_); (try (refine gate_guard (by rfl) ?_; dsimp only)); refine bx_ (N := 1) (cs := #[.int .i64 a0_0, .int .i64 a0_1, .int .i64 a0_2, .int .i64 a0_3, .int .i64 a0_4, .bool a0_5, .int .i64 a0_6, .slice A0_7 l0_7.length c0_7]) (t := 63) ?_; intro gb548 hg w3 hbox hb; have BK548 := am_ (hbox); have GW548 := gA_ hg HB; have GE548 := GW548; have IGE548 := gI_ GE548; replace HB := bS_ HB hb; clear hb hbox hg))
 (try simp only [Act.put, List.setIfInBounds_toArray, List.set_cons_zero, List.set_cons_succ])
 go_cut [14] (fun v14 wc => ∃ (kq : Nat) (x14_1 : Bool), v14 = .bool x14_1 ∧ Aside0 (impl_CtlOk.j0 kq x14_1 a0_0 a0_1 a0_2 a0_3 a0_4 a0_5 a0_6 l0_7 = some r) ∧ Aside0 (kq ≤ k) ∧ Aside0 (wc.heap[gb548]? = some (.cells #[.int .i64 a0_0, .int .i64 a0_1, .int .i64 a0_2, .int .i64 a0_3, .int .i64 a0_4, .bool a0_5, .int .i64 a0_6, (.slice A0_7 l0_7.length c0_7)] 63 (0, 0))) ∧ Aside0 (Below w.heap.size w wc))
 case first =>
  have H := HC2.out
  clear HC2
  replace H := bd_ H
  obtain ⟨t549, A4, H⟩ := H
  by_cases c5 : t549 = true
  rotate_left
  ·
   replace c5 := Bool.eq_false_iff.mpr c5
   subst c5
   rw [if_neg (show ¬ (false = true) by decide)] at H
   have H' := Aside0.mk H
   clear H
   (try clear zK548)
   have zK548 := cz8 BK548.out
   (try clear fK548)
   have fK548 := fz8 BK548.out
   go_wp2_with (first | ((with_reducible refine gate_callee (f := 45) rfl ?_); refine gl_ (some 7) Try.func45 #[.int .i64 a0_1, .int .i64 0, .int .i64 1] ?_; (with_reducible refine (impl_isIn.calls a0_1 0 1 false _ A4.out).mono ?_); rintro e w' ⟨rfl, ⟨nd, rfl⟩⟩; refine ⟨_, rfl, ?_⟩))
   go_meet
   case rel => exact ⟨_, (true), eqq_, H', ⟨by first | omega | exact Nat.le_refl _⟩, ⟨qK BK548⟩, ⟨qB HB⟩⟩
  subst c5
  rw [if_pos rfl] at H
  replace H := bd_ H
  obtain ⟨t550, A6, H⟩ := H
  have H' := Aside0.mk H
  clear H
  (try clear zK548)
  have zK548 := cz8 BK548.out
  (try clear fK548)
  have fK548 := fz8 BK548.out
  go_wp2_with (first | ((with_reducible refine gate_callee (f := 45) rfl ?_); refine gl_ (some 7) Try.func45 #[.int .i64 a0_1, .int .i64 0, .int .i64 1] ?_; (with_reducible refine (impl_isIn.calls a0_1 0 1 true _ A4.out).mono ?_); rintro e w' ⟨rfl, ⟨nd, rfl⟩⟩; refine ⟨_, rfl, ?_⟩) | (go_at_call 45; (with_reducible refine (impl_isIn.calls a0_2 1 60000 t550 _ A6.out).mono ?_); rintro e w' ⟨rfl, ⟨nd, rfl⟩⟩))
  go_meet
  case rel => exact ⟨_, (!t550), eqq_, H', ⟨by first | omega | exact Nat.le_refl _⟩, ⟨qK BK548⟩, ⟨qB HB⟩⟩
 case rest =>
  clear HC2
  try clear p2
  try clear c4
  try clear c5
  try clear c7
  (try clear zK548)
  (try clear zK548)
  (try clear fK548)
  (try clear fK548)
  obtain ⟨kq, x14_1, rfl, HA, HJ1, BK548, HB⟩ := hcut
  cases kq with
  | zero => exact absurd HA.out (by simp [impl_CtlOk.j0])
  | succ kj1 =>
   have H := HA.out
   clear HA
   simp only [impl_CtlOk.j0] at H
   by_cases c9 : x14_1 = true
   ·
    subst c9
    rw [if_pos rfl] at H
    obtain rfl := Option.some.inj H
    go_wp2
    go_ret
    exact ⟨er_, qB HB⟩
   replace c9 := Bool.eq_false_iff.mpr c9
   subst c9
   rw [if_neg (show ¬ (false = true) by decide)] at H
   replace H := ie_ H
   obtain ⟨-, H, c10b0, c10b1⟩ | ⟨c10, H, c10b0, c10b1⟩ := H
   ·
    have H' := Aside0.mk H
    clear H
    (try clear zK548)
    have zK548 := cz8 BK548.out
    (try clear fK548)
    have fK548 := fz8 BK548.out
    go_wp2
    go_loopg [22] kj1 (fun kq v22 w' => ∃ (x22_2 : Int), v22 = .int .i64 x22_2 ∧ Aside0 (impl_CtlOk.l0 kq l0_7 (l0_7.length : Int) x22_2 a0_0 a0_1 a0_2 a0_3 a0_4 a0_5 a0_6 l0_7 = some r) ∧ Aside0 (kq ≤ kj1) ∧ Aside0 (w'.heap[gb548]? = some (.cells #[.int .i64 a0_0, .int .i64 a0_1, .int .i64 a0_2, .int .i64 a0_3, .int .i64 a0_4, .bool a0_5, .int .i64 a0_6, (.slice A0_7 l0_7.length c0_7)] 63 (0, 0))) ∧ Aside0 (Below w.heap.size w w'))
    case atStart => exact ⟨(0), eqq_, H', ⟨Nat.le_refl _⟩, ⟨qK BK548⟩, ⟨qB HB⟩⟩
    case round =>
     clear H'
     try clear c1
     try clear p2
     try clear c4
     try clear c5
     try clear c7
     try clear c9
     try clear c10
     try clear c10b0
     try clear c10b1
     (try clear zK548)
     (try clear zK548)
     (try clear zK548)
     (try clear fK548)
     (try clear fK548)
     (try clear fK548)
     try clear p2
     obtain ⟨x22_2, rfl, HA, HK2, BK548, HB⟩ := hrel
     cases gk with
     | zero => exact absurd HA.out (by simp [impl_CtlOk.l0])
     | succ k2 =>
      have H := HA.out
      clear HA
      simp only [impl_CtlOk.l0] at H
      replace H := id_ H
      obtain ⟨-, H, c12b0⟩ | ⟨-, H, c12b0⟩ := H
      rotate_left
      ·
       replace H := bd_ H
       obtain ⟨t556, A25, H⟩ := H
       by_cases c26 : t556 = true
       rotate_left
       ·
        replace c26 := Bool.eq_false_iff.mpr c26
        subst c26
        rw [if_neg (show ¬ (false = true) by decide)] at H
        obtain rfl := Option.some.inj H
        (try clear zK548)
        have zK548 := cz8 BK548.out
        (try clear fK548)
        have fK548 := fz8 BK548.out
        go_wp2_with (first | ((with_reducible refine gate_callee (f := 45) rfl ?_); refine gl_ (some 33) Try.func45 #[.int .i64 a0_4, .int .i64 1, .int .i64 20] ?_; (with_reducible refine (impl_isIn.calls a0_4 1 20 false _ A25.out).mono ?_); rintro e w' ⟨rfl, ⟨nd, rfl⟩⟩; refine ⟨_, rfl, ?_⟩))
        go_ret
        exact ⟨er_, qB HB⟩
       subst c26
       rw [if_pos rfl] at H
       replace H := bd_ H
       obtain ⟨t557, A27, H⟩ := H
       by_cases c28 : t557 = true
       rotate_left
       ·
        replace c28 := Bool.eq_false_iff.mpr c28
        subst c28
        rw [if_neg (show ¬ (false = true) by decide)] at H
        obtain rfl := Option.some.inj H
        (try clear zK548)
        have zK548 := cz8 BK548.out
        (try clear fK548)
        have fK548 := fz8 BK548.out
        go_wp2_with (first | ((with_reducible refine gate_callee (f := 45) rfl ?_); refine gl_ (some 33) Try.func45 #[.int .i64 a0_4, .int .i64 1, .int .i64 20] ?_; (with_reducible refine (impl_isIn.calls a0_4 1 20 true _ A25.out).mono ?_); rintro e w' ⟨rfl, ⟨nd, rfl⟩⟩; refine ⟨_, rfl, ?_⟩) | (go_at_call 45; (with_reducible refine (impl_isIn.calls a0_3 0 (wrap64 (a0_4 - 1)) false _ A27.out).mono ?_); rintro e w' ⟨rfl, ⟨nd, rfl⟩⟩))
        go_ret
        exact ⟨er_, qB HB⟩
       subst c28
       rw [if_pos rfl] at H
       replace H := bd_ H
       obtain ⟨t558, A29, H⟩ := H
       by_cases c30 : t558 = true
       ·
        subst c30
        rw [if_pos rfl] at H
        obtain rfl := Option.some.inj H
        (try clear zK548)
        have zK548 := cz8 BK548.out
        (try clear fK548)
        have fK548 := fz8 BK548.out
        go_wp2_with (first | ((with_reducible refine gate_callee (f := 45) rfl ?_); refine gl_ (some 33) Try.func45 #[.int .i64 a0_4, .int .i64 1, .int .i64 20] ?_; (with_reducible refine (impl_isIn.calls a0_4 1 20 true _ A25.out).mono ?_); rintro e w' ⟨rfl, ⟨nd, rfl⟩⟩; refine ⟨_, rfl, ?_⟩) | (go_at_call 45; (with_reducible refine (impl_isIn.calls a0_3 0 (wrap64 (a0_4 - 1)) true _ A27.out).mono ?_); rintro e w' ⟨rfl, ⟨nd, rfl⟩⟩) | (go_at_call 111; (with_reducible refine (impl_wordOk.calls a0_6 true _ A29.out).mono ?_); rintro e w' ⟨rfl, ⟨nd, rfl⟩⟩))
        go_ret
        exact ⟨er_, qB HB⟩
       replace c30 := Bool.eq_false_iff.mpr c30
       subst c30
       rw [if_neg (show ¬ (false = true) by decide)] at H
       obtain rfl := Option.some.inj H
       (try clear zK548)
       have zK548 := cz8 BK548.out
       (try clear fK548)
       have fK548 := fz8 BK548.out
       go_wp2_with (first | ((with_reducible refine gate_callee (f := 45) rfl ?_); refine gl_ (some 33) Try.func45 #[.int .i64 a0_4, .int .i64 1, .int .i64 20] ?_; (with_reducible refine (impl_isIn.calls a0_4 1 20 true _ A25.out).mono ?_); rintro e w' ⟨rfl, ⟨nd, rfl⟩⟩; refine ⟨_, rfl, ?_⟩) | (go_at_call 45; (with_reducible refine (impl_isIn.calls a0_3 0 (wrap64 (a0_4 - 1)) true _ A27.out).mono ?_); rintro e w' ⟨rfl, ⟨nd, rfl⟩⟩) | (go_at_call 111; (with_reducible refine (impl_wordOk.calls a0_6 false _ A29.out).mono ?_); rintro e w' ⟨rfl, ⟨nd, rfl⟩⟩))
       go_ret
       exact ⟨er_, qB HB⟩
      replace H := ip_ H
      obtain ⟨-, H, c13b0⟩ := H
      replace H := ip_ H
      obtain ⟨-, H, c14b0⟩ := H
      replace H := bd_ H
      obtain ⟨t553, A15, H⟩ := H
      have HC16 := Aside0.mk H
      clear H
      have p551 : 0 ≤ (x22_2 : Int) := od_
      have q551 : x22_2 < (l0_7.length : Int) := od_
      obtain ⟨ad551, e551, hx551_0, hx551_1, hx551_2, hx551_3, hx551_4, hx551_5, hx551_6, hx551_7, hx551_8, hx551_9, hx551_10, hx551_11, hx551_12, hx551_13, hx551_14, hx551_15⟩ := at_T126 HR0_7.out x22_2 p551 q551
      cases e551
      replace hx551_0 := lb_ HB hx551_0
      replace hx551_1 := lb_ HB hx551_1
      replace hx551_2 := lb_ HB hx551_2
      replace hx551_3 := lb_ HB hx551_3
      replace hx551_4 := lb_ HB hx551_4
      replace hx551_5 := lb_ HB hx551_5
      replace hx551_6 := lb_ HB hx551_6
      replace hx551_7 := lb_ HB hx551_7
      replace hx551_8 := lb_ HB hx551_8
      replace hx551_9 := lb_ HB hx551_9
      replace hx551_10 := lb_ HB hx551_10
      replace hx551_11 := lb_ HB hx551_11
      replace hx551_12 := lb_ HB hx551_12
      replace hx551_13 := lb_ HB hx551_13
      replace hx551_14 := lb_ HB hx551_14
      replace hx551_15 := lb_ HB hx551_15
      replace p551 := eq_true p551
      replace q551 := eq_true q551
      go_upto_if 29 with (first | ((with_reducible refine gate_dst (N := 4) rfl ?_); (try (refine gate_guard (by rfl) ?_; dsimp only)); refine box_event ?hg (N := 4) ?hd (cs := #[.int .i64 0, .int .i64 0, .string (⟨#[]⟩ : ByteArray), .int .i64 0, .int .i64 0, .int .i64 0, .string (⟨#[]⟩ : ByteArray), .int .i64 0, .int .i64 0, .int .i64 0, .string (⟨#[]⟩ : ByteArray), .int .i64 0, .int .i64 0, .int .i64 0, .int .i64 0, .int .i64 0]) (t := 126) ?hr ?_; (case hd => rfl); (case hg => rfl); (case hr => first | (go_simp; done) | (go_simp; rfl) | ((try (obtain ⟨_, _, rfl⟩ := Kd.R_slice HO555.out)); first | (go_simp; done) | (go_simp; rfl))); intro gb552 hg w17 hbox hb; have BK552 := am_ (hbox); have GW552 := gA_ hg HB; have GE552 := GW552; have IGE552 := gI_ GE552; replace HB := bS_ HB hb; have NB548_552 := am_ ((gN_ hg (qK BK548))); have NB552_548 := am_ ((gM_ hg (qK BK548))); replace BK548 := bK_ BK548 hb; clear hb hbox hg; have hnb18 := NB552_548.out; have hnc18 := NB548_552.out; (try clear zK552); have zK552 := cz16 BK552.out; (try clear fK552); have fK552 := fz16 BK552.out) | ((with_reducible refine gate_store (t := 126) (p := 4) rfl ?_); refine store_evs (t := 126) (p := 4) (j := 0) (cs := [.int .i64 ((rd_T126 l0_7 x22_2).f0), .int .i64 ((rd_T126 l0_7 x22_2).f1.f0), .string ((rd_T126 l0_7 x22_2).f1.f1), .int .i64 ((rd_T126 l0_7 x22_2).f1.f2), .int .i64 ((rd_T126 l0_7 x22_2).f1.f3), .int .i64 ((rd_T126 l0_7 x22_2).f1.f4), .string ((rd_T126 l0_7 x22_2).f1.f5), .int .i64 ((rd_T126 l0_7 x22_2).f1.f6), .int .i64 ((rd_T126 l0_7 x22_2).f1.f7), .int .i64 ((rd_T126 l0_7 x22_2).f2.f0), .string ((rd_T126 l0_7 x22_2).f2.f1), .int .i64 ((rd_T126 l0_7 x22_2).f2.f2), .int .i64 ((rd_T126 l0_7 x22_2).f2.f3), .int .i64 ((rd_T126 l0_7 x22_2).f2.f4), .int .i64 ((rd_T126 l0_7 x22_2).f2.f5), .int .i64 ((rd_T126 l0_7 x22_2).f2.f6)]) (qK BK552) ?_; intro w20 hw; replace BK548 := sK_ hw BK548 NB548_552; replace HB := sB_ hw HB; replace BK552 := sW_ hw BK552; clear hw; (try clear zK552); have zK552 := cz16 BK552.out) | ((with_reducible refine gate_callee (f := 110) rfl ?_); refine gl_ (some 27) Try.func110 #[.agg #[.int .i64 ((rd_T126 l0_7 x22_2).f0), .int .i64 ((rd_T126 l0_7 x22_2).f1.f0), .string ((rd_T126 l0_7 x22_2).f1.f1), .int .i64 ((rd_T126 l0_7 x22_2).f1.f2), .int .i64 ((rd_T126 l0_7 x22_2).f1.f3), .int .i64 ((rd_T126 l0_7 x22_2).f1.f4), .string ((rd_T126 l0_7 x22_2).f1.f5), .int .i64 ((rd_T126 l0_7 x22_2).f1.f6), .int .i64 ((rd_T126 l0_7 x22_2).f1.f7), .int .i64 ((rd_T126 l0_7 x22_2).f2.f0), .string ((rd_T126 l0_7 x22_2).f2.f1), .int .i64 ((rd_T126 l0_7 x22_2).f2.f2), .int .i64 ((rd_T126 l0_7 x22_2).f2.f3), .int .i64 ((rd_T126 l0_7 x22_2).f2.f4), .int .i64 ((rd_T126 l0_7 x22_2).f2.f5), .int .i64 ((rd_T126 l0_7 x22_2).f2.f6)]] ?_; (with_reducible refine (impl_PutItem.calls k2 ((rd_T126 l0_7 x22_2).f0) ((rd_T126 l0_7 x22_2).f1.f0) ((rd_T126 l0_7 x22_2).f1.f1) ((rd_T126 l0_7 x22_2).f1.f2) ((rd_T126 l0_7 x22_2).f1.f3) ((rd_T126 l0_7 x22_2).f1.f4) ((rd_T126 l0_7 x22_2).f1.f5) ((rd_T126 l0_7 x22_2).f1.f6) ((rd_T126 l0_7 x22_2).f1.f7) ((rd_T126 l0_7 x22_2).f2.f0) ((rd_T126 l0_7 x22_2).f2.f1) ((rd_T126 l0_7 x22_2).f2.f2) ((rd_T126 l0_7 x22_2).f2.f3) ((rd_T126 l0_7 x22_2).f2.f4) ((rd_T126 l0_7 x22_2).f2.f5) ((rd_T126 l0_7 x22_2).f2.f6) t553 _ A15.out).mono ?_); rintro e w22 ⟨v554, rfl, ho0, hb⟩; refine ⟨_, rfl, ?_⟩; have HO555 := am_ (Kd.R_lower ho0 (below_size (qB HB))); replace BK548 := bK_ BK548 hb; replace BK552 := bK_ BK552 hb; replace HB := bS_ HB hb; (try clear hb); (try clear ho0); obtain ⟨Ao23, co23, eo23⟩ := Kd.R_slice HO555.out; subst eo23))
      (try simp only [Act.put, List.setIfInBounds_toArray, List.set_cons_zero, List.set_cons_succ])
      have H := HC16.out
      clear HC16
      replace H := ie_ H
      obtain ⟨-, H, c24b0, c24b1⟩ | ⟨c24, H, c24b0, c24b1⟩ := H
      ·
       (first | rw [c24b0] | rw [c24b1] | (simp only [i64_w, i32_w]; rw [c24b0]) | skip)
       obtain rfl := Option.some.inj H
       go_wp2
       go_ret
       exact ⟨er_, qB HB⟩
      have c24b2 : ¬ (t553 = []) := fun h_ => c24 (by rw [h_]; rfl)
      (first | rw [c24b0] | rw [c24b1] | rw [c24b2] | (simp only [i64_w, i32_w]; rw [c24b0]) | skip)
      have H' := Aside0.mk H
      clear H
      go_wp2
      go_roundg k2
      case measure => have := HJ1.out; have := HK2.out; omega
      case rel => exact ⟨(wrap64 (x22_2 + 1)), eqq_, H', ⟨by have := HJ1.out; have := HK2.out; omega⟩, ⟨qK BK548⟩, ⟨qB HB⟩⟩
   replace H := ie_ H
   obtain ⟨-, H, c35b0, c35b1⟩ | ⟨c35, H, c35b0, c35b1⟩ := H
   ·
    replace H := bd_ H
    obtain ⟨t559, A36, H⟩ := H
    by_cases c37 : t559 = true
    rotate_left
    ·
     replace c37 := Bool.eq_false_iff.mpr c37
     subst c37
     rw [if_neg (show ¬ (false = true) by decide)] at H
     obtain rfl := Option.some.inj H
     (try clear zK548)
     have zK548 := cz8 BK548.out
     go_wp2_with (first | ((with_reducible refine gate_callee (f := 45) rfl ?_); refine gl_ (some 58) Try.func45 #[.int .i64 a0_3, .int .i64 0, .int .i64 20] ?_; (with_reducible refine (impl_isIn.calls a0_3 0 20 false _ A36.out).mono ?_); rintro e w' ⟨rfl, ⟨nd, rfl⟩⟩; refine ⟨_, rfl, ?_⟩))
     go_ret
     exact ⟨er_, qB HB⟩
    subst c37
    rw [if_pos rfl] at H
    replace H := ie_ H
    obtain ⟨-, H, c38b0, c38b1⟩ | ⟨c38, H, c38b0, c38b1⟩ := H
    rotate_left
    ·
     obtain rfl := Option.some.inj H
     (try clear zK548)
     have zK548 := cz8 BK548.out
     go_wp2_with (first | ((with_reducible refine gate_callee (f := 45) rfl ?_); refine gl_ (some 58) Try.func45 #[.int .i64 a0_3, .int .i64 0, .int .i64 20] ?_; (with_reducible refine (impl_isIn.calls a0_3 0 20 true _ A36.out).mono ?_); rintro e w' ⟨rfl, ⟨nd, rfl⟩⟩; refine ⟨_, rfl, ?_⟩))
     go_ret
     exact ⟨er_, qB HB⟩
    by_cases c39 : a0_5 = true
    ·
     subst c39
     rw [if_pos rfl] at H
     obtain rfl := Option.some.inj H
     (try clear zK548)
     have zK548 := cz8 BK548.out
     go_wp2_with (first | ((with_reducible refine gate_callee (f := 45) rfl ?_); refine gl_ (some 58) Try.func45 #[.int .i64 a0_3, .int .i64 0, .int .i64 20] ?_; (with_reducible refine (impl_isIn.calls a0_3 0 20 true _ A36.out).mono ?_); rintro e w' ⟨rfl, ⟨nd, rfl⟩⟩; refine ⟨_, rfl, ?_⟩))
     go_ret
     exact ⟨er_, qB HB⟩
    replace c39 := Bool.eq_false_iff.mpr c39
    subst c39
    rw [if_neg (show ¬ (false = true) by decide)] at H
    replace H := ie_ H
    obtain ⟨-, H, c41b0, c41b1⟩ | ⟨c41, H, c41b0, c41b1⟩ := H
    rotate_left
    ·
     obtain rfl := Option.some.inj H
     (try clear zK548)
     have zK548 := cz8 BK548.out
     go_wp2_with (first | ((with_reducible refine gate_callee (f := 45) rfl ?_); refine gl_ (some 58) Try.func45 #[.int .i64 a0_3, .int .i64 0, .int .i64 20] ?_; (with_reducible refine (impl_isIn.calls a0_3 0 20 true _ A36.out).mono ?_); rintro e w' ⟨rfl, ⟨nd, rfl⟩⟩; refine ⟨_, rfl, ?_⟩))
     go_ret
     exact ⟨er_, qB HB⟩
    obtain rfl := Option.some.inj H
    (try clear zK548)
    have zK548 := cz8 BK548.out
    go_wp2_with (first | ((with_reducible refine gate_callee (f := 45) rfl ?_); refine gl_ (some 58) Try.func45 #[.int .i64 a0_3, .int .i64 0, .int .i64 20] ?_; (with_reducible refine (impl_isIn.calls a0_3 0 20 true _ A36.out).mono ?_); rintro e w' ⟨rfl, ⟨nd, rfl⟩⟩; refine ⟨_, rfl, ?_⟩))
    go_ret
    exact ⟨er_, qB HB⟩
   replace H := ie_ H
   obtain ⟨-, H, c46b0, c46b1⟩ | ⟨c46, H, c46b0, c46b1⟩ := H
   rotate_left
   ·
    obtain rfl := Option.some.inj H
    (try clear zK548)
    have zK548 := cz8 BK548.out
    go_wp2
    go_ret
    exact ⟨er_, qB HB⟩
   replace H := bd_ H
   obtain ⟨t560, A47, H⟩ := H
   by_cases c48 : t560 = true
   rotate_left
   ·
    replace c48 := Bool.eq_false_iff.mpr c48
    subst c48
    rw [if_neg (show ¬ (false = true) by decide)] at H
    obtain rfl := Option.some.inj H
    (try clear zK548)
    have zK548 := cz8 BK548.out
    go_wp2_with (first | ((with_reducible refine gate_callee (f := 45) rfl ?_); refine gl_ (some 58) Try.func45 #[.int .i64 a0_3, .int .i64 0, .int .i64 20] ?_; (with_reducible refine (impl_isIn.calls a0_3 0 20 false _ A47.out).mono ?_); rintro e w' ⟨rfl, ⟨nd, rfl⟩⟩; refine ⟨_, rfl, ?_⟩))
    go_ret
    exact ⟨er_, qB HB⟩
   subst c48
   rw [if_pos rfl] at H
   replace H := ie_ H
   obtain ⟨-, H, c49b0, c49b1⟩ | ⟨c49, H, c49b0, c49b1⟩ := H
   rotate_left
   ·
    obtain rfl := Option.some.inj H
    (try clear zK548)
    have zK548 := cz8 BK548.out
    go_wp2_with (first | ((with_reducible refine gate_callee (f := 45) rfl ?_); refine gl_ (some 58) Try.func45 #[.int .i64 a0_3, .int .i64 0, .int .i64 20] ?_; (with_reducible refine (impl_isIn.calls a0_3 0 20 true _ A47.out).mono ?_); rintro e w' ⟨rfl, ⟨nd, rfl⟩⟩; refine ⟨_, rfl, ?_⟩))
    go_ret
    exact ⟨er_, qB HB⟩
   replace H := ie_ H
   obtain ⟨-, H, c50b0, c50b1⟩ | ⟨c50, H, c50b0, c50b1⟩ := H
   rotate_left
   ·
    obtain rfl := Option.some.inj H
    (try clear zK548)
    have zK548 := cz8 BK548.out
    go_wp2_with (first | ((with_reducible refine gate_callee (f := 45) rfl ?_); refine gl_ (some 58) Try.func45 #[.int .i64 a0_3, .int .i64 0, .int .i64 20] ?_; (with_reducible refine (impl_isIn.calls a0_3 0 20 true _ A47.out).mono ?_); rintro e w' ⟨rfl, ⟨nd, rfl⟩⟩; refine ⟨_, rfl, ?_⟩))
    go_ret
    exact ⟨er_, qB HB⟩
   by_cases c51 : a0_5 = true
   ·
    subst c51
    rw [if_pos rfl] at H
    obtain rfl := Option.some.inj H
    (try clear zK548)
    have zK548 := cz8 BK548.out
    go_wp2_with (first | ((with_reducible refine gate_callee (f := 45) rfl ?_); refine gl_ (some 58) Try.func45 #[.int .i64 a0_3, .int .i64 0, .int .i64 20] ?_; (with_reducible refine (impl_isIn.calls a0_3 0 20 true _ A47.out).mono ?_); rintro e w' ⟨rfl, ⟨nd, rfl⟩⟩; refine ⟨_, rfl, ?_⟩))
    go_ret
    exact ⟨er_, qB HB⟩
   replace c51 := Bool.eq_false_iff.mpr c51
   subst c51
   rw [if_neg (show ¬ (false = true) by decide)] at H
   replace H := ie_ H
   obtain ⟨-, H, c53b0, c53b1⟩ | ⟨c53, H, c53b0, c53b1⟩ := H
   rotate_left
   ·
    obtain rfl := Option.some.inj H
    (try clear zK548)
    have zK548 := cz8 BK548.out
    go_wp2_with (first | ((with_reducible refine gate_callee (f := 45) rfl ?_); refine gl_ (some 58) Try.func45 #[.int .i64 a0_3, .int .i64 0, .int .i64 20] ?_; (with_reducible refine (impl_isIn.calls a0_3 0 20 true _ A47.out).mono ?_); rintro e w' ⟨rfl, ⟨nd, rfl⟩⟩; refine ⟨_, rfl, ?_⟩))
    go_ret
    exact ⟨er_, qB HB⟩
   obtain rfl := Option.some.inj H
   (try clear zK548)
   have zK548 := cz8 BK548.out
   go_wp2_with (first | ((with_reducible refine gate_callee (f := 45) rfl ?_); refine gl_ (some 58) Try.func45 #[.int .i64 a0_3, .int .i64 0, .int .i64 20] ?_; (with_reducible refine (impl_isIn.calls a0_3 0 20 true _ A47.out).mono ?_); rintro e w' ⟨rfl, ⟨nd, rfl⟩⟩; refine ⟨_, rfl, ?_⟩))
   go_ret
   exact ⟨er_, qB HB⟩

end Go.Proofs.Ytiffahfpfgnjnab.PFnExactGetCtl
