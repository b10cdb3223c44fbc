-- Written by a program of this session (myprint.py, over the kit's print): contracts of FnCtls
import Derived.Test.YtiffahfpfgnjnaaPFnCtlsx10
import Derived.Test.YtiffahfpfgnjnaaPFnCtlsx3
namespace Go.Proofs.Ytiffahfpfgnjnaa.PFnCtls
open Go.RowKit Go.Proofs.YtiffahfpfgnjnaaW.PrintWords Go.Proofs.YtiffahfpfgnjnaaW.PrintLast Go.Proofs.YtiffahfpfgnjnaaW.PrintMore Go.Proofs.YtiffahfpfgnjnaaV
attribute [local go_sem] max2_int min2_int max_two min_two max_three min_three max_four min_four
set_option linter.unusedVariables false
set_option linter.unusedSimpArgs false

/-! ### impl_CtlOk: function 56 -/
mutual
def impl_CtlOk.j0 : Nat → Bool → Int → Int → Int → Int → Int → Bool → Int → List (S29) → Option (Bool)
 | 0, _, _, _, _, _, _, _, _, _ => none
 | k + 1, x14, x536000, x536001, x536002, x536003, x536004, x536005, x536006, x536007 => if x14 = true then (some false) else (if x536000 = 1 then (impl_CtlOk.l0 k x536007 (x536007.length : Int) 0 x536000 x536001 x536002 x536003 x536004 x536005 x536006 x536007) else (if x536000 = 2 then ((impl_isIn.f x536003 0 20).bind fun t546 => (if t546 = true then (if x536004 = 0 then (if x536005 = true then (some false) else (if x536006 = 0 then (some ((x536007.length : Int) == 0)) else (some false))) else (some false)) else (some false))) else (if x536000 = 3 then ((impl_isIn.f x536003 0 20).bind fun t547 => (if t547 = true then (if x536003 = 0 then (if x536004 = 0 then (if x536005 = true then (some false) else (if x536006 = 0 then (some ((x536007.length : Int) == 0)) else (some false))) else (some false)) else (some false)) else (some false))) else (some false))))
def impl_CtlOk.l0 : Nat → List (S29) → Int → Int → Int → Int → Int → Int → Int → Bool → Int → List (S29) → Option (Bool)
 | 0, _, _, _, _, _, _, _, _, _, _, _ => none
 | k + 1, x20, x21, x22, x536000, x536001, x536002, x536003, x536004, x536005, x536006, x536007 => if x22 < x21 then (if 0 ≤ x22 then (if x22 < (x20.length : Int) then ((impl_PutItem.f k ((rd_T29 x20 x22).f0) ((rd_T29 x20 x22).f1.f0) ((rd_T29 x20 x22).f1.f1) ((rd_T29 x20 x22).f1.f2) ((rd_T29 x20 x22).f1.f3) ((rd_T29 x20 x22).f1.f4) ((rd_T29 x20 x22).f1.f5) ((rd_T29 x20 x22).f1.f6) ((rd_T29 x20 x22).f1.f7) ((rd_T29 x20 x22).f2.f0) ((rd_T29 x20 x22).f2.f1) ((rd_T29 x20 x22).f2.f2) ((rd_T29 x20 x22).f2.f3) ((rd_T29 x20 x22).f2.f4) ((rd_T29 x20 x22).f2.f5) ((rd_T29 x20 x22).f2.f6)).bind fun t540 => (if (t540.length : Int) = 0 then (some false) else (impl_CtlOk.l0 k x20 x21 (wrap64 (x22 + 1)) x536000 x536001 x536002 x536003 x536004 x536005 x536006 x536007))) else (none)) else (none)) else ((impl_isIn.f x536004 1 20).bind fun t543 => (if t543 = true then ((impl_isIn.f x536003 0 (wrap64 (x536004 - 1))).bind fun t544 => (if t544 = true then ((impl_wordOk.f x536006).bind fun t545 => (if t545 = true then (some (decide ((x536007.length : Int) ≤ 2))) else (some false))) else (some false))) else (some false)))
end
def impl_CtlOk.f (k : Nat) (a0_0 : Int) (a0_1 : Int) (a0_2 : Int) (a0_3 : Int) (a0_4 : Int) (a0_5 : Bool) (a0_6 : Int) (l0_7 : List (S29)) : Option (Bool) := (impl_isIn.f a0_1 0 1).bind fun t536 => (if t536 = true then ((impl_isIn.f a0_2 1 60000).bind fun t537 => (impl_CtlOk.j0 k (!t537) a0_0 a0_1 a0_2 a0_3 a0_4 a0_5 a0_6 l0_7)) else (impl_CtlOk.j0 k true a0_0 a0_1 a0_2 a0_3 a0_4 a0_5 a0_6 l0_7))
theorem impl_CtlOk.mono_l : ∀ k, (∀ y0 y1 y2 y3 y4 y5 y6 y7 y8, LeO (impl_CtlOk.j0 k y0 y1 y2 y3 y4 y5 y6 y7 y8) (impl_CtlOk.j0 (k + 1) y0 y1 y2 y3 y4 y5 y6 y7 y8)) ∧ (∀ y0 y1 y2 y3 y4 y5 y6 y7 y8 y9 y10, LeO (impl_CtlOk.l0 k y0 y1 y2 y3 y4 y5 y6 y7 y8 y9 y10) (impl_CtlOk.l0 (k + 1) y0 y1 y2 y3 y4 y5 y6 y7 y8 y9 y10))
 | 0 => ⟨fun _ _ _ _ _ _ _ _ _ r h => by simp [impl_CtlOk.j0] at h, fun _ _ _ _ _ _ _ _ _ _ _ r h => by simp [impl_CtlOk.l0] at h⟩
 | k + 1 => by
  obtain ⟨ih0, ih1⟩ := impl_CtlOk.mono_l k
  refine ⟨?_, ?_⟩
  ·
   intro y0 y1 y2 y3 y4 y5 y6 y7 y8
   unfold impl_CtlOk.j0
   have m0 := @impl_PutItem.mono; exact mo_
  ·
   intro y0 y1 y2 y3 y4 y5 y6 y7 y8 y9 y10
   unfold impl_CtlOk.l0
   have m0 := @impl_PutItem.mono; exact mo_
theorem impl_CtlOk.mono : ∀ a0 a1 a2 a3 a4 a5 a6 a7 k, LeO (impl_CtlOk.f k a0 a1 a2 a3 a4 a5 a6 a7) (impl_CtlOk.f (k + 1) a0 a1 a2 a3 a4 a5 a6 a7) := by
 intro a0 a1 a2 a3 a4 a5 a6 a7 k
 obtain ⟨ih0, ih1⟩ := impl_CtlOk.mono_l k
 unfold impl_CtlOk.f
 have m0 := @impl_PutItem.mono; exact mo_
set_option maxHeartbeats 8000000 in
set_option maxRecDepth 100000 in
theorem impl_CtlOk.calls (k : Nat) (a0_0 : Int) (a0_1 : Int) (a0_2 : Int) (a0_3 : Int) (a0_4 : Int) (a0_5 : Bool) (a0_6 : Int) (A0_7 : Option Addr) (c0_7 : Nat) (l0_7 : List (S29)) (r : Bool) (w : World) (hr0_7 : Kd.C k29 w A0_7 l0_7.length l0_7) (hc0_7 : l0_7.length ≤ c0_7) (h : impl_CtlOk.f k a0_0 a0_1 a0_2 a0_3 a0_4 a0_5 a0_6 l0_7 = some r) :
  Calls Try.prog 56 #[.agg #[.int .i64 a0_0, .int .i64 a0_1, .int .i64 a0_2, .int .i64 a0_3, .int .i64 a0_4, .bool a0_5, .int .i64 a0_6, .slice A0_7 l0_7.length c0_7]] w fun e w' => e = .returned (.bool r) ∧ Below w.heap.size w w' := by
 have hu75 := Try.underlying75
 have hu29 := Try.underlying29
 have HR0_7 := Aside0.mk hr0_7
 have HC0_7 := Aside0.mk hc0_7
 clear hr0_7 hc0_7
 have HB := Aside0.mk (Below.refl w.heap.size w)
 have H := h
 unfold impl_CtlOk.f at H
 clear h
 have HC2 := Aside0.mk H
 clear H
 go_enter Try.func56, Try.ntmps56
 go_upto_region 1 with (first | ((with_reducible refine gate_dst (N := 1) rfl ?_); (try (refine gate_guard (by rfl) ?_; dsimp only)); refine bx_ (N := 1) (cs := #[.int .i64 a0_0, .int .i64 a0_1, .int .i64 a0_2, .int .i64 a0_3, .int .i64 a0_4, .bool a0_5, .int .i64 a0_6, .slice A0_7 l0_7.length c0_7]) (t := 75) ?_; intro gb535 hg w3 hbox hb; have BK535 := am_ (hbox); have GW535 := gA_ hg HB; have GE535 := GW535; have IGE535 := gI_ GE535; replace HB := bS_ HB hb; clear hb hbox hg))
 (try simp only [Act.put, List.setIfInBounds_toArray, List.set_cons_zero, List.set_cons_succ])
 go_cut [14] (fun v14 wc => ∃ (kq : Nat) (x14_1 : Bool), v14 = .bool x14_1 ∧ Aside0 (impl_CtlOk.j0 kq x14_1 a0_0 a0_1 a0_2 a0_3 a0_4 a0_5 a0_6 l0_7 = some r) ∧ Aside0 (kq ≤ k) ∧ Aside0 (wc.heap[gb535]? = some (.cells #[.int .i64 a0_0, .int .i64 a0_1, .int .i64 a0_2, .int .i64 a0_3, .int .i64 a0_4, .bool a0_5, .int .i64 a0_6, (.slice A0_7 l0_7.length c0_7)] 75 (0, 0))) ∧ Aside0 (Below w.heap.size w wc))
 case first =>
  have H := HC2.out
  clear HC2
  replace H := bd_ H
  obtain ⟨t536, A4, H⟩ := H
  by_cases c5 : t536 = true
  rotate_left
  ·
   replace c5 := Bool.eq_false_iff.mpr c5
   subst c5
   rw [if_neg (show ¬ (false = true) by decide)] at H
   have H' := Aside0.mk H
   clear H
   (try clear zK535)
   have zK535 := cf8 BK535.out
   go_wp2_with (first | ((with_reducible refine gate_callee (f := 87) rfl ?_); refine gl_ (some 7) Try.func87 #[.int .i64 a0_1, .int .i64 0, .int .i64 1] ?_; (with_reducible refine (impl_isIn.calls a0_1 0 1 false _ A4.out).mono ?_); rintro e w' ⟨rfl, ⟨nd, rfl⟩⟩; refine ⟨_, rfl, ?_⟩))
   go_meet
   case rel => exact ⟨_, (true), eqq_, H', ⟨by first | omega | exact Nat.le_refl _⟩, ⟨qK BK535⟩, ⟨qB HB⟩⟩
  subst c5
  rw [if_pos rfl] at H
  replace H := bd_ H
  obtain ⟨t537, A6, H⟩ := H
  have H' := Aside0.mk H
  clear H
  (try clear zK535)
  have zK535 := cf8 BK535.out
  go_wp2_with (first | ((with_reducible refine gate_callee (f := 87) rfl ?_); refine gl_ (some 7) Try.func87 #[.int .i64 a0_1, .int .i64 0, .int .i64 1] ?_; (with_reducible refine (impl_isIn.calls a0_1 0 1 true _ A4.out).mono ?_); rintro e w' ⟨rfl, ⟨nd, rfl⟩⟩; refine ⟨_, rfl, ?_⟩) | (go_at_call 87; (with_reducible refine (impl_isIn.calls a0_2 1 60000 t537 _ A6.out).mono ?_); rintro e w' ⟨rfl, ⟨nd, rfl⟩⟩))
  go_meet
  case rel => exact ⟨_, (!t537), eqq_, H', ⟨by first | omega | exact Nat.le_refl _⟩, ⟨qK BK535⟩, ⟨qB HB⟩⟩
 case rest =>
  clear HC2
  try clear p2
  try clear c5
  try clear c8
  (try clear zK535)
  (try clear zK535)
  (try clear fK535)
  (try clear fK535)
  obtain ⟨kq, x14_1, rfl, HA, HJ1, BK535, HB⟩ := hcut
  cases kq with
  | zero => exact absurd HA.out (by simp [impl_CtlOk.j0])
  | succ kj1 =>
   have H := HA.out
   clear HA
   simp only [impl_CtlOk.j0] at H
   by_cases c9 : x14_1 = true
   ·
    subst c9
    rw [if_pos rfl] at H
    obtain rfl := Option.some.inj H
    go_wp2
    go_ret
    exact ⟨er_, qB HB⟩
   replace c9 := Bool.eq_false_iff.mpr c9
   subst c9
   rw [if_neg (show ¬ (false = true) by decide)] at H
   replace H := ie_ H
   obtain ⟨-, H, c10b0, c10b1⟩ | ⟨c10, H, c10b0, c10b1⟩ := H
   ·
    have H' := Aside0.mk H
    clear H
    (try clear zK535)
    have zK535 := cf8 BK535.out
    go_wp2
    go_loopg [22] kj1 (fun kq v22 w' => ∃ (x22_2 : Int), v22 = .int .i64 x22_2 ∧ Aside0 (impl_CtlOk.l0 kq l0_7 (l0_7.length : Int) x22_2 a0_0 a0_1 a0_2 a0_3 a0_4 a0_5 a0_6 l0_7 = some r) ∧ Aside0 (kq ≤ kj1) ∧ Aside0 (w'.heap[gb535]? = some (.cells #[.int .i64 a0_0, .int .i64 a0_1, .int .i64 a0_2, .int .i64 a0_3, .int .i64 a0_4, .bool a0_5, .int .i64 a0_6, (.slice A0_7 l0_7.length c0_7)] 75 (0, 0))) ∧ Aside0 (Below w.heap.size w w'))
    case atStart => exact ⟨(0), eqq_, H', ⟨Nat.le_refl _⟩, ⟨qK BK535⟩, ⟨qB HB⟩⟩
    case round =>
     clear H'
     try clear c1
     try clear p2
     try clear c5
     try clear c8
     try clear c9
     try clear c10
     try clear c10b0
     try clear c10b1
     (try clear zK535)
     (try clear zK535)
     (try clear zK535)
     (try clear fK535)
     (try clear fK535)
     (try clear fK535)
     try clear p2
     obtain ⟨x22_2, rfl, HA, HK2, BK535, HB⟩ := hrel
     cases gk with
     | zero => exact absurd HA.out (by simp [impl_CtlOk.l0])
     | succ k2 =>
      have H := HA.out
      clear HA
      simp only [impl_CtlOk.l0] at H
      replace H := id_ H
      obtain ⟨-, H, c12b0⟩ | ⟨-, H, c12b0⟩ := H
      rotate_left
      ·
       replace H := bd_ H
       obtain ⟨t543, A25, H⟩ := H
       by_cases c26 : t543 = true
       rotate_left
       ·
        replace c26 := Bool.eq_false_iff.mpr c26
        subst c26
        rw [if_neg (show ¬ (false = true) by decide)] at H
        obtain rfl := Option.some.inj H
        (try clear zK535)
        have zK535 := cf8 BK535.out
        go_wp2_with (first | ((with_reducible refine gate_callee (f := 87) rfl ?_); refine gl_ (some 33) Try.func87 #[.int .i64 a0_4, .int .i64 1, .int .i64 20] ?_; (with_reducible refine (impl_isIn.calls a0_4 1 20 false _ A25.out).mono ?_); rintro e w' ⟨rfl, ⟨nd, rfl⟩⟩; refine ⟨_, rfl, ?_⟩))
        go_ret
        exact ⟨er_, qB HB⟩
       subst c26
       rw [if_pos rfl] at H
       replace H := bd_ H
       obtain ⟨t544, A27, H⟩ := H
       by_cases c28 : t544 = true
       rotate_left
       ·
        replace c28 := Bool.eq_false_iff.mpr c28
        subst c28
        rw [if_neg (show ¬ (false = true) by decide)] at H
        obtain rfl := Option.some.inj H
        (try clear zK535)
        have zK535 := cf8 BK535.out
        go_wp2_with (first | ((with_reducible refine gate_callee (f := 87) rfl ?_); refine gl_ (some 33) Try.func87 #[.int .i64 a0_4, .int .i64 1, .int .i64 20] ?_; (with_reducible refine (impl_isIn.calls a0_4 1 20 true _ A25.out).mono ?_); rintro e w' ⟨rfl, ⟨nd, rfl⟩⟩; refine ⟨_, rfl, ?_⟩) | (go_at_call 87; (with_reducible refine (impl_isIn.calls a0_3 0 (wrap64 (a0_4 - 1)) false _ A27.out).mono ?_); rintro e w' ⟨rfl, ⟨nd, rfl⟩⟩))
        go_ret
        exact ⟨er_, qB HB⟩
       subst c28
       rw [if_pos rfl] at H
       replace H := bd_ H
       obtain ⟨t545, A29, H⟩ := H
       by_cases c30 : t545 = true
       ·
        subst c30
        rw [if_pos rfl] at H
        obtain rfl := Option.some.inj H
        (try clear zK535)
        have zK535 := cf8 BK535.out
        go_wp2_with (first | ((with_reducible refine gate_callee (f := 87) rfl ?_); refine gl_ (some 33) Try.func87 #[.int .i64 a0_4, .int .i64 1, .int .i64 20] ?_; (with_reducible refine (impl_isIn.calls a0_4 1 20 true _ A25.out).mono ?_); rintro e w' ⟨rfl, ⟨nd, rfl⟩⟩; refine ⟨_, rfl, ?_⟩) | (go_at_call 87; (with_reducible refine (impl_isIn.calls a0_3 0 (wrap64 (a0_4 - 1)) true _ A27.out).mono ?_); rintro e w' ⟨rfl, ⟨nd, rfl⟩⟩) | (go_at_call 65; (with_reducible refine (impl_wordOk.calls a0_6 true _ A29.out).mono ?_); rintro e w' ⟨rfl, ⟨nd, rfl⟩⟩))
        go_ret
        exact ⟨er_, qB HB⟩
       replace c30 := Bool.eq_false_iff.mpr c30
       subst c30
       rw [if_neg (show ¬ (false = true) by decide)] at H
       obtain rfl := Option.some.inj H
       (try clear zK535)
       have zK535 := cf8 BK535.out
       go_wp2_with (first | ((with_reducible refine gate_callee (f := 87) rfl ?_); refine gl_ (some 33) Try.func87 #[.int .i64 a0_4, .int .i64 1, .int .i64 20] ?_; (with_reducible refine (impl_isIn.calls a0_4 1 20 true _ A25.out).mono ?_); rintro e w' ⟨rfl, ⟨nd, rfl⟩⟩; refine ⟨_, rfl, ?_⟩) | (go_at_call 87; (with_reducible refine (impl_isIn.calls a0_3 0 (wrap64 (a0_4 - 1)) true _ A27.out).mono ?_); rintro e w' ⟨rfl, ⟨nd, rfl⟩⟩) | (go_at_call 65; (with_reducible refine (impl_wordOk.calls a0_6 false _ A29.out).mono ?_); rintro e w' ⟨rfl, ⟨nd, rfl⟩⟩))
       go_ret
       exact ⟨er_, qB HB⟩
      replace H := ip_ H
      obtain ⟨-, H, c13b0⟩ := H
      replace H := ip_ H
      obtain ⟨-, H, c14b0⟩ := H
      replace H := bd_ H
      obtain ⟨t540, A15, H⟩ := H
      have HC16 := Aside0.mk H
      clear H
      have p538 : 0 ≤ (x22_2 : Int) := od_
      have q538 : x22_2 < (l0_7.length : Int) := od_
      obtain ⟨ad538, e538, hx538_0, hx538_1, hx538_2, hx538_3, hx538_4, hx538_5, hx538_6, hx538_7, hx538_8, hx538_9, hx538_10, hx538_11, hx538_12, hx538_13, hx538_14, hx538_15⟩ := at_T29 HR0_7.out x22_2 p538 q538
      cases e538
      replace hx538_0 := lb_ HB hx538_0
      replace hx538_1 := lb_ HB hx538_1
      replace hx538_2 := lb_ HB hx538_2
      replace hx538_3 := lb_ HB hx538_3
      replace hx538_4 := lb_ HB hx538_4
      replace hx538_5 := lb_ HB hx538_5
      replace hx538_6 := lb_ HB hx538_6
      replace hx538_7 := lb_ HB hx538_7
      replace hx538_8 := lb_ HB hx538_8
      replace hx538_9 := lb_ HB hx538_9
      replace hx538_10 := lb_ HB hx538_10
      replace hx538_11 := lb_ HB hx538_11
      replace hx538_12 := lb_ HB hx538_12
      replace hx538_13 := lb_ HB hx538_13
      replace hx538_14 := lb_ HB hx538_14
      replace hx538_15 := lb_ HB hx538_15
      replace p538 := eq_true p538
      replace q538 := eq_true q538
      go_upto_if 29 with (first | ((with_reducible refine gate_dst (N := 4) rfl ?_); (try (refine gate_guard (by rfl) ?_; dsimp only)); refine box_event ?hg (N := 4) ?hd (cs := #[.int .i64 0, .int .i64 0, .string (⟨#[]⟩ : ByteArray), .int .i64 0, .int .i64 0, .int .i64 0, .string (⟨#[]⟩ : ByteArray), .int .i64 0, .int .i64 0, .int .i64 0, .string (⟨#[]⟩ : ByteArray), .int .i64 0, .int .i64 0, .int .i64 0, .int .i64 0, .int .i64 0]) (t := 29) ?hr ?_; (case hd => rfl); (case hg => rfl); (case hr => first | (go_simp; done) | (go_simp; rfl) | ((try (obtain ⟨_, _, rfl⟩ := Kd.R_slice HO542.out)); first | (go_simp; done) | (go_simp; rfl))); intro gb539 hg w17 hbox hb; have BK539 := am_ (hbox); have GW539 := gA_ hg HB; have GE539 := GW539; have IGE539 := gI_ GE539; replace HB := bS_ HB hb; have NB535_539 := am_ ((gN_ hg (qK BK535))); have NB539_535 := am_ ((gM_ hg (qK BK535))); replace BK535 := bK_ BK535 hb; clear hb hbox hg; have hnb18 := nx_ NB539_535; (try clear zK539); have zK539 := cf16 BK539.out) | ((with_reducible refine gate_store (t := 29) (p := 4) rfl ?_); refine store_evs (t := 29) (p := 4) (j := 0) (cs := [.int .i64 ((rd_T29 l0_7 x22_2).f0), .int .i64 ((rd_T29 l0_7 x22_2).f1.f0), .string ((rd_T29 l0_7 x22_2).f1.f1), .int .i64 ((rd_T29 l0_7 x22_2).f1.f2), .int .i64 ((rd_T29 l0_7 x22_2).f1.f3), .int .i64 ((rd_T29 l0_7 x22_2).f1.f4), .string ((rd_T29 l0_7 x22_2).f1.f5), .int .i64 ((rd_T29 l0_7 x22_2).f1.f6), .int .i64 ((rd_T29 l0_7 x22_2).f1.f7), .int .i64 ((rd_T29 l0_7 x22_2).f2.f0), .string ((rd_T29 l0_7 x22_2).f2.f1), .int .i64 ((rd_T29 l0_7 x22_2).f2.f2), .int .i64 ((rd_T29 l0_7 x22_2).f2.f3), .int .i64 ((rd_T29 l0_7 x22_2).f2.f4), .int .i64 ((rd_T29 l0_7 x22_2).f2.f5), .int .i64 ((rd_T29 l0_7 x22_2).f2.f6)]) (qK BK539) ?_; intro w20 hw; replace BK535 := sK_ hw BK535 NB535_539; replace HB := sB_ hw HB; replace BK539 := sW_ hw BK539; clear hw; (try clear zK539); have zK539 := cz16 BK539.out) | ((with_reducible refine gate_callee (f := 9) rfl ?_); refine gl_ (some 27) Try.func9 #[.agg #[.int .i64 ((rd_T29 l0_7 x22_2).f0), .int .i64 ((rd_T29 l0_7 x22_2).f1.f0), .string ((rd_T29 l0_7 x22_2).f1.f1), .int .i64 ((rd_T29 l0_7 x22_2).f1.f2), .int .i64 ((rd_T29 l0_7 x22_2).f1.f3), .int .i64 ((rd_T29 l0_7 x22_2).f1.f4), .string ((rd_T29 l0_7 x22_2).f1.f5), .int .i64 ((rd_T29 l0_7 x22_2).f1.f6), .int .i64 ((rd_T29 l0_7 x22_2).f1.f7), .int .i64 ((rd_T29 l0_7 x22_2).f2.f0), .string ((rd_T29 l0_7 x22_2).f2.f1), .int .i64 ((rd_T29 l0_7 x22_2).f2.f2), .int .i64 ((rd_T29 l0_7 x22_2).f2.f3), .int .i64 ((rd_T29 l0_7 x22_2).f2.f4), .int .i64 ((rd_T29 l0_7 x22_2).f2.f5), .int .i64 ((rd_T29 l0_7 x22_2).f2.f6)]] ?_; (with_reducible refine (impl_PutItem.calls k2 ((rd_T29 l0_7 x22_2).f0) ((rd_T29 l0_7 x22_2).f1.f0) ((rd_T29 l0_7 x22_2).f1.f1) ((rd_T29 l0_7 x22_2).f1.f2) ((rd_T29 l0_7 x22_2).f1.f3) ((rd_T29 l0_7 x22_2).f1.f4) ((rd_T29 l0_7 x22_2).f1.f5) ((rd_T29 l0_7 x22_2).f1.f6) ((rd_T29 l0_7 x22_2).f1.f7) ((rd_T29 l0_7 x22_2).f2.f0) ((rd_T29 l0_7 x22_2).f2.f1) ((rd_T29 l0_7 x22_2).f2.f2) ((rd_T29 l0_7 x22_2).f2.f3) ((rd_T29 l0_7 x22_2).f2.f4) ((rd_T29 l0_7 x22_2).f2.f5) ((rd_T29 l0_7 x22_2).f2.f6) t540 _ A15.out).mono ?_); rintro e w22 ⟨v541, rfl, ho0, hb⟩; refine ⟨_, rfl, ?_⟩; have HO542 := am_ (Kd.R_lower ho0 (below_size (qB HB))); replace BK535 := bK_ BK535 hb; replace BK539 := bK_ BK539 hb; replace HB := bS_ HB hb; (try clear hb); (try clear ho0); obtain ⟨Ao23, co23, eo23⟩ := Kd.R_slice HO542.out; subst eo23))
      (try simp only [Act.put, List.setIfInBounds_toArray, List.set_cons_zero, List.set_cons_succ])
      have H := HC16.out
      clear HC16
      replace H := ie_ H
      obtain ⟨-, H, c24b0, c24b1⟩ | ⟨c24, H, c24b0, c24b1⟩ := H
      ·
       (first | rw [c24b0] | rw [c24b1] | (simp only [i64_w, i32_w]; rw [c24b0]) | skip)
       obtain rfl := Option.some.inj H
       go_wp2
       go_ret
       exact ⟨er_, qB HB⟩
      have c24b2 : ¬ (t540 = []) := fun h_ => c24 (by rw [h_]; rfl)
      (first | rw [c24b0] | rw [c24b1] | rw [c24b2] | (simp only [i64_w, i32_w]; rw [c24b0]) | skip)
      have H' := Aside0.mk H
      clear H
      go_wp2
      go_roundg k2
      case measure => have := HJ1.out; have := HK2.out; omega
      case rel => exact ⟨(wrap64 (x22_2 + 1)), eqq_, H', ⟨by have := HJ1.out; have := HK2.out; omega⟩, ⟨qK BK535⟩, ⟨qB HB⟩⟩
   replace H := ie_ H
   obtain ⟨-, H, c35b0, c35b1⟩ | ⟨c35, H, c35b0, c35b1⟩ := H
   ·
    replace H := bd_ H
    obtain ⟨t546, A36, H⟩ := H
    by_cases c37 : t546 = true
    rotate_left
    ·
     replace c37 := Bool.eq_false_iff.mpr c37
     subst c37
     rw [if_neg (show ¬ (false = true) by decide)] at H
     obtain rfl := Option.some.inj H
     (try clear zK535)
     have zK535 := cz8 BK535.out
     go_wp2_with (first | ((with_reducible refine gate_callee (f := 87) rfl ?_); refine gl_ (some 58) Try.func87 #[.int .i64 a0_3, .int .i64 0, .int .i64 20] ?_; (with_reducible refine (impl_isIn.calls a0_3 0 20 false _ A36.out).mono ?_); rintro e w' ⟨rfl, ⟨nd, rfl⟩⟩; refine ⟨_, rfl, ?_⟩))
     go_ret
     exact ⟨er_, qB HB⟩
    subst c37
    rw [if_pos rfl] at H
    replace H := ie_ H
    obtain ⟨-, H, c38b0, c38b1⟩ | ⟨c38, H, c38b0, c38b1⟩ := H
    rotate_left
    ·
     obtain rfl := Option.some.inj H
     (try clear zK535)
     have zK535 := cz8 BK535.out
     go_wp2_with (first | ((with_reducible refine gate_callee (f := 87) rfl ?_); refine gl_ (some 58) Try.func87 #[.int .i64 a0_3, .int .i64 0, .int .i64 20] ?_; (with_reducible refine (impl_isIn.calls a0_3 0 20 true _ A36.out).mono ?_); rintro e w' ⟨rfl, ⟨nd, rfl⟩⟩; refine ⟨_, rfl, ?_⟩))
     go_ret
     exact ⟨er_, qB HB⟩
    by_cases c39 : a0_5 = true
    ·
     subst c39
     rw [if_pos rfl] at H
     obtain rfl := Option.some.inj H
     (try clear zK535)
     have zK535 := cz8 BK535.out
     go_wp2_with (first | ((with_reducible refine gate_callee (f := 87) rfl ?_); refine gl_ (some 58) Try.func87 #[.int .i64 a0_3, .int .i64 0, .int .i64 20] ?_; (with_reducible refine (impl_isIn.calls a0_3 0 20 true _ A36.out).mono ?_); rintro e w' ⟨rfl, ⟨nd, rfl⟩⟩; refine ⟨_, rfl, ?_⟩))
     go_ret
     exact ⟨er_, qB HB⟩
    replace c39 := Bool.eq_false_iff.mpr c39
    subst c39
    rw [if_neg (show ¬ (false = true) by decide)] at H
    replace H := ie_ H
    obtain ⟨-, H, c41b0, c41b1⟩ | ⟨c41, H, c41b0, c41b1⟩ := H
    rotate_left
    ·
     obtain rfl := Option.some.inj H
     (try clear zK535)
     have zK535 := cz8 BK535.out
     go_wp2_with (first | ((with_reducible refine gate_callee (f := 87) rfl ?_); refine gl_ (some 58) Try.func87 #[.int .i64 a0_3, .int .i64 0, .int .i64 20] ?_; (with_reducible refine (impl_isIn.calls a0_3 0 20 true _ A36.out).mono ?_); rintro e w' ⟨rfl, ⟨nd, rfl⟩⟩; refine ⟨_, rfl, ?_⟩))
     go_ret
     exact ⟨er_, qB HB⟩
    obtain rfl := Option.some.inj H
    (try clear zK535)
    have zK535 := cz8 BK535.out
    go_wp2_with (first | ((with_reducible refine gate_callee (f := 87) rfl ?_); refine gl_ (some 58) Try.func87 #[.int .i64 a0_3, .int .i64 0, .int .i64 20] ?_; (with_reducible refine (impl_isIn.calls a0_3 0 20 true _ A36.out).mono ?_); rintro e w' ⟨rfl, ⟨nd, rfl⟩⟩; refine ⟨_, rfl, ?_⟩))
    go_ret
    exact ⟨er_, qB HB⟩
   replace H := ie_ H
   obtain ⟨-, H, c46b0, c46b1⟩ | ⟨c46, H, c46b0, c46b1⟩ := H
   rotate_left
   ·
    obtain rfl := Option.some.inj H
    (try clear zK535)
    have zK535 := cz8 BK535.out
    go_wp2
    go_ret
    exact ⟨er_, qB HB⟩
   replace H := bd_ H
   obtain ⟨t547, A47, H⟩ := H
   by_cases c48 : t547 = true
   rotate_left
   ·
    replace c48 := Bool.eq_false_iff.mpr c48
    subst c48
    rw [if_neg (show ¬ (false = true) by decide)] at H
    obtain rfl := Option.some.inj H
    (try clear zK535)
    have zK535 := cz8 BK535.out
    go_wp2_with (first | ((with_reducible refine gate_callee (f := 87) rfl ?_); refine gl_ (some 58) Try.func87 #[.int .i64 a0_3, .int .i64 0, .int .i64 20] ?_; (with_reducible refine (impl_isIn.calls a0_3 0 20 false _ A47.out).mono ?_); rintro e w' ⟨rfl, ⟨nd, rfl⟩⟩; refine ⟨_, rfl, ?_⟩))
    go_ret
    exact ⟨er_, qB HB⟩
   subst c48
   rw [if_pos rfl] at H
   replace H := ie_ H
   obtain ⟨-, H, c49b0, c49b1⟩ | ⟨c49, H, c49b0, c49b1⟩ := H
   rotate_left
   ·
    obtain rfl := Option.some.inj H
    (try clear zK535)
    have zK535 := cz8 BK535.out
    go_wp2_with (first | ((with_reducible refine gate_callee (f := 87) rfl ?_); refine gl_ (some 58) Try.func87 #[.int .i64 a0_3, .int .i64 0, .int .i64 20] ?_; (with_reducible refine (impl_isIn.calls a0_3 0 20 true _ A47.out).mono ?_); rintro e w' ⟨rfl, ⟨nd, rfl⟩⟩; refine ⟨_, rfl, ?_⟩))
    go_ret
    exact ⟨er_, qB HB⟩
   replace H := ie_ H
   obtain ⟨-, H, c50b0, c50b1⟩ | ⟨c50, H, c50b0, c50b1⟩ := H
   rotate_left
   ·
    obtain rfl := Option.some.inj H
    (try clear zK535)
    have zK535 := cz8 BK535.out
    go_wp2_with (first | ((with_reducible refine gate_callee (f := 87) rfl ?_); refine gl_ (some 58) Try.func87 #[.int .i64 a0_3, .int .i64 0, .int .i64 20] ?_; (with_reducible refine (impl_isIn.calls a0_3 0 20 true _ A47.out).mono ?_); rintro e w' ⟨rfl, ⟨nd, rfl⟩⟩; refine ⟨_, rfl, ?_⟩))
    go_ret
    exact ⟨er_, qB HB⟩
   by_cases c51 : a0_5 = true
   ·
    subst c51
    rw [if_pos rfl] at H
    obtain rfl := Option.some.inj H
    (try clear zK535)
    have zK535 := cz8 BK535.out
    go_wp2_with (first | ((with_reducible refine gate_callee (f := 87) rfl ?_); refine gl_ (some 58) Try.func87 #[.int .i64 a0_3, .int .i64 0, .int .i64 20] ?_; (with_reducible refine (impl_isIn.calls a0_3 0 20 true _ A47.out).mono ?_); rintro e w' ⟨rfl, ⟨nd, rfl⟩⟩; refine ⟨_, rfl, ?_⟩))
    go_ret
    exact ⟨er_, qB HB⟩
   replace c51 := Bool.eq_false_iff.mpr c51
   subst c51
   rw [if_neg (show ¬ (false = true) by decide)] at H
   replace H := ie_ H
   obtain ⟨-, H, c53b0, c53b1⟩ | ⟨c53, H, c53b0, c53b1⟩ := H
   rotate_left
   ·
    obtain rfl := Option.some.inj H
    (try clear zK535)
    have zK535 := cz8 BK535.out
    go_wp2_with (first | ((with_reducible refine gate_callee (f := 87) rfl ?_); refine gl_ (some 58) Try.func87 #[.int .i64 a0_3, .int .i64 0, .int .i64 20] ?_; (with_reducible refine (impl_isIn.calls a0_3 0 20 true _ A47.out).mono ?_); rintro e w' ⟨rfl, ⟨nd, rfl⟩⟩; refine ⟨_, rfl, ?_⟩))
    go_ret
    exact ⟨er_, qB HB⟩
   obtain rfl := Option.some.inj H
   (try clear zK535)
   have zK535 := cz8 BK535.out
   go_wp2_with (first | ((with_reducible refine gate_callee (f := 87) rfl ?_); refine gl_ (some 58) Try.func87 #[.int .i64 a0_3, .int .i64 0, .int .i64 20] ?_; (with_reducible refine (impl_isIn.calls a0_3 0 20 true _ A47.out).mono ?_); rintro e w' ⟨rfl, ⟨nd, rfl⟩⟩; refine ⟨_, rfl, ?_⟩))
   go_ret
   exact ⟨er_, qB HB⟩


/-! ### impl_Sum: function 108 -/
mutual
def impl_Sum.l0 : Nat → Int → List Int → Int → Int → Option (Int)
 | 0, _, _, _, _ => none
 | k + 1, x3, x6, x7, x8 => if x8 < x7 then (if 0 ≤ x8 then (if x8 < (x6.length : Int) then (impl_Sum.l1 k (Go.bits .xor .i64 x3 (wrap64 (256 * (wrap64 (rd x6 x8))))) x6 x7 x8 0) else (none)) else (none)) else (some (Go.bits .and .i64 x3 65535))
def impl_Sum.l1 : Nat → Int → List Int → Int → Int → Int → Option (Int)
 | 0, _, _, _, _, _ => none
 | k + 1, x3, x6, x7, x8, x17 => if x17 < 8 then (if (wrap64 (x3 * 2)) > 65535 then (impl_Sum.l1 k (Go.bits .xor .i64 (wrap64 (x3 * 2)) 69665) x6 x7 x8 (wrap64 (x17 + 1))) else (impl_Sum.l1 k (wrap64 (x3 * 2)) x6 x7 x8 (wrap64 (x17 + 1)))) else (impl_Sum.l0 k x3 x6 x7 (wrap64 (x8 + 1)))
end
def impl_Sum.f (k : Nat) (l0 : List Int) : Option (Int) := impl_Sum.l0 k 65535 l0 (l0.length : Int) 0
theorem impl_Sum.mono_l : ∀ k, (∀ y0 y1 y2 y3, LeO (impl_Sum.l0 k y0 y1 y2 y3) (impl_Sum.l0 (k + 1) y0 y1 y2 y3)) ∧ (∀ y0 y1 y2 y3 y4, LeO (impl_Sum.l1 k y0 y1 y2 y3 y4) (impl_Sum.l1 (k + 1) y0 y1 y2 y3 y4))
 | 0 => ⟨fun _ _ _ _ r h => by simp [impl_Sum.l0] at h, fun _ _ _ _ _ r h => by simp [impl_Sum.l1] at h⟩
 | k + 1 => by
  obtain ⟨ih0, ih1⟩ := impl_Sum.mono_l k
  refine ⟨?_, ?_⟩
  ·
   intro y0 y1 y2 y3
   unfold impl_Sum.l0
   exact mo_
  ·
   intro y0 y1 y2 y3 y4
   unfold impl_Sum.l1
   exact mo_
theorem impl_Sum.mono : ∀ a0 k, LeO (impl_Sum.f k a0) (impl_Sum.f (k + 1) a0) := by
 intro a0 k
 obtain ⟨ih0, ih1⟩ := impl_Sum.mono_l k
 unfold impl_Sum.f
 exact mo_
set_option maxHeartbeats 8000000 in
set_option maxRecDepth 100000 in
theorem impl_Sum.calls (k : Nat) (A0 : Option Addr) (c0 : Nat) (l0 : List Int) (r : Int) (w : World) (hr0 : Kd.C (Kd.int .u8) w A0 l0.length l0) (hc0 : l0.length ≤ c0) (h : impl_Sum.f k l0 = some r) :
  Calls Try.prog 108 #[.slice A0 l0.length c0] w fun e w' => e = .returned (.int .i64 r) ∧ Drawn0 w w' := by
 have HR0 := am_ hr0
 have HC0 := am_ hc0
 clear hr0 hc0
 have H : (impl_Sum.l0 k 65535 l0 (l0.length : Int) 0) = some r := h
 clear h
 have H' := Aside0.mk H
 clear H
 go_enter Try.func108, Try.ntmps108
 go_wp2
 go_loopg [3, 8] k (fun kq v3 v8 w' => ∃ (x3_1 : Int) (x8_1 : Int), v3 = .int .i64 x3_1 ∧ v8 = .int .i64 x8_1 ∧ Aside0 (impl_Sum.l0 kq x3_1 l0 (l0.length : Int) x8_1 = some r) ∧ Aside0 (kq ≤ k) ∧ Drawn0 w w')
 case atStart => exact ⟨(65535), (0), eqq_, eqq_, H', ⟨Nat.le_refl _⟩, by repeat (first | exact Drawn0.refl _ | apply Drawn0.step)⟩
 case round =>
  clear H'
  try clear c1
  obtain ⟨x3_1, x8_1, rfl, rfl, HA, HK1, ⟨m1, rfl⟩⟩ := hrel
  cases gk with
  | zero => exact absurd HA.out (by simp [impl_Sum.l0])
  | succ k1 =>
   have H := HA.out
   clear HA
   simp only [impl_Sum.l0] at H
   replace H := id_ H
   obtain ⟨-, H, c2b0⟩ | ⟨-, H, c2b0⟩ := H
   rotate_left
   ·
    obtain rfl := si_ H
    go_wp2
    go_ret
    exact ⟨ea_, dn_⟩
   replace H := ip_ H
   obtain ⟨-, H, c3b0⟩ := H
   replace H := ip_ H
   obtain ⟨-, H, c4b0⟩ := H
   have H' := Aside0.mk H
   clear H
   have p548 : 0 ≤ (x8_1 : Int) := od_
   have q548 : x8_1 < (l0.length : Int) := od_
   obtain ⟨ad548, e548, hx548_0⟩ := Kd.at_int HR0.out x8_1 p548 q548
   cases e548
   replace p548 := eq_true p548
   replace q548 := eq_true q548
   go_wp2
   go_loopg [3, 17] k1 (fun kq v3 v17 w' => ∃ (x3_2 : Int) (x17_2 : Int), v3 = .int .i64 x3_2 ∧ v17 = .int .i64 x17_2 ∧ Aside0 (impl_Sum.l1 kq x3_2 l0 (l0.length : Int) x8_1 x17_2 = some r) ∧ Aside0 (kq ≤ k1) ∧ Drawn0 w w')
   case atStart => exact ⟨(Go.bits .xor .i64 x3_1 (wrap64 (256 * (wrap64 (rd l0 x8_1))))), (0), eqq_, eqq_, H', ⟨Nat.le_refl _⟩, by repeat (first | exact Drawn0.refl _ | apply Drawn0.step)⟩
   case round =>
    clear H'
    try clear c1
    try clear c2
    try clear c2b0
    try clear p2
    try clear c3
    try clear c3b0
    try clear c4
    try clear c4b0
    try clear hx548_0
    try clear p548
    try clear q548
    obtain ⟨x3_2, x17_2, rfl, rfl, HA, HK2, ⟨m2, rfl⟩⟩ := hrel
    cases gk with
    | zero => exact absurd HA.out (by simp [impl_Sum.l1])
    | succ k2 =>
     have H := HA.out
     clear HA
     simp only [impl_Sum.l1] at H
     replace H := id_ H
     obtain ⟨-, H, c5b0⟩ | ⟨-, H, c5b0⟩ := H
     rotate_left
     ·
      have H' := Aside0.mk H
      clear H
      go_wp2
      go_roundg k2
      case measure => have := HK1.out; have := HK2.out; omega
      case rel => exact ⟨(x3_2), (wrap64 (x8_1 + 1)), eqq_, eqq_, H', ⟨by have := HK1.out; have := HK2.out; omega⟩, by repeat (first | exact Drawn0.refl _ | apply Drawn0.step)⟩
     replace H := id_ H
     obtain ⟨-, H, c6b0⟩ | ⟨-, H, c6b0⟩ := H
     ·
      have H' := Aside0.mk H
      clear H
      go_wp2
      go_roundg k2
      case measure => have := HK1.out; have := HK2.out; omega
      case rel => exact ⟨(Go.bits .xor .i64 (wrap64 (x3_2 * 2)) 69665), (wrap64 (x17_2 + 1)), eqq_, eqq_, H', ⟨by have := HK1.out; have := HK2.out; omega⟩, by repeat (first | exact Drawn0.refl _ | apply Drawn0.step)⟩
     have H' := Aside0.mk H
     clear H
     go_wp2
     go_roundg k2
     case measure => have := HK1.out; have := HK2.out; omega
     case rel => exact ⟨(wrap64 (x3_2 * 2)), (wrap64 (x17_2 + 1)), eqq_, eqq_, H', ⟨by have := HK1.out; have := HK2.out; omega⟩, by repeat (first | exact Drawn0.refl _ | apply Drawn0.step)⟩


/-! ### impl_PutCtl: function 52 -/
mutual
def impl_PutCtl.j0 : Nat → Int → Int → Int → Int → Int → Int → Bool → Int → List (S29) → Option (List Int)
 | 0, _, _, _, _, _, _, _, _, _ => none
 | k + 1, x3, x550000, x550001, x550002, x550003, x550004, x550005, x550006, x550007 => (impl_PutWord.f (([(x550000) % 256, (x550001) % 256] : List Int)) x550002).bind fun t557 => ((some (([(x550003) % 256, (x550004) % 256, x3] : List Int) : List Int)).bind fun y560 => (if t557.length + y560.length < 140737488355328 then ((impl_PutWord.f (t557 ++ y560) x550006).bind fun t566 => ((some (([((x550007.length : Int)) % 256] : List Int) : List Int)).bind fun y569 => (if t566.length + y569.length < 140737488355328 then (impl_PutCtl.l0 k (t566 ++ y569) x550007 (x550007.length : Int) 0) else (none)))) else (none)))
def impl_PutCtl.l0 : Nat → List Int → List (S29) → Int → Int → Option (List Int)
 | 0, _, _, _, _ => none
 | k + 1, x4, x44, x45, x46 => if x46 < x45 then (if 0 ≤ x46 then (if x46 < (x44.length : Int) then ((impl_PutItem.f k ((rd_T29 x44 x46).f0) ((rd_T29 x44 x46).f1.f0) ((rd_T29 x44 x46).f1.f1) ((rd_T29 x44 x46).f1.f2) ((rd_T29 x44 x46).f1.f3) ((rd_T29 x44 x46).f1.f4) ((rd_T29 x44 x46).f1.f5) ((rd_T29 x44 x46).f1.f6) ((rd_T29 x44 x46).f1.f7) ((rd_T29 x44 x46).f2.f0) ((rd_T29 x44 x46).f2.f1) ((rd_T29 x44 x46).f2.f2) ((rd_T29 x44 x46).f2.f3) ((rd_T29 x44 x46).f2.f4) ((rd_T29 x44 x46).f2.f5) ((rd_T29 x44 x46).f2.f6)).bind fun t577 => ((some (([((t577.length : Int)) % 256] : List Int) : List Int)).bind fun y580 => (if x4.length + y580.length < 140737488355328 then ((some (x4 ++ y580 : List Int)).bind fun y583 => (if y583.length + t577.length < 140737488355328 then (impl_PutCtl.l0 k (y583 ++ t577) x44 x45 (wrap64 (x46 + 1))) else (none))) else (none)))) else (none)) else (none)) else ((impl_Sum.f k x4).bind fun t589 => ((impl_PutWord.f x4 t589).bind fun t590 => (some t590)))
end
def impl_PutCtl.f (k : Nat) (a0_0 : Int) (a0_1 : Int) (a0_2 : Int) (a0_3 : Int) (a0_4 : Int) (a0_5 : Bool) (a0_6 : Int) (l0_7 : List (S29)) : Option (List Int) := (impl_CtlOk.f k a0_0 a0_1 a0_2 a0_3 a0_4 a0_5 a0_6 l0_7).bind fun t550 => (if t550 = true then (if a0_5 = true then (impl_PutCtl.j0 k 1 a0_0 a0_1 a0_2 a0_3 a0_4 a0_5 a0_6 l0_7) else (impl_PutCtl.j0 k 0 a0_0 a0_1 a0_2 a0_3 a0_4 a0_5 a0_6 l0_7)) else (some (([] : List Int))))
theorem impl_PutCtl.mono_l : ∀ k, (∀ y0 y1 y2 y3 y4 y5 y6 y7 y8, LeO (impl_PutCtl.j0 k y0 y1 y2 y3 y4 y5 y6 y7 y8) (impl_PutCtl.j0 (k + 1) y0 y1 y2 y3 y4 y5 y6 y7 y8)) ∧ (∀ y0 y1 y2 y3, LeO (impl_PutCtl.l0 k y0 y1 y2 y3) (impl_PutCtl.l0 (k + 1) y0 y1 y2 y3))
 | 0 => ⟨fun _ _ _ _ _ _ _ _ _ r h => by simp [impl_PutCtl.j0] at h, fun _ _ _ _ r h => by simp [impl_PutCtl.l0] at h⟩
 | k + 1 => by
  obtain ⟨ih0, ih1⟩ := impl_PutCtl.mono_l k
  refine ⟨?_, ?_⟩
  ·
   intro y0 y1 y2 y3 y4 y5 y6 y7 y8
   unfold impl_PutCtl.j0
   have m0 := @impl_CtlOk.mono; have m1 := @impl_PutItem.mono; have m2 := @impl_Sum.mono; exact mo_
  ·
   intro y0 y1 y2 y3
   unfold impl_PutCtl.l0
   have m0 := @impl_CtlOk.mono; have m1 := @impl_PutItem.mono; have m2 := @impl_Sum.mono; exact mo_
theorem impl_PutCtl.mono : ∀ a0 a1 a2 a3 a4 a5 a6 a7 k, LeO (impl_PutCtl.f k a0 a1 a2 a3 a4 a5 a6 a7) (impl_PutCtl.f (k + 1) a0 a1 a2 a3 a4 a5 a6 a7) := by
 intro a0 a1 a2 a3 a4 a5 a6 a7 k
 obtain ⟨ih0, ih1⟩ := impl_PutCtl.mono_l k
 unfold impl_PutCtl.f
 have m0 := @impl_CtlOk.mono; have m1 := @impl_PutItem.mono; have m2 := @impl_Sum.mono; exact mo_
def impl_PutCtl.T6 : Bool × List (List Nat × List Nat) := (true, [([], []), ([0], [0]), ([1], [1]), ([], []), ([3], [3]), ([4], [4]), ([2, 5], [2, 5]), ([], []), ([7], [7]), ([6, 8], [6, 8]), ([], []), ([10], [10]), ([11], [11]), ([], []), ([13], [13]), ([14], [14]), ([], []), ([12, 15, 16], [12, 15, 16]), ([9, 17, 9], [9, 17]), ([18, 18, 0, 1, 2, 3, 4, 5, 6, 7, 8, 9, 10, 11, 12, 13, 14, 15, 16, 17, 18], [18])])
def impl_PutCtl.B6 : List Nat := [0, 1, 3, 0, 8, 24, 63, 0, 128, 511, 0, 1024, 3072, 0, 8192, 24576, 0, 130048, 262143, 524287]
theorem impl_PutCtl.tab6 : rtab .any (opsOf Try.f52 6) = impl_PutCtl.T6 := by kernel_rfl
theorem impl_PutCtl.bits6 : waitsOk impl_PutCtl.T6.2 impl_PutCtl.B6 = true := by kernel_rfl
def impl_PutCtl.T7 : Bool × List (List Nat × List Nat) := (true, [([], []), ([], []), ([1], [1]), ([0, 2], [0, 2]), ([], []), ([4], [4]), ([5], [5]), ([6], [6]), ([7], [7]), ([3, 8, 3], [3, 8]), ([9, 9, 0, 1, 2, 3, 4, 5, 6, 7, 8, 9], [0, 9])])
def impl_PutCtl.B7 : List Nat := [0, 0, 2, 7, 0, 16, 48, 112, 240, 511, 1023]
theorem impl_PutCtl.tab7 : rtab .any (opsOf Try.f52 7) = impl_PutCtl.T7 := by kernel_rfl
theorem impl_PutCtl.bits7 : waitsOk impl_PutCtl.T7.2 impl_PutCtl.B7 = true := by kernel_rfl
set_option maxHeartbeats 8000000 in
set_option maxRecDepth 100000 in
theorem impl_PutCtl.calls (k : Nat) (a0_0 : Int) (a0_1 : Int) (a0_2 : Int) (a0_3 : Int) (a0_4 : Int) (a0_5 : Bool) (a0_6 : Int) (A0_7 : Option Addr) (c0_7 : Nat) (l0_7 : List (S29)) (r : List Int) (w : World) (hr0_7 : Kd.C k29 w A0_7 l0_7.length l0_7) (hc0_7 : l0_7.length ≤ c0_7) (h : impl_PutCtl.f k a0_0 a0_1 a0_2 a0_3 a0_4 a0_5 a0_6 l0_7 = some r) :
  Calls Try.prog 52 #[.agg #[.int .i64 a0_0, .int .i64 a0_1, .int .i64 a0_2, .int .i64 a0_3, .int .i64 a0_4, .bool a0_5, .int .i64 a0_6, .slice A0_7 l0_7.length c0_7]] w fun e w' => ∃ v0_ : Value, e = .returned (v0_) ∧ Kd.R (Kd.int .u8) 5 w' w.heap.size (fun _ => True) v0_ r ∧ Below w.heap.size w w' := by
 have hu75 := Try.underlying75
 have hu29 := Try.underlying29
 have HR0_7 := am_ hr0_7
 have HC0_7 := am_ hc0_7
 clear hr0_7 hc0_7
 have HB := Aside0.mk (Below.refl w.heap.size w)
 have H := h
 unfold impl_PutCtl.f at H
 clear h
 replace H := bd_ H
 obtain ⟨t550, A2, H⟩ := H
 have HC3 := am_ H
 clear H
 go_enter Try.func52, Try.ntmps52
 go_upto_if 10 with (first | (refine gd_ 1 rfl ?_; refine bx_ (N := 1) (cs := #[.int .i64 a0_0, .int .i64 a0_1, .int .i64 a0_2, .int .i64 a0_3, .int .i64 a0_4, .bool a0_5, .int .i64 a0_6, .slice A0_7 l0_7.length c0_7]) (t := 75) ?_; intro gb549 hg w4 hbox hb; have BK549 := am_ (hbox); have GW549 := gA_ hg HB; have GE549 := GW549; have IGE549 := gI_ GE549; replace HB := bS_ HB hb; clear hb hbox hg; (try clear zK549); have zK549 := cf8 BK549.out) | (refine gc_ 56 rfl ?_; refine gl_ (some 9) Try.func56 #[.agg #[.int .i64 a0_0, .int .i64 a0_1, .int .i64 a0_2, .int .i64 a0_3, .int .i64 a0_4, .bool a0_5, .int .i64 a0_6, .slice A0_7 l0_7.length c0_7]] ?_; (with_reducible refine (impl_CtlOk.calls k a0_0 a0_1 a0_2 a0_3 a0_4 a0_5 a0_6 _ _ l0_7 t550 _ ?side1 ?side2 A2.out).mono ?_); (case side1 => exact qC (Kd.C_below HR0_7.out HB.out)); (case side2 => exact HC0_7.out); rintro e w6 ⟨rfl, hb⟩; refine ⟨_, rfl, ?_⟩; replace BK549 := bK_ BK549 hb; replace HB := bS_ HB hb; (try clear hb)))
 (try simp only [Act.put, List.setIfInBounds_toArray, List.set_cons_zero, List.set_cons_succ])
 have H := HC3.out
 clear HC3
 by_cases c7 : t550 = true
 rotate_left
 ·
  replace c7 := nf_ c7
  subst c7
  rw [if_neg (show ¬ (false = true) by decide)] at H
  obtain ⟨y551, hy551⟩ : ∃ y_ : List Int, y_ = (([] : List Int)) := ⟨_, rfl⟩
  rw [← hy551] at H
  have Ny551 := am_ hy551
  clear hy551
  obtain rfl := si_ H
  go_wp2_with (first | (refine gd_ 11 rfl ?_; refine l8_ 5 11 ([] : List Int) [] ?_; intro v552 w56 ho57 hb hg_ hnew_; clear hg_ hnew_; (first | rw [← Ny551.out] at ho57 | (simp only [Int.reduceToNat] at ho57; rw [← Ny551.out] at ho57)); have HO553 := am_ (Kd.R_lower ho57 (below_size (qB HB))); replace BK549 := bK_ BK549 hb; replace HB := bS_ HB hb; clear hb ho57))
  go_ret
  exact ⟨_, er_, qR HO553, qB HB⟩
 subst c7
 rw [if_pos rfl] at H
 have HC8 := am_ H
 clear H
 (try clear zK549)
 have zK549 := cf8 BK549.out
 go_upto_if 13 with (fail)
 go_cut [3] (fun v3 wc => ∃ (kq : Nat) (x3_7 : Int), v3 = .int .u8 x3_7 ∧ Aside0 (impl_PutCtl.j0 kq x3_7 a0_0 a0_1 a0_2 a0_3 a0_4 a0_5 a0_6 l0_7 = some r) ∧ Aside0 (kq ≤ k) ∧ Aside0 (wc.heap[gb549]? = some (.cells #[.int .i64 a0_0, .int .i64 a0_1, .int .i64 a0_2, .int .i64 a0_3, .int .i64 a0_4, .bool a0_5, .int .i64 a0_6, (.slice A0_7 l0_7.length c0_7)] 75 (0, 0))) ∧ Aside0 (Below w.heap.size w wc))
 case first =>
  have H := HC8.out
  clear HC8
  by_cases c10 : a0_5 = true
  ·
   subst c10
   rw [if_pos rfl] at H
   have H' := Aside0.mk H
   clear H
   go_wp2
   go_meet
   case rel => exact ⟨_, (1), eqq_, H', ⟨by first | omega | exact Nat.le_refl _⟩, ⟨qK BK549⟩, ⟨qB HB⟩⟩
  replace c10 := nf_ c10
  subst c10
  rw [if_neg (show ¬ (false = true) by decide)] at H
  have H' := Aside0.mk H
  clear H
  go_wp2
  go_meet
  case rel => exact ⟨_, (0), eqq_, H', ⟨by first | omega | exact Nat.le_refl _⟩, ⟨qK BK549⟩, ⟨qB HB⟩⟩
 case rest =>
  clear HC8
  try clear c1
  try clear p2
  try clear c5
  try clear c7
  try clear c10
  (try clear zK549)
  (try clear zK549)
  (try clear fK549)
  (try clear fK549)
  obtain ⟨kq, x3_7, rfl, HA, HJ7, BK549, HB⟩ := hcut
  cases kq with
  | zero => exact absurd HA.out (by simp [impl_PutCtl.j0])
  | succ kj7 =>
   have H := HA.out
   clear HA
   simp only [impl_PutCtl.j0] at H
   obtain ⟨y554, hy554⟩ : ∃ y_ : List Int, y_ = (([(a0_0) % 256, (a0_1) % 256] : List Int)) := ⟨_, rfl⟩
   rw [← hy554] at H
   have Ny554 := am_ hy554
   clear hy554
   replace H := bd_ H
   obtain ⟨t557, A11, H⟩ := H
   replace H := my_ (([(a0_3) % 256, (a0_4) % 256, x3_7] : List Int)) H
   obtain ⟨y560, Ny560, H⟩ := H
   (try dsimp only at H)
   replace H := ip_ H
   obtain ⟨c12, H, -⟩ := H
   have LMc12 := am_ c12
   clear c12
   obtain ⟨y563, hy563⟩ : ∃ y_ : List Int, y_ = (t557 ++ y560) := ⟨_, rfl⟩
   replace H : ((impl_PutWord.f y563 a0_6).bind fun t566 => ((some (([((l0_7.length : Int)) % 256] : List Int) : List Int)).bind fun y569 => (if t566.length + y569.length < 140737488355328 then (impl_PutCtl.l0 kj7 (t566 ++ y569) l0_7 (l0_7.length : Int) 0) else (none)))) = some r := by first | (rw [hy563]; with_reducible exact H) | (have H2_ := (Option.bind_some _ _).symm.trans H; rw [hy563]; with_reducible exact H2_) | (have H2_ := (Option.bind_some _ _).symm.trans H; with_reducible exact H2_) | with_reducible exact H | (rw [hy563]; exact H) | exact H
   have Ny563 := am_ hy563
   clear hy563
   replace H := bd_ H
   obtain ⟨t566, A13, H⟩ := H
   replace H := my_ (([((l0_7.length : Int)) % 256] : List Int)) H
   obtain ⟨y569, Ny569, H⟩ := H
   (try dsimp only at H)
   replace H := ip_ H
   obtain ⟨c14, H, -⟩ := H
   have LMc14 := am_ c14
   clear c14
   obtain ⟨y572, hy572⟩ : ∃ y_ : List Int, y_ = (t566 ++ y569) := ⟨_, rfl⟩
   replace H : (impl_PutCtl.l0 kj7 y572 l0_7 (l0_7.length : Int) 0) = some r := by first | (rw [hy572]; with_reducible exact H) | (have H2_ := (Option.bind_some _ _).symm.trans H; rw [hy572]; with_reducible exact H2_) | (have H2_ := (Option.bind_some _ _).symm.trans H; with_reducible exact H2_) | with_reducible exact H | (rw [hy572]; exact H) | exact H
   have Ny572 := am_ hy572
   clear hy572
   have H' := Aside0.mk H
   clear H
   try go_wp2
   replace BK549 := am_ (blk_drew BK549.out)
   replace HB := am_ (below_drew1 HB.out)
   refine start_ (n := 20) (S := fun w' => w'.cell? ⟨gb549, 0, none⟩ = some (.int .i64 a0_0) ∧ w'.cell? ⟨gb549, 1, none⟩ = some (.int .i64 a0_1) ∧ w'.cell? ⟨gb549, 2, none⟩ = some (.int .i64 a0_2) ∧ w'.cell? ⟨gb549, 3, none⟩ = some (.int .i64 a0_3) ∧ w'.cell? ⟨gb549, 4, none⟩ = some (.int .i64 a0_4) ∧ w'.cell? ⟨gb549, 5, none⟩ = some (.bool a0_5) ∧ w'.cell? ⟨gb549, 6, none⟩ = some (.int .i64 a0_6) ∧ w'.cell? ⟨gb549, 7, none⟩ = some (.slice A0_7 l0_7.length c0_7)) (ds := []) (rl [0,20]) (by kernel_rfl) rfl rfl (cz8 BK549.out) (fun hHeld => ?_); refine with_tabW impl_PutCtl.tab6 impl_PutCtl.bits6 (fun HT_ HW_ => ?_)
   generalize wc.drew = w15 at BK549 HB hHeld ⊢
   refine pq_ 0 14 HT_ (rl [1,19]) ?_
   refine pq_ 3 17 HT_ (rl [1,2,1,16]) ?_
   refine pq_ 7 21 HT_ (rl [1,2,1,3,1,12]) ?_
   refine pq_ 10 24 HT_ (rl [1,2,1,3,1,2,1,9]) ?_
   refine pq_ 13 27 HT_ (rl [1,2,1,3,1,2,1,2,1,6]) ?_
   refine pq_ 16 30 HT_ (rl [1,2,1,3,1,2,1,2,1,2,1,3]) ?_
   refine tz_ (i := 1) (N := some 15) HT_ HW_ (rl [2,1,1,3,1,2,1,2,1,2,1,3]) rfl rfl hHeld ?_
   refine pq_ 2 16 HT_ (rl [4,3,1,2,1,2,1,2,1,3]) ?_
   refine tz_ (i := 4) (N := some 18) HT_ HW_ (rl [5,2,1,2,1,2,1,2,1,3]) rfl rfl hHeld ?_
   refine pq_ 5 19 HT_ (rl [6,1,1,2,1,2,1,2,1,3]) ?_
   refine tz_ (i := 8) (N := some 22) HT_ HW_ (rl [6,1,2,1,1,2,1,2,1,3]) rfl rfl hHeld ?_
   refine tz_ (i := 11) (N := some 25) HT_ HW_ (rl [6,1,2,1,2,1,1,2,1,3]) rfl rfl hHeld ?_
   refine pq_ 12 26 HT_ (rl [6,1,2,1,4,2,1,3]) ?_
   refine tz_ (i := 14) (N := some 28) HT_ HW_ (rl [6,1,2,1,5,1,1,3]) rfl rfl hHeld ?_
   refine pq_ 15 29 HT_ (rl [6,1,2,1,7,3]) ?_
   refine join_ (σ := Value × Value × Value) 2 (rl [18,2]) (fun s_ => [(20, s_.1), (23, s_.2.1), (31, s_.2.2)]) (fun s_ w' => (w'.cell? ⟨gb549, 0, none⟩ = some (.int .i64 a0_0) ∧ w'.cell? ⟨gb549, 1, none⟩ = some (.int .i64 a0_1) ∧ w'.cell? ⟨gb549, 2, none⟩ = some (.int .i64 a0_2) ∧ w'.cell? ⟨gb549, 3, none⟩ = some (.int .i64 a0_3) ∧ w'.cell? ⟨gb549, 4, none⟩ = some (.int .i64 a0_4) ∧ w'.cell? ⟨gb549, 5, none⟩ = some (.bool a0_5) ∧ w'.cell? ⟨gb549, 6, none⟩ = some (.int .i64 a0_6) ∧ w'.cell? ⟨gb549, 7, none⟩ = some (.slice A0_7 l0_7.length c0_7)) ∧ (Kd.R (Kd.int .u8) 5 w' w.heap.size (fun k_ => some k_ ≠ (s_.2.1 : Value).ownBlock ∧ some k_ ≠ (s_.2.2 : Value).ownBlock) s_.1 y554) ∧ (Kd.R (Kd.int .u8) 5 w' w.heap.size (fun k_ => some k_ ≠ (s_.1 : Value).ownBlock ∧ some k_ ≠ (s_.2.2 : Value).ownBlock) s_.2.1 t557) ∧ (Kd.R (Kd.int .u8) 5 w' w.heap.size (fun k_ => some k_ ≠ (s_.1 : Value).ownBlock ∧ some k_ ≠ (s_.2.1 : Value).ownBlock) s_.2.2 y560) ∧ (w'.heap[gb549]? = some (.cells #[.int .i64 a0_0, .int .i64 a0_1, .int .i64 a0_2, .int .i64 a0_3, .int .i64 a0_4, .bool a0_5, .int .i64 a0_6, .slice A0_7 l0_7.length c0_7] 75 (0, 0))) ∧ (Below w.heap.size w w')) ?_ ?_
   rotate_left
   ·
    intro hCont
    refine two_ (i := 6) (j := 17) (Ni := some 20) (Nj := some 31) (rl [9,1,7,3]) (rl [6,1,2,1,8,2]) rfl rfl rfl rfl (two_of HT_.out (by kernel_rfl)) (by decide) (by decide) (fun K hK => ?_) (fun K hK => ?_)
    ·
     skip
     refine l8s_ 5 20 ([(a0_0) % 256, (a0_1) % 256] : List Int) [.int .u8 ((a0_0) % 256), .int .u8 ((a0_1) % 256)] ?_
     intro v555 w16 ho17 hb hg_ hnew_
     clear hg_ hnew_
     (first | rw [← Ny554.out] at ho17 | (simp only [Int.reduceToNat] at ho17; rw [← Ny554.out] at ho17))
     have HO556 := am_ (Kd.R_lower ho17 (below_size (qB HB)))
     replace BK549 := bK_ BK549 hb
     replace HB := bS_ HB hb
     clear hb ho17
     obtain ⟨Ao18, co18, eo18⟩ := Kd.R_slice HO556.out
     (first | subst eo18 | (injection eo18 with f1_ f2_ f3_; have f4_ := f1_.symm; have f5_ := f3_.symm; clear f1_ f2_ f3_; subst f4_; subst f5_))
     refine hK.out _ _ (cz8 BK549.out) (fun hHeld => ?_)
     clear hK K
     refine nm_ (some 20) ?_
     refine two_ (i := 9) (j := 17) (Ni := some 23) (Nj := some 31) (rl [17,3]) (rl [9,1,8,2]) rfl rfl rfl rfl (two_of HT_.out (by kernel_rfl)) (by decide) (by decide) (fun K hK => ?_) (fun K hK => ?_)
     ·
      skip
      refine goes_ Try.func67 (by kernel_rfl) rfl #[.slice Ao18 y554.length co18, .int .i64 a0_2] (by rfl) rfl rfl la_ ?_
      with_reducible refine (impl_PutWord.calls _ _ y554 a0_2 t557 _ (rC_ HO556) ?side2 A11.out).mono ?_
      (case side2 => exact (rL_ HO556))
      rintro e w19 ⟨v558, rfl, ho0, hb⟩
      refine ⟨_, rfl, ?_⟩
      have HO559 := am_ (Kd.R_lower (Kd.R_new' ho0 (Kd.R_lt (qR HO556))) (below_size (qB HB)))
      replace HO556 := eA_ HO556 ho0 hb
      replace BK549 := bK_ BK549 hb
      replace HB := bS_ HB hb
      (try clear hb ho0)
      refine hK.out _ _ (cz8 BK549.out) (fun hHeld => ?_)
      clear hK K
      refine nm_ (some 23) ?_
      refine on_ HT_ (i := 17) (N := some 31) (rl [18,2]) (fun K hK => ?_)
      refine l8s_ 5 31 ([(a0_3) % 256, (a0_4) % 256, x3_7] : List Int) [.int .u8 ((a0_3) % 256), .int .u8 ((a0_4) % 256), .int .u8 x3_7] ?_
      intro v561 w20 ho21 hb hg_ hnew_
      clear hg_ hnew_
      (first | rw [← Ny560.out] at ho21 | (simp only [Int.reduceToNat] at ho21; rw [← Ny560.out] at ho21))
      have HO562 := am_ (Kd.R_lower (Kd.R_new' (Kd.R_new' ho21 (Kd.R_lt (qR HO556))) (Kd.R_lt (qR HO559))) (below_size (qB HB)))
      replace HO556 := eA_ HO556 ho21 hb
      replace HO559 := eA_ HO559 ho21 hb
      replace BK549 := bK_ BK549 hb
      replace HB := bS_ HB hb
      clear hb ho21
      refine hK.out _ _ (cz8 BK549.out) (fun hHeld => ?_)
      clear hK K
      refine nm_ (some 31) ?_
      exact nr_ (hCont (.slice Ao18 y554.length co18, v558, v561) _ ⟨hHeld, (xR1_ HO556), (xR1_ HO559), (xR1_ HO562), (qK BK549), (qB HB)⟩)
     ·
      skip
      refine l8s_ 5 31 ([(a0_3) % 256, (a0_4) % 256, x3_7] : List Int) [.int .u8 ((a0_3) % 256), .int .u8 ((a0_4) % 256), .int .u8 x3_7] ?_
      intro v561 w18 ho19 hb hg_ hnew_
      clear hg_ hnew_
      (first | rw [← Ny560.out] at ho19 | (simp only [Int.reduceToNat] at ho19; rw [← Ny560.out] at ho19))
      have HO562 := am_ (Kd.R_lower (Kd.R_new' ho19 (Kd.R_lt (qR HO556))) (below_size (qB HB)))
      replace HO556 := eA_ HO556 ho19 hb
      replace BK549 := bK_ BK549 hb
      replace HB := bS_ HB hb
      clear hb ho19
      obtain ⟨Ao20, co20, eo20⟩ := Kd.R_slice HO556.out
      (first | subst eo20 | (injection eo20 with f1_ f2_ f3_; have f4_ := f1_.symm; have f5_ := f3_.symm; clear f1_ f2_ f3_; subst f4_; subst f5_))
      refine hK.out _ _ (cz8 BK549.out) (fun hHeld => ?_)
      clear hK K
      refine nm_ (some 31) ?_
      refine on_ HT_ (i := 9) (N := some 23) (rl [18,2]) (fun K hK => ?_)
      refine goes_ Try.func67 (by kernel_rfl) rfl #[.slice Ao20 y554.length co20, .int .i64 a0_2] (by rfl) rfl rfl la_ ?_
      with_reducible refine (impl_PutWord.calls _ _ y554 a0_2 t557 _ (rC_ HO556) ?side2 A11.out).mono ?_
      (case side2 => exact (rL_ HO556))
      rintro e w21 ⟨v558, rfl, ho0, hb⟩
      refine ⟨_, rfl, ?_⟩
      have HO559 := am_ (Kd.R_lower (Kd.R_new' (Kd.R_new' ho0 (Kd.R_lt (qR HO556))) (Kd.R_lt (qR HO562))) (below_size (qB HB)))
      replace HO556 := eA_ HO556 ho0 hb
      replace HO562 := eA_ HO562 ho0 hb
      replace BK549 := bK_ BK549 hb
      replace HB := bS_ HB hb
      (try clear hb ho0)
      refine hK.out _ _ (cz8 BK549.out) (fun hHeld => ?_)
      clear hK K
      refine nm_ (some 23) ?_
      exact nr_ (hCont (.slice Ao20 y554.length co20, v558, v561) _ ⟨hHeld, (xR1_ HO556), (xR1_ HO559), (xR1_ HO562), (qK BK549), (qB HB)⟩)
    ·
     skip
     refine l8s_ 5 31 ([(a0_3) % 256, (a0_4) % 256, x3_7] : List Int) [.int .u8 ((a0_3) % 256), .int .u8 ((a0_4) % 256), .int .u8 x3_7] ?_
     intro v561 w16 ho17 hb hg_ hnew_
     clear hg_ hnew_
     (first | rw [← Ny560.out] at ho17 | (simp only [Int.reduceToNat] at ho17; rw [← Ny560.out] at ho17))
     have HO562 := am_ (Kd.R_lower ho17 (below_size (qB HB)))
     replace BK549 := bK_ BK549 hb
     replace HB := bS_ HB hb
     clear hb ho17
     refine hK.out _ _ (cz8 BK549.out) (fun hHeld => ?_)
     clear hK K
     refine nm_ (some 31) ?_
     refine on_ HT_ (i := 6) (N := some 20) (rl [9,1,8,2]) (fun K hK => ?_)
     refine l8s_ 5 20 ([(a0_0) % 256, (a0_1) % 256] : List Int) [.int .u8 ((a0_0) % 256), .int .u8 ((a0_1) % 256)] ?_
     intro v555 w18 ho19 hb hg_ hnew_
     clear hg_ hnew_
     (first | rw [← Ny554.out] at ho19 | (simp only [Int.reduceToNat] at ho19; rw [← Ny554.out] at ho19))
     have HO556 := am_ (Kd.R_lower (Kd.R_new' ho19 (Kd.R_lt (qR HO562))) (below_size (qB HB)))
     replace HO562 := eA_ HO562 ho19 hb
     replace BK549 := bK_ BK549 hb
     replace HB := bS_ HB hb
     clear hb ho19
     obtain ⟨Ao20, co20, eo20⟩ := Kd.R_slice HO556.out
     (first | subst eo20 | (injection eo20 with f1_ f2_ f3_; have f4_ := f1_.symm; have f5_ := f3_.symm; clear f1_ f2_ f3_; subst f4_; subst f5_))
     refine hK.out _ _ (cz8 BK549.out) (fun hHeld => ?_)
     clear hK K
     refine nm_ (some 20) ?_
     refine on_ HT_ (i := 9) (N := some 23) (rl [18,2]) (fun K hK => ?_)
     refine goes_ Try.func67 (by kernel_rfl) rfl #[.slice Ao20 y554.length co20, .int .i64 a0_2] (by rfl) rfl rfl la_ ?_
     with_reducible refine (impl_PutWord.calls _ _ y554 a0_2 t557 _ (rC_ HO556) ?side2 A11.out).mono ?_
     (case side2 => exact (rL_ HO556))
     rintro e w21 ⟨v558, rfl, ho0, hb⟩
     refine ⟨_, rfl, ?_⟩
     have HO559 := am_ (Kd.R_lower (Kd.R_new' (Kd.R_new' ho0 (Kd.R_lt (qR HO562))) (Kd.R_lt (qR HO556))) (below_size (qB HB)))
     replace HO562 := eA_ HO562 ho0 hb
     replace HO556 := eA_ HO556 ho0 hb
     replace BK549 := bK_ BK549 hb
     replace HB := bS_ HB hb
     (try clear hb ho0)
     refine hK.out _ _ (cz8 BK549.out) (fun hHeld => ?_)
     clear hK K
     refine nm_ (some 23) ?_
     exact nr_ (hCont (.slice Ao20 y554.length co20, v558, v561) _ ⟨hHeld, (xR1_ HO556), (xR1_ HO559), (xR1_ HO562), (qK BK549), (qB HB)⟩)
   rintro ⟨v555, v558, v561⟩ w22 ⟨hS_, h0_, h1_, h2_, h3_, h4_⟩
   (try dsimp only at h0_ h1_ h2_ h3_ h4_)
   have n0_ := am_ h0_
   have n1_ := am_ h1_
   have n2_ := am_ h2_
   have n3_ := am_ h3_
   have n4_ := am_ h4_
   clear BK549
   clear HB
   clear h0_ h1_ h2_ h3_ h4_
   have HO556 := n0_
   have HO559 := n1_
   have HO562 := n2_
   have BK549 := n3_
   have HB := n4_
   clear n0_ n1_ n2_ n3_ n4_
   have hHeld : w22.cell? ⟨gb549, 0, none⟩ = some (.int .i64 a0_0) ∧ w22.cell? ⟨gb549, 1, none⟩ = some (.int .i64 a0_1) ∧ w22.cell? ⟨gb549, 2, none⟩ = some (.int .i64 a0_2) ∧ w22.cell? ⟨gb549, 3, none⟩ = some (.int .i64 a0_3) ∧ w22.cell? ⟨gb549, 4, none⟩ = some (.int .i64 a0_4) ∧ w22.cell? ⟨gb549, 5, none⟩ = some (.bool a0_5) ∧ w22.cell? ⟨gb549, 6, none⟩ = some (.int .i64 a0_6) ∧ w22.cell? ⟨gb549, 7, none⟩ = some (.slice A0_7 l0_7.length c0_7) := hS_
   obtain ⟨Ao24, co24, eo24⟩ := Kd.R_slice HO562.out
   (first | subst eo24 | (injection eo24 with f1_ f2_ f3_; have f4_ := f1_.symm; have f5_ := f3_.symm; clear f1_ f2_ f3_; subst f4_; subst f5_))
   refine norm_ (a' := ?_) ?_ ?_
   rotate_left
   ·
    simp only [putAll, Act.put, List.setIfInBounds_toArray, List.set_cons_zero, List.set_cons_succ]
    rfl
   refine on_ HT_ (i := 18) (N := some 32) (rl [19,1]) (fun K hK => ?_)
   refine Kd.R_append_rows_step (Kd.int .u8) (w0 := w) w.heap.size (by rfl) (.tmp 23) (.tmp 31) 22 5 (.int .u8 0) 1 rfl Try.underlying22 info5 rfl (by decide) (by omega) v558 t557 y560 _ _ _ (fun k_ => nb Ao24 y560.length co24 k_) (fun _ => False) rfl rfl ?aO ?aR (fun _ _ h => h) (fun _ h => h.elim) ?aF ?aB ?aS ?aL ?_
   (case aR => exact rC_ HO562)
   (case aB => exact (qB HB))
   (case aF => exact (fun k_ hk => Kd.fresh' (Kd.R_lt (qR HO562)) k_ hk))
   (case aO => exact (xR1_ HO559))
   (case aS => exact (below_size (qB HB)))
   (case aL => have := LMc12.out; omega)
   intro v564 w23 ho hb hg hat
   rw [← Ny563.out] at ho
   replace BK549 := kG_ BK549 HO559 hg
   replace HB := am_ (hb)
   have HO565 := am_ (ho)
   clear ho hb hg hat
   refine hK.out _ _ (cz8 BK549.out) (fun hHeld => ?_)
   clear hK K
   refine nm_ (some 32) ?_
   refine pq_ 19 4 HT_ (rl [20]) ?_
   refine done_ (done_of HT_.out (by kernel_rfl)) ?_
   obtain ⟨Ao25, co25, eo25⟩ := Kd.R_slice HO565.out
   subst eo25
   try go_wp2
   replace HO565 := am_ (Kd.R_drew HO565.out)
   replace BK549 := am_ (blk_drew BK549.out)
   replace HB := am_ (below_drew1 HB.out)
   refine start_ (n := 11) (S := fun w' => w'.cell? ⟨gb549, 0, none⟩ = some (.int .i64 a0_0) ∧ w'.cell? ⟨gb549, 1, none⟩ = some (.int .i64 a0_1) ∧ w'.cell? ⟨gb549, 2, none⟩ = some (.int .i64 a0_2) ∧ w'.cell? ⟨gb549, 3, none⟩ = some (.int .i64 a0_3) ∧ w'.cell? ⟨gb549, 4, none⟩ = some (.int .i64 a0_4) ∧ w'.cell? ⟨gb549, 5, none⟩ = some (.bool a0_5) ∧ w'.cell? ⟨gb549, 6, none⟩ = some (.int .i64 a0_6) ∧ w'.cell? ⟨gb549, 7, none⟩ = some (.slice A0_7 l0_7.length c0_7)) (ds := []) #[oo,oo,oo,oo,oo,oo,oo,oo,oo,oo,oo] (by kernel_rfl) rfl rfl (cz8 BK549.out) (fun hHeld => ?_); refine with_tabW impl_PutCtl.tab7 impl_PutCtl.bits7 (fun HT_ HW_ => ?_)
   generalize w23.drew = w26 at HO565 BK549 HB hHeld ⊢
   refine pq_ 0 33 HT_ #[ii,oo,oo,oo,oo,oo,oo,oo,oo,oo,oo] ?_
   refine pq_ 1 34 HT_ #[ii,ii,oo,oo,oo,oo,oo,oo,oo,oo,oo] ?_
   refine pq_ 4 37 HT_ #[ii,ii,oo,oo,ii,oo,oo,oo,oo,oo,oo] ?_
   refine tz_ (i := 2) (N := some 35) HT_ HW_ #[ii,ii,ii,oo,ii,oo,oo,oo,oo,oo,oo] rfl rfl hHeld ?_
   refine tz_ (i := 5) (N := some 38) HT_ HW_ #[ii,ii,ii,oo,ii,ii,oo,oo,oo,oo,oo] rfl rfl hHeld ?_
   refine pq_ 6 39 HT_ #[ii,ii,ii,oo,ii,ii,ii,oo,oo,oo,oo] ?_
   refine pq_ 7 40 HT_ #[ii,ii,ii,oo,ii,ii,ii,ii,oo,oo,oo] ?_
   refine join_ (σ := Value × Value) 2 #[ii,ii,ii,ii,ii,ii,ii,ii,ii,oo,oo] (fun s_ => [(36, s_.1), (41, s_.2)]) (fun s_ w' => (w'.cell? ⟨gb549, 0, none⟩ = some (.int .i64 a0_0) ∧ w'.cell? ⟨gb549, 1, none⟩ = some (.int .i64 a0_1) ∧ w'.cell? ⟨gb549, 2, none⟩ = some (.int .i64 a0_2) ∧ w'.cell? ⟨gb549, 3, none⟩ = some (.int .i64 a0_3) ∧ w'.cell? ⟨gb549, 4, none⟩ = some (.int .i64 a0_4) ∧ w'.cell? ⟨gb549, 5, none⟩ = some (.bool a0_5) ∧ w'.cell? ⟨gb549, 6, none⟩ = some (.int .i64 a0_6) ∧ w'.cell? ⟨gb549, 7, none⟩ = some (.slice A0_7 l0_7.length c0_7)) ∧ (Kd.R (Kd.int .u8) 5 w' w.heap.size (fun k_ => some k_ ≠ (s_.1 : Value).ownBlock ∧ some k_ ≠ (s_.2 : Value).ownBlock) (.slice Ao25 y563.length co25) y563) ∧ (Kd.R (Kd.int .u8) 5 w' w.heap.size (fun k_ => nb Ao25 y563.length co25 k_ ∧ some k_ ≠ (s_.2 : Value).ownBlock) s_.1 t566) ∧ (Kd.R (Kd.int .u8) 5 w' w.heap.size (fun k_ => nb Ao25 y563.length co25 k_ ∧ some k_ ≠ (s_.1 : Value).ownBlock) s_.2 y569) ∧ (w'.heap[gb549]? = some (.cells #[.int .i64 a0_0, .int .i64 a0_1, .int .i64 a0_2, .int .i64 a0_3, .int .i64 a0_4, .bool a0_5, .int .i64 a0_6, .slice A0_7 l0_7.length c0_7] 75 (0, 0))) ∧ (Below w.heap.size w w')) ?_ ?_
   rotate_left
   ·
    intro hCont
    refine two_ (i := 3) (j := 8) (Ni := some 36) (Nj := some 41) #[ii,ii,ii,ii,ii,ii,ii,ii,oo,oo,oo] #[ii,ii,ii,oo,ii,ii,ii,ii,ii,oo,oo] rfl rfl rfl rfl (two_of HT_.out (by kernel_rfl)) (by decide) (by decide) (fun K hK => ?_) (fun K hK => ?_)
    ·
     skip
     refine goes_ Try.func67 (by kernel_rfl) rfl #[.slice Ao25 y563.length co25, .int .i64 a0_6] (by rfl) rfl rfl la_ ?_
     with_reducible refine (impl_PutWord.calls _ _ y563 a0_6 t566 _ (rC_ HO565) ?side2 A13.out).mono ?_
     (case side2 => exact (rL_ HO565))
     rintro e w27 ⟨v567, rfl, ho0, hb⟩
     refine ⟨_, rfl, ?_⟩
     have HO568 := am_ (Kd.R_lower (Kd.R_new' ho0 (Kd.R_lt (qR HO565))) (below_size (qB HB)))
     replace HO565 := eA_ HO565 ho0 hb
     replace BK549 := bK_ BK549 hb
     replace HB := bS_ HB hb
     (try clear hb ho0)
     refine hK.out _ _ (cz8 BK549.out) (fun hHeld => ?_)
     clear hK K
     refine nm_ (some 36) ?_
     refine on_ HT_ (i := 8) (N := some 41) #[ii,ii,ii,ii,ii,ii,ii,ii,ii,oo,oo] (fun K hK => ?_)
     refine l8s_ 5 41 ([((l0_7.length : Int)) % 256] : List Int) [.int .u8 (((l0_7.length : Int)) % 256)] ?_
     intro v570 w28 ho29 hb hg_ hnew_
     clear hg_ hnew_
     (first | rw [← Ny569.out] at ho29 | (simp only [Int.reduceToNat] at ho29; rw [← Ny569.out] at ho29))
     have HO571 := am_ (Kd.R_lower (Kd.R_new' (Kd.R_new' ho29 (Kd.R_lt (qR HO565))) (Kd.R_lt (qR HO568))) (below_size (qB HB)))
     replace HO565 := eA_ HO565 ho29 hb
     replace HO568 := eA_ HO568 ho29 hb
     replace BK549 := bK_ BK549 hb
     replace HB := bS_ HB hb
     clear hb ho29
     refine hK.out _ _ (cz8 BK549.out) (fun hHeld => ?_)
     clear hK K
     refine nm_ (some 41) ?_
     exact nr_ (hCont (v567, v570) _ ⟨hHeld, (xR1_ HO565), (xR1_ HO568), (xR1_ HO571), (qK BK549), (qB HB)⟩)
    ·
     skip
     refine l8s_ 5 41 ([((l0_7.length : Int)) % 256] : List Int) [.int .u8 (((l0_7.length : Int)) % 256)] ?_
     intro v570 w27 ho28 hb hg_ hnew_
     clear hg_ hnew_
     (first | rw [← Ny569.out] at ho28 | (simp only [Int.reduceToNat] at ho28; rw [← Ny569.out] at ho28))
     have HO571 := am_ (Kd.R_lower (Kd.R_new' ho28 (Kd.R_lt (qR HO565))) (below_size (qB HB)))
     replace HO565 := eA_ HO565 ho28 hb
     replace BK549 := bK_ BK549 hb
     replace HB := bS_ HB hb
     clear hb ho28
     refine hK.out _ _ (cz8 BK549.out) (fun hHeld => ?_)
     clear hK K
     refine nm_ (some 41) ?_
     refine on_ HT_ (i := 3) (N := some 36) #[ii,ii,ii,ii,ii,ii,ii,ii,ii,oo,oo] (fun K hK => ?_)
     refine goes_ Try.func67 (by kernel_rfl) rfl #[.slice Ao25 y563.length co25, .int .i64 a0_6] (by rfl) rfl rfl la_ ?_
     with_reducible refine (impl_PutWord.calls _ _ y563 a0_6 t566 _ (rC_ HO565) ?side2 A13.out).mono ?_
     (case side2 => exact (rL_ HO565))
     rintro e w29 ⟨v567, rfl, ho0, hb⟩
     refine ⟨_, rfl, ?_⟩
     have HO568 := am_ (Kd.R_lower (Kd.R_new' (Kd.R_new' ho0 (Kd.R_lt (qR HO565))) (Kd.R_lt (qR HO571))) (below_size (qB HB)))
     replace HO565 := eA_ HO565 ho0 hb
     replace HO571 := eA_ HO571 ho0 hb
     replace BK549 := bK_ BK549 hb
     replace HB := bS_ HB hb
     (try clear hb ho0)
     refine hK.out _ _ (cz8 BK549.out) (fun hHeld => ?_)
     clear hK K
     refine nm_ (some 36) ?_
     exact nr_ (hCont (v567, v570) _ ⟨hHeld, (xR1_ HO565), (xR1_ HO568), (xR1_ HO571), (qK BK549), (qB HB)⟩)
   rintro ⟨v567, v570⟩ w30 ⟨hS_, h2_, h3_, h4_, h5_, h6_⟩
   (try dsimp only at h2_ h3_ h4_ h5_ h6_)
   have n2_ := am_ h2_
   have n3_ := am_ h3_
   have n4_ := am_ h4_
   have n5_ := am_ h5_
   have n6_ := am_ h6_
   clear HO565
   clear BK549
   clear HB
   clear h2_ h3_ h4_ h5_ h6_
   have HO565 := n2_
   have HO568 := n3_
   have HO571 := n4_
   have BK549 := n5_
   have HB := n6_
   clear n2_ n3_ n4_ n5_ n6_
   have hHeld : w30.cell? ⟨gb549, 0, none⟩ = some (.int .i64 a0_0) ∧ w30.cell? ⟨gb549, 1, none⟩ = some (.int .i64 a0_1) ∧ w30.cell? ⟨gb549, 2, none⟩ = some (.int .i64 a0_2) ∧ w30.cell? ⟨gb549, 3, none⟩ = some (.int .i64 a0_3) ∧ w30.cell? ⟨gb549, 4, none⟩ = some (.int .i64 a0_4) ∧ w30.cell? ⟨gb549, 5, none⟩ = some (.bool a0_5) ∧ w30.cell? ⟨gb549, 6, none⟩ = some (.int .i64 a0_6) ∧ w30.cell? ⟨gb549, 7, none⟩ = some (.slice A0_7 l0_7.length c0_7) := hS_
   obtain ⟨Ao32, co32, eo32⟩ := Kd.R_slice HO571.out
   (first | subst eo32 | (injection eo32 with f1_ f2_ f3_; have f4_ := f1_.symm; have f5_ := f3_.symm; clear f1_ f2_ f3_; subst f4_; subst f5_))
   refine norm_ (a' := ?_) ?_ ?_
   rotate_left
   ·
    simp only [putAll, Act.put, List.setIfInBounds_toArray, List.set_cons_zero, List.set_cons_succ]
    rfl
   refine on_ HT_ (i := 9) (N := some 42) #[ii,ii,ii,ii,ii,ii,ii,ii,ii,ii,oo] (fun K hK => ?_)
   refine Kd.R_append_rows_step (Kd.int .u8) (w0 := w) w.heap.size (by rfl) (.tmp 36) (.tmp 41) 22 5 (.int .u8 0) 1 rfl Try.underlying22 info5 rfl (by decide) (by omega) v567 t566 y569 _ _ _ (fun k_ => nb Ao32 y569.length co32 k_) (fun _ => False) rfl rfl ?aO ?aR (fun _ _ h => h) (fun _ h => h.elim) ?aF ?aB ?aS ?aL ?_
   (case aR => exact rC_ HO571)
   (case aB => exact (qB HB))
   (case aF => exact (fun k_ hk => Kd.fresh' (Kd.R_lt (qR HO571)) k_ hk))
   (case aO => exact (xR1_ HO568))
   (case aS => exact (below_size (qB HB)))
   (case aL => have := LMc14.out; omega)
   intro v573 w31 ho hb hg hat
   rw [← Ny572.out] at ho
   replace BK549 := kG_ BK549 HO568 hg
   replace HB := am_ (hb)
   have HO574 := am_ (ho)
   clear ho hb hg hat
   refine hK.out _ _ (cz8 BK549.out) (fun hHeld => ?_)
   clear hK K
   refine nm_ (some 42) ?_
   refine pq_ 10 4 HT_ #[ii,ii,ii,ii,ii,ii,ii,ii,ii,ii,ii] ?_
   refine done_ (done_of HT_.out (by kernel_rfl)) ?_
   (try clear zK549)
   have zK549 := cf8 BK549.out
   try go_wp2
   go_loopg [4, 46] kj7 (fun kq v4 v46 w' => ∃ (x4_2 : List Int) (x46_2 : Int), v46 = .int .i64 x46_2 ∧ Aside0 (impl_PutCtl.l0 kq x4_2 l0_7 (l0_7.length : Int) x46_2 = some r) ∧ Aside0 (kq ≤ kj7) ∧ Aside0 (Kd.R (Kd.int .u8) 5 w' w.heap.size (fun _ => True) v4 x4_2) ∧ Aside0 (w'.heap[gb549]? = some (.cells #[.int .i64 a0_0, .int .i64 a0_1, .int .i64 a0_2, .int .i64 a0_3, .int .i64 a0_4, .bool a0_5, .int .i64 a0_6, (.slice A0_7 l0_7.length c0_7)] 75 (0, 0))) ∧ Aside0 (Below w.heap.size w w'))
   case atStart => exact ⟨(y572), (0), eqq_, H', ⟨Nat.le_refl _⟩, xR_ HO574, ⟨qK BK549⟩, ⟨qB HB⟩⟩
   case round =>
    clear H'
    try clear c1
    try clear p2
    try clear c6
    try clear c12
    try clear c14
    (try clear zK549)
    (try clear fK549)
    obtain ⟨x4_2, x46_2, rfl, HA, HK2, HO_4, BK549, HB⟩ := hrel
    cases gk with
    | zero => exact absurd HA.out (by simp [impl_PutCtl.l0])
    | succ k2 =>
     have H := HA.out
     clear HA
     simp only [impl_PutCtl.l0] at H
     replace H := id_ H
     obtain ⟨-, H, c34b0⟩ | ⟨-, H, c34b0⟩ := H
     rotate_left
     ·
      replace H := bd_ H
      obtain ⟨t589, A52, H⟩ := H
      replace H := bd_ H
      obtain ⟨t590, A53, H⟩ := H
      obtain rfl := si_ H
      obtain ⟨Ao54, co54, eo54⟩ := Kd.R_slice HO_4.out
      subst eo54
      go_wp2_with (first | (refine gc_ 108 rfl ?_; refine gl_ (some 63) Try.func108 #[.slice Ao54 x4_2.length co54] ?_; (with_reducible refine (impl_Sum.calls k2 _ _ x4_2 t589 _ (rC_ HO_4) ?side2 A52.out).mono ?_); (case side2 => exact (rL_ HO_4)); rintro e w' ⟨rfl, ⟨nd, rfl⟩⟩; refine ⟨_, rfl, ?_⟩) | (refine gc_ 67 rfl ?_; refine gl_ (some 64) Try.func67 #[.slice Ao54 x4_2.length co54, .int .i64 t589] ?_; (with_reducible refine (impl_PutWord.calls _ _ x4_2 t589 t590 _ (rC_ HO_4) ?side2 A53.out).mono ?_); (case side2 => exact (rL_ HO_4)); rintro e w55 ⟨v591, rfl, ho0, hb⟩; refine ⟨_, rfl, ?_⟩; have HO592 := am_ (Kd.R_lower (Kd.R_new' ho0 (Kd.R_lt (qR HO_4))) (below_size (qB HB))); replace HO_4 := eA_ HO_4 ho0 hb; replace BK549 := bK_ BK549 hb; replace HB := bS_ HB hb; (try clear hb); (try clear ho0)))
      go_ret
      exact ⟨_, er_, (xR1_ HO592), qB HB⟩
     replace H := ip_ H
     obtain ⟨-, H, c35b0⟩ := H
     replace H := ip_ H
     obtain ⟨-, H, c36b0⟩ := H
     replace H := bd_ H
     obtain ⟨t577, A37, H⟩ := H
     replace H := my_ (([((t577.length : Int)) % 256] : List Int)) H
     obtain ⟨y580, Ny580, H⟩ := H
     (try dsimp only at H)
     replace H := ip_ H
     obtain ⟨c38, H, -⟩ := H
     have LMc38 := am_ c38
     clear c38
     replace H := my_ (x4_2 ++ y580) H
     obtain ⟨y583, Ny583, H⟩ := H
     (try dsimp only at H)
     replace H := ip_ H
     obtain ⟨c39, H, -⟩ := H
     have LMc39 := am_ c39
     clear c39
     obtain ⟨y586, hy586⟩ : ∃ y_ : List Int, y_ = (y583 ++ t577) := ⟨_, rfl⟩
     replace H : (impl_PutCtl.l0 k2 y586 l0_7 (l0_7.length : Int) (wrap64 (x46_2 + 1))) = some r := by first | (rw [hy586]; with_reducible exact H) | (have H2_ := (Option.bind_some _ _).symm.trans H; rw [hy586]; with_reducible exact H2_) | (have H2_ := (Option.bind_some _ _).symm.trans H; with_reducible exact H2_) | with_reducible exact H | (rw [hy586]; exact H) | exact H
     have Ny586 := am_ hy586
     clear hy586
     have H' := Aside0.mk H
     clear H
     have p575 : 0 ≤ (x46_2 : Int) := od_
     have q575 : x46_2 < (l0_7.length : Int) := od_
     obtain ⟨ad575, e575, hx575_0, hx575_1, hx575_2, hx575_3, hx575_4, hx575_5, hx575_6, hx575_7, hx575_8, hx575_9, hx575_10, hx575_11, hx575_12, hx575_13, hx575_14, hx575_15⟩ := at_T29 HR0_7.out x46_2 p575 q575
     cases e575
     replace hx575_0 := lb_ HB hx575_0
     replace hx575_1 := lb_ HB hx575_1
     replace hx575_2 := lb_ HB hx575_2
     replace hx575_3 := lb_ HB hx575_3
     replace hx575_4 := lb_ HB hx575_4
     replace hx575_5 := lb_ HB hx575_5
     replace hx575_6 := lb_ HB hx575_6
     replace hx575_7 := lb_ HB hx575_7
     replace hx575_8 := lb_ HB hx575_8
     replace hx575_9 := lb_ HB hx575_9
     replace hx575_10 := lb_ HB hx575_10
     replace hx575_11 := lb_ HB hx575_11
     replace hx575_12 := lb_ HB hx575_12
     replace hx575_13 := lb_ HB hx575_13
     replace hx575_14 := lb_ HB hx575_14
     replace hx575_15 := lb_ HB hx575_15
     replace p575 := eq_true p575
     replace q575 := eq_true q575
     go_wp2_with (first | (refine gd_ 6 rfl ?_; refine box_event ?hg (N := 6) ?hd (cs := #[.int .i64 0, .int .i64 0, .string (⟨#[]⟩ : ByteArray), .int .i64 0, .int .i64 0, .int .i64 0, .string (⟨#[]⟩ : ByteArray), .int .i64 0, .int .i64 0, .int .i64 0, .string (⟨#[]⟩ : ByteArray), .int .i64 0, .int .i64 0, .int .i64 0, .int .i64 0, .int .i64 0]) (t := 29) ?hr ?_; (case hd => rfl); (case hg => rfl); (case hr => first | (go_simp; done) | (go_simp; rfl) | ((try (obtain ⟨_, _, rfl⟩ := Kd.R_slice HO579.out)); (try (obtain ⟨_, _, rfl⟩ := Kd.R_slice HO582.out)); (try (obtain ⟨_, _, rfl⟩ := Kd.R_slice HO585.out)); (try (obtain ⟨_, _, rfl⟩ := Kd.R_slice HO588.out)); first | (go_simp; done) | (go_simp; rfl))); intro gb576 hg w40 hbox hb; replace HO_4 := rB_ HO_4 hb; have BK576 := am_ (hbox); have GW576 := gA_ hg HB; have GE576 := GW576; have IGE576 := gI_ GE576; replace HB := bS_ HB hb; have NB549_576 := am_ ((gN_ hg (qK BK549))); have NB576_549 := am_ ((gM_ hg (qK BK549))); replace BK549 := bK_ BK549 hb; clear hb hbox hg; have hnb41 := nx_ NB576_549; (try clear zK576); have zK576 := cf16 BK576.out) | ((with_reducible refine gate_store (t := 29) (p := 6) rfl ?_); refine store_evs (t := 29) (p := 6) (j := 0) (cs := [.int .i64 ((rd_T29 l0_7 x46_2).f0), .int .i64 ((rd_T29 l0_7 x46_2).f1.f0), .string ((rd_T29 l0_7 x46_2).f1.f1), .int .i64 ((rd_T29 l0_7 x46_2).f1.f2), .int .i64 ((rd_T29 l0_7 x46_2).f1.f3), .int .i64 ((rd_T29 l0_7 x46_2).f1.f4), .string ((rd_T29 l0_7 x46_2).f1.f5), .int .i64 ((rd_T29 l0_7 x46_2).f1.f6), .int .i64 ((rd_T29 l0_7 x46_2).f1.f7), .int .i64 ((rd_T29 l0_7 x46_2).f2.f0), .string ((rd_T29 l0_7 x46_2).f2.f1), .int .i64 ((rd_T29 l0_7 x46_2).f2.f2), .int .i64 ((rd_T29 l0_7 x46_2).f2.f3), .int .i64 ((rd_T29 l0_7 x46_2).f2.f4), .int .i64 ((rd_T29 l0_7 x46_2).f2.f5), .int .i64 ((rd_T29 l0_7 x46_2).f2.f6)]) (qK BK576) ?_; intro w43 hw; have n0_ := fR0_ hw HO_4 BK576; replace BK549 := sK_ hw BK549 NB549_576; replace HB := sB_ hw HB; replace BK576 := sW_ hw BK576; clear hw; clear HO_4; have HO_4 := n0_; clear n0_; (try clear zK576); have zK576 := cz16 BK576.out) | (refine gc_ 9 rfl ?_; refine gl_ (some 51) Try.func9 #[.agg #[.int .i64 ((rd_T29 l0_7 x46_2).f0), .int .i64 ((rd_T29 l0_7 x46_2).f1.f0), .string ((rd_T29 l0_7 x46_2).f1.f1), .int .i64 ((rd_T29 l0_7 x46_2).f1.f2), .int .i64 ((rd_T29 l0_7 x46_2).f1.f3), .int .i64 ((rd_T29 l0_7 x46_2).f1.f4), .string ((rd_T29 l0_7 x46_2).f1.f5), .int .i64 ((rd_T29 l0_7 x46_2).f1.f6), .int .i64 ((rd_T29 l0_7 x46_2).f1.f7), .int .i64 ((rd_T29 l0_7 x46_2).f2.f0), .string ((rd_T29 l0_7 x46_2).f2.f1), .int .i64 ((rd_T29 l0_7 x46_2).f2.f2), .int .i64 ((rd_T29 l0_7 x46_2).f2.f3), .int .i64 ((rd_T29 l0_7 x46_2).f2.f4), .int .i64 ((rd_T29 l0_7 x46_2).f2.f5), .int .i64 ((rd_T29 l0_7 x46_2).f2.f6)]] ?_; (with_reducible refine (impl_PutItem.calls k2 ((rd_T29 l0_7 x46_2).f0) ((rd_T29 l0_7 x46_2).f1.f0) ((rd_T29 l0_7 x46_2).f1.f1) ((rd_T29 l0_7 x46_2).f1.f2) ((rd_T29 l0_7 x46_2).f1.f3) ((rd_T29 l0_7 x46_2).f1.f4) ((rd_T29 l0_7 x46_2).f1.f5) ((rd_T29 l0_7 x46_2).f1.f6) ((rd_T29 l0_7 x46_2).f1.f7) ((rd_T29 l0_7 x46_2).f2.f0) ((rd_T29 l0_7 x46_2).f2.f1) ((rd_T29 l0_7 x46_2).f2.f2) ((rd_T29 l0_7 x46_2).f2.f3) ((rd_T29 l0_7 x46_2).f2.f4) ((rd_T29 l0_7 x46_2).f2.f5) ((rd_T29 l0_7 x46_2).f2.f6) t577 _ A37.out).mono ?_); rintro e w45 ⟨v578, rfl, ho0, hb⟩; refine ⟨_, rfl, ?_⟩; have HO579 := am_ (Kd.R_lower (Kd.R_new' ho0 (Kd.R_lt (qR HO_4))) (below_size (qB HB))); replace HO_4 := eA_ HO_4 ho0 hb; replace BK549 := bK_ BK549 hb; replace BK576 := bK_ BK576 hb; replace HB := bS_ HB hb; (try clear hb); (try clear ho0); obtain ⟨Ao46, co46, eo46⟩ := Kd.R_slice HO579.out; subst eo46) | (refine gd_ 56 rfl ?_; refine Kd.R_lit (Kd.int .u8) _ 5 ?hg (N := 56) ?hd (xs := ([((t577.length : Int)) % 256] : List Int)) (inner := [.int .u8 (((t577.length : Int)) % 256)]) (ok := fun _ => True) (okp := fun _ => True) ?hr ?hp (fun _ hk => hk) trivial (Below.refl _ _) (Nat.le_refl _) (by simp) ?_; (case hd => rfl); (case hg => rfl); (case hr => first | (go_simp; done) | (go_simp; rfl) | ((try (obtain ⟨_, _, rfl⟩ := Kd.R_slice HO579.out)); (try (obtain ⟨_, _, rfl⟩ := Kd.R_slice HO582.out)); (try (obtain ⟨_, _, rfl⟩ := Kd.R_slice HO585.out)); (try (obtain ⟨_, _, rfl⟩ := Kd.R_slice HO588.out)); first | (go_simp; done) | (go_simp; rfl))); (case hp => exact (Reps.one (show Kd.M (Kd.int .u8) _ _ _ (((t577.length : Int)) % 256) [.int .u8 (((t577.length : Int)) % 256)] from rfl) (Reps.none _ _))); intro v581 w47 ho48 hb hg_ hnew_; clear hg_ hnew_; (first | rw [← Ny580.out] at ho48 | (simp only [Int.reduceToNat] at ho48; rw [← Ny580.out] at ho48)); have HO582 := am_ (Kd.R_lower (Kd.R_new' (Kd.R_new' ho48 (Kd.R_lt (qR HO_4))) (Kd.R_lt (qR HO579))) (below_size (qB HB))); replace HO_4 := eA_ HO_4 ho48 hb; replace HO579 := eA_ HO579 ho48 hb; replace BK549 := bK_ BK549 hb; replace BK576 := bK_ BK576 hb; replace HB := bS_ HB hb; clear hb ho48; obtain ⟨Ao50, co50, eo50⟩ := Kd.R_slice HO582.out; subst eo50) | ((with_reducible refine gate_builtin (b := .append) (xs := #[.tmp 52, .tmp 56]) rfl ?_); at_builtin; refine Kd.R_append_rows (Kd.int .u8) (w0 := w) w.heap.size rfl (.tmp 52) (.tmp 56) 22 5 (.int .u8 0) 1 rfl Try.underlying22 info5 rfl (by decide) (by omega) u4 x4_2 y580 _ _ _ (fun k_ => nb Ao46 t577.length co46 k_ ∧ nb Ao50 y580.length co50 k_) (fun _ => False) rfl rfl ?aO ?aR (fun _ _ h => h) (fun _ h => h.elim) ?aF ?aB ?aS ?aL ?_; (case aR => exact rC_ HO582); (case aB => exact (qB HB)); (case aF => exact (fun k_ hk => ⟨Kd.fresh' (Kd.R_lt (qR HO579)) k_ hk, Kd.fresh' (Kd.R_lt (qR HO582)) k_ hk⟩)); (case aO => exact (xR1_ HO_4)); (case aS => exact (below_size (qB HB))); (case aL => have := LMc38.out; omega); intro v584 w49 ho hb hg hat; rw [← Ny583.out] at ho; replace BK549 := kG_ BK549 HO_4 hg; replace BK576 := kG_ BK576 HO_4 hg; replace HO579 := am_ (Kd.R_after (ok := (fun k_ => nb Ao50 y580.length co50 k_)) (xR1_ HO579) hg hat); replace HO582 := am_ (Kd.R_after (ok := (fun k_ => nb Ao46 t577.length co46 k_)) (xR1_ HO582) hg hat); replace HB := am_ (hb); have HO585 := am_ (ho); clear HO_4; clear ho hb hg hat) | ((with_reducible refine gate_builtin (b := .append) (xs := #[.tmp 57, .tmp 58]) rfl ?_); at_builtin; refine Kd.R_append_rows (Kd.int .u8) (w0 := w) w.heap.size rfl (.tmp 57) (.tmp 58) 22 5 (.int .u8 0) 1 rfl Try.underlying22 info5 rfl (by decide) (by omega) v584 y583 t577 _ _ _ (fun k_ => nb Ao46 t577.length co46 k_ ∧ nb Ao50 y580.length co50 k_) (fun _ => False) rfl rfl ?aO ?aR (fun _ _ h => h) (fun _ h => h.elim) ?aF ?aB ?aS ?aL ?_; (case aR => exact rC_ HO579); (case aB => exact (qB HB)); (case aF => exact (fun k_ hk => ⟨Kd.fresh' (Kd.R_lt (qR HO579)) k_ hk, Kd.fresh' (Kd.R_lt (qR HO582)) k_ hk⟩)); (case aO => exact (xR1_ HO585)); (case aS => exact (below_size (qB HB))); (case aL => have := LMc39.out; omega); intro v587 w51 ho hb hg hat; rw [← Ny586.out] at ho; replace BK549 := kG_ BK549 HO585 hg; replace BK576 := kG_ BK576 HO585 hg; replace HO579 := aR_ HO579 hg hat; replace HO582 := aR_ HO582 hg hat; replace HB := am_ (hb); have HO588 := am_ (ho); clear HO585; clear ho hb hg hat))
     go_roundg k2
     case measure => have := HJ7.out; have := HK2.out; omega
     case rel => exact ⟨(y586), (wrap64 (x46_2 + 1)), eqq_, H', ⟨by have := HJ7.out; have := HK2.out; omega⟩, xR_ HO588, ⟨qK BK549⟩, ⟨qB HB⟩⟩
end Go.Proofs.Ytiffahfpfgnjnaa.PFnCtls
