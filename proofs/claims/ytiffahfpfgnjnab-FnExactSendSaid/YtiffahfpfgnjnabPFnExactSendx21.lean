-- Written by a program of this session (myprint.py, over the kit's print): contracts of FnExactSend
import Derived.Test.YtiffahfpfgnjnabPFnExactSendx0
import Derived.Test.YtiffahfpfgnjnabPFnExactSendx3
import Derived.Test.YtiffahfpfgnjnabPFnExactSendx10
import Derived.Test.YtiffahfpfgnjnabPFnExactSendx18
import Derived.Test.YtiffahfpfgnjnabPFnExactSendx19
import Derived.Test.YtiffahfpfgnjnabPFnExactSendx20
namespace Go.Proofs.Ytiffahfpfgnjnab.PFnExactSend
open Go.RowKit Go.Proofs.YtiffahfpfgnjnabW.PrintWords Go.Proofs.YtiffahfpfgnjnabW.PrintLast Go.Proofs.YtiffahfpfgnjnabW.PrintMore Go.Proofs.YtiffahfpfgnjnabV
attribute [local go_sem] max2_int min2_int max_two min_two max_three min_three max_four min_four   -- for this text's walks alone
set_option linter.unusedVariables false
set_option linter.unusedSimpArgs false

/-! ### laws_FnExactSend: function 5, by hand -/
def laws_FnExactSend.f (k : Nat) (l0 : List (S107)) (a1_0 : Int) (a1_1 : Int) (a1_2 : Int) (a1_3 : Int) (a1_4 : Int) (a1_5 : Bool) (a1_6 : Int) (l1_7 : List (S152)) : Option Bool :=
 (laws_szPackS.f k l0 1048576).bind fun left => if left < 0 then some true else
 (laws_szCtl.f k a1_0 a1_1 a1_2 a1_3 a1_4 a1_5 a1_6 l1_7 left).bind fun left2 => if left2 < 0 then some true else
 (laws_toPackS.f k l0).bind fun xs => (laws_toCtl.f k a1_0 a1_1 a1_2 a1_3 a1_4 a1_5 a1_6 l1_7).bind fun c => (spec_Send.f k xs c.1 c.2.1 c.2.2.1 c.2.2.2.1 c.2.2.2.2.1 c.2.2.2.2.2.1 c.2.2.2.2.2.2.1 c.2.2.2.2.2.2.2).bind fun ws => (impl_Send.f k xs c.1 c.2.1 c.2.2.1 c.2.2.2.1 c.2.2.2.2.1 c.2.2.2.2.2.1 c.2.2.2.2.2.2.1 c.2.2.2.2.2.2.2).bind fun gs =>
 (laws_eqPackS.f k gs ws).bind fun e1 => (laws_eqPackS.f k xs xs).bind fun e2 => (laws_eqCtl.f k c.1 c.2.1 c.2.2.1 c.2.2.2.1 c.2.2.2.2.1 c.2.2.2.2.2.1 c.2.2.2.2.2.2.1 c.2.2.2.2.2.2.2 c.1 c.2.1 c.2.2.1 c.2.2.2.1 c.2.2.2.2.1 c.2.2.2.2.2.1 c.2.2.2.2.2.2.1 c.2.2.2.2.2.2.2).bind fun e3 =>
 (laws_markPackS.f k xs 1).bind fun m1 => (laws_markCtl.f k c.1 c.2.1 c.2.2.1 c.2.2.2.1 c.2.2.2.2.1 c.2.2.2.2.2.1 c.2.2.2.2.2.2.1 c.2.2.2.2.2.2.2 m1.1).bind fun m4 => (laws_markPackS.f k gs 1).bind fun m2 => (laws_heldPackS.f k m2.2 1).bind fun q =>
 if e1 = true ∧ e2 = true ∧ e3 = true ∧ 0 ≤ m4.1 ∧ 0 ≤ q ∧ q = m2.1 then some true else none
set_option maxHeartbeats 8000000 in
set_option maxRecDepth 100000 in
theorem laws_FnExactSend.calls (k : Nat) (A0 : Option Addr) (c0 : Nat) (l0 : List (S107)) (a1_0 : Int) (a1_1 : Int) (a1_2 : Int) (a1_3 : Int) (a1_4 : Int) (a1_5 : Bool) (a1_6 : Int) (A1_7 : Option Addr) (c1_7 : Nat) (l1_7 : List (S152)) (r : Bool) (w : World) (hr0 : Kd.C k107 w A0 l0.length l0) (hc0 : l0.length ≤ c0) (hr1 : Kd.C k152 w A1_7 l1_7.length l1_7) (hc1 : l1_7.length ≤ c1_7) (hr_ : Aside0 (r = true)) (h : laws_FnExactSend.f k l0 a1_0 a1_1 a1_2 a1_3 a1_4 a1_5 a1_6 l1_7 = some r) :
  Calls Try.prog 5 #[.slice A0 l0.length c0, .agg #[.int .i64 a1_0, .int .i64 a1_1, .int .i64 a1_2, .int .i64 a1_3, .int .i64 a1_4, .bool a1_5, .int .i64 a1_6, .slice A1_7 l1_7.length c1_7]] w fun e w' => e = .returned (.bool r) ∧ Below w.heap.size w w' := by
 obtain rfl := hr_.out
 replace hr0 := Aside0.mk hr0
 replace hc0 := Aside0.mk hc0
 replace hr1 := Aside0.mk hr1
 replace hc1 := Aside0.mk hc1
 have HB := Aside0.mk (Below.refl w.heap.size w)
 obtain ⟨left, h1, h⟩ := Option.bind_eq_some_iff.mp h
 replace h1 := Aside0.mk h1
 by_cases c1 : left < 0
 ·
  have d1 : decide (left < 0) = true := decide_eq_true c1
  clear c1
  go_enter Try.func5, Try.ntmps5
  have t_ := trivial
  go_wp2_with (clear t_; go_at_call 23; have bka : Aside0 ((w.alloc (.cells #[.int .i64 a1_0, .int .i64 a1_1, .int .i64 a1_2, .int .i64 a1_3, .int .i64 a1_4, .bool a1_5, .int .i64 a1_6, .slice A1_7 l1_7.length c1_7] 55)).heap[w.heap.size]? = some (.cells #[.int .i64 a1_0, .int .i64 a1_1, .int .i64 a1_2, .int .i64 a1_3, .int .i64 a1_4, .bool a1_5, .int .i64 a1_6, .slice A1_7 l1_7.length c1_7] 55 (0, 0))) := ⟨heap_alloc_new w _⟩; replace HB := Aside0.mk (below_alloc HB.out (.cells #[.int .i64 a1_0, .int .i64 a1_1, .int .i64 a1_2, .int .i64 a1_3, .int .i64 a1_4, .bool a1_5, .int .i64 a1_6, .slice A1_7 l1_7.length c1_7] 55)); have z1 : Aside0 (w.heap.size + 1 = (w.alloc (.cells #[.int .i64 a1_0, .int .i64 a1_1, .int .i64 a1_2, .int .i64 a1_3, .int .i64 a1_4, .bool a1_5, .int .i64 a1_6, .slice A1_7 l1_7.length c1_7] 55)).heap.size) := ⟨by simp⟩; generalize (w.alloc (.cells #[.int .i64 a1_0, .int .i64 a1_1, .int .i64 a1_2, .int .i64 a1_3, .int .i64 a1_4, .bool a1_5, .int .i64 a1_6, .slice A1_7 l1_7.length c1_7] 55)) = w1 at bka HB z1 ⊢; obtain ⟨bxa, hbxa⟩ : ∃ g_, g_ = w.heap.size := ⟨_, rfl⟩; rw [← hbxa] at bka ⊢; replace hbxa := Aside0.mk hbxa; obtain ⟨zza_0, zza_1, zza_2, zza_3, zza_4, zza_5, zza_6, zza_7⟩ := cz8 bka.out; refine (laws_szPackS.calls k A0 c0 l0 1048576 left _ (Kd.C_below hr0.out HB.out) hc0.out h1.out).mono ?_; rintro e w2 ⟨rfl, b2⟩; (try clear zza_0 zza_1 zza_2 zza_3 zza_4 zza_5 zza_6 zza_7); obtain ⟨zza_0, zza_1, zza_2, zza_3, zza_4, zza_5, zza_6, zza_7⟩ := cz8 (blk_below bka.out b2))
  replace bka := Aside0.mk (blk_below bka.out b2)
  replace HB := Aside0.mk (HB.out.trans (Below.mono b2 HB.out.size))
  have z2 := Aside0.mk (Below.size b2)
  clear b2
  go_ret
  exact ⟨rfl, HB.out⟩
 rw [if_neg c1] at h
 have d1 : decide (left < 0) = false := decide_eq_false c1
 clear c1
 obtain ⟨left2, h13, h⟩ := Option.bind_eq_some_iff.mp h
 replace h13 := Aside0.mk h13
 by_cases c1 : left2 < 0
 ·
  have d2 : decide (left2 < 0) = true := decide_eq_true c1
  clear c1
  go_enter Try.func5, Try.ntmps5
  have t_ := trivial
  go_wp2_with (clear t_; go_at_call 23; have bka : Aside0 ((w.alloc (.cells #[.int .i64 a1_0, .int .i64 a1_1, .int .i64 a1_2, .int .i64 a1_3, .int .i64 a1_4, .bool a1_5, .int .i64 a1_6, .slice A1_7 l1_7.length c1_7] 55)).heap[w.heap.size]? = some (.cells #[.int .i64 a1_0, .int .i64 a1_1, .int .i64 a1_2, .int .i64 a1_3, .int .i64 a1_4, .bool a1_5, .int .i64 a1_6, .slice A1_7 l1_7.length c1_7] 55 (0, 0))) := ⟨heap_alloc_new w _⟩; replace HB := Aside0.mk (below_alloc HB.out (.cells #[.int .i64 a1_0, .int .i64 a1_1, .int .i64 a1_2, .int .i64 a1_3, .int .i64 a1_4, .bool a1_5, .int .i64 a1_6, .slice A1_7 l1_7.length c1_7] 55)); have z1 : Aside0 (w.heap.size + 1 = (w.alloc (.cells #[.int .i64 a1_0, .int .i64 a1_1, .int .i64 a1_2, .int .i64 a1_3, .int .i64 a1_4, .bool a1_5, .int .i64 a1_6, .slice A1_7 l1_7.length c1_7] 55)).heap.size) := ⟨by simp⟩; generalize (w.alloc (.cells #[.int .i64 a1_0, .int .i64 a1_1, .int .i64 a1_2, .int .i64 a1_3, .int .i64 a1_4, .bool a1_5, .int .i64 a1_6, .slice A1_7 l1_7.length c1_7] 55)) = w1 at bka HB z1 ⊢; obtain ⟨bxa, hbxa⟩ : ∃ g_, g_ = w.heap.size := ⟨_, rfl⟩; rw [← hbxa] at bka ⊢; replace hbxa := Aside0.mk hbxa; obtain ⟨zza_0, zza_1, zza_2, zza_3, zza_4, zza_5, zza_6, zza_7⟩ := cz8 bka.out; refine (laws_szPackS.calls k A0 c0 l0 1048576 left _ (Kd.C_below hr0.out HB.out) hc0.out h1.out).mono ?_; rintro e w2 ⟨rfl, b2⟩; (try clear zza_0 zza_1 zza_2 zza_3 zza_4 zza_5 zza_6 zza_7); obtain ⟨zza_0, zza_1, zza_2, zza_3, zza_4, zza_5, zza_6, zza_7⟩ := cz8 (blk_below bka.out b2))
  replace bka := Aside0.mk (blk_below bka.out b2)
  replace HB := Aside0.mk (HB.out.trans (Below.mono b2 HB.out.size))
  have z2 := Aside0.mk (Below.size b2)
  clear b2
  have t_ := trivial
  go_wp2_with (clear t_; go_at_call 24; refine (laws_szCtl.calls k a1_0 a1_1 a1_2 a1_3 a1_4 a1_5 a1_6 A1_7 c1_7 l1_7 left left2 _ (Kd.C_below hr1.out HB.out) hc1.out h13.out).mono ?_; rintro e w3 ⟨rfl, b3⟩; (try clear zza_0 zza_1 zza_2 zza_3 zza_4 zza_5 zza_6 zza_7); obtain ⟨zza_0, zza_1, zza_2, zza_3, zza_4, zza_5, zza_6, zza_7⟩ := cz8 (blk_below bka.out b3))
  replace bka := Aside0.mk (blk_below bka.out b3)
  replace HB := Aside0.mk (HB.out.trans (Below.mono b3 HB.out.size))
  have z3 := Aside0.mk (Below.size b3)
  clear b3
  go_ret
  exact ⟨rfl, HB.out⟩
 rw [if_neg c1] at h
 have d2 : decide (left2 < 0) = false := decide_eq_false c1
 clear c1
 ·
  obtain ⟨xs, h2, h⟩ := Option.bind_eq_some_iff.mp h
  obtain ⟨⟨x0, x1, x2, x3, x4, x5, x6, xl⟩, h14, h⟩ := Option.bind_eq_some_iff.mp h
  obtain ⟨ws, h3, h⟩ := Option.bind_eq_some_iff.mp h
  obtain ⟨gs, h4, h⟩ := Option.bind_eq_some_iff.mp h
  obtain ⟨e1, h5, h⟩ := Option.bind_eq_some_iff.mp h
  obtain ⟨e2, h6, h⟩ := Option.bind_eq_some_iff.mp h
  obtain ⟨e3, h12, h⟩ := Option.bind_eq_some_iff.mp h
  obtain ⟨⟨m1, m1l⟩, h7, h⟩ := Option.bind_eq_some_iff.mp h
  obtain ⟨⟨m4, m4l⟩, h10, h⟩ := Option.bind_eq_some_iff.mp h
  obtain ⟨⟨m2, m2l⟩, h8, h⟩ := Option.bind_eq_some_iff.mp h
  obtain ⟨q, h9, h⟩ := Option.bind_eq_some_iff.mp h
  split at h
  case isFalse => cases h
  case isTrue hc =>
  clear h
  obtain ⟨rfl, rfl, rfl, hm4, hq, hqm⟩ := hc
  simp only at hm4 hqm h3 h4 h5 h6 h7 h8 h9 h10 h12 h14
  subst hqm
  have d3 : decide (m4 < 0) = false := decide_eq_false (by omega)
  have d4 : decide (q < 0) = false := decide_eq_false (by omega)
  clear hm4 hq
  replace h2 := Aside0.mk h2
  replace h3 := Aside0.mk h3
  replace h4 := Aside0.mk h4
  replace h5 := Aside0.mk h5
  replace h6 := Aside0.mk h6
  replace h7 := Aside0.mk h7
  replace h8 := Aside0.mk h8
  replace h9 := Aside0.mk h9
  replace h10 := Aside0.mk h10
  replace h12 := Aside0.mk h12
  replace h14 := Aside0.mk h14
  go_enter Try.func5, Try.ntmps5
  have t_ := trivial
  go_wp2_with (clear t_; go_at_call 23; have bka : Aside0 ((w.alloc (.cells #[.int .i64 a1_0, .int .i64 a1_1, .int .i64 a1_2, .int .i64 a1_3, .int .i64 a1_4, .bool a1_5, .int .i64 a1_6, .slice A1_7 l1_7.length c1_7] 55)).heap[w.heap.size]? = some (.cells #[.int .i64 a1_0, .int .i64 a1_1, .int .i64 a1_2, .int .i64 a1_3, .int .i64 a1_4, .bool a1_5, .int .i64 a1_6, .slice A1_7 l1_7.length c1_7] 55 (0, 0))) := ⟨heap_alloc_new w _⟩; replace HB := Aside0.mk (below_alloc HB.out (.cells #[.int .i64 a1_0, .int .i64 a1_1, .int .i64 a1_2, .int .i64 a1_3, .int .i64 a1_4, .bool a1_5, .int .i64 a1_6, .slice A1_7 l1_7.length c1_7] 55)); have z1 : Aside0 (w.heap.size + 1 = (w.alloc (.cells #[.int .i64 a1_0, .int .i64 a1_1, .int .i64 a1_2, .int .i64 a1_3, .int .i64 a1_4, .bool a1_5, .int .i64 a1_6, .slice A1_7 l1_7.length c1_7] 55)).heap.size) := ⟨by simp⟩; generalize (w.alloc (.cells #[.int .i64 a1_0, .int .i64 a1_1, .int .i64 a1_2, .int .i64 a1_3, .int .i64 a1_4, .bool a1_5, .int .i64 a1_6, .slice A1_7 l1_7.length c1_7] 55)) = w1 at bka HB z1 ⊢; obtain ⟨bxa, hbxa⟩ : ∃ g_, g_ = w.heap.size := ⟨_, rfl⟩; rw [← hbxa] at bka ⊢; replace hbxa := Aside0.mk hbxa; obtain ⟨zza_0, zza_1, zza_2, zza_3, zza_4, zza_5, zza_6, zza_7⟩ := cz8 bka.out; refine (laws_szPackS.calls k A0 c0 l0 1048576 left _ (Kd.C_below hr0.out HB.out) hc0.out h1.out).mono ?_; rintro e w2 ⟨rfl, b2⟩; (try clear zza_0 zza_1 zza_2 zza_3 zza_4 zza_5 zza_6 zza_7); obtain ⟨zza_0, zza_1, zza_2, zza_3, zza_4, zza_5, zza_6, zza_7⟩ := cz8 (blk_below bka.out b2))
  replace bka := Aside0.mk (blk_below bka.out b2)
  replace HB := Aside0.mk (HB.out.trans (Below.mono b2 HB.out.size))
  have z2 := Aside0.mk (Below.size b2)
  clear b2
  have t_ := trivial
  go_wp2_with (clear t_; go_at_call 24; refine (laws_szCtl.calls k a1_0 a1_1 a1_2 a1_3 a1_4 a1_5 a1_6 A1_7 c1_7 l1_7 left left2 _ (Kd.C_below hr1.out HB.out) hc1.out h13.out).mono ?_; rintro e w3 ⟨rfl, b3⟩; (try clear zza_0 zza_1 zza_2 zza_3 zza_4 zza_5 zza_6 zza_7); obtain ⟨zza_0, zza_1, zza_2, zza_3, zza_4, zza_5, zza_6, zza_7⟩ := cz8 (blk_below bka.out b3))
  replace bka := Aside0.mk (blk_below bka.out b3)
  replace HB := Aside0.mk (HB.out.trans (Below.mono b3 HB.out.size))
  have z3 := Aside0.mk (Below.size b3)
  clear b3
  try go_wp2
  replace bka := Aside0.mk (blk_drew bka.out)
  replace HB := Aside0.mk (below_drew1 HB.out)
  have z4 : Aside0 (w3.heap.size ≤ w3.drew.heap.size) := ⟨Nat.le_refl _⟩
  (try clear zza_0 zza_1 zza_2 zza_3 zza_4 zza_5 zza_6 zza_7)
  refine start_ (n := 6) (S := fun w' => w'.cell? ⟨bxa, 0, none⟩ = some (.int .i64 a1_0) ∧ w'.cell? ⟨bxa, 1, none⟩ = some (.int .i64 a1_1) ∧ w'.cell? ⟨bxa, 2, none⟩ = some (.int .i64 a1_2) ∧ w'.cell? ⟨bxa, 3, none⟩ = some (.int .i64 a1_3) ∧ w'.cell? ⟨bxa, 4, none⟩ = some (.int .i64 a1_4) ∧ w'.cell? ⟨bxa, 5, none⟩ = some (.bool a1_5) ∧ w'.cell? ⟨bxa, 6, none⟩ = some (.int .i64 a1_6) ∧ w'.cell? ⟨bxa, 7, none⟩ = some (.slice A1_7 l1_7.length c1_7)) (ds := []) #[oo,oo,oo,oo,oo,oo] (by kernel_rfl) rfl rfl (cz8 bka.out) (fun hHeld => ?_)
  generalize w3.drew = w4 at bka HB z4 hHeld ⊢
  refine pure_ (i := 0) (N := some 24) (v := ?_) (a' := ?_) #[ii,oo,oo,oo,oo,oo] rfl rfl (by kernel_rfl) (fun _ _ _ h => h) (Or.inl ⟨by rfl, ?_⟩) ?_ ?_
  rotate_left
  ·
   intro w'
   go_simp
   with_reducible rfl
  rotate_left
  ·
   exact ap_
  refine take_ (i := 2) (N := some 26) (v := ?_) (a' := ?_) #[ii,oo,ii,oo,oo,oo] rfl rfl (by kernel_rfl) (fun _ _ _ h => h) (Or.inl ⟨by rfl, ?_⟩) hHeld ?_ ?_
  rotate_left
  ·
   rintro w' ⟨s0, s1, s2, s3, s4, s5, s6, s7⟩
   go_simp
   with_reducible rfl
  rotate_left
  ·
   exact ap_
  refine one_ (i := 1) (N := some 25) #[ii,ii,ii,oo,oo,oo] rfl rfl (by kernel_rfl) (by decide) (fun K hK => ?_)
  refine goes_ Try.func26 (by kernel_rfl) rfl #[.slice A0 l0.length c0] (by rfl) rfl rfl la_ ?_
  refine (laws_toPackS.calls k A0 c0 l0 xs _ (Kd.C_below hr0.out HB.out) hc0.out h2.out).mono ?_
  rintro e w5 ⟨vy, rfl, hy, b5⟩
  refine ⟨_, rfl, ?_⟩
  obtain ⟨Ay, cy, rfl⟩ := Kd.S_slice hy
  replace hy := Aside0.mk (S_iv hy)
  replace bka := Aside0.mk (blk_below bka.out b5)
  replace HB := Aside0.mk (HB.out.trans (Below.mono b5 HB.out.size))
  have z5 := Aside0.mk (Below.size b5)
  clear b5
  refine hK.out _ _ (cz8 bka.out) (fun hHeld => ?_)
  clear hK K
  refine norm_ (a' := ?_) ?_ ?_
  rotate_left
  ·
   show Act.put _ (some 25) _ = _
   exact ap_
  refine one_ (i := 3) (N := some 27) #[ii,ii,ii,ii,oo,oo] rfl rfl (by kernel_rfl) (by decide) (fun K hK => ?_)
  refine goes_ Try.func27 (by kernel_rfl) rfl #[.agg #[.int .i64 a1_0, .int .i64 a1_1, .int .i64 a1_2, .int .i64 a1_3, .int .i64 a1_4, .bool a1_5, .int .i64 a1_6, .slice A1_7 l1_7.length c1_7]] (by rfl) rfl rfl la_ ?_
  refine (laws_toCtl.calls k a1_0 a1_1 a1_2 a1_3 a1_4 a1_5 a1_6 A1_7 c1_7 l1_7 x0 x1 x2 x3 x4 x5 x6 xl _ (Kd.C_below hr1.out HB.out) hc1.out h14.out).mono ?_
  rintro e w6 ⟨vyc, rfl, hyc, b6⟩
  refine ⟨_, rfl, ?_⟩
  obtain ⟨Ayc, cyc, rfl⟩ := Kd.R_slice hyc
  replace hyc := Aside0.mk (R_iv hyc)
  replace hy := Aside0.mk (Kd.S_below hy.out b6)
  replace bka := Aside0.mk (blk_below bka.out b6)
  replace HB := Aside0.mk (HB.out.trans (Below.mono b6 HB.out.size))
  have z6 := Aside0.mk (Below.size b6)
  clear b6
  refine hK.out _ _ (cz8 bka.out) (fun hHeld => ?_)
  clear hK K
  refine norm_ (a' := ?_) ?_ ?_
  rotate_left
  ·
   show Act.put _ (some 27) _ = _
   exact ap_
  refine one_ (i := 4) (N := some 28) #[ii,ii,ii,ii,ii,oo] rfl rfl (by kernel_rfl) (by decide) (fun K hK => ?_)
  refine goes_ Try.func25 (by kernel_rfl) rfl #[.slice Ay xs.length cy, .agg #[.int .i64 x0, .int .i64 x1, .int .i64 x2, .int .i64 x3, .int .i64 x4, .bool x5, .int .i64 x6, .slice Ayc xl.length cyc]] (by rfl) rfl rfl la_ ?_
  refine (spec_Send.calls k _ _ xs x0 x1 x2 x3 x4 x5 x6 _ _ xl ws _ (Kd.S_reads' hy.out).2.2 (Kd.S_reads' hy.out).2.1 (Kd.R_reads' hyc.out).2.2 (Kd.R_reads' hyc.out).2.1 h3.out).mono ?_
  rintro e w7 ⟨vw, rfl, hw, b7⟩
  refine ⟨_, rfl, ?_⟩
  obtain ⟨Aw, cw, rfl⟩ := Kd.S_slice hw
  replace hw := Aside0.mk (S_iv hw)
  replace hy := Aside0.mk (Kd.S_below hy.out b7)
  replace hyc := Aside0.mk (Kd.R_below hyc.out b7)
  replace bka := Aside0.mk (blk_below bka.out b7)
  replace HB := Aside0.mk (HB.out.trans (Below.mono b7 HB.out.size))
  have z7 := Aside0.mk (Below.size b7)
  clear b7
  refine hK.out _ _ (cz8 bka.out) (fun hHeld => ?_)
  clear hK K
  refine norm_ (a' := ?_) ?_ ?_
  rotate_left
  ·
   show Act.put _ (some 28) _ = _
   exact ap_
  refine pure_ (i := 5) (N := some 6) (v := ?_) (a' := ?_) #[ii,ii,ii,ii,ii,ii] rfl rfl (by kernel_rfl) (fun _ _ _ h => h) (Or.inl ⟨by rfl, ?_⟩) ?_ ?_
  rotate_left
  ·
   intro w'
   go_simp
   with_reducible rfl
  rotate_left
  ·
   exact ap_
  refine done_ (by kernel_rfl) ?_
  clear hHeld
  obtain ⟨zza_0, zza_1, zza_2, zza_3, zza_4, zza_5, zza_6, zza_7⟩ := cz8 bka.out
  have t_ := trivial
  go_wp2_with (clear t_; go_at_call 26; refine (laws_toPackS.calls k A0 c0 l0 xs _ (Kd.C_below hr0.out HB.out) hc0.out h2.out).mono ?_; rintro e w8 ⟨vx, rfl, hx, b8⟩; obtain ⟨Ax, cx, rfl⟩ := Kd.S_slice hx; replace hx := Aside0.mk (S_iv hx); (try clear zza_0 zza_1 zza_2 zza_3 zza_4 zza_5 zza_6 zza_7); obtain ⟨zza_0, zza_1, zza_2, zza_3, zza_4, zza_5, zza_6, zza_7⟩ := cz8 (blk_below bka.out b8))
  replace hy := Aside0.mk (Kd.S_below hy.out b8)
  replace hyc := Aside0.mk (Kd.R_below hyc.out b8)
  replace hw := Aside0.mk (Kd.S_below hw.out b8)
  replace bka := Aside0.mk (blk_below bka.out b8)
  replace HB := Aside0.mk (HB.out.trans (Below.mono b8 HB.out.size))
  have z8 := Aside0.mk (Below.size b8)
  clear b8
  have t_ := trivial
  go_wp2_with (clear t_; go_at_call 27; refine (laws_toCtl.calls k a1_0 a1_1 a1_2 a1_3 a1_4 a1_5 a1_6 A1_7 c1_7 l1_7 x0 x1 x2 x3 x4 x5 x6 xl _ (Kd.C_below hr1.out HB.out) hc1.out h14.out).mono ?_; rintro e w9 ⟨vxc, rfl, hxc, b9⟩; obtain ⟨Axc, cxc, rfl⟩ := Kd.R_slice hxc; replace hxc := Aside0.mk (R_iv hxc); (try clear zza_0 zza_1 zza_2 zza_3 zza_4 zza_5 zza_6 zza_7); obtain ⟨zza_0, zza_1, zza_2, zza_3, zza_4, zza_5, zza_6, zza_7⟩ := cz8 (blk_below bka.out b9))
  replace hy := Aside0.mk (Kd.S_below hy.out b9)
  replace hyc := Aside0.mk (Kd.R_below hyc.out b9)
  replace hw := Aside0.mk (Kd.S_below hw.out b9)
  replace hx := Aside0.mk (Kd.S_below hx.out b9)
  replace bka := Aside0.mk (blk_below bka.out b9)
  replace HB := Aside0.mk (HB.out.trans (Below.mono b9 HB.out.size))
  have z9 := Aside0.mk (Below.size b9)
  clear b9
  replace hy := Aside0.mk (Kd.S_alloc hy.out (.cells #[.int .i64 x0, .int .i64 x1, .int .i64 x2, .int .i64 x3, .int .i64 x4, .bool x5, .int .i64 x6, .slice Axc xl.length cxc] 63))
  replace hyc := Aside0.mk (Kd.R_alloc hyc.out (.cells #[.int .i64 x0, .int .i64 x1, .int .i64 x2, .int .i64 x3, .int .i64 x4, .bool x5, .int .i64 x6, .slice Axc xl.length cxc] 63))
  replace hw := Aside0.mk (Kd.S_alloc hw.out (.cells #[.int .i64 x0, .int .i64 x1, .int .i64 x2, .int .i64 x3, .int .i64 x4, .bool x5, .int .i64 x6, .slice Axc xl.length cxc] 63))
  replace hx := Aside0.mk (Kd.S_alloc hx.out (.cells #[.int .i64 x0, .int .i64 x1, .int .i64 x2, .int .i64 x3, .int .i64 x4, .bool x5, .int .i64 x6, .slice Axc xl.length cxc] 63))
  replace hxc := Aside0.mk (Kd.R_alloc hxc.out (.cells #[.int .i64 x0, .int .i64 x1, .int .i64 x2, .int .i64 x3, .int .i64 x4, .bool x5, .int .i64 x6, .slice Axc xl.length cxc] 63))
  replace bka := Aside0.mk (blk_alloc bka.out (.cells #[.int .i64 x0, .int .i64 x1, .int .i64 x2, .int .i64 x3, .int .i64 x4, .bool x5, .int .i64 x6, .slice Axc xl.length cxc] 63))
  have bkb : Aside0 ((w9.alloc (.cells #[.int .i64 x0, .int .i64 x1, .int .i64 x2, .int .i64 x3, .int .i64 x4, .bool x5, .int .i64 x6, .slice Axc xl.length cxc] 63)).heap[w9.heap.size]? = some (.cells #[.int .i64 x0, .int .i64 x1, .int .i64 x2, .int .i64 x3, .int .i64 x4, .bool x5, .int .i64 x6, .slice Axc xl.length cxc] 63 (0, 0))) := ⟨heap_alloc_new w9 _⟩
  replace HB := Aside0.mk (below_alloc HB.out (.cells #[.int .i64 x0, .int .i64 x1, .int .i64 x2, .int .i64 x3, .int .i64 x4, .bool x5, .int .i64 x6, .slice Axc xl.length cxc] 63))
  have z10 : Aside0 (w9.heap.size + 1 = (w9.alloc (.cells #[.int .i64 x0, .int .i64 x1, .int .i64 x2, .int .i64 x3, .int .i64 x4, .bool x5, .int .i64 x6, .slice Axc xl.length cxc] 63)).heap.size) := ⟨by simp⟩
  (try clear zza_0 zza_1 zza_2 zza_3 zza_4 zza_5 zza_6 zza_7)
  generalize (w9.alloc (.cells #[.int .i64 x0, .int .i64 x1, .int .i64 x2, .int .i64 x3, .int .i64 x4, .bool x5, .int .i64 x6, .slice Axc xl.length cxc] 63)) = w10 at hy hyc hw hx hxc bka bkb HB z10 ⊢
  obtain ⟨bxb, hbxb⟩ : ∃ g_, g_ = w9.heap.size := ⟨_, rfl⟩
  rw [← hbxb] at bkb ⊢
  replace hbxb := Aside0.mk hbxb
  obtain ⟨zza_0, zza_1, zza_2, zza_3, zza_4, zza_5, zza_6, zza_7⟩ := cz8 bka.out
  obtain ⟨zzb_0, zzb_1, zzb_2, zzb_3, zzb_4, zzb_5, zzb_6, zzb_7⟩ := cz8 bkb.out
  have t_ := trivial
  go_wp2_with (clear t_; go_at_call 28; refine (impl_Send.calls k _ _ xs x0 x1 x2 x3 x4 x5 x6 _ _ xl gs _ (Kd.S_reads' hx.out).2.2 (Kd.S_reads' hx.out).2.1 (Kd.R_reads' hxc.out).2.2 (Kd.R_reads' hxc.out).2.1 h4.out).mono ?_; rintro e w11 ⟨vg, rfl, hg, b11⟩; obtain ⟨Ag, cg, rfl⟩ := Kd.S_slice hg; replace hg := Aside0.mk (S_iv hg); (try clear zza_0 zza_1 zza_2 zza_3 zza_4 zza_5 zza_6 zza_7); obtain ⟨zza_0, zza_1, zza_2, zza_3, zza_4, zza_5, zza_6, zza_7⟩ := cz8 (blk_below bka.out b11); (try clear zzb_0 zzb_1 zzb_2 zzb_3 zzb_4 zzb_5 zzb_6 zzb_7); obtain ⟨zzb_0, zzb_1, zzb_2, zzb_3, zzb_4, zzb_5, zzb_6, zzb_7⟩ := cz8 (blk_below bkb.out b11))
  replace hy := Aside0.mk (Kd.S_below hy.out b11)
  replace hyc := Aside0.mk (Kd.R_below hyc.out b11)
  replace hw := Aside0.mk (Kd.S_below hw.out b11)
  replace hx := Aside0.mk (Kd.S_below hx.out b11)
  replace hxc := Aside0.mk (Kd.R_below hxc.out b11)
  replace bka := Aside0.mk (blk_below bka.out b11)
  replace bkb := Aside0.mk (blk_below bkb.out b11)
  replace HB := Aside0.mk (HB.out.trans (Below.mono b11 HB.out.size))
  have z11 := Aside0.mk (Below.size b11)
  clear b11
  have t_ := trivial
  go_wp2_with (clear t_; go_at_call 29; refine (laws_eqPackS.calls k _ _ gs _ _ ws true _ (Kd.S_reads' hg.out).2.2 (Kd.S_reads' hg.out).2.1 (Kd.S_reads' hw.out).2.2 (Kd.S_reads' hw.out).2.1 ⟨rfl⟩ h5.out).mono ?_; rintro e w12 ⟨rfl, b12⟩; (try clear zza_0 zza_1 zza_2 zza_3 zza_4 zza_5 zza_6 zza_7); obtain ⟨zza_0, zza_1, zza_2, zza_3, zza_4, zza_5, zza_6, zza_7⟩ := cz8 (blk_below bka.out b12); (try clear zzb_0 zzb_1 zzb_2 zzb_3 zzb_4 zzb_5 zzb_6 zzb_7); obtain ⟨zzb_0, zzb_1, zzb_2, zzb_3, zzb_4, zzb_5, zzb_6, zzb_7⟩ := cz8 (blk_below bkb.out b12))
  replace hy := Aside0.mk (Kd.S_below hy.out b12)
  replace hyc := Aside0.mk (Kd.R_below hyc.out b12)
  replace hw := Aside0.mk (Kd.S_below hw.out b12)
  replace hx := Aside0.mk (Kd.S_below hx.out b12)
  replace hxc := Aside0.mk (Kd.R_below hxc.out b12)
  replace hg := Aside0.mk (Kd.S_below hg.out b12)
  replace bka := Aside0.mk (blk_below bka.out b12)
  replace bkb := Aside0.mk (blk_below bkb.out b12)
  replace HB := Aside0.mk (HB.out.trans (Below.mono b12 HB.out.size))
  have z12 := Aside0.mk (Below.size b12)
  clear b12
  have t_ := trivial
  go_wp2_with (clear t_; go_at_call 26; refine (laws_toPackS.calls k A0 c0 l0 xs _ (Kd.C_below hr0.out HB.out) hc0.out h2.out).mono ?_; rintro e w13 ⟨vu, rfl, hu, b13⟩; obtain ⟨Au, cu, rfl⟩ := Kd.S_slice hu; replace hu := Aside0.mk (S_iv hu); (try clear zza_0 zza_1 zza_2 zza_3 zza_4 zza_5 zza_6 zza_7); obtain ⟨zza_0, zza_1, zza_2, zza_3, zza_4, zza_5, zza_6, zza_7⟩ := cz8 (blk_below bka.out b13); (try clear zzb_0 zzb_1 zzb_2 zzb_3 zzb_4 zzb_5 zzb_6 zzb_7); obtain ⟨zzb_0, zzb_1, zzb_2, zzb_3, zzb_4, zzb_5, zzb_6, zzb_7⟩ := cz8 (blk_below bkb.out b13))
  replace hy := Aside0.mk (Kd.S_below hy.out b13)
  replace hyc := Aside0.mk (Kd.R_below hyc.out b13)
  replace hw := Aside0.mk (Kd.S_below hw.out b13)
  replace hx := Aside0.mk (Kd.S_below hx.out b13)
  replace hxc := Aside0.mk (Kd.R_below hxc.out b13)
  replace hg := Aside0.mk (Kd.S_below hg.out b13)
  replace bka := Aside0.mk (blk_below bka.out b13)
  replace bkb := Aside0.mk (blk_below bkb.out b13)
  replace HB := Aside0.mk (HB.out.trans (Below.mono b13 HB.out.size))
  have z13 := Aside0.mk (Below.size b13)
  clear b13
  have t_ := trivial
  go_wp2_with (clear t_; go_at_call 29; refine (laws_eqPackS.calls k _ _ xs _ _ xs true _ (Kd.S_reads' hx.out).2.2 (Kd.S_reads' hx.out).2.1 (Kd.S_reads' hu.out).2.2 (Kd.S_reads' hu.out).2.1 ⟨rfl⟩ h6.out).mono ?_; rintro e w14 ⟨rfl, b14⟩; (try clear zza_0 zza_1 zza_2 zza_3 zza_4 zza_5 zza_6 zza_7); obtain ⟨zza_0, zza_1, zza_2, zza_3, zza_4, zza_5, zza_6, zza_7⟩ := cz8 (blk_below bka.out b14); (try clear zzb_0 zzb_1 zzb_2 zzb_3 zzb_4 zzb_5 zzb_6 zzb_7); obtain ⟨zzb_0, zzb_1, zzb_2, zzb_3, zzb_4, zzb_5, zzb_6, zzb_7⟩ := cz8 (blk_below bkb.out b14))
  replace hy := Aside0.mk (Kd.S_below hy.out b14)
  replace hyc := Aside0.mk (Kd.R_below hyc.out b14)
  replace hw := Aside0.mk (Kd.S_below hw.out b14)
  replace hx := Aside0.mk (Kd.S_below hx.out b14)
  replace hxc := Aside0.mk (Kd.R_below hxc.out b14)
  replace hg := Aside0.mk (Kd.S_below hg.out b14)
  replace hu := Aside0.mk (Kd.S_below hu.out b14)
  replace bka := Aside0.mk (blk_below bka.out b14)
  replace bkb := Aside0.mk (blk_below bkb.out b14)
  replace HB := Aside0.mk (HB.out.trans (Below.mono b14 HB.out.size))
  have z14 := Aside0.mk (Below.size b14)
  clear b14
  try go_wp2
  replace hy := Aside0.mk (Kd.S_drew hy.out)
  replace hyc := Aside0.mk (Kd.R_drew hyc.out)
  replace hw := Aside0.mk (Kd.S_drew hw.out)
  replace hx := Aside0.mk (Kd.S_drew hx.out)
  replace hxc := Aside0.mk (Kd.R_drew hxc.out)
  replace hg := Aside0.mk (Kd.S_drew hg.out)
  replace hu := Aside0.mk (Kd.S_drew hu.out)
  replace bka := Aside0.mk (blk_drew bka.out)
  replace bkb := Aside0.mk (blk_drew bkb.out)
  replace HB := Aside0.mk (below_drew1 HB.out)
  have z15 : Aside0 (w14.heap.size ≤ w14.drew.heap.size) := ⟨Nat.le_refl _⟩
  (try clear zza_0 zza_1 zza_2 zza_3 zza_4 zza_5 zza_6 zza_7 zzb_0 zzb_1 zzb_2 zzb_3 zzb_4 zzb_5 zzb_6 zzb_7)
  refine start_ (n := 5) (S := fun w' => w'.cell? ⟨bxb, 0, none⟩ = some (.int .i64 x0) ∧ w'.cell? ⟨bxb, 1, none⟩ = some (.int .i64 x1) ∧ w'.cell? ⟨bxb, 2, none⟩ = some (.int .i64 x2) ∧ w'.cell? ⟨bxb, 3, none⟩ = some (.int .i64 x3) ∧ w'.cell? ⟨bxb, 4, none⟩ = some (.int .i64 x4) ∧ w'.cell? ⟨bxb, 5, none⟩ = some (.bool x5) ∧ w'.cell? ⟨bxb, 6, none⟩ = some (.int .i64 x6) ∧ w'.cell? ⟨bxb, 7, none⟩ = some (.slice Axc xl.length cxc) ∧ w'.cell? ⟨bxa, 0, none⟩ = some (.int .i64 a1_0) ∧ w'.cell? ⟨bxa, 1, none⟩ = some (.int .i64 a1_1) ∧ w'.cell? ⟨bxa, 2, none⟩ = some (.int .i64 a1_2) ∧ w'.cell? ⟨bxa, 3, none⟩ = some (.int .i64 a1_3) ∧ w'.cell? ⟨bxa, 4, none⟩ = some (.int .i64 a1_4) ∧ w'.cell? ⟨bxa, 5, none⟩ = some (.bool a1_5) ∧ w'.cell? ⟨bxa, 6, none⟩ = some (.int .i64 a1_6) ∧ w'.cell? ⟨bxa, 7, none⟩ = some (.slice A1_7 l1_7.length c1_7)) (ds := []) #[oo,oo,oo,oo,oo] (by kernel_rfl) rfl rfl (cw8 bkb.out (cz8 bka.out)) (fun hHeld => ?_)
  generalize w14.drew = w15 at hy hyc hw hx hxc hg hu bka bkb HB z15 hHeld ⊢
  refine take_ (i := 0) (N := some 45) (v := ?_) (a' := ?_) #[ii,oo,oo,oo,oo] rfl rfl (by kernel_rfl) (fun _ _ _ h => h) (Or.inl ⟨by rfl, ?_⟩) hHeld ?_ ?_
  rotate_left
  ·
   rintro w' ⟨s0, s1, s2, s3, s4, s5, s6, s7, s8, s9, s10, s11, s12, s13, s14, s15⟩
   go_simp
   with_reducible rfl
  rotate_left
  ·
   exact ap_
  refine take_ (i := 1) (N := some 46) (v := ?_) (a' := ?_) #[ii,ii,oo,oo,oo] rfl rfl (by kernel_rfl) (fun _ _ _ h => h) (Or.inl ⟨by rfl, ?_⟩) hHeld ?_ ?_
  rotate_left
  ·
   rintro w' ⟨s0, s1, s2, s3, s4, s5, s6, s7, s8, s9, s10, s11, s12, s13, s14, s15⟩
   go_simp
   with_reducible rfl
  rotate_left
  ·
   exact ap_
  refine one_ (i := 2) (N := some 47) #[ii,ii,ii,oo,oo] rfl rfl (by kernel_rfl) (by decide) (fun K hK => ?_)
  refine goes_ Try.func27 (by kernel_rfl) rfl #[.agg #[.int .i64 a1_0, .int .i64 a1_1, .int .i64 a1_2, .int .i64 a1_3, .int .i64 a1_4, .bool a1_5, .int .i64 a1_6, .slice A1_7 l1_7.length c1_7]] (by rfl) rfl rfl la_ ?_
  refine (laws_toCtl.calls k a1_0 a1_1 a1_2 a1_3 a1_4 a1_5 a1_6 A1_7 c1_7 l1_7 x0 x1 x2 x3 x4 x5 x6 xl _ (Kd.C_below hr1.out HB.out) hc1.out h14.out).mono ?_
  rintro e w16 ⟨vuc, rfl, huc, b16⟩
  refine ⟨_, rfl, ?_⟩
  obtain ⟨Auc, cuc, rfl⟩ := Kd.R_slice huc
  replace huc := Aside0.mk (R_iv huc)
  replace hy := Aside0.mk (Kd.S_below hy.out b16)
  replace hyc := Aside0.mk (Kd.R_below hyc.out b16)
  replace hw := Aside0.mk (Kd.S_below hw.out b16)
  replace hx := Aside0.mk (Kd.S_below hx.out b16)
  replace hxc := Aside0.mk (Kd.R_below hxc.out b16)
  replace hg := Aside0.mk (Kd.S_below hg.out b16)
  replace hu := Aside0.mk (Kd.S_below hu.out b16)
  replace bka := Aside0.mk (blk_below bka.out b16)
  replace bkb := Aside0.mk (blk_below bkb.out b16)
  replace HB := Aside0.mk (HB.out.trans (Below.mono b16 HB.out.size))
  have z16 := Aside0.mk (Below.size b16)
  clear b16
  refine hK.out _ _ (cw8 bkb.out (cz8 bka.out)) (fun hHeld => ?_)
  clear hK K
  refine norm_ (a' := ?_) ?_ ?_
  rotate_left
  ·
   show Act.put _ (some 47) _ = _
   exact ap_
  refine one_ (i := 3) (N := some 48) #[ii,ii,ii,ii,oo] rfl rfl (by kernel_rfl) (by decide) (fun K hK => ?_)
  refine goes_ Try.func30 (by kernel_rfl) rfl #[.agg #[.int .i64 x0, .int .i64 x1, .int .i64 x2, .int .i64 x3, .int .i64 x4, .bool x5, .int .i64 x6, .slice Axc xl.length cxc], .agg #[.int .i64 x0, .int .i64 x1, .int .i64 x2, .int .i64 x3, .int .i64 x4, .bool x5, .int .i64 x6, .slice Auc xl.length cuc]] (by rfl) rfl rfl la_ ?_
  refine (laws_eqCtl.calls k x0 x1 x2 x3 x4 x5 x6 _ _ xl x0 x1 x2 x3 x4 x5 x6 _ _ xl true _ (Kd.R_reads' hxc.out).2.2 (Kd.R_reads' hxc.out).2.1 (Kd.R_reads' huc.out).2.2 (Kd.R_reads' huc.out).2.1 ⟨rfl⟩ h12.out).mono ?_
  rintro e w17 ⟨rfl, b17⟩
  refine ⟨_, rfl, ?_⟩
  replace hy := Aside0.mk (Kd.S_below hy.out b17)
  replace hyc := Aside0.mk (Kd.R_below hyc.out b17)
  replace hw := Aside0.mk (Kd.S_below hw.out b17)
  replace hx := Aside0.mk (Kd.S_below hx.out b17)
  replace hxc := Aside0.mk (Kd.R_below hxc.out b17)
  replace hg := Aside0.mk (Kd.S_below hg.out b17)
  replace hu := Aside0.mk (Kd.S_below hu.out b17)
  replace huc := Aside0.mk (Kd.R_below huc.out b17)
  replace bka := Aside0.mk (blk_below bka.out b17)
  replace bkb := Aside0.mk (blk_below bkb.out b17)
  replace HB := Aside0.mk (HB.out.trans (Below.mono b17 HB.out.size))
  have z17 := Aside0.mk (Below.size b17)
  clear b17
  refine hK.out _ _ (cw8 bkb.out (cz8 bka.out)) (fun hHeld => ?_)
  clear hK K
  refine norm_ (a' := ?_) ?_ ?_
  rotate_left
  ·
   show Act.put _ (some 48) _ = _
   exact ap_
  refine pure_ (i := 4) (N := some 49) (v := ?_) (a' := ?_) #[ii,ii,ii,ii,ii] rfl rfl (by kernel_rfl) (fun _ _ _ h => h) (Or.inl ⟨by rfl, ?_⟩) ?_ ?_
  rotate_left
  ·
   intro w'
   go_simp
   with_reducible rfl
  rotate_left
  ·
   exact ap_
  refine done_ (by kernel_rfl) ?_
  clear hHeld
  obtain ⟨zza_0, zza_1, zza_2, zza_3, zza_4, zza_5, zza_6, zza_7⟩ := cz8 bka.out
  obtain ⟨zzb_0, zzb_1, zzb_2, zzb_3, zzb_4, zzb_5, zzb_6, zzb_7⟩ := cz8 bkb.out
  clear hu
  clear huc
  clear hy
  clear hyc
  have t_ := trivial
  go_wp2_with (clear t_; go_at_call 31; refine (laws_markPackS.calls k _ _ xs 1 m1 m1l w _ HB.out (Kd.S_lower hx.out (by have y1_ := z1.out; have y2_ := z2.out; have y3_ := z3.out; have y4_ := z4.out; have y5_ := z5.out; have y6_ := z6.out; have y7_ := z7.out; have y8_ := z8.out; have y9_ := z9.out; have y10_ := z10.out; have y11_ := z11.out; have y12_ := z12.out; have y13_ := z13.out; have y14_ := z14.out; have y15_ := z15.out; have y16_ := z16.out; have y17_ := z17.out; have yhbxa_ := hbxa.out; have yhbxb_ := hbxb.out; first | omega | (exfalso; omega))) h7.out).mono ?_; rintro e w18 ⟨rfl, hx, b18, k18⟩; (try clear zza_0 zza_1 zza_2 zza_3 zza_4 zza_5 zza_6 zza_7); obtain ⟨zza_0, zza_1, zza_2, zza_3, zza_4, zza_5, zza_6, zza_7⟩ := cz8 (blk_kept bka.out k18 (fun q_ => (by have y1_ := z1.out; have y2_ := z2.out; have y3_ := z3.out; have y4_ := z4.out; have y5_ := z5.out; have y6_ := z6.out; have y7_ := z7.out; have y8_ := z8.out; have y9_ := z9.out; have y10_ := z10.out; have y11_ := z11.out; have y12_ := z12.out; have y13_ := z13.out; have y14_ := z14.out; have y15_ := z15.out; have y16_ := z16.out; have y17_ := z17.out; have yhbxa_ := hbxa.out; have yhbxb_ := hbxb.out; first | omega | (exfalso; omega)))); (try clear zzb_0 zzb_1 zzb_2 zzb_3 zzb_4 zzb_5 zzb_6 zzb_7); obtain ⟨zzb_0, zzb_1, zzb_2, zzb_3, zzb_4, zzb_5, zzb_6, zzb_7⟩ := cz8 (blk_kept bkb.out k18 (fun q_ => (by have y1_ := z1.out; have y2_ := z2.out; have y3_ := z3.out; have y4_ := z4.out; have y5_ := z5.out; have y6_ := z6.out; have y7_ := z7.out; have y8_ := z8.out; have y9_ := z9.out; have y10_ := z10.out; have y11_ := z11.out; have y12_ := z12.out; have y13_ := z13.out; have y14_ := z14.out; have y15_ := z15.out; have y16_ := z16.out; have y17_ := z17.out; have yhbxa_ := hbxa.out; have yhbxb_ := hbxb.out; first | omega | (exfalso; omega)))))
  replace hw := Aside0.mk (Kd.S_kept hw.out k18 (fun k_ p_ q_ => by first | exact q_.2 p_.2 | exact p_.2 q_.2 | exact (by have y1_ := z1.out; have y2_ := z2.out; have y3_ := z3.out; have y4_ := z4.out; have y5_ := z5.out; have y6_ := z6.out; have y7_ := z7.out; have y8_ := z8.out; have y9_ := z9.out; have y10_ := z10.out; have y11_ := z11.out; have y12_ := z12.out; have y13_ := z13.out; have y14_ := z14.out; have y15_ := z15.out; have y16_ := z16.out; have y17_ := z17.out; have yhbxa_ := hbxa.out; have yhbxb_ := hbxb.out; first | omega | (exfalso; omega))))
  replace hxc := Aside0.mk (Kd.R_kept hxc.out k18 (fun k_ p_ q_ => by first | exact q_.2 p_.2 | exact p_.2 q_.2 | exact (by have y1_ := z1.out; have y2_ := z2.out; have y3_ := z3.out; have y4_ := z4.out; have y5_ := z5.out; have y6_ := z6.out; have y7_ := z7.out; have y8_ := z8.out; have y9_ := z9.out; have y10_ := z10.out; have y11_ := z11.out; have y12_ := z12.out; have y13_ := z13.out; have y14_ := z14.out; have y15_ := z15.out; have y16_ := z16.out; have y17_ := z17.out; have yhbxa_ := hbxa.out; have yhbxb_ := hbxb.out; first | omega | (exfalso; omega))))
  replace hg := Aside0.mk (Kd.S_kept hg.out k18 (fun k_ p_ q_ => by first | exact q_.2 p_.2 | exact p_.2 q_.2 | exact (by have y1_ := z1.out; have y2_ := z2.out; have y3_ := z3.out; have y4_ := z4.out; have y5_ := z5.out; have y6_ := z6.out; have y7_ := z7.out; have y8_ := z8.out; have y9_ := z9.out; have y10_ := z10.out; have y11_ := z11.out; have y12_ := z12.out; have y13_ := z13.out; have y14_ := z14.out; have y15_ := z15.out; have y16_ := z16.out; have y17_ := z17.out; have yhbxa_ := hbxa.out; have yhbxb_ := hbxb.out; first | omega | (exfalso; omega))))
  replace bka := Aside0.mk (blk_kept bka.out k18 (fun q_ => (by have y1_ := z1.out; have y2_ := z2.out; have y3_ := z3.out; have y4_ := z4.out; have y5_ := z5.out; have y6_ := z6.out; have y7_ := z7.out; have y8_ := z8.out; have y9_ := z9.out; have y10_ := z10.out; have y11_ := z11.out; have y12_ := z12.out; have y13_ := z13.out; have y14_ := z14.out; have y15_ := z15.out; have y16_ := z16.out; have y17_ := z17.out; have yhbxa_ := hbxa.out; have yhbxb_ := hbxb.out; first | omega | (exfalso; omega))))
  replace bkb := Aside0.mk (blk_kept bkb.out k18 (fun q_ => (by have y1_ := z1.out; have y2_ := z2.out; have y3_ := z3.out; have y4_ := z4.out; have y5_ := z5.out; have y6_ := z6.out; have y7_ := z7.out; have y8_ := z8.out; have y9_ := z9.out; have y10_ := z10.out; have y11_ := z11.out; have y12_ := z12.out; have y13_ := z13.out; have y14_ := z14.out; have y15_ := z15.out; have y16_ := z16.out; have y17_ := z17.out; have yhbxa_ := hbxa.out; have yhbxb_ := hbxb.out; first | omega | (exfalso; omega))))
  replace HB := Aside0.mk b18
  have z18 := Aside0.mk (k18).1
  have qx_ := Aside0.mk (Kd.S_reads' hx).1
  rw [qx_.out] at hx
  have n_ := Aside0.mk hx; clear hx; have hx := n_; clear n_
  clear b18 k18
  have t_ := trivial
  go_wp2_with (clear t_; go_at_call 32; refine (laws_markCtl.calls k x0 x1 x2 x3 x4 x5 x6 _ _ xl m1 m4 m4l w _ HB.out (Kd.R_lower hxc.out (by have y1_ := z1.out; have y2_ := z2.out; have y3_ := z3.out; have y4_ := z4.out; have y5_ := z5.out; have y6_ := z6.out; have y7_ := z7.out; have y8_ := z8.out; have y9_ := z9.out; have y10_ := z10.out; have y11_ := z11.out; have y12_ := z12.out; have y13_ := z13.out; have y14_ := z14.out; have y15_ := z15.out; have y16_ := z16.out; have y17_ := z17.out; have y18_ := z18.out; have yhbxa_ := hbxa.out; have yhbxb_ := hbxb.out; first | omega | (exfalso; omega))) h10.out).mono ?_; rintro e w19 ⟨rfl, hxc, b19, k19⟩; (try clear zza_0 zza_1 zza_2 zza_3 zza_4 zza_5 zza_6 zza_7); obtain ⟨zza_0, zza_1, zza_2, zza_3, zza_4, zza_5, zza_6, zza_7⟩ := cz8 (blk_kept bka.out k19 (fun q_ => (by have y1_ := z1.out; have y2_ := z2.out; have y3_ := z3.out; have y4_ := z4.out; have y5_ := z5.out; have y6_ := z6.out; have y7_ := z7.out; have y8_ := z8.out; have y9_ := z9.out; have y10_ := z10.out; have y11_ := z11.out; have y12_ := z12.out; have y13_ := z13.out; have y14_ := z14.out; have y15_ := z15.out; have y16_ := z16.out; have y17_ := z17.out; have y18_ := z18.out; have yhbxa_ := hbxa.out; have yhbxb_ := hbxb.out; first | omega | (exfalso; omega)))); (try clear zzb_0 zzb_1 zzb_2 zzb_3 zzb_4 zzb_5 zzb_6 zzb_7); obtain ⟨zzb_0, zzb_1, zzb_2, zzb_3, zzb_4, zzb_5, zzb_6, zzb_7⟩ := cz8 (blk_kept bkb.out k19 (fun q_ => (by have y1_ := z1.out; have y2_ := z2.out; have y3_ := z3.out; have y4_ := z4.out; have y5_ := z5.out; have y6_ := z6.out; have y7_ := z7.out; have y8_ := z8.out; have y9_ := z9.out; have y10_ := z10.out; have y11_ := z11.out; have y12_ := z12.out; have y13_ := z13.out; have y14_ := z14.out; have y15_ := z15.out; have y16_ := z16.out; have y17_ := z17.out; have y18_ := z18.out; have yhbxa_ := hbxa.out; have yhbxb_ := hbxb.out; first | omega | (exfalso; omega)))))
  replace hw := Aside0.mk (Kd.S_kept hw.out k19 (fun k_ p_ q_ => by first | exact q_.2 p_.2 | exact p_.2 q_.2 | exact (by have y1_ := z1.out; have y2_ := z2.out; have y3_ := z3.out; have y4_ := z4.out; have y5_ := z5.out; have y6_ := z6.out; have y7_ := z7.out; have y8_ := z8.out; have y9_ := z9.out; have y10_ := z10.out; have y11_ := z11.out; have y12_ := z12.out; have y13_ := z13.out; have y14_ := z14.out; have y15_ := z15.out; have y16_ := z16.out; have y17_ := z17.out; have y18_ := z18.out; have yhbxa_ := hbxa.out; have yhbxb_ := hbxb.out; first | omega | (exfalso; omega))))
  replace hx := Aside0.mk (Kd.S_kept hx.out k19 (fun k_ p_ q_ => by first | exact q_.2 p_.2 | exact p_.2 q_.2 | exact (by have y1_ := z1.out; have y2_ := z2.out; have y3_ := z3.out; have y4_ := z4.out; have y5_ := z5.out; have y6_ := z6.out; have y7_ := z7.out; have y8_ := z8.out; have y9_ := z9.out; have y10_ := z10.out; have y11_ := z11.out; have y12_ := z12.out; have y13_ := z13.out; have y14_ := z14.out; have y15_ := z15.out; have y16_ := z16.out; have y17_ := z17.out; have y18_ := z18.out; have yhbxa_ := hbxa.out; have yhbxb_ := hbxb.out; first | omega | (exfalso; omega))))
  replace hg := Aside0.mk (Kd.S_kept hg.out k19 (fun k_ p_ q_ => by first | exact q_.2 p_.2 | exact p_.2 q_.2 | exact (by have y1_ := z1.out; have y2_ := z2.out; have y3_ := z3.out; have y4_ := z4.out; have y5_ := z5.out; have y6_ := z6.out; have y7_ := z7.out; have y8_ := z8.out; have y9_ := z9.out; have y10_ := z10.out; have y11_ := z11.out; have y12_ := z12.out; have y13_ := z13.out; have y14_ := z14.out; have y15_ := z15.out; have y16_ := z16.out; have y17_ := z17.out; have y18_ := z18.out; have yhbxa_ := hbxa.out; have yhbxb_ := hbxb.out; first | omega | (exfalso; omega))))
  replace bka := Aside0.mk (blk_kept bka.out k19 (fun q_ => (by have y1_ := z1.out; have y2_ := z2.out; have y3_ := z3.out; have y4_ := z4.out; have y5_ := z5.out; have y6_ := z6.out; have y7_ := z7.out; have y8_ := z8.out; have y9_ := z9.out; have y10_ := z10.out; have y11_ := z11.out; have y12_ := z12.out; have y13_ := z13.out; have y14_ := z14.out; have y15_ := z15.out; have y16_ := z16.out; have y17_ := z17.out; have y18_ := z18.out; have yhbxa_ := hbxa.out; have yhbxb_ := hbxb.out; first | omega | (exfalso; omega))))
  replace bkb := Aside0.mk (blk_kept bkb.out k19 (fun q_ => (by have y1_ := z1.out; have y2_ := z2.out; have y3_ := z3.out; have y4_ := z4.out; have y5_ := z5.out; have y6_ := z6.out; have y7_ := z7.out; have y8_ := z8.out; have y9_ := z9.out; have y10_ := z10.out; have y11_ := z11.out; have y12_ := z12.out; have y13_ := z13.out; have y14_ := z14.out; have y15_ := z15.out; have y16_ := z16.out; have y17_ := z17.out; have y18_ := z18.out; have yhbxa_ := hbxa.out; have yhbxb_ := hbxb.out; first | omega | (exfalso; omega))))
  replace HB := Aside0.mk b19
  have z19 := Aside0.mk (k19).1
  have qxc_ := Aside0.mk (Kd.R_reads' hxc).1
  rw [qxc_.out] at hxc
  have n_ := Aside0.mk hxc; clear hxc; have hxc := n_; clear n_
  clear b19 k19
  clear hx hxc qx_ qxc_
  have t_ := trivial
  go_wp2_with (clear t_; go_at_call 29; refine (laws_eqPackS.calls k _ _ gs _ _ ws true _ (Kd.S_reads' hg.out).2.2 (Kd.S_reads' hg.out).2.1 (Kd.S_reads' hw.out).2.2 (Kd.S_reads' hw.out).2.1 ⟨rfl⟩ h5.out).mono ?_; rintro e w20 ⟨rfl, b20⟩; (try clear zza_0 zza_1 zza_2 zza_3 zza_4 zza_5 zza_6 zza_7); obtain ⟨zza_0, zza_1, zza_2, zza_3, zza_4, zza_5, zza_6, zza_7⟩ := cz8 (blk_below bka.out b20); (try clear zzb_0 zzb_1 zzb_2 zzb_3 zzb_4 zzb_5 zzb_6 zzb_7); obtain ⟨zzb_0, zzb_1, zzb_2, zzb_3, zzb_4, zzb_5, zzb_6, zzb_7⟩ := cz8 (blk_below bkb.out b20))
  replace hw := Aside0.mk (Kd.S_below hw.out b20)
  replace hg := Aside0.mk (Kd.S_below hg.out b20)
  replace bka := Aside0.mk (blk_below bka.out b20)
  replace bkb := Aside0.mk (blk_below bkb.out b20)
  replace HB := Aside0.mk (HB.out.trans (Below.mono b20 HB.out.size))
  have z20 := Aside0.mk (Below.size b20)
  clear b20
  have t_ := trivial
  go_wp2_with (clear t_; go_at_call 31; refine (laws_markPackS.calls k _ _ gs 1 q m2l w _ HB.out (Kd.S_lower hg.out (by have y1_ := z1.out; have y2_ := z2.out; have y3_ := z3.out; have y4_ := z4.out; have y5_ := z5.out; have y6_ := z6.out; have y7_ := z7.out; have y8_ := z8.out; have y9_ := z9.out; have y10_ := z10.out; have y11_ := z11.out; have y12_ := z12.out; have y13_ := z13.out; have y14_ := z14.out; have y15_ := z15.out; have y16_ := z16.out; have y17_ := z17.out; have y18_ := z18.out; have y19_ := z19.out; have y20_ := z20.out; have yhbxa_ := hbxa.out; have yhbxb_ := hbxb.out; first | omega | (exfalso; omega))) h8.out).mono ?_; rintro e w21 ⟨rfl, hg, b21, k21⟩; (try clear zza_0 zza_1 zza_2 zza_3 zza_4 zza_5 zza_6 zza_7); obtain ⟨zza_0, zza_1, zza_2, zza_3, zza_4, zza_5, zza_6, zza_7⟩ := cz8 (blk_kept bka.out k21 (fun q_ => (by have y1_ := z1.out; have y2_ := z2.out; have y3_ := z3.out; have y4_ := z4.out; have y5_ := z5.out; have y6_ := z6.out; have y7_ := z7.out; have y8_ := z8.out; have y9_ := z9.out; have y10_ := z10.out; have y11_ := z11.out; have y12_ := z12.out; have y13_ := z13.out; have y14_ := z14.out; have y15_ := z15.out; have y16_ := z16.out; have y17_ := z17.out; have y18_ := z18.out; have y19_ := z19.out; have y20_ := z20.out; have yhbxa_ := hbxa.out; have yhbxb_ := hbxb.out; first | omega | (exfalso; omega)))); (try clear zzb_0 zzb_1 zzb_2 zzb_3 zzb_4 zzb_5 zzb_6 zzb_7); obtain ⟨zzb_0, zzb_1, zzb_2, zzb_3, zzb_4, zzb_5, zzb_6, zzb_7⟩ := cz8 (blk_kept bkb.out k21 (fun q_ => (by have y1_ := z1.out; have y2_ := z2.out; have y3_ := z3.out; have y4_ := z4.out; have y5_ := z5.out; have y6_ := z6.out; have y7_ := z7.out; have y8_ := z8.out; have y9_ := z9.out; have y10_ := z10.out; have y11_ := z11.out; have y12_ := z12.out; have y13_ := z13.out; have y14_ := z14.out; have y15_ := z15.out; have y16_ := z16.out; have y17_ := z17.out; have y18_ := z18.out; have y19_ := z19.out; have y20_ := z20.out; have yhbxa_ := hbxa.out; have yhbxb_ := hbxb.out; first | omega | (exfalso; omega)))))
  replace hw := Aside0.mk (Kd.S_kept hw.out k21 (fun k_ p_ q_ => by first | exact q_.2 p_.2 | exact p_.2 q_.2 | exact (by have y1_ := z1.out; have y2_ := z2.out; have y3_ := z3.out; have y4_ := z4.out; have y5_ := z5.out; have y6_ := z6.out; have y7_ := z7.out; have y8_ := z8.out; have y9_ := z9.out; have y10_ := z10.out; have y11_ := z11.out; have y12_ := z12.out; have y13_ := z13.out; have y14_ := z14.out; have y15_ := z15.out; have y16_ := z16.out; have y17_ := z17.out; have y18_ := z18.out; have y19_ := z19.out; have y20_ := z20.out; have yhbxa_ := hbxa.out; have yhbxb_ := hbxb.out; first | omega | (exfalso; omega))))
  replace bka := Aside0.mk (blk_kept bka.out k21 (fun q_ => (by have y1_ := z1.out; have y2_ := z2.out; have y3_ := z3.out; have y4_ := z4.out; have y5_ := z5.out; have y6_ := z6.out; have y7_ := z7.out; have y8_ := z8.out; have y9_ := z9.out; have y10_ := z10.out; have y11_ := z11.out; have y12_ := z12.out; have y13_ := z13.out; have y14_ := z14.out; have y15_ := z15.out; have y16_ := z16.out; have y17_ := z17.out; have y18_ := z18.out; have y19_ := z19.out; have y20_ := z20.out; have yhbxa_ := hbxa.out; have yhbxb_ := hbxb.out; first | omega | (exfalso; omega))))
  replace bkb := Aside0.mk (blk_kept bkb.out k21 (fun q_ => (by have y1_ := z1.out; have y2_ := z2.out; have y3_ := z3.out; have y4_ := z4.out; have y5_ := z5.out; have y6_ := z6.out; have y7_ := z7.out; have y8_ := z8.out; have y9_ := z9.out; have y10_ := z10.out; have y11_ := z11.out; have y12_ := z12.out; have y13_ := z13.out; have y14_ := z14.out; have y15_ := z15.out; have y16_ := z16.out; have y17_ := z17.out; have y18_ := z18.out; have y19_ := z19.out; have y20_ := z20.out; have yhbxa_ := hbxa.out; have yhbxb_ := hbxb.out; first | omega | (exfalso; omega))))
  replace HB := Aside0.mk b21
  have z21 := Aside0.mk (k21).1
  have qg_ := Aside0.mk (Kd.S_reads' hg).1
  rw [qg_.out] at hg
  have n_ := Aside0.mk hg; clear hg; have hg := n_; clear n_
  clear b21 k21
  have t_ := trivial
  go_wp2_with (clear t_; go_at_call 33; refine (calls_of_args (by rw [qg_.out]) (laws_heldPackS.calls k _ _ m2l 1 q _ (Kd.S_reads' hg.out).2.2 (Kd.S_reads' hg.out).2.1 h9.out)).mono ?_; rintro e w22 ⟨rfl, b22⟩; replace b22 := Drawn0.below b22; (try clear zza_0 zza_1 zza_2 zza_3 zza_4 zza_5 zza_6 zza_7); obtain ⟨zza_0, zza_1, zza_2, zza_3, zza_4, zza_5, zza_6, zza_7⟩ := cz8 (blk_below bka.out b22); (try clear zzb_0 zzb_1 zzb_2 zzb_3 zzb_4 zzb_5 zzb_6 zzb_7); obtain ⟨zzb_0, zzb_1, zzb_2, zzb_3, zzb_4, zzb_5, zzb_6, zzb_7⟩ := cz8 (blk_below bkb.out b22))
  replace hw := Aside0.mk (Kd.S_below hw.out b22)
  replace hg := Aside0.mk (Kd.S_below hg.out b22)
  replace bka := Aside0.mk (blk_below bka.out b22)
  replace bkb := Aside0.mk (blk_below bkb.out b22)
  replace HB := Aside0.mk (HB.out.trans (Below.mono b22 HB.out.size))
  have z22 := Aside0.mk (Below.size b22)
  clear b22
  try go_wp2
  replace hw := Aside0.mk (Kd.S_drew hw.out)
  replace hg := Aside0.mk (Kd.S_drew hg.out)
  replace bka := Aside0.mk (blk_drew bka.out)
  replace bkb := Aside0.mk (blk_drew bkb.out)
  replace HB := Aside0.mk (below_drew1 HB.out)
  have z23 : Aside0 (w22.heap.size ≤ w22.drew.heap.size) := ⟨Nat.le_refl _⟩
  (try clear zza_0 zza_1 zza_2 zza_3 zza_4 zza_5 zza_6 zza_7 zzb_0 zzb_1 zzb_2 zzb_3 zzb_4 zzb_5 zzb_6 zzb_7)
  refine start_ (n := 6) (S := fun w' => w'.cell? ⟨bxa, 0, none⟩ = some (.int .i64 a1_0) ∧ w'.cell? ⟨bxa, 1, none⟩ = some (.int .i64 a1_1) ∧ w'.cell? ⟨bxa, 2, none⟩ = some (.int .i64 a1_2) ∧ w'.cell? ⟨bxa, 3, none⟩ = some (.int .i64 a1_3) ∧ w'.cell? ⟨bxa, 4, none⟩ = some (.int .i64 a1_4) ∧ w'.cell? ⟨bxa, 5, none⟩ = some (.bool a1_5) ∧ w'.cell? ⟨bxa, 6, none⟩ = some (.int .i64 a1_6) ∧ w'.cell? ⟨bxa, 7, none⟩ = some (.slice A1_7 l1_7.length c1_7)) (ds := []) #[oo,oo,oo,oo,oo,oo] (by kernel_rfl) rfl rfl (cz8 bka.out) (fun hHeld => ?_)
  generalize w22.drew = w23 at hw hg bka bkb HB z23 hHeld ⊢
  refine pure_ (i := 0) (N := some 75) (v := ?_) (a' := ?_) #[ii,oo,oo,oo,oo,oo] rfl rfl (by kernel_rfl) (fun _ _ _ h => h) (Or.inl ⟨by rfl, ?_⟩) ?_ ?_
  rotate_left
  ·
   intro w'
   go_simp
   with_reducible rfl
  rotate_left
  ·
   exact ap_
  refine take_ (i := 2) (N := some 77) (v := ?_) (a' := ?_) #[ii,oo,ii,oo,oo,oo] rfl rfl (by kernel_rfl) (fun _ _ _ h => h) (Or.inl ⟨by rfl, ?_⟩) hHeld ?_ ?_
  rotate_left
  ·
   rintro w' ⟨s0, s1, s2, s3, s4, s5, s6, s7⟩
   go_simp
   with_reducible rfl
  rotate_left
  ·
   exact ap_
  refine one_ (i := 1) (N := some 76) #[ii,ii,ii,oo,oo,oo] rfl rfl (by kernel_rfl) (by decide) (fun K hK => ?_)
  refine goes_ Try.func26 (by kernel_rfl) rfl #[.slice A0 l0.length c0] (by rfl) rfl rfl la_ ?_
  refine (laws_toPackS.calls k A0 c0 l0 xs _ (Kd.C_below hr0.out HB.out) hc0.out h2.out).mono ?_
  rintro e w24 ⟨vt, rfl, ht, b24⟩
  refine ⟨_, rfl, ?_⟩
  obtain ⟨At, ct, rfl⟩ := Kd.S_slice ht
  replace ht := Aside0.mk (S_iv ht)
  replace hw := Aside0.mk (Kd.S_below hw.out b24)
  replace hg := Aside0.mk (Kd.S_below hg.out b24)
  replace bka := Aside0.mk (blk_below bka.out b24)
  replace bkb := Aside0.mk (blk_below bkb.out b24)
  replace HB := Aside0.mk (HB.out.trans (Below.mono b24 HB.out.size))
  have z24 := Aside0.mk (Below.size b24)
  clear b24
  refine hK.out _ _ (cz8 bka.out) (fun hHeld => ?_)
  clear hK K
  refine norm_ (a' := ?_) ?_ ?_
  rotate_left
  ·
   show Act.put _ (some 76) _ = _
   exact ap_
  refine one_ (i := 3) (N := some 78) #[ii,ii,ii,ii,oo,oo] rfl rfl (by kernel_rfl) (by decide) (fun K hK => ?_)
  refine goes_ Try.func27 (by kernel_rfl) rfl #[.agg #[.int .i64 a1_0, .int .i64 a1_1, .int .i64 a1_2, .int .i64 a1_3, .int .i64 a1_4, .bool a1_5, .int .i64 a1_6, .slice A1_7 l1_7.length c1_7]] (by rfl) rfl rfl la_ ?_
  refine (laws_toCtl.calls k a1_0 a1_1 a1_2 a1_3 a1_4 a1_5 a1_6 A1_7 c1_7 l1_7 x0 x1 x2 x3 x4 x5 x6 xl _ (Kd.C_below hr1.out HB.out) hc1.out h14.out).mono ?_
  rintro e w25 ⟨vtc, rfl, htc, b25⟩
  refine ⟨_, rfl, ?_⟩
  obtain ⟨Atc, ctc, rfl⟩ := Kd.R_slice htc
  replace htc := Aside0.mk (R_iv htc)
  replace hw := Aside0.mk (Kd.S_below hw.out b25)
  replace hg := Aside0.mk (Kd.S_below hg.out b25)
  replace ht := Aside0.mk (Kd.S_below ht.out b25)
  replace bka := Aside0.mk (blk_below bka.out b25)
  replace bkb := Aside0.mk (blk_below bkb.out b25)
  replace HB := Aside0.mk (HB.out.trans (Below.mono b25 HB.out.size))
  have z25 := Aside0.mk (Below.size b25)
  clear b25
  refine hK.out _ _ (cz8 bka.out) (fun hHeld => ?_)
  clear hK K
  refine norm_ (a' := ?_) ?_ ?_
  rotate_left
  ·
   show Act.put _ (some 78) _ = _
   exact ap_
  refine one_ (i := 4) (N := some 79) #[ii,ii,ii,ii,ii,oo] rfl rfl (by kernel_rfl) (by decide) (fun K hK => ?_)
  refine goes_ Try.func28 (by kernel_rfl) rfl #[.slice At xs.length ct, .agg #[.int .i64 x0, .int .i64 x1, .int .i64 x2, .int .i64 x3, .int .i64 x4, .bool x5, .int .i64 x6, .slice Atc xl.length ctc]] (by rfl) rfl rfl la_ ?_
  refine (impl_Send.calls k _ _ xs x0 x1 x2 x3 x4 x5 x6 _ _ xl gs _ (Kd.S_reads' ht.out).2.2 (Kd.S_reads' ht.out).2.1 (Kd.R_reads' htc.out).2.2 (Kd.R_reads' htc.out).2.1 h4.out).mono ?_
  rintro e w26 ⟨vp, rfl, hp, b26⟩
  refine ⟨_, rfl, ?_⟩
  obtain ⟨Ap, cp, rfl⟩ := Kd.S_slice hp
  replace hp := Aside0.mk (S_iv hp)
  replace hw := Aside0.mk (Kd.S_below hw.out b26)
  replace hg := Aside0.mk (Kd.S_below hg.out b26)
  replace ht := Aside0.mk (Kd.S_below ht.out b26)
  replace htc := Aside0.mk (Kd.R_below htc.out b26)
  replace bka := Aside0.mk (blk_below bka.out b26)
  replace bkb := Aside0.mk (blk_below bkb.out b26)
  replace HB := Aside0.mk (HB.out.trans (Below.mono b26 HB.out.size))
  have z26 := Aside0.mk (Below.size b26)
  clear b26
  refine hK.out _ _ (cz8 bka.out) (fun hHeld => ?_)
  clear hK K
  refine norm_ (a' := ?_) ?_ ?_
  rotate_left
  ·
   show Act.put _ (some 79) _ = _
   exact ap_
  refine pure_ (i := 5) (N := some 13) (v := ?_) (a' := ?_) #[ii,ii,ii,ii,ii,ii] rfl rfl (by kernel_rfl) (fun _ _ _ h => h) (Or.inl ⟨by rfl, ?_⟩) ?_ ?_
  rotate_left
  ·
   intro w'
   go_simp
   with_reducible rfl
  rotate_left
  ·
   exact ap_
  refine done_ (by kernel_rfl) ?_
  clear hHeld
  obtain ⟨zza_0, zza_1, zza_2, zza_3, zza_4, zza_5, zza_6, zza_7⟩ := cz8 bka.out
  obtain ⟨zzb_0, zzb_1, zzb_2, zzb_3, zzb_4, zzb_5, zzb_6, zzb_7⟩ := cz8 bkb.out
  have t_ := trivial
  go_wp2_with (clear t_; go_at_call 29; refine (laws_eqPackS.calls k _ _ gs _ _ ws true _ (Kd.S_reads' hp.out).2.2 (Kd.S_reads' hp.out).2.1 (Kd.S_reads' hw.out).2.2 (Kd.S_reads' hw.out).2.1 ⟨rfl⟩ h5.out).mono ?_; rintro e w27 ⟨rfl, b27⟩; (try clear zza_0 zza_1 zza_2 zza_3 zza_4 zza_5 zza_6 zza_7); obtain ⟨zza_0, zza_1, zza_2, zza_3, zza_4, zza_5, zza_6, zza_7⟩ := cz8 (blk_below bka.out b27); (try clear zzb_0 zzb_1 zzb_2 zzb_3 zzb_4 zzb_5 zzb_6 zzb_7); obtain ⟨zzb_0, zzb_1, zzb_2, zzb_3, zzb_4, zzb_5, zzb_6, zzb_7⟩ := cz8 (blk_below bkb.out b27))
  replace hw := Aside0.mk (Kd.S_below hw.out b27)
  replace hg := Aside0.mk (Kd.S_below hg.out b27)
  replace ht := Aside0.mk (Kd.S_below ht.out b27)
  replace htc := Aside0.mk (Kd.R_below htc.out b27)
  replace hp := Aside0.mk (Kd.S_below hp.out b27)
  replace bka := Aside0.mk (blk_below bka.out b27)
  replace bkb := Aside0.mk (blk_below bkb.out b27)
  replace HB := Aside0.mk (HB.out.trans (Below.mono b27 HB.out.size))
  have z27 := Aside0.mk (Below.size b27)
  clear b27
  have t_ := trivial
  go_wp2_with (clear t_; go_at_call 33; refine (calls_of_args (by rw [qg_.out]) (laws_heldPackS.calls k _ _ m2l 1 q _ (Kd.S_reads' hg.out).2.2 (Kd.S_reads' hg.out).2.1 h9.out)).mono ?_; rintro e w28 ⟨rfl, b28⟩; replace b28 := Drawn0.below b28; (try clear zza_0 zza_1 zza_2 zza_3 zza_4 zza_5 zza_6 zza_7); obtain ⟨zza_0, zza_1, zza_2, zza_3, zza_4, zza_5, zza_6, zza_7⟩ := cz8 (blk_below bka.out b28); (try clear zzb_0 zzb_1 zzb_2 zzb_3 zzb_4 zzb_5 zzb_6 zzb_7); obtain ⟨zzb_0, zzb_1, zzb_2, zzb_3, zzb_4, zzb_5, zzb_6, zzb_7⟩ := cz8 (blk_below bkb.out b28))
  replace hw := Aside0.mk (Kd.S_below hw.out b28)
  replace hg := Aside0.mk (Kd.S_below hg.out b28)
  replace ht := Aside0.mk (Kd.S_below ht.out b28)
  replace htc := Aside0.mk (Kd.R_below htc.out b28)
  replace hp := Aside0.mk (Kd.S_below hp.out b28)
  replace bka := Aside0.mk (blk_below bka.out b28)
  replace bkb := Aside0.mk (blk_below bkb.out b28)
  replace HB := Aside0.mk (HB.out.trans (Below.mono b28 HB.out.size))
  have z28 := Aside0.mk (Below.size b28)
  clear b28
  go_ret
  exact ⟨rfl, HB.out⟩

end Go.Proofs.Ytiffahfpfgnjnab.PFnExactSend
