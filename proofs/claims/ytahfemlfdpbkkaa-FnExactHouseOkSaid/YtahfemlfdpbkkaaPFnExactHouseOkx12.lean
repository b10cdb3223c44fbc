-- Written by a program of this session (myprint.py, over the kit's print): contracts of FnExactHouseOk
import Derived.Test.YtahfemlfdpbkkaaPFnExactHouseOkx0
import Derived.Test.YtahfemlfdpbkkaaPFnExactHouseOkx3
import Derived.Test.YtahfemlfdpbkkaaPFnExactHouseOkx7
import Derived.Test.YtahfemlfdpbkkaaPFnExactHouseOkx8
namespace Go.Proofs.Ytahfemlfdpbkkaa.PFnExactHouseOk
open Go.RowKit Go.Proofs.YtahfemlfdpbkkaaW.PrintWords Go.Proofs.YtahfemlfdpbkkaaW.PrintLast Go.Proofs.YtahfemlfdpbkkaaW.PrintMore Go.Proofs.YtahfemlfdpbkkaaV
attribute [local go_sem] max2_int min2_int max_two min_two max_three min_three max_four min_four   -- for this text's walks alone
set_option linter.unusedVariables false
set_option linter.unusedSimpArgs false

attribute [local go_sem high] eqA65
/-! ### spec_l10NoHand: function 129 -/
def spec_l10NoHand.f (a0_0 : Int) (a0_1 : Int) (a0_2 : Int) (a0_3 : Int) : Option (Bool) := some (a0_0 == 0 && (a0_1 == 0 && (a0_2 == 0 && (a0_3 == 0))))
set_option maxHeartbeats 8000000 in
set_option maxRecDepth 100000 in
theorem spec_l10NoHand.calls (a0_0 : Int) (a0_1 : Int) (a0_2 : Int) (a0_3 : Int) (r : Bool) (w : World) (h : spec_l10NoHand.f a0_0 a0_1 a0_2 a0_3 = some r) :
  Calls Try.prog 129 #[.agg #[.int .i64 a0_0, .int .i64 a0_1, .int .i64 a0_2, .int .i64 a0_3]] w fun e w' => e = .returned (.bool r) ∧ Below w.heap.size w w' := by
 have hu65 := Try.underlying65
 have HB := Aside0.mk (Below.refl w.heap.size w)
 have H : (some (a0_0 == 0 && (a0_1 == 0 && (a0_2 == 0 && (a0_3 == 0))))) = some r := h
 clear h
 obtain rfl := Option.some.inj H
 go_enter Try.func129, Try.ntmps129
 go_wp2_with (first | ((with_reducible refine gate_dst (N := 1) rfl ?_); refine box_event ?hg (N := 1) ?hd (cs := #[.int .i64 a0_0, .int .i64 a0_1, .int .i64 a0_2, .int .i64 a0_3]) (t := 65) ?hr ?_; (case hd => rfl); (case hg => rfl); (case hr => first | (go_simp; done) | (go_simp; rfl)); intro gb233 hg w2 hbox hb; have BK233 := am_ (hbox); have GW233 := am_ ((gG_ hg (qB HB))); have IGW233 := gI_ GW233; have GE233 := am_ ((gG_ hg (qB HB))); have IGE233 := gI_ GE233; replace HB := am_ (below_step (qB HB) hb); clear hb hbox hg; obtain ⟨z3_0, z3_1, z3_2, z3_3⟩ := cz4 BK233.out; obtain ⟨f3_0, f3_1, f3_2, f3_3⟩ := fz4 BK233.out))
 go_ret
 exact ⟨by first | rfl | (simp [errW_none, errW_some] <;> rfl) | (simp [*, errW_none, errW_some] <;> rfl), qB HB⟩

/-! ### spec_l3Db: function 159 -/
def spec_l3Db.f (k : Nat) (a0_0 : ByteArray) (a0_1 : Int) (a0_2 : Int) (a0_3 : Int) (a0_4 : Int) : Option (Bool) := (spec_l1Name.f k a0_0).bind fun t235 => (if t235 = true then ((spec_l1In.f a0_1 1 3).bind fun t236 => (if t236 = true then ((spec_l1In.f a0_2 0 4).bind fun t237 => (if t237 = true then ((spec_l1In.f a0_3 1 20).bind fun t238 => (if t238 = true then ((spec_l1In.f a0_4 1 20).bind fun t239 => (some t239)) else (some false))) else (some false))) else (some false))) else (some false))
theorem spec_l3Db.mono : ∀ a0 a1 a2 a3 a4 k, LeO (spec_l3Db.f k a0 a1 a2 a3 a4) (spec_l3Db.f (k + 1) a0 a1 a2 a3 a4) := by
 intro a0 a1 a2 a3 a4 k
 unfold spec_l3Db.f
 repeat' first
   | (with_reducible exact spec_l1Name.mono _ _)
   | (with_reducible exact LeO.refl _)
   | (with_reducible exact LeO.none _)
   | (with_reducible refine LeO.ite ?_ ?_)
   | (with_reducible refine LeO.bind ?_ (fun _ => ?_))
   | exact spec_l1Name.mono _ _
   | exact LeO.none _
   | refine LeO.ite ?_ ?_
   | refine LeO.bind ?_ (fun _ => ?_)
set_option maxHeartbeats 8000000 in
set_option maxRecDepth 100000 in
theorem spec_l3Db.calls (k : Nat) (a0_0 : ByteArray) (a0_1 : Int) (a0_2 : Int) (a0_3 : Int) (a0_4 : Int) (r : Bool) (w : World) (h : spec_l3Db.f k a0_0 a0_1 a0_2 a0_3 a0_4 = some r) :
  Calls Try.prog 159 #[.agg #[.string a0_0, .int .i64 a0_1, .int .i64 a0_2, .int .i64 a0_3, .int .i64 a0_4]] w fun e w' => e = .returned (.bool r) ∧ Below w.heap.size w w' := by
 have hu125 := Try.underlying125
 have HB := Aside0.mk (Below.refl w.heap.size w)
 have H : ((spec_l1Name.f k a0_0).bind fun t235 => (if t235 = true then ((spec_l1In.f a0_1 1 3).bind fun t236 => (if t236 = true then ((spec_l1In.f a0_2 0 4).bind fun t237 => (if t237 = true then ((spec_l1In.f a0_3 1 20).bind fun t238 => (if t238 = true then ((spec_l1In.f a0_4 1 20).bind fun t239 => (some t239)) else (some false))) else (some false))) else (some false))) else (some false))) = some r := h
 clear h
 have HC2 := Aside0.mk H
 clear H
 go_enter Try.func159, Try.ntmps159
 go_upto_region 1 with (first | ((with_reducible refine gate_dst (N := 1) rfl ?_); refine box_event ?hg (N := 1) ?hd (cs := #[.string a0_0, .int .i64 a0_1, .int .i64 a0_2, .int .i64 a0_3, .int .i64 a0_4]) (t := 125) ?hr ?_; (case hd => rfl); (case hg => rfl); (case hr => first | (go_simp; done) | (go_simp; rfl)); intro gb234 hg w3 hbox hb; have BK234 := am_ (hbox); have GW234 := am_ ((gG_ hg (qB HB))); have IGW234 := gI_ GW234; have GE234 := am_ ((gG_ hg (qB HB))); have IGE234 := gI_ GE234; replace HB := am_ (below_step (qB HB) hb); clear hb hbox hg))
 (try simp only [Act.put, List.setIfInBounds_toArray, List.set_cons_zero, List.set_cons_succ])
 have H := HC2.out
 clear HC2
 obtain ⟨t235, A4, H⟩ := bd_ H
 by_cases c5 : t235 = true
 ·
  subst c5
  rw [if_pos rfl] at H
  obtain ⟨t236, A6, H⟩ := bd_ H
  by_cases c7 : t236 = true
  ·
   subst c7
   rw [if_pos rfl] at H
   obtain ⟨t237, A8, H⟩ := bd_ H
   by_cases c9 : t237 = true
   ·
    subst c9
    rw [if_pos rfl] at H
    obtain ⟨t238, A10, H⟩ := bd_ H
    by_cases c11 : t238 = true
    ·
     subst c11
     rw [if_pos rfl] at H
     obtain ⟨t239, A12, H⟩ := bd_ H
     obtain rfl := Option.some.inj H
     obtain ⟨z13_0, z13_1, z13_2, z13_3, z13_4⟩ := cz5 BK234.out
     obtain ⟨f13_0, f13_1, f13_2, f13_3, f13_4⟩ := fz5 BK234.out
     go_wp2_with (first | ((with_reducible refine gate_callee (f := 144) rfl ?_); refine goesL_ (some 5) rfl rfl Try.func144 (by kernel_rfl) rfl #[.string a0_0] rfl la_ ?_; (with_reducible refine (spec_l1Name.calls k a0_0 true _ A4.out).mono ?_); rintro e w' ⟨rfl, ⟨nd, rfl⟩⟩; refine ⟨_, rfl, ?_⟩) | (go_at_call 110; (with_reducible refine (spec_l1In.calls a0_1 1 3 true _ A6.out).mono ?_); rintro e w' ⟨rfl, ⟨nd, rfl⟩⟩) | (go_at_call 110; (with_reducible refine (spec_l1In.calls a0_2 0 4 true _ A8.out).mono ?_); rintro e w' ⟨rfl, ⟨nd, rfl⟩⟩) | (go_at_call 110; (with_reducible refine (spec_l1In.calls a0_3 1 20 true _ A10.out).mono ?_); rintro e w' ⟨rfl, ⟨nd, rfl⟩⟩) | (go_at_call 110; (with_reducible refine (spec_l1In.calls a0_4 1 20 t239 _ A12.out).mono ?_); rintro e w' ⟨rfl, ⟨nd, rfl⟩⟩))
     go_ret
     exact ⟨by first | rfl | (simp [errW_none, errW_some] <;> rfl) | (simp [*, errW_none, errW_some] <;> rfl), qB HB⟩
    ·
     replace c11 := Bool.eq_false_iff.mpr c11
     subst c11
     rw [if_neg (show ¬ (false = true) by decide)] at H
     obtain rfl := Option.some.inj H
     obtain ⟨z14_0, z14_1, z14_2, z14_3, z14_4⟩ := cz5 BK234.out
     obtain ⟨f14_0, f14_1, f14_2, f14_3, f14_4⟩ := fz5 BK234.out
     go_wp2_with (first | ((with_reducible refine gate_callee (f := 144) rfl ?_); refine goesL_ (some 5) rfl rfl Try.func144 (by kernel_rfl) rfl #[.string a0_0] rfl la_ ?_; (with_reducible refine (spec_l1Name.calls k a0_0 true _ A4.out).mono ?_); rintro e w' ⟨rfl, ⟨nd, rfl⟩⟩; refine ⟨_, rfl, ?_⟩) | (go_at_call 110; (with_reducible refine (spec_l1In.calls a0_1 1 3 true _ A6.out).mono ?_); rintro e w' ⟨rfl, ⟨nd, rfl⟩⟩) | (go_at_call 110; (with_reducible refine (spec_l1In.calls a0_2 0 4 true _ A8.out).mono ?_); rintro e w' ⟨rfl, ⟨nd, rfl⟩⟩) | (go_at_call 110; (with_reducible refine (spec_l1In.calls a0_3 1 20 false _ A10.out).mono ?_); rintro e w' ⟨rfl, ⟨nd, rfl⟩⟩))
     go_ret
     exact ⟨by first | rfl | (simp [errW_none, errW_some] <;> rfl) | (simp [*, errW_none, errW_some] <;> rfl), qB HB⟩
   ·
    replace c9 := Bool.eq_false_iff.mpr c9
    subst c9
    rw [if_neg (show ¬ (false = true) by decide)] at H
    obtain rfl := Option.some.inj H
    obtain ⟨z15_0, z15_1, z15_2, z15_3, z15_4⟩ := cz5 BK234.out
    obtain ⟨f15_0, f15_1, f15_2, f15_3, f15_4⟩ := fz5 BK234.out
    go_wp2_with (first | ((with_reducible refine gate_callee (f := 144) rfl ?_); refine goesL_ (some 5) rfl rfl Try.func144 (by kernel_rfl) rfl #[.string a0_0] rfl la_ ?_; (with_reducible refine (spec_l1Name.calls k a0_0 true _ A4.out).mono ?_); rintro e w' ⟨rfl, ⟨nd, rfl⟩⟩; refine ⟨_, rfl, ?_⟩) | (go_at_call 110; (with_reducible refine (spec_l1In.calls a0_1 1 3 true _ A6.out).mono ?_); rintro e w' ⟨rfl, ⟨nd, rfl⟩⟩) | (go_at_call 110; (with_reducible refine (spec_l1In.calls a0_2 0 4 false _ A8.out).mono ?_); rintro e w' ⟨rfl, ⟨nd, rfl⟩⟩))
    go_ret
    exact ⟨by first | rfl | (simp [errW_none, errW_some] <;> rfl) | (simp [*, errW_none, errW_some] <;> rfl), qB HB⟩
  ·
   replace c7 := Bool.eq_false_iff.mpr c7
   subst c7
   rw [if_neg (show ¬ (false = true) by decide)] at H
   obtain rfl := Option.some.inj H
   obtain ⟨z16_0, z16_1, z16_2, z16_3, z16_4⟩ := cz5 BK234.out
   obtain ⟨f16_0, f16_1, f16_2, f16_3, f16_4⟩ := fz5 BK234.out
   go_wp2_with (first | ((with_reducible refine gate_callee (f := 144) rfl ?_); refine goesL_ (some 5) rfl rfl Try.func144 (by kernel_rfl) rfl #[.string a0_0] rfl la_ ?_; (with_reducible refine (spec_l1Name.calls k a0_0 true _ A4.out).mono ?_); rintro e w' ⟨rfl, ⟨nd, rfl⟩⟩; refine ⟨_, rfl, ?_⟩) | (go_at_call 110; (with_reducible refine (spec_l1In.calls a0_1 1 3 false _ A6.out).mono ?_); rintro e w' ⟨rfl, ⟨nd, rfl⟩⟩))
   go_ret
   exact ⟨by first | rfl | (simp [errW_none, errW_some] <;> rfl) | (simp [*, errW_none, errW_some] <;> rfl), qB HB⟩
 ·
  replace c5 := Bool.eq_false_iff.mpr c5
  subst c5
  rw [if_neg (show ¬ (false = true) by decide)] at H
  obtain rfl := Option.some.inj H
  obtain ⟨z17_0, z17_1, z17_2, z17_3, z17_4⟩ := cz5 BK234.out
  obtain ⟨f17_0, f17_1, f17_2, f17_3, f17_4⟩ := fz5 BK234.out
  go_wp2_with (first | ((with_reducible refine gate_callee (f := 144) rfl ?_); refine goesL_ (some 5) rfl rfl Try.func144 (by kernel_rfl) rfl #[.string a0_0] rfl la_ ?_; (with_reducible refine (spec_l1Name.calls k a0_0 false _ A4.out).mono ?_); rintro e w' ⟨rfl, ⟨nd, rfl⟩⟩; refine ⟨_, rfl, ?_⟩))
  go_ret
  exact ⟨by first | rfl | (simp [errW_none, errW_some] <;> rfl) | (simp [*, errW_none, errW_some] <;> rfl), qB HB⟩

/-! ### spec_ConfOk: function 131 -/
mutual
def spec_ConfOk.l0 : Nat → List (S125) → Int → Option (Bool)
 | 0, _, _ => none
 | k + 1, x0, x3 => if x3 < (x0.length : Int) then (if 0 ≤ x3 then ((spec_l3Db.f k ((rd_T125 x0 x3).f0) ((rd_T125 x0 x3).f1) ((rd_T125 x0 x3).f2) ((rd_T125 x0 x3).f3) ((rd_T125 x0 x3).f4)).bind fun t242 => (if t242 = true then (spec_ConfOk.l1 k x0 x3 0) else (some false))) else (none)) else ((spec_l1In.f (x0.length : Int) 1 3).bind fun t240 => (some t240))
def spec_ConfOk.l1 : Nat → List (S125) → Int → Int → Option (Bool)
 | 0, _, _, _ => none
 | k + 1, x0, x3, x4 => if x4 < x3 then (if 0 ≤ x4 then (if x4 < (x0.length : Int) then (if 0 ≤ x3 then (if x3 < (x0.length : Int) then (if ((rd_T125 x0 x4).f0).toList = ((rd_T125 x0 x3).f0).toList then (some false) else (spec_ConfOk.l1 k x0 x3 (wrap64 (x4 + 1)))) else (none)) else (none)) else (none)) else (none)) else (spec_ConfOk.l0 k x0 (wrap64 (x3 + 1)))
end
def spec_ConfOk.f (k : Nat) (l0 : List (S125)) : Option (Bool) := spec_ConfOk.l0 k l0 0
theorem spec_ConfOk.mono_l : ∀ k, (∀ y0 y1, LeO (spec_ConfOk.l0 k y0 y1) (spec_ConfOk.l0 (k + 1) y0 y1)) ∧ (∀ y0 y1 y2, LeO (spec_ConfOk.l1 k y0 y1 y2) (spec_ConfOk.l1 (k + 1) y0 y1 y2))
 | 0 => ⟨fun _ _ r h => by simp [spec_ConfOk.l0] at h, fun _ _ _ r h => by simp [spec_ConfOk.l1] at h⟩
 | k + 1 => by
  obtain ⟨ih0, ih1⟩ := spec_ConfOk.mono_l k
  refine ⟨?_, ?_⟩
  ·
   intro y0 y1
   unfold spec_ConfOk.l0
   repeat' first
   | (with_reducible exact ih0 _ _)
   | (with_reducible exact ih1 _ _ _)
   | (with_reducible exact spec_l3Db.mono _ _ _ _ _ _)
   | (with_reducible exact LeO.refl _)
   | (with_reducible exact LeO.none _)
   | (with_reducible refine LeO.ite ?_ ?_)
   | (with_reducible refine LeO.bind ?_ (fun _ => ?_))
   | exact ih0 _ _
   | exact ih1 _ _ _
   | exact spec_l3Db.mono _ _ _ _ _ _
   | exact LeO.none _
   | refine LeO.ite ?_ ?_
   | refine LeO.bind ?_ (fun _ => ?_)
  ·
   intro y0 y1 y2
   unfold spec_ConfOk.l1
   repeat' first
   | (with_reducible exact ih0 _ _)
   | (with_reducible exact ih1 _ _ _)
   | (with_reducible exact spec_l3Db.mono _ _ _ _ _ _)
   | (with_reducible exact LeO.refl _)
   | (with_reducible exact LeO.none _)
   | (with_reducible refine LeO.ite ?_ ?_)
   | (with_reducible refine LeO.bind ?_ (fun _ => ?_))
   | exact ih0 _ _
   | exact ih1 _ _ _
   | exact spec_l3Db.mono _ _ _ _ _ _
   | exact LeO.none _
   | refine LeO.ite ?_ ?_
   | refine LeO.bind ?_ (fun _ => ?_)
theorem spec_ConfOk.mono : ∀ a0 k, LeO (spec_ConfOk.f k a0) (spec_ConfOk.f (k + 1) a0) := by
 intro a0 k
 obtain ⟨ih0, ih1⟩ := spec_ConfOk.mono_l k
 unfold spec_ConfOk.f
 repeat' first
   | (with_reducible exact ih0 _ _)
   | (with_reducible exact ih1 _ _ _)
   | (with_reducible exact spec_l3Db.mono _ _ _ _ _ _)
   | (with_reducible exact LeO.refl _)
   | (with_reducible exact LeO.none _)
   | (with_reducible refine LeO.ite ?_ ?_)
   | (with_reducible refine LeO.bind ?_ (fun _ => ?_))
   | exact ih0 _ _
   | exact ih1 _ _ _
   | exact spec_l3Db.mono _ _ _ _ _ _
   | exact LeO.none _
   | refine LeO.ite ?_ ?_
   | refine LeO.bind ?_ (fun _ => ?_)
set_option maxHeartbeats 8000000 in
set_option maxRecDepth 100000 in
theorem spec_ConfOk.calls (k : Nat) (A0 : Option Addr) (c0 : Nat) (l0 : List (S125)) (r : Bool) (w : World) (hr0 : Kd.C k125 w A0 l0.length l0) (hc0 : l0.length ≤ c0) (h : spec_ConfOk.f k l0 = some r) :
  Calls Try.prog 131 #[.slice A0 l0.length c0] w fun e w' => e = .returned (.bool r) ∧ Below w.heap.size w w' := by
 have hu125 := Try.underlying125
 have HR0 := Aside0.mk hr0
 have HC0 := Aside0.mk hc0
 clear hr0 hc0
 have HB := Aside0.mk (Below.refl w.heap.size w)
 have H : (spec_ConfOk.l0 k l0 0) = some r := h
 clear h
 have H' := Aside0.mk H
 clear H
 go_enter Try.func131, Try.ntmps131
 go_wp2
 repeat (go_quiet (fail); try go_wp2)
 go_loopg [3] k (fun kq v3 w' => ∃ (x3_1 : Int), v3 = .int .i64 x3_1 ∧ Aside0 (spec_ConfOk.l0 kq l0 x3_1 = some r) ∧ Aside0 (kq ≤ k) ∧ Aside0 (Below w.heap.size w w'))
 case atStart => exact ⟨(0), eqq_, H', ⟨Nat.le_refl _⟩, ⟨qB HB⟩⟩
 case round =>
  clear H'
  try clear c1
  obtain ⟨x3_1, rfl, HA, HK1, HB⟩ := hrel
  cases gk with
  | zero => exact absurd HA.out (by simp [spec_ConfOk.l0])
  | succ k1 =>
   have H := HA.out
   clear HA
   simp only [spec_ConfOk.l0] at H
   by_cases c2 : x3_1 < (l0.length : Int)
   ·
    rw [if_pos c2] at H
    have c2b0 : decide (x3_1 < (l0.length : Int)) = true := decide_eq_true c2
    clear c2
    by_cases c3 : 0 ≤ x3_1
    ·
     rw [if_pos c3] at H
     have c3b0 : decide (0 ≤ x3_1) = true := decide_eq_true c3
     clear c3
     obtain ⟨t242, A4, H⟩ := bd_ H
     have HC5 := Aside0.mk H
     clear H
     have p241 : 0 ≤ (x3_1 : Int) := od_
     have q241 : x3_1 < (l0.length : Int) := od_
     obtain ⟨ad241, e241, hx241_0, hx241_1, hx241_2, hx241_3, hx241_4⟩ := at_T125 HR0.out x3_1 p241 q241
     cases e241
     replace hx241_0 := lb_ HB hx241_0
     replace hx241_1 := lb_ HB hx241_1
     replace hx241_2 := lb_ HB hx241_2
     replace hx241_3 := lb_ HB hx241_3
     replace hx241_4 := lb_ HB hx241_4
     replace p241 := eq_true p241
     replace q241 := eq_true q241
     go_upto_if 16 with (first | (go_at_call 159; (with_reducible refine (spec_l3Db.calls k1 ((rd_T125 l0 x3_1).f0) ((rd_T125 l0 x3_1).f1) ((rd_T125 l0 x3_1).f2) ((rd_T125 l0 x3_1).f3) ((rd_T125 l0 x3_1).f4) t242 _ A4.out).mono ?_); rintro e w6 ⟨rfl, hb⟩; replace HB := am_ (below_step (qB HB) hb); (try clear hb); (try clear hb2); (try clear hk); (try clear hi)))
     repeat (go_quiet (first | (go_at_call 159; (with_reducible refine (spec_l3Db.calls k1 ((rd_T125 l0 x3_1).f0) ((rd_T125 l0 x3_1).f1) ((rd_T125 l0 x3_1).f2) ((rd_T125 l0 x3_1).f3) ((rd_T125 l0 x3_1).f4) t242 _ A4.out).mono ?_); rintro e w6 ⟨rfl, hb⟩; replace HB := am_ (below_step (qB HB) hb); (try clear hb); (try clear hb2); (try clear hk); (try clear hi))); go_upto_if 16 with (first | (go_at_call 159; (with_reducible refine (spec_l3Db.calls k1 ((rd_T125 l0 x3_1).f0) ((rd_T125 l0 x3_1).f1) ((rd_T125 l0 x3_1).f2) ((rd_T125 l0 x3_1).f3) ((rd_T125 l0 x3_1).f4) t242 _ A4.out).mono ?_); rintro e w6 ⟨rfl, hb⟩; replace HB := am_ (below_step (qB HB) hb); (try clear hb); (try clear hb2); (try clear hk); (try clear hi))))
     (try simp only [Act.put, List.setIfInBounds_toArray, List.set_cons_zero, List.set_cons_succ])
     have H := HC5.out
     clear HC5
     by_cases c7 : t242 = true
     ·
      subst c7
      rw [if_pos rfl] at H
      have H' := Aside0.mk H
      clear H
      go_wp2
      repeat (go_quiet (fail); try go_wp2)
      go_loopg [4] k1 (fun kq v4 w' => ∃ (x4_2 : Int), v4 = .int .i64 x4_2 ∧ Aside0 (spec_ConfOk.l1 kq l0 x3_1 x4_2 = some r) ∧ Aside0 (kq ≤ k1) ∧ Aside0 (Below w.heap.size w w'))
      case atStart => exact ⟨(0), eqq_, H', ⟨Nat.le_refl _⟩, ⟨qB HB⟩⟩
      case round =>
       clear H'
       try clear c1
       try clear c2
       try clear c2b0
       try clear p2
       try clear q2
       try clear hx2
       try clear c3
       try clear c3b0
       try clear c7
       try clear hx241_0
       try clear hx241_1
       try clear hx241_2
       try clear hx241_3
       try clear hx241_4
       try clear p241
       try clear q241
       obtain ⟨x4_2, rfl, HA, HK2, HB⟩ := hrel
       cases gk with
       | zero => exact absurd HA.out (by simp [spec_ConfOk.l1])
       | succ k2 =>
        have H := HA.out
        clear HA
        simp only [spec_ConfOk.l1] at H
        by_cases c8 : x4_2 < x3_1
        ·
         rw [if_pos c8] at H
         have c8b0 : decide (x4_2 < x3_1) = true := decide_eq_true c8
         clear c8
         (first | rw [c8b0] | (simp only [i64_w, i32_w]; rw [c8b0]) | skip)
         by_cases c9 : 0 ≤ x4_2
         ·
          rw [if_pos c9] at H
          have c9b0 : decide (0 ≤ x4_2) = true := decide_eq_true c9
          clear c9
          by_cases c10 : x4_2 < (l0.length : Int)
          ·
           rw [if_pos c10] at H
           have c10b0 : decide (x4_2 < (l0.length : Int)) = true := decide_eq_true c10
           clear c10
           by_cases c11 : 0 ≤ x3_1
           ·
            rw [if_pos c11] at H
            have c11b0 : decide (0 ≤ x3_1) = true := decide_eq_true c11
            clear c11
            by_cases c12 : x3_1 < (l0.length : Int)
            ·
             rw [if_pos c12] at H
             have c12b0 : decide (x3_1 < (l0.length : Int)) = true := decide_eq_true c12
             clear c12
             by_cases c13 : ((rd_T125 l0 x4_2).f0).toList = ((rd_T125 l0 x3_1).f0).toList
             ·
              rw [if_pos c13] at H
              have c13b0 : (((rd_T125 l0 x4_2).f0).toList == ((rd_T125 l0 x3_1).f0).toList) = true := beq_iff_eq.mpr c13
              have c13b1 : (((rd_T125 l0 x4_2).f0).toList != ((rd_T125 l0 x3_1).f0).toList) = false := bne_eq_false_iff_eq.mpr c13
              clear c13
              obtain rfl := Option.some.inj H
              have p243 : 0 ≤ (x4_2 : Int) := od_
              have q243 : x4_2 < (l0.length : Int) := od_
              obtain ⟨ad243, e243, hx243_0, hx243_1, hx243_2, hx243_3, hx243_4⟩ := at_T125 HR0.out x4_2 p243 q243
              obtain rfl : ad241 = ad243 := (by injection e243)
              replace hx243_0 := lb_ HB hx243_0
              replace hx243_1 := lb_ HB hx243_1
              replace hx243_2 := lb_ HB hx243_2
              replace hx243_3 := lb_ HB hx243_3
              replace hx243_4 := lb_ HB hx243_4
              replace p243 := eq_true p243
              replace q243 := eq_true q243
              have p244 : 0 ≤ (x3_1 : Int) := od_
              have q244 : x3_1 < (l0.length : Int) := od_
              obtain ⟨ad244, e244, hx244_0, hx244_1, hx244_2, hx244_3, hx244_4⟩ := at_T125 HR0.out x3_1 p244 q244
              obtain rfl : ad241 = ad244 := (by injection e244)
              replace hx244_0 := lb_ HB hx244_0
              replace hx244_1 := lb_ HB hx244_1
              replace hx244_2 := lb_ HB hx244_2
              replace hx244_3 := lb_ HB hx244_3
              replace hx244_4 := lb_ HB hx244_4
              replace p244 := eq_true p244
              replace q244 := eq_true q244
              go_wp2
              repeat (go_quiet (fail); try go_wp2)
              go_ret
              exact ⟨by first | rfl | (simp [errW_none, errW_some] <;> rfl) | (simp [*, errW_none, errW_some] <;> rfl), qB HB⟩
             ·
              rw [if_neg c13] at H
              have c13b0 : (((rd_T125 l0 x4_2).f0).toList == ((rd_T125 l0 x3_1).f0).toList) = false := beq_eq_false_iff_ne.mpr c13
              have c13b1 : (((rd_T125 l0 x4_2).f0).toList != ((rd_T125 l0 x3_1).f0).toList) = true := bne_iff_ne.mpr c13
              have H' := Aside0.mk H
              clear H
              have p243 : 0 ≤ (x4_2 : Int) := od_
              have q243 : x4_2 < (l0.length : Int) := od_
              obtain ⟨ad243, e243, hx243_0, hx243_1, hx243_2, hx243_3, hx243_4⟩ := at_T125 HR0.out x4_2 p243 q243
              obtain rfl : ad241 = ad243 := (by injection e243)
              replace hx243_0 := lb_ HB hx243_0
              replace hx243_1 := lb_ HB hx243_1
              replace hx243_2 := lb_ HB hx243_2
              replace hx243_3 := lb_ HB hx243_3
              replace hx243_4 := lb_ HB hx243_4
              replace p243 := eq_true p243
              replace q243 := eq_true q243
              have p244 : 0 ≤ (x3_1 : Int) := od_
              have q244 : x3_1 < (l0.length : Int) := od_
              obtain ⟨ad244, e244, hx244_0, hx244_1, hx244_2, hx244_3, hx244_4⟩ := at_T125 HR0.out x3_1 p244 q244
              obtain rfl : ad241 = ad244 := (by injection e244)
              replace hx244_0 := lb_ HB hx244_0
              replace hx244_1 := lb_ HB hx244_1
              replace hx244_2 := lb_ HB hx244_2
              replace hx244_3 := lb_ HB hx244_3
              replace hx244_4 := lb_ HB hx244_4
              replace p244 := eq_true p244
              replace q244 := eq_true q244
              go_wp2
              repeat (go_quiet (fail); try go_wp2)
              go_roundg k2
              case measure => have := HK1.out; have := HK2.out; omega
              case rel => exact ⟨(wrap64 (x4_2 + 1)), eqq_, H', ⟨by have := HK1.out; have := HK2.out; omega⟩, ⟨qB HB⟩⟩
            ·
             rw [if_neg c12] at H
             exact absurd H (by simp)
           ·
            rw [if_neg c11] at H
            exact absurd H (by simp)
          ·
           rw [if_neg c10] at H
           exact absurd H (by simp)
         ·
          rw [if_neg c9] at H
          exact absurd H (by simp)
        ·
         rw [if_neg c8] at H
         have c8b0 : decide (x4_2 < x3_1) = false := decide_eq_false c8
         clear c8
         (first | rw [c8b0] | (simp only [i64_w, i32_w]; rw [c8b0]) | skip)
         have H' := Aside0.mk H
         clear H
         go_wp2
         repeat (go_quiet (fail); try go_wp2)
         go_roundg k2
         case measure => have := HK1.out; have := HK2.out; omega
         case rel => exact ⟨(wrap64 (x3_1 + 1)), eqq_, H', ⟨by have := HK1.out; have := HK2.out; omega⟩, ⟨qB HB⟩⟩
     ·
      replace c7 := Bool.eq_false_iff.mpr c7
      subst c7
      rw [if_neg (show ¬ (false = true) by decide)] at H
      obtain rfl := Option.some.inj H
      go_wp2
      repeat (go_quiet (fail); try go_wp2)
      go_ret
      exact ⟨by first | rfl | (simp [errW_none, errW_some] <;> rfl) | (simp [*, errW_none, errW_some] <;> rfl), qB HB⟩
    ·
     rw [if_neg c3] at H
     exact absurd H (by simp)
   ·
    rw [if_neg c2] at H
    have c2b0 : decide (x3_1 < (l0.length : Int)) = false := decide_eq_false c2
    clear c2
    obtain ⟨t240, A14, H⟩ := bd_ H
    obtain rfl := Option.some.inj H
    go_wp2_with (first | (go_at_call 110; (with_reducible refine (spec_l1In.calls (l0.length : Int) 1 3 t240 _ A14.out).mono ?_); rintro e w' ⟨rfl, ⟨nd, rfl⟩⟩; (try first | exact ⟨rfl, _, World.drewN_drewN _ _ _⟩ | exact ⟨rfl, _, Eq.trans (World.drewN_drewN _ _ _) (congrArg (World.drewN _) (Nat.add_assoc _ _ _))⟩)))
    repeat (go_quiet (first | (go_at_call 110; (with_reducible refine (spec_l1In.calls (l0.length : Int) 1 3 t240 _ A14.out).mono ?_); rintro e w' ⟨rfl, ⟨nd, rfl⟩⟩; (try first | exact ⟨rfl, _, World.drewN_drewN _ _ _⟩ | exact ⟨rfl, _, Eq.trans (World.drewN_drewN _ _ _) (congrArg (World.drewN _) (Nat.add_assoc _ _ _))⟩))); try go_wp2_with (first | (go_at_call 110; (with_reducible refine (spec_l1In.calls (l0.length : Int) 1 3 t240 _ A14.out).mono ?_); rintro e w' ⟨rfl, ⟨nd, rfl⟩⟩; (try first | exact ⟨rfl, _, World.drewN_drewN _ _ _⟩ | exact ⟨rfl, _, Eq.trans (World.drewN_drewN _ _ _) (congrArg (World.drewN _) (Nat.add_assoc _ _ _))⟩))))
    go_ret
    exact ⟨by first | rfl | (simp [errW_none, errW_some] <;> rfl) | (simp [*, errW_none, errW_some] <;> rfl), qB HB⟩

/-! ### spec_l10Lent: function 160 -/
def spec_l10Lent.f (a0_0 : Int) (a0_1 : ByteArray) (a0_2 : Int) (a0_3 : Int) (a0_4 : Int) (a0_5 : ByteArray) (a0_6 : Int) (a0_7 : Int) (a1_0 : Int) (a1_1 : ByteArray) (a1_2 : Int) (a1_3 : Int) (a1_4 : Int) (a1_5 : Int) (a1_6 : Int) : Option (Bool) := if a0_6 = a1_0 then (if a1_5 = a0_0 then (if a0_7 = a1_6 then (if a0_1.toList = a1_1.toList then (if a0_2 = 3 then (if a1_3 = 1 then (some true) else (if a0_2 = 4 then (some (a1_3 == 2)) else (some false))) else (if a0_2 = 4 then (some (a1_3 == 2)) else (some false))) else (some false)) else (some false)) else (some false)) else (some false)
set_option maxHeartbeats 8000000 in
set_option maxRecDepth 100000 in
theorem spec_l10Lent.calls (a0_0 : Int) (a0_1 : ByteArray) (a0_2 : Int) (a0_3 : Int) (a0_4 : Int) (a0_5 : ByteArray) (a0_6 : Int) (a0_7 : Int) (a1_0 : Int) (a1_1 : ByteArray) (a1_2 : Int) (a1_3 : Int) (a1_4 : Int) (a1_5 : Int) (a1_6 : Int) (r : Bool) (w : World) (h : spec_l10Lent.f a0_0 a0_1 a0_2 a0_3 a0_4 a0_5 a0_6 a0_7 a1_0 a1_1 a1_2 a1_3 a1_4 a1_5 a1_6 = some r) :
  Calls Try.prog 160 #[.agg #[.int .i64 a0_0, .string a0_1, .int .i64 a0_2, .int .i64 a0_3, .int .i64 a0_4, .string a0_5, .int .i64 a0_6, .int .i64 a0_7], .agg #[.int .i64 a1_0, .string a1_1, .int .i64 a1_2, .int .i64 a1_3, .int .i64 a1_4, .int .i64 a1_5, .int .i64 a1_6]] w fun e w' => e = .returned (.bool r) ∧ Below w.heap.size w w' := by
 have hu45 := Try.underlying45
 have hu46 := Try.underlying46
 have HB := Aside0.mk (Below.refl w.heap.size w)
 have H : (if a0_6 = a1_0 then (if a1_5 = a0_0 then (if a0_7 = a1_6 then (if a0_1.toList = a1_1.toList then (if a0_2 = 3 then (if a1_3 = 1 then (some true) else (if a0_2 = 4 then (some (a1_3 == 2)) else (some false))) else (if a0_2 = 4 then (some (a1_3 == 2)) else (some false))) else (some false)) else (some false)) else (some false)) else (some false)) = some r := h
 clear h
 have HC3 := Aside0.mk H
 clear H
 go_enter Try.func160, Try.ntmps160
 go_upto_region 1 with (first | ((with_reducible refine gate_dst (N := 2) rfl ?_); refine box_event ?hg (N := 2) ?hd (cs := #[.int .i64 a0_0, .string a0_1, .int .i64 a0_2, .int .i64 a0_3, .int .i64 a0_4, .string a0_5, .int .i64 a0_6, .int .i64 a0_7]) (t := 45) ?hr ?_; (case hd => rfl); (case hg => rfl); (case hr => first | (go_simp; done) | (go_simp; rfl)); intro gb245 hg w4 hbox hb; have BK245 := am_ (hbox); have GW245 := am_ ((gG_ hg (qB HB))); have IGW245 := gI_ GW245; have GE245 := am_ ((gG_ hg (qB HB))); have IGE245 := gI_ GE245; replace HB := am_ (below_step (qB HB) hb); clear hb hbox hg) | ((with_reducible refine gate_dst (N := 3) rfl ?_); refine box_event ?hg (N := 3) ?hd (cs := #[.int .i64 a1_0, .string a1_1, .int .i64 a1_2, .int .i64 a1_3, .int .i64 a1_4, .int .i64 a1_5, .int .i64 a1_6]) (t := 46) ?hr ?_; (case hd => rfl); (case hg => rfl); (case hr => first | (go_simp; done) | (go_simp; rfl)); intro gb246 hg w5 hbox hb; have BK246 := am_ (hbox); have GW246 := am_ ((gG_ hg (qB HB))); have IGW246 := gI_ GW246; have GE246 := am_ ((gG_ hg (qB HB))); have IGE246 := gI_ GE246; replace HB := am_ (below_step (qB HB) hb); have NB245_246 := am_ ((gN_ hg (qK BK245))); have NB246_245 := am_ ((gM_ hg (qK BK245))); replace BK245 := am_ (blk_below (qK BK245) hb); clear hb hbox hg))
 (try simp only [Act.put, List.setIfInBounds_toArray, List.set_cons_zero, List.set_cons_succ])
 have H := HC3.out
 clear HC3
 by_cases c6 : a0_6 = a1_0
 ·
  rw [if_pos c6] at H
  have c6b0 : (a0_6 == a1_0) = true := beq_iff_eq.mpr c6
  have c6b1 : (a0_6 != a1_0) = false := bne_eq_false_iff_eq.mpr c6
  clear c6
  by_cases c7 : a1_5 = a0_0
  ·
   rw [if_pos c7] at H
   have c7b0 : (a1_5 == a0_0) = true := beq_iff_eq.mpr c7
   have c7b1 : (a1_5 != a0_0) = false := bne_eq_false_iff_eq.mpr c7
   clear c7
   by_cases c8 : a0_7 = a1_6
   ·
    rw [if_pos c8] at H
    have c8b0 : (a0_7 == a1_6) = true := beq_iff_eq.mpr c8
    have c8b1 : (a0_7 != a1_6) = false := bne_eq_false_iff_eq.mpr c8
    clear c8
    by_cases c9 : a0_1.toList = a1_1.toList
    ·
     rw [if_pos c9] at H
     have c9b0 : (a0_1.toList == a1_1.toList) = true := beq_iff_eq.mpr c9
     have c9b1 : (a0_1.toList != a1_1.toList) = false := bne_eq_false_iff_eq.mpr c9
     clear c9
     by_cases c10 : a0_2 = 3
     ·
      rw [if_pos c10] at H
      have c10b0 : (a0_2 == 3) = true := beq_iff_eq.mpr c10
      have c10b1 : (a0_2 != 3) = false := bne_eq_false_iff_eq.mpr c10
      clear c10
      by_cases c11 : a1_3 = 1
      ·
       rw [if_pos c11] at H
       have c11b0 : (a1_3 == 1) = true := beq_iff_eq.mpr c11
       have c11b1 : (a1_3 != 1) = false := bne_eq_false_iff_eq.mpr c11
       clear c11
       obtain rfl := Option.some.inj H
       have hnb12 := NB245_246.out
       have hnc12 := NB246_245.out
       obtain ⟨z13_0, z13_1, z13_2, z13_3, z13_4, z13_5, z13_6, z13_7⟩ := cz8 BK245.out
       obtain ⟨f13_0, f13_1, f13_2, f13_3, f13_4, f13_5, f13_6, f13_7⟩ := fz8 BK245.out
       obtain ⟨z14_0, z14_1, z14_2, z14_3, z14_4, z14_5, z14_6⟩ := cz7 BK246.out
       obtain ⟨f14_0, f14_1, f14_2, f14_3, f14_4, f14_5, f14_6⟩ := fz7 BK246.out
       go_wp2
       go_ret
       exact ⟨by first | rfl | (simp [errW_none, errW_some] <;> rfl) | (simp [*, errW_none, errW_some] <;> rfl), qB HB⟩
      ·
       rw [if_neg c11] at H
       have c11b0 : (a1_3 == 1) = false := beq_eq_false_iff_ne.mpr c11
       have c11b1 : (a1_3 != 1) = true := bne_iff_ne.mpr c11
       by_cases c15 : a0_2 = 4
       ·
        rw [if_pos c15] at H
        have c15b0 : (a0_2 == 4) = true := beq_iff_eq.mpr c15
        have c15b1 : (a0_2 != 4) = false := bne_eq_false_iff_eq.mpr c15
        clear c15
        obtain rfl := Option.some.inj H
        have hnb16 := NB245_246.out
        have hnc16 := NB246_245.out
        obtain ⟨z17_0, z17_1, z17_2, z17_3, z17_4, z17_5, z17_6, z17_7⟩ := cz8 BK245.out
        obtain ⟨f17_0, f17_1, f17_2, f17_3, f17_4, f17_5, f17_6, f17_7⟩ := fz8 BK245.out
        obtain ⟨z18_0, z18_1, z18_2, z18_3, z18_4, z18_5, z18_6⟩ := cz7 BK246.out
        obtain ⟨f18_0, f18_1, f18_2, f18_3, f18_4, f18_5, f18_6⟩ := fz7 BK246.out
        go_wp2
        go_ret
        exact ⟨by first | rfl | (simp [errW_none, errW_some] <;> rfl) | (simp [*, errW_none, errW_some] <;> rfl), qB HB⟩
       ·
        rw [if_neg c15] at H
        have c15b0 : (a0_2 == 4) = false := beq_eq_false_iff_ne.mpr c15
        have c15b1 : (a0_2 != 4) = true := bne_iff_ne.mpr c15
        obtain rfl := Option.some.inj H
        have hnb19 := NB245_246.out
        have hnc19 := NB246_245.out
        obtain ⟨z20_0, z20_1, z20_2, z20_3, z20_4, z20_5, z20_6, z20_7⟩ := cz8 BK245.out
        obtain ⟨f20_0, f20_1, f20_2, f20_3, f20_4, f20_5, f20_6, f20_7⟩ := fz8 BK245.out
        obtain ⟨z21_0, z21_1, z21_2, z21_3, z21_4, z21_5, z21_6⟩ := cz7 BK246.out
        obtain ⟨f21_0, f21_1, f21_2, f21_3, f21_4, f21_5, f21_6⟩ := fz7 BK246.out
        go_wp2
        go_ret
        exact ⟨by first | rfl | (simp [errW_none, errW_some] <;> rfl) | (simp [*, errW_none, errW_some] <;> rfl), qB HB⟩
     ·
      rw [if_neg c10] at H
      have c10b0 : (a0_2 == 3) = false := beq_eq_false_iff_ne.mpr c10
      have c10b1 : (a0_2 != 3) = true := bne_iff_ne.mpr c10
      by_cases c22 : a0_2 = 4
      ·
       rw [if_pos c22] at H
       have c22b0 : (a0_2 == 4) = true := beq_iff_eq.mpr c22
       have c22b1 : (a0_2 != 4) = false := bne_eq_false_iff_eq.mpr c22
       clear c22
       obtain rfl := Option.some.inj H
       have hnb23 := NB245_246.out
       have hnc23 := NB246_245.out
       obtain ⟨z24_0, z24_1, z24_2, z24_3, z24_4, z24_5, z24_6, z24_7⟩ := cz8 BK245.out
       obtain ⟨f24_0, f24_1, f24_2, f24_3, f24_4, f24_5, f24_6, f24_7⟩ := fz8 BK245.out
       obtain ⟨z25_0, z25_1, z25_2, z25_3, z25_4, z25_5, z25_6⟩ := cz7 BK246.out
       obtain ⟨f25_0, f25_1, f25_2, f25_3, f25_4, f25_5, f25_6⟩ := fz7 BK246.out
       go_wp2
       go_ret
       exact ⟨by first | rfl | (simp [errW_none, errW_some] <;> rfl) | (simp [*, errW_none, errW_some] <;> rfl), qB HB⟩
      ·
       rw [if_neg c22] at H
       have c22b0 : (a0_2 == 4) = false := beq_eq_false_iff_ne.mpr c22
       have c22b1 : (a0_2 != 4) = true := bne_iff_ne.mpr c22
       obtain rfl := Option.some.inj H
       have hnb26 := NB245_246.out
       have hnc26 := NB246_245.out
       obtain ⟨z27_0, z27_1, z27_2, z27_3, z27_4, z27_5, z27_6, z27_7⟩ := cz8 BK245.out
       obtain ⟨f27_0, f27_1, f27_2, f27_3, f27_4, f27_5, f27_6, f27_7⟩ := fz8 BK245.out
       obtain ⟨z28_0, z28_1, z28_2, z28_3, z28_4, z28_5, z28_6⟩ := cz7 BK246.out
       obtain ⟨f28_0, f28_1, f28_2, f28_3, f28_4, f28_5, f28_6⟩ := fz7 BK246.out
       go_wp2
       go_ret
       exact ⟨by first | rfl | (simp [errW_none, errW_some] <;> rfl) | (simp [*, errW_none, errW_some] <;> rfl), qB HB⟩
    ·
     rw [if_neg c9] at H
     have c9b0 : (a0_1.toList == a1_1.toList) = false := beq_eq_false_iff_ne.mpr c9
     have c9b1 : (a0_1.toList != a1_1.toList) = true := bne_iff_ne.mpr c9
     obtain rfl := Option.some.inj H
     have hnb29 := NB245_246.out
     have hnc29 := NB246_245.out
     obtain ⟨z30_0, z30_1, z30_2, z30_3, z30_4, z30_5, z30_6, z30_7⟩ := cz8 BK245.out
     obtain ⟨f30_0, f30_1, f30_2, f30_3, f30_4, f30_5, f30_6, f30_7⟩ := fz8 BK245.out
     obtain ⟨z31_0, z31_1, z31_2, z31_3, z31_4, z31_5, z31_6⟩ := cz7 BK246.out
     obtain ⟨f31_0, f31_1, f31_2, f31_3, f31_4, f31_5, f31_6⟩ := fz7 BK246.out
     go_wp2
     go_ret
     exact ⟨by first | rfl | (simp [errW_none, errW_some] <;> rfl) | (simp [*, errW_none, errW_some] <;> rfl), qB HB⟩
   ·
    rw [if_neg c8] at H
    have c8b0 : (a0_7 == a1_6) = false := beq_eq_false_iff_ne.mpr c8
    have c8b1 : (a0_7 != a1_6) = true := bne_iff_ne.mpr c8
    obtain rfl := Option.some.inj H
    have hnb32 := NB245_246.out
    have hnc32 := NB246_245.out
    obtain ⟨z33_0, z33_1, z33_2, z33_3, z33_4, z33_5, z33_6, z33_7⟩ := cz8 BK245.out
    obtain ⟨f33_0, f33_1, f33_2, f33_3, f33_4, f33_5, f33_6, f33_7⟩ := fz8 BK245.out
    obtain ⟨z34_0, z34_1, z34_2, z34_3, z34_4, z34_5, z34_6⟩ := cz7 BK246.out
    obtain ⟨f34_0, f34_1, f34_2, f34_3, f34_4, f34_5, f34_6⟩ := fz7 BK246.out
    go_wp2
    go_ret
    exact ⟨by first | rfl | (simp [errW_none, errW_some] <;> rfl) | (simp [*, errW_none, errW_some] <;> rfl), qB HB⟩
  ·
   rw [if_neg c7] at H
   have c7b0 : (a1_5 == a0_0) = false := beq_eq_false_iff_ne.mpr c7
   have c7b1 : (a1_5 != a0_0) = true := bne_iff_ne.mpr c7
   obtain rfl := Option.some.inj H
   have hnb35 := NB245_246.out
   have hnc35 := NB246_245.out
   obtain ⟨z36_0, z36_1, z36_2, z36_3, z36_4, z36_5, z36_6, z36_7⟩ := cz8 BK245.out
   obtain ⟨f36_0, f36_1, f36_2, f36_3, f36_4, f36_5, f36_6, f36_7⟩ := fz8 BK245.out
   obtain ⟨z37_0, z37_1, z37_2, z37_3, z37_4, z37_5, z37_6⟩ := cz7 BK246.out
   obtain ⟨f37_0, f37_1, f37_2, f37_3, f37_4, f37_5, f37_6⟩ := fz7 BK246.out
   go_wp2
   go_ret
   exact ⟨by first | rfl | (simp [errW_none, errW_some] <;> rfl) | (simp [*, errW_none, errW_some] <;> rfl), qB HB⟩
 ·
  rw [if_neg c6] at H
  have c6b0 : (a0_6 == a1_0) = false := beq_eq_false_iff_ne.mpr c6
  have c6b1 : (a0_6 != a1_0) = true := bne_iff_ne.mpr c6
  obtain rfl := Option.some.inj H
  have hnb38 := NB245_246.out
  have hnc38 := NB246_245.out
  obtain ⟨z39_0, z39_1, z39_2, z39_3, z39_4, z39_5, z39_6, z39_7⟩ := cz8 BK245.out
  obtain ⟨f39_0, f39_1, f39_2, f39_3, f39_4, f39_5, f39_6, f39_7⟩ := fz8 BK245.out
  obtain ⟨z40_0, z40_1, z40_2, z40_3, z40_4, z40_5, z40_6⟩ := cz7 BK246.out
  obtain ⟨f40_0, f40_1, f40_2, f40_3, f40_4, f40_5, f40_6⟩ := fz7 BK246.out
  go_wp2
  go_ret
  exact ⟨by first | rfl | (simp [errW_none, errW_some] <;> rfl) | (simp [*, errW_none, errW_some] <;> rfl), qB HB⟩

end Go.Proofs.Ytahfemlfdpbkkaa.PFnExactHouseOk
