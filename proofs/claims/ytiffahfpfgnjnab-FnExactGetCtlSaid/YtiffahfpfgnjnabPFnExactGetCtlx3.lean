-- Written by a program of this session (myprint.py, over the kit's print): contracts of FnExactGetCtl
import Derived.Test.YtiffahfpfgnjnabPFnExactGetCtlx0
namespace Go.Proofs.Ytiffahfpfgnjnab.PFnExactGetCtl
open Go.RowKit Go.Proofs.YtiffahfpfgnjnabW.PrintWords Go.Proofs.YtiffahfpfgnjnabW.PrintLast Go.Proofs.YtiffahfpfgnjnabW.PrintMore Go.Proofs.YtiffahfpfgnjnabV
attribute [local go_sem] max2_int min2_int max_two min_two max_three min_three max_four min_four   -- for this text's walks alone
set_option linter.unusedVariables false
set_option linter.unusedSimpArgs false

/-! ### laws_eqAsker: function 100 -/
def laws_eqAsker.f (a0_0 : Int) (a0_1 : ByteArray) (a0_2 : Int) (a0_3 : Int) (a0_4 : Int) (a0_5 : ByteArray) (a0_6 : Int) (a0_7 : Int) (a1_0 : Int) (a1_1 : ByteArray) (a1_2 : Int) (a1_3 : Int) (a1_4 : Int) (a1_5 : ByteArray) (a1_6 : Int) (a1_7 : Int) : Option (Bool) := if a0_0 = a1_0 then (if a0_1.toList = a1_1.toList then (if a0_2 = a1_2 then (if a0_3 = a1_3 then (if a0_4 = a1_4 then (if a0_5.toList = a1_5.toList then (if a0_6 = a1_6 then (if a0_7 = a1_7 then (some true) else (some false)) else (some false)) else (some false)) else (some false)) else (some false)) else (some false)) else (some false)) else (some false)
set_option maxHeartbeats 8000000 in
set_option maxRecDepth 100000 in
theorem laws_eqAsker.calls (a0_0 : Int) (a0_1 : ByteArray) (a0_2 : Int) (a0_3 : Int) (a0_4 : Int) (a0_5 : ByteArray) (a0_6 : Int) (a0_7 : Int) (a1_0 : Int) (a1_1 : ByteArray) (a1_2 : Int) (a1_3 : Int) (a1_4 : Int) (a1_5 : ByteArray) (a1_6 : Int) (a1_7 : Int) (r : Bool) (w : World) (hr_ : Aside0 (r = true)) (h : laws_eqAsker.f a0_0 a0_1 a0_2 a0_3 a0_4 a0_5 a0_6 a0_7 a1_0 a1_1 a1_2 a1_3 a1_4 a1_5 a1_6 a1_7 = some r) :
  Calls Try.prog 100 #[.agg #[.int .i64 a0_0, .string a0_1, .int .i64 a0_2, .int .i64 a0_3, .int .i64 a0_4, .string a0_5, .int .i64 a0_6, .int .i64 a0_7], .agg #[.int .i64 a1_0, .string a1_1, .int .i64 a1_2, .int .i64 a1_3, .int .i64 a1_4, .string a1_5, .int .i64 a1_6, .int .i64 a1_7]] w fun e w' => e = .returned (.bool r) ∧ Below w.heap.size w w' := by
 have hu90 := Try.underlying90
 have HB := Aside0.mk (Below.refl w.heap.size w)
 have H := h
 unfold laws_eqAsker.f at H
 clear h
 replace H := ie_ H
 obtain ⟨-, H, c3b0, c3b1⟩ | ⟨c3, H, c3b0, c3b1⟩ := H
 rotate_left
 ·
  exact absurd (hr_.out ▸ H) (by simp)
 replace H := ie_ H
 obtain ⟨-, H, c4b0, c4b1⟩ | ⟨c4, H, c4b0, c4b1⟩ := H
 rotate_left
 ·
  exact absurd (hr_.out ▸ H) (by simp)
 replace H := ie_ H
 obtain ⟨-, H, c5b0, c5b1⟩ | ⟨c5, H, c5b0, c5b1⟩ := H
 rotate_left
 ·
  exact absurd (hr_.out ▸ H) (by simp)
 replace H := ie_ H
 obtain ⟨-, H, c6b0, c6b1⟩ | ⟨c6, H, c6b0, c6b1⟩ := H
 rotate_left
 ·
  exact absurd (hr_.out ▸ H) (by simp)
 replace H := ie_ H
 obtain ⟨-, H, c7b0, c7b1⟩ | ⟨c7, H, c7b0, c7b1⟩ := H
 rotate_left
 ·
  exact absurd (hr_.out ▸ H) (by simp)
 replace H := ie_ H
 obtain ⟨-, H, c8b0, c8b1⟩ | ⟨c8, H, c8b0, c8b1⟩ := H
 rotate_left
 ·
  exact absurd (hr_.out ▸ H) (by simp)
 replace H := ie_ H
 obtain ⟨-, H, c9b0, c9b1⟩ | ⟨c9, H, c9b0, c9b1⟩ := H
 rotate_left
 ·
  exact absurd (hr_.out ▸ H) (by simp)
 replace H := ie_ H
 obtain ⟨-, H, c10b0, c10b1⟩ | ⟨c10, H, c10b0, c10b1⟩ := H
 rotate_left
 ·
  exact absurd (hr_.out ▸ H) (by simp)
 obtain rfl := Option.some.inj H
 go_enter Try.func100, Try.ntmps100
 go_wp2_with (first | ((with_reducible refine gate_dst (N := 2) rfl ?_); refine bx_ (N := 2) (cs := #[.int .i64 a0_0, .string a0_1, .int .i64 a0_2, .int .i64 a0_3, .int .i64 a0_4, .string a0_5, .int .i64 a0_6, .int .i64 a0_7]) (t := 90) ?_; intro gb101 hg w11 hbox hb; have BK101 := am_ (hbox); have GW101 := gA_ hg HB; have GE101 := GW101; have IGE101 := gI_ GE101; replace HB := bS_ HB hb; clear hb hbox hg) | ((with_reducible refine gate_dst (N := 3) rfl ?_); refine bx_ (N := 3) (cs := #[.int .i64 a1_0, .string a1_1, .int .i64 a1_2, .int .i64 a1_3, .int .i64 a1_4, .string a1_5, .int .i64 a1_6, .int .i64 a1_7]) (t := 90) ?_; intro gb102 hg w12 hbox hb; have BK102 := am_ (hbox); have GW102 := gA_ hg HB; have GE102 := GW102; have IGE102 := gI_ GE102; replace HB := bS_ HB hb; have NB101_102 := am_ ((gN_ hg (qK BK101))); have NB102_101 := am_ ((gM_ hg (qK BK101))); replace BK101 := bK_ BK101 hb; clear hb hbox hg; have hnb13 := NB101_102.out; have hnc13 := NB102_101.out; (try clear zK101); have zK101 := cz8 BK101.out; (try clear zK102); have zK102 := cz8 BK102.out))
 go_ret
 exact ⟨er_, qB HB⟩

/-! ### laws_eqLine: function 101 -/
def laws_eqLine.f (a0_0 : Int) (a0_1 : ByteArray) (a0_2 : Int) (a0_3 : Int) (a0_4 : Int) (a0_5 : Int) (a0_6 : Int) (a1_0 : Int) (a1_1 : ByteArray) (a1_2 : Int) (a1_3 : Int) (a1_4 : Int) (a1_5 : Int) (a1_6 : Int) : Option (Bool) := if a0_0 = a1_0 then (if a0_1.toList = a1_1.toList then (if a0_2 = a1_2 then (if a0_3 = a1_3 then (if a0_4 = a1_4 then (if a0_5 = a1_5 then (if a0_6 = a1_6 then (some true) else (some false)) else (some false)) else (some false)) else (some false)) else (some false)) else (some false)) else (some false)
set_option maxHeartbeats 8000000 in
set_option maxRecDepth 100000 in
theorem laws_eqLine.calls (a0_0 : Int) (a0_1 : ByteArray) (a0_2 : Int) (a0_3 : Int) (a0_4 : Int) (a0_5 : Int) (a0_6 : Int) (a1_0 : Int) (a1_1 : ByteArray) (a1_2 : Int) (a1_3 : Int) (a1_4 : Int) (a1_5 : Int) (a1_6 : Int) (r : Bool) (w : World) (hr_ : Aside0 (r = true)) (h : laws_eqLine.f a0_0 a0_1 a0_2 a0_3 a0_4 a0_5 a0_6 a1_0 a1_1 a1_2 a1_3 a1_4 a1_5 a1_6 = some r) :
  Calls Try.prog 101 #[.agg #[.int .i64 a0_0, .string a0_1, .int .i64 a0_2, .int .i64 a0_3, .int .i64 a0_4, .int .i64 a0_5, .int .i64 a0_6], .agg #[.int .i64 a1_0, .string a1_1, .int .i64 a1_2, .int .i64 a1_3, .int .i64 a1_4, .int .i64 a1_5, .int .i64 a1_6]] w fun e w' => e = .returned (.bool r) ∧ Below w.heap.size w w' := by
 have hu124 := Try.underlying124
 have HB := Aside0.mk (Below.refl w.heap.size w)
 have H := h
 unfold laws_eqLine.f at H
 clear h
 replace H := ie_ H
 obtain ⟨-, H, c3b0, c3b1⟩ | ⟨c3, H, c3b0, c3b1⟩ := H
 rotate_left
 ·
  exact absurd (hr_.out ▸ H) (by simp)
 replace H := ie_ H
 obtain ⟨-, H, c4b0, c4b1⟩ | ⟨c4, H, c4b0, c4b1⟩ := H
 rotate_left
 ·
  exact absurd (hr_.out ▸ H) (by simp)
 replace H := ie_ H
 obtain ⟨-, H, c5b0, c5b1⟩ | ⟨c5, H, c5b0, c5b1⟩ := H
 rotate_left
 ·
  exact absurd (hr_.out ▸ H) (by simp)
 replace H := ie_ H
 obtain ⟨-, H, c6b0, c6b1⟩ | ⟨c6, H, c6b0, c6b1⟩ := H
 rotate_left
 ·
  exact absurd (hr_.out ▸ H) (by simp)
 replace H := ie_ H
 obtain ⟨-, H, c7b0, c7b1⟩ | ⟨c7, H, c7b0, c7b1⟩ := H
 rotate_left
 ·
  exact absurd (hr_.out ▸ H) (by simp)
 replace H := ie_ H
 obtain ⟨-, H, c8b0, c8b1⟩ | ⟨c8, H, c8b0, c8b1⟩ := H
 rotate_left
 ·
  exact absurd (hr_.out ▸ H) (by simp)
 replace H := ie_ H
 obtain ⟨-, H, c9b0, c9b1⟩ | ⟨c9, H, c9b0, c9b1⟩ := H
 rotate_left
 ·
  exact absurd (hr_.out ▸ H) (by simp)
 obtain rfl := Option.some.inj H
 go_enter Try.func101, Try.ntmps101
 go_wp2_with (first | ((with_reducible refine gate_dst (N := 2) rfl ?_); refine bx_ (N := 2) (cs := #[.int .i64 a0_0, .string a0_1, .int .i64 a0_2, .int .i64 a0_3, .int .i64 a0_4, .int .i64 a0_5, .int .i64 a0_6]) (t := 124) ?_; intro gb103 hg w10 hbox hb; have BK103 := am_ (hbox); have GW103 := gA_ hg HB; have GE103 := GW103; have IGE103 := gI_ GE103; replace HB := bS_ HB hb; clear hb hbox hg) | ((with_reducible refine gate_dst (N := 3) rfl ?_); refine bx_ (N := 3) (cs := #[.int .i64 a1_0, .string a1_1, .int .i64 a1_2, .int .i64 a1_3, .int .i64 a1_4, .int .i64 a1_5, .int .i64 a1_6]) (t := 124) ?_; intro gb104 hg w11 hbox hb; have BK104 := am_ (hbox); have GW104 := gA_ hg HB; have GE104 := GW104; have IGE104 := gI_ GE104; replace HB := bS_ HB hb; have NB103_104 := am_ ((gN_ hg (qK BK103))); have NB104_103 := am_ ((gM_ hg (qK BK103))); replace BK103 := bK_ BK103 hb; clear hb hbox hg; have hnb12 := NB103_104.out; have hnc12 := NB104_103.out; (try clear zK103); have zK103 := cz7 BK103.out; (try clear zK104); have zK104 := cz7 BK104.out))
 go_ret
 exact ⟨er_, qB HB⟩

/-! ### laws_eqItem: function 114 -/
def laws_eqItem.f (a0_0 : Int) (a0_1 : Int) (a0_2 : ByteArray) (a0_3 : Int) (a0_4 : Int) (a0_5 : Int) (a0_6 : ByteArray) (a0_7 : Int) (a0_8 : Int) (a0_9 : Int) (a0_10 : ByteArray) (a0_11 : Int) (a0_12 : Int) (a0_13 : Int) (a0_14 : Int) (a0_15 : Int) (a1_0 : Int) (a1_1 : Int) (a1_2 : ByteArray) (a1_3 : Int) (a1_4 : Int) (a1_5 : Int) (a1_6 : ByteArray) (a1_7 : Int) (a1_8 : Int) (a1_9 : Int) (a1_10 : ByteArray) (a1_11 : Int) (a1_12 : Int) (a1_13 : Int) (a1_14 : Int) (a1_15 : Int) : Option (Bool) := if a0_0 = a1_0 then ((laws_eqAsker.f a0_1 a0_2 a0_3 a0_4 a0_5 a0_6 a0_7 a0_8 a1_1 a1_2 a1_3 a1_4 a1_5 a1_6 a1_7 a1_8).bind fun t107 => (if t107 = true then ((laws_eqLine.f a0_9 a0_10 a0_11 a0_12 a0_13 a0_14 a0_15 a1_9 a1_10 a1_11 a1_12 a1_13 a1_14 a1_15).bind fun t108 => (if t108 = true then (some true) else (some false))) else (some false))) else (some false)
set_option maxHeartbeats 8000000 in
set_option maxRecDepth 100000 in
theorem laws_eqItem.calls (a0_0 : Int) (a0_1 : Int) (a0_2 : ByteArray) (a0_3 : Int) (a0_4 : Int) (a0_5 : Int) (a0_6 : ByteArray) (a0_7 : Int) (a0_8 : Int) (a0_9 : Int) (a0_10 : ByteArray) (a0_11 : Int) (a0_12 : Int) (a0_13 : Int) (a0_14 : Int) (a0_15 : Int) (a1_0 : Int) (a1_1 : Int) (a1_2 : ByteArray) (a1_3 : Int) (a1_4 : Int) (a1_5 : Int) (a1_6 : ByteArray) (a1_7 : Int) (a1_8 : Int) (a1_9 : Int) (a1_10 : ByteArray) (a1_11 : Int) (a1_12 : Int) (a1_13 : Int) (a1_14 : Int) (a1_15 : Int) (r : Bool) (w : World) (hr_ : Aside0 (r = true)) (h : laws_eqItem.f a0_0 a0_1 a0_2 a0_3 a0_4 a0_5 a0_6 a0_7 a0_8 a0_9 a0_10 a0_11 a0_12 a0_13 a0_14 a0_15 a1_0 a1_1 a1_2 a1_3 a1_4 a1_5 a1_6 a1_7 a1_8 a1_9 a1_10 a1_11 a1_12 a1_13 a1_14 a1_15 = some r) :
  Calls Try.prog 114 #[.agg #[.int .i64 a0_0, .int .i64 a0_1, .string a0_2, .int .i64 a0_3, .int .i64 a0_4, .int .i64 a0_5, .string a0_6, .int .i64 a0_7, .int .i64 a0_8, .int .i64 a0_9, .string a0_10, .int .i64 a0_11, .int .i64 a0_12, .int .i64 a0_13, .int .i64 a0_14, .int .i64 a0_15], .agg #[.int .i64 a1_0, .int .i64 a1_1, .string a1_2, .int .i64 a1_3, .int .i64 a1_4, .int .i64 a1_5, .string a1_6, .int .i64 a1_7, .int .i64 a1_8, .int .i64 a1_9, .string a1_10, .int .i64 a1_11, .int .i64 a1_12, .int .i64 a1_13, .int .i64 a1_14, .int .i64 a1_15]] w fun e w' => e = .returned (.bool r) ∧ Below w.heap.size w w' := by
 have hu126 := Try.underlying126
 have hu90 := Try.underlying90
 have hu124 := Try.underlying124
 have HB := Aside0.mk (Below.refl w.heap.size w)
 have H := h
 unfold laws_eqItem.f at H
 clear h
 replace H := ie_ H
 obtain ⟨-, H, c3b0, c3b1⟩ | ⟨c3, H, c3b0, c3b1⟩ := H
 rotate_left
 ·
  exact absurd (hr_.out ▸ H) (by simp)
 replace H := bd_ H
 obtain ⟨t107, A4, H⟩ := H
 by_cases c5 : t107 = true
 rotate_left
 ·
  replace c5 := Bool.eq_false_iff.mpr c5
  subst c5
  rw [if_neg (show ¬ (false = true) by decide)] at H
  exact absurd (hr_.out ▸ H) (by simp)
 subst c5
 rw [if_pos rfl] at H
 replace H := bd_ H
 obtain ⟨t108, A6, H⟩ := H
 by_cases c7 : t108 = true
 rotate_left
 ·
  replace c7 := Bool.eq_false_iff.mpr c7
  subst c7
  rw [if_neg (show ¬ (false = true) by decide)] at H
  exact absurd (hr_.out ▸ H) (by simp)
 subst c7
 rw [if_pos rfl] at H
 obtain rfl := Option.some.inj H
 go_enter Try.func114, Try.ntmps114
 go_wp2_with (first | ((with_reducible refine gate_dst (N := 2) rfl ?_); refine bx_ (N := 2) (cs := #[.int .i64 a0_0, .int .i64 a0_1, .string a0_2, .int .i64 a0_3, .int .i64 a0_4, .int .i64 a0_5, .string a0_6, .int .i64 a0_7, .int .i64 a0_8, .int .i64 a0_9, .string a0_10, .int .i64 a0_11, .int .i64 a0_12, .int .i64 a0_13, .int .i64 a0_14, .int .i64 a0_15]) (t := 126) ?_; intro gb105 hg w8 hbox hb; have BK105 := am_ (hbox); have GW105 := gA_ hg HB; have GE105 := GW105; have IGE105 := gI_ GE105; replace HB := bS_ HB hb; clear hb hbox hg) | ((with_reducible refine gate_dst (N := 3) rfl ?_); refine bx_ (N := 3) (cs := #[.int .i64 a1_0, .int .i64 a1_1, .string a1_2, .int .i64 a1_3, .int .i64 a1_4, .int .i64 a1_5, .string a1_6, .int .i64 a1_7, .int .i64 a1_8, .int .i64 a1_9, .string a1_10, .int .i64 a1_11, .int .i64 a1_12, .int .i64 a1_13, .int .i64 a1_14, .int .i64 a1_15]) (t := 126) ?_; intro gb106 hg w9 hbox hb; have BK106 := am_ (hbox); have GW106 := gA_ hg HB; have GE106 := GW106; have IGE106 := gI_ GE106; replace HB := bS_ HB hb; have NB105_106 := am_ ((gN_ hg (qK BK105))); have NB106_105 := am_ ((gM_ hg (qK BK105))); replace BK105 := bK_ BK105 hb; clear hb hbox hg; have hnb10 := NB105_106.out; have hnc10 := NB106_105.out; (try clear zK105); have zK105 := cz16 BK105.out; (try clear zK106); have zK106 := cz16 BK106.out) | ((with_reducible refine gate_callee (f := 100) rfl ?_); refine gl_ (some 14) Try.func100 #[.agg #[.int .i64 a0_1, .string a0_2, .int .i64 a0_3, .int .i64 a0_4, .int .i64 a0_5, .string a0_6, .int .i64 a0_7, .int .i64 a0_8], .agg #[.int .i64 a1_1, .string a1_2, .int .i64 a1_3, .int .i64 a1_4, .int .i64 a1_5, .string a1_6, .int .i64 a1_7, .int .i64 a1_8]] ?_; (with_reducible refine (laws_eqAsker.calls a0_1 a0_2 a0_3 a0_4 a0_5 a0_6 a0_7 a0_8 a1_1 a1_2 a1_3 a1_4 a1_5 a1_6 a1_7 a1_8 true _ ⟨rfl⟩ A4.out).mono ?_); rintro e w13 ⟨rfl, hb⟩; refine ⟨_, rfl, ?_⟩; replace BK105 := bK_ BK105 hb; replace BK106 := bK_ BK106 hb; replace HB := bS_ HB hb; (try clear hb); (try clear zK105); have zK105 := cz16 BK105.out; (try clear zK106); have zK106 := cz16 BK106.out) | ((with_reducible refine gate_callee (f := 101) rfl ?_); refine gl_ (some 20) Try.func101 #[.agg #[.int .i64 a0_9, .string a0_10, .int .i64 a0_11, .int .i64 a0_12, .int .i64 a0_13, .int .i64 a0_14, .int .i64 a0_15], .agg #[.int .i64 a1_9, .string a1_10, .int .i64 a1_11, .int .i64 a1_12, .int .i64 a1_13, .int .i64 a1_14, .int .i64 a1_15]] ?_; (with_reducible refine (laws_eqLine.calls a0_9 a0_10 a0_11 a0_12 a0_13 a0_14 a0_15 a1_9 a1_10 a1_11 a1_12 a1_13 a1_14 a1_15 true _ ⟨rfl⟩ A6.out).mono ?_); rintro e w16 ⟨rfl, hb⟩; refine ⟨_, rfl, ?_⟩; replace BK105 := bK_ BK105 hb; replace BK106 := bK_ BK106 hb; replace HB := bS_ HB hb; (try clear hb)))
 go_ret
 exact ⟨er_, qB HB⟩

/-! ### laws_eqItemS: function 78 -/
def laws_eqItemS.l0 : Nat → List (S126) → List (S126) → Int → Option (Bool)
 | 0, _, _, _ => none
 | k + 1, x0, x1, x5 => if x5 < (x0.length : Int) then (if 0 ≤ x5 then (if x5 < (x1.length : Int) then ((laws_eqItem.f ((rd_T126 x0 x5).f0) ((rd_T126 x0 x5).f1.f0) ((rd_T126 x0 x5).f1.f1) ((rd_T126 x0 x5).f1.f2) ((rd_T126 x0 x5).f1.f3) ((rd_T126 x0 x5).f1.f4) ((rd_T126 x0 x5).f1.f5) ((rd_T126 x0 x5).f1.f6) ((rd_T126 x0 x5).f1.f7) ((rd_T126 x0 x5).f2.f0) ((rd_T126 x0 x5).f2.f1) ((rd_T126 x0 x5).f2.f2) ((rd_T126 x0 x5).f2.f3) ((rd_T126 x0 x5).f2.f4) ((rd_T126 x0 x5).f2.f5) ((rd_T126 x0 x5).f2.f6) ((rd_T126 x1 x5).f0) ((rd_T126 x1 x5).f1.f0) ((rd_T126 x1 x5).f1.f1) ((rd_T126 x1 x5).f1.f2) ((rd_T126 x1 x5).f1.f3) ((rd_T126 x1 x5).f1.f4) ((rd_T126 x1 x5).f1.f5) ((rd_T126 x1 x5).f1.f6) ((rd_T126 x1 x5).f1.f7) ((rd_T126 x1 x5).f2.f0) ((rd_T126 x1 x5).f2.f1) ((rd_T126 x1 x5).f2.f2) ((rd_T126 x1 x5).f2.f3) ((rd_T126 x1 x5).f2.f4) ((rd_T126 x1 x5).f2.f5) ((rd_T126 x1 x5).f2.f6)).bind fun t111 => (if t111 = true then (laws_eqItemS.l0 k x0 x1 (wrap64 (x5 + 1))) else (some false))) else (none)) else (none)) else (some true)
def laws_eqItemS.f (k : Nat) (l0 : List (S126)) (l1 : List (S126)) : Option (Bool) := if (l0.length : Int) = (l1.length : Int) then (laws_eqItemS.l0 k l0 l1 0) else (some false)
theorem laws_eqItemS.mono_l : ∀ k, (∀ y0 y1 y2, LeO (laws_eqItemS.l0 k y0 y1 y2) (laws_eqItemS.l0 (k + 1) y0 y1 y2))
 | 0 => fun _ _ _ r h => by simp [laws_eqItemS.l0] at h
 | k + 1 => by
  have ih0 := laws_eqItemS.mono_l k
  ·
   intro y0 y1 y2
   unfold laws_eqItemS.l0
   exact mo_
theorem laws_eqItemS.mono : ∀ a0 a1 k, LeO (laws_eqItemS.f k a0 a1) (laws_eqItemS.f (k + 1) a0 a1) := by
 intro a0 a1 k
 have ih0 := laws_eqItemS.mono_l k
 unfold laws_eqItemS.f
 exact mo_
def laws_eqItemS.T6 : Bool × List (List Nat × List Nat) := (true, [([], []), ([], []), ([0, 1], [0, 1]), ([2], [2]), ([], []), ([], []), ([4, 5], [4, 5]), ([6], [6]), ([3, 7], [3, 7]), ([8], [8])])
def laws_eqItemS.B6 : List Nat := [0, 0, 3, 7, 0, 0, 48, 112, 255, 511]
theorem laws_eqItemS.tab6 : rtab .any (opsOf Try.f78 6) = laws_eqItemS.T6 := by kernel_rfl
theorem laws_eqItemS.bits6 : waitsOk laws_eqItemS.T6.2 laws_eqItemS.B6 = true := by kernel_rfl
set_option maxHeartbeats 8000000 in
set_option maxRecDepth 100000 in
theorem laws_eqItemS.calls (k : Nat) (A0 : Option Addr) (c0 : Nat) (l0 : List (S126)) (A1 : Option Addr) (c1 : Nat) (l1 : List (S126)) (r : Bool) (w : World) (hr0 : Kd.C k126 w A0 l0.length l0) (hc0 : l0.length ≤ c0) (hr1 : Kd.C k126 w A1 l1.length l1) (hc1 : l1.length ≤ c1) (hr_ : Aside0 (r = true)) (h : laws_eqItemS.f k l0 l1 = some r) :
  Calls Try.prog 78 #[.slice A0 l0.length c0, .slice A1 l1.length c1] w fun e w' => e = .returned (.bool r) ∧ Below w.heap.size w w' := by
 have hu126 := Try.underlying126
 have HR0 := Aside0.mk hr0
 have HC0 := Aside0.mk hc0
 clear hr0 hc0
 have HR1 := Aside0.mk hr1
 have HC1 := Aside0.mk hc1
 clear hr1 hc1
 have HB := Aside0.mk (Below.refl w.heap.size w)
 have H := h
 unfold laws_eqItemS.f at H
 clear h
 replace H := ie_ H
 obtain ⟨c3, H, c3b0, c3b1⟩ | ⟨c3, H, c3b0, c3b1⟩ := H
 rotate_left
 ·
  have c3b2 : (l0.length == l1.length) = false := by first | simpa using c3 | (simp at c3 ⊢; omega)
  exact absurd (hr_.out ▸ H) (by simp)
 have c3b2 : (l0.length == l1.length) = true := by first | simpa using c3 | (simp at c3 ⊢; omega)
 clear c3
 have H' := Aside0.mk H
 clear H
 go_enter Try.func78, Try.ntmps78
 go_wp2
 go_loopg [5] k (fun kq v5 w' => ∃ (x5_1 : Int), v5 = .int .i64 x5_1 ∧ Aside0 (laws_eqItemS.l0 kq l0 l1 x5_1 = some r) ∧ Aside0 (kq ≤ k) ∧ Aside0 (Below w.heap.size w w'))
 case atStart => exact ⟨(0), eqq_, H', ⟨Nat.le_refl _⟩, ⟨qB HB⟩⟩
 case round =>
  clear H'
  try clear c1
  try clear p2
  try clear c3
  try clear c3b0
  try clear c3b1
  try clear c3b2
  obtain ⟨x5_1, rfl, HA, HK1, HB⟩ := hrel
  cases gk with
  | zero => exact absurd HA.out (by simp [laws_eqItemS.l0])
  | succ k1 =>
   have H := HA.out
   clear HA
   simp only [laws_eqItemS.l0] at H
   replace H := id_ H
   obtain ⟨-, H, c4b0⟩ | ⟨-, H, c4b0⟩ := H
   rotate_left
   ·
    obtain rfl := Option.some.inj H
    go_wp2
    go_ret
    exact ⟨er_, qB HB⟩
   replace H := ip_ H
   obtain ⟨-, H, c5b0⟩ := H
   replace H := ip_ H
   obtain ⟨-, H, c6b0⟩ := H
   replace H := bd_ H
   obtain ⟨t111, A7, H⟩ := H
   by_cases c8 : t111 = true
   rotate_left
   ·
    replace c8 := Bool.eq_false_iff.mpr c8
    subst c8
    rw [if_neg (show ¬ (false = true) by decide)] at H
    exact absurd (hr_.out ▸ H) (by simp)
   subst c8
   rw [if_pos rfl] at H
   have H' := Aside0.mk H
   clear H
   try go_wp2
   replace HB := am_ (below_drew1 HB.out)
   have p109 : 0 ≤ (x5_1 : Int) := od_
   have q109 : x5_1 < (l0.length : Int) := od_
   obtain ⟨ad109, e109, hx109_0, hx109_1, hx109_2, hx109_3, hx109_4, hx109_5, hx109_6, hx109_7, hx109_8, hx109_9, hx109_10, hx109_11, hx109_12, hx109_13, hx109_14, hx109_15⟩ := at_T126 HR0.out x5_1 p109 q109
   have hw109_15 := hx109_15
   have hw109_14 := hx109_14
   have hw109_13 := hx109_13
   have hw109_12 := hx109_12
   have hw109_11 := hx109_11
   have hw109_10 := hx109_10
   have hw109_9 := hx109_9
   have hw109_8 := hx109_8
   have hw109_7 := hx109_7
   have hw109_6 := hx109_6
   have hw109_5 := hx109_5
   have hw109_4 := hx109_4
   have hw109_3 := hx109_3
   have hw109_2 := hx109_2
   have hw109_1 := hx109_1
   have hw109_0 := hx109_0
   cases e109
   replace hx109_0 := lb_ HB hx109_0
   replace hx109_1 := lb_ HB hx109_1
   replace hx109_2 := lb_ HB hx109_2
   replace hx109_3 := lb_ HB hx109_3
   replace hx109_4 := lb_ HB hx109_4
   replace hx109_5 := lb_ HB hx109_5
   replace hx109_6 := lb_ HB hx109_6
   replace hx109_7 := lb_ HB hx109_7
   replace hx109_8 := lb_ HB hx109_8
   replace hx109_9 := lb_ HB hx109_9
   replace hx109_10 := lb_ HB hx109_10
   replace hx109_11 := lb_ HB hx109_11
   replace hx109_12 := lb_ HB hx109_12
   replace hx109_13 := lb_ HB hx109_13
   replace hx109_14 := lb_ HB hx109_14
   replace hx109_15 := lb_ HB hx109_15
   replace p109 := eq_true p109
   replace q109 := eq_true q109
   have p110 : 0 ≤ (x5_1 : Int) := od_
   have q110 : x5_1 < (l1.length : Int) := od_
   obtain ⟨ad110, e110, hx110_0, hx110_1, hx110_2, hx110_3, hx110_4, hx110_5, hx110_6, hx110_7, hx110_8, hx110_9, hx110_10, hx110_11, hx110_12, hx110_13, hx110_14, hx110_15⟩ := at_T126 HR1.out x5_1 p110 q110
   have hw110_15 := hx110_15
   have hw110_14 := hx110_14
   have hw110_13 := hx110_13
   have hw110_12 := hx110_12
   have hw110_11 := hx110_11
   have hw110_10 := hx110_10
   have hw110_9 := hx110_9
   have hw110_8 := hx110_8
   have hw110_7 := hx110_7
   have hw110_6 := hx110_6
   have hw110_5 := hx110_5
   have hw110_4 := hx110_4
   have hw110_3 := hx110_3
   have hw110_2 := hx110_2
   have hw110_1 := hx110_1
   have hw110_0 := hx110_0
   cases e110
   replace hx110_0 := lb_ HB hx110_0
   replace hx110_1 := lb_ HB hx110_1
   replace hx110_2 := lb_ HB hx110_2
   replace hx110_3 := lb_ HB hx110_3
   replace hx110_4 := lb_ HB hx110_4
   replace hx110_5 := lb_ HB hx110_5
   replace hx110_6 := lb_ HB hx110_6
   replace hx110_7 := lb_ HB hx110_7
   replace hx110_8 := lb_ HB hx110_8
   replace hx110_9 := lb_ HB hx110_9
   replace hx110_10 := lb_ HB hx110_10
   replace hx110_11 := lb_ HB hx110_11
   replace hx110_12 := lb_ HB hx110_12
   replace hx110_13 := lb_ HB hx110_13
   replace hx110_14 := lb_ HB hx110_14
   replace hx110_15 := lb_ HB hx110_15
   replace p110 := eq_true p110
   replace q110 := eq_true q110
   refine start_ (n := 10) (S := fun w' => w'.cell? (ad109.add ((x5_1).toNat * 16)) = some (.int .i64 ((rd_T126 l0 x5_1).f0)) ∧ w'.cell? ⟨(ad109.add ((x5_1).toNat * 16)).block, (ad109.add ((x5_1).toNat * 16)).off + 1, none⟩ = some (.int .i64 ((rd_T126 l0 x5_1).f1.f0)) ∧ w'.cell? ⟨(ad109.add ((x5_1).toNat * 16)).block, (ad109.add ((x5_1).toNat * 16)).off + 2, none⟩ = some (.string ((rd_T126 l0 x5_1).f1.f1)) ∧ w'.cell? ⟨(ad109.add ((x5_1).toNat * 16)).block, (ad109.add ((x5_1).toNat * 16)).off + 3, none⟩ = some (.int .i64 ((rd_T126 l0 x5_1).f1.f2)) ∧ w'.cell? ⟨(ad109.add ((x5_1).toNat * 16)).block, (ad109.add ((x5_1).toNat * 16)).off + 4, none⟩ = some (.int .i64 ((rd_T126 l0 x5_1).f1.f3)) ∧ w'.cell? ⟨(ad109.add ((x5_1).toNat * 16)).block, (ad109.add ((x5_1).toNat * 16)).off + 5, none⟩ = some (.int .i64 ((rd_T126 l0 x5_1).f1.f4)) ∧ w'.cell? ⟨(ad109.add ((x5_1).toNat * 16)).block, (ad109.add ((x5_1).toNat * 16)).off + 6, none⟩ = some (.string ((rd_T126 l0 x5_1).f1.f5)) ∧ w'.cell? ⟨(ad109.add ((x5_1).toNat * 16)).block, (ad109.add ((x5_1).toNat * 16)).off + 7, none⟩ = some (.int .i64 ((rd_T126 l0 x5_1).f1.f6)) ∧ w'.cell? ⟨(ad109.add ((x5_1).toNat * 16)).block, (ad109.add ((x5_1).toNat * 16)).off + 8, none⟩ = some (.int .i64 ((rd_T126 l0 x5_1).f1.f7)) ∧ w'.cell? ⟨(ad109.add ((x5_1).toNat * 16)).block, (ad109.add ((x5_1).toNat * 16)).off + 9, none⟩ = some (.int .i64 ((rd_T126 l0 x5_1).f2.f0)) ∧ w'.cell? ⟨(ad109.add ((x5_1).toNat * 16)).block, (ad109.add ((x5_1).toNat * 16)).off + 10, none⟩ = some (.string ((rd_T126 l0 x5_1).f2.f1)) ∧ w'.cell? ⟨(ad109.add ((x5_1).toNat * 16)).block, (ad109.add ((x5_1).toNat * 16)).off + 11, none⟩ = some (.int .i64 ((rd_T126 l0 x5_1).f2.f2)) ∧ w'.cell? ⟨(ad109.add ((x5_1).toNat * 16)).block, (ad109.add ((x5_1).toNat * 16)).off + 12, none⟩ = some (.int .i64 ((rd_T126 l0 x5_1).f2.f3)) ∧ w'.cell? ⟨(ad109.add ((x5_1).toNat * 16)).block, (ad109.add ((x5_1).toNat * 16)).off + 13, none⟩ = some (.int .i64 ((rd_T126 l0 x5_1).f2.f4)) ∧ w'.cell? ⟨(ad109.add ((x5_1).toNat * 16)).block, (ad109.add ((x5_1).toNat * 16)).off + 14, none⟩ = some (.int .i64 ((rd_T126 l0 x5_1).f2.f5)) ∧ w'.cell? ⟨(ad109.add ((x5_1).toNat * 16)).block, (ad109.add ((x5_1).toNat * 16)).off + 15, none⟩ = some (.int .i64 ((rd_T126 l0 x5_1).f2.f6)) ∧ w'.cell? (ad110.add ((x5_1).toNat * 16)) = some (.int .i64 ((rd_T126 l1 x5_1).f0)) ∧ w'.cell? ⟨(ad110.add ((x5_1).toNat * 16)).block, (ad110.add ((x5_1).toNat * 16)).off + 1, none⟩ = some (.int .i64 ((rd_T126 l1 x5_1).f1.f0)) ∧ w'.cell? ⟨(ad110.add ((x5_1).toNat * 16)).block, (ad110.add ((x5_1).toNat * 16)).off + 2, none⟩ = some (.string ((rd_T126 l1 x5_1).f1.f1)) ∧ w'.cell? ⟨(ad110.add ((x5_1).toNat * 16)).block, (ad110.add ((x5_1).toNat * 16)).off + 3, none⟩ = some (.int .i64 ((rd_T126 l1 x5_1).f1.f2)) ∧ w'.cell? ⟨(ad110.add ((x5_1).toNat * 16)).block, (ad110.add ((x5_1).toNat * 16)).off + 4, none⟩ = some (.int .i64 ((rd_T126 l1 x5_1).f1.f3)) ∧ w'.cell? ⟨(ad110.add ((x5_1).toNat * 16)).block, (ad110.add ((x5_1).toNat * 16)).off + 5, none⟩ = some (.int .i64 ((rd_T126 l1 x5_1).f1.f4)) ∧ w'.cell? ⟨(ad110.add ((x5_1).toNat * 16)).block, (ad110.add ((x5_1).toNat * 16)).off + 6, none⟩ = some (.string ((rd_T126 l1 x5_1).f1.f5)) ∧ w'.cell? ⟨(ad110.add ((x5_1).toNat * 16)).block, (ad110.add ((x5_1).toNat * 16)).off + 7, none⟩ = some (.int .i64 ((rd_T126 l1 x5_1).f1.f6)) ∧ w'.cell? ⟨(ad110.add ((x5_1).toNat * 16)).block, (ad110.add ((x5_1).toNat * 16)).off + 8, none⟩ = some (.int .i64 ((rd_T126 l1 x5_1).f1.f7)) ∧ w'.cell? ⟨(ad110.add ((x5_1).toNat * 16)).block, (ad110.add ((x5_1).toNat * 16)).off + 9, none⟩ = some (.int .i64 ((rd_T126 l1 x5_1).f2.f0)) ∧ w'.cell? ⟨(ad110.add ((x5_1).toNat * 16)).block, (ad110.add ((x5_1).toNat * 16)).off + 10, none⟩ = some (.string ((rd_T126 l1 x5_1).f2.f1)) ∧ w'.cell? ⟨(ad110.add ((x5_1).toNat * 16)).block, (ad110.add ((x5_1).toNat * 16)).off + 11, none⟩ = some (.int .i64 ((rd_T126 l1 x5_1).f2.f2)) ∧ w'.cell? ⟨(ad110.add ((x5_1).toNat * 16)).block, (ad110.add ((x5_1).toNat * 16)).off + 12, none⟩ = some (.int .i64 ((rd_T126 l1 x5_1).f2.f3)) ∧ w'.cell? ⟨(ad110.add ((x5_1).toNat * 16)).block, (ad110.add ((x5_1).toNat * 16)).off + 13, none⟩ = some (.int .i64 ((rd_T126 l1 x5_1).f2.f4)) ∧ w'.cell? ⟨(ad110.add ((x5_1).toNat * 16)).block, (ad110.add ((x5_1).toNat * 16)).off + 14, none⟩ = some (.int .i64 ((rd_T126 l1 x5_1).f2.f5)) ∧ w'.cell? ⟨(ad110.add ((x5_1).toNat * 16)).block, (ad110.add ((x5_1).toNat * 16)).off + 15, none⟩ = some (.int .i64 ((rd_T126 l1 x5_1).f2.f6))) (ds := []) #[oo,oo,oo,oo,oo,oo,oo,oo,oo,oo] (by kernel_rfl) rfl rfl ⟨(lb_ HB hw109_0 :), (lb_ HB hw109_1 :), (lb_ HB hw109_2 :), (lb_ HB hw109_3 :), (lb_ HB hw109_4 :), (lb_ HB hw109_5 :), (lb_ HB hw109_6 :), (lb_ HB hw109_7 :), (lb_ HB hw109_8 :), (lb_ HB hw109_9 :), (lb_ HB hw109_10 :), (lb_ HB hw109_11 :), (lb_ HB hw109_12 :), (lb_ HB hw109_13 :), (lb_ HB hw109_14 :), (lb_ HB hw109_15 :), (lb_ HB hw110_0 :), (lb_ HB hw110_1 :), (lb_ HB hw110_2 :), (lb_ HB hw110_3 :), (lb_ HB hw110_4 :), (lb_ HB hw110_5 :), (lb_ HB hw110_6 :), (lb_ HB hw110_7 :), (lb_ HB hw110_8 :), (lb_ HB hw110_9 :), (lb_ HB hw110_10 :), (lb_ HB hw110_11 :), (lb_ HB hw110_12 :), (lb_ HB hw110_13 :), (lb_ HB hw110_14 :), (lb_ HB hw110_15 :)⟩ (fun hHeld => ?_); refine with_tabW laws_eqItemS.tab6 laws_eqItemS.bits6 (fun HT_ HW_ => ?_)
   generalize wr.drew = w9 at HB hx109_0 hx109_1 hx109_10 hx109_11 hx109_12 hx109_13 hx109_14 hx109_15 hx109_2 hx109_3 hx109_4 hx109_5 hx109_6 hx109_7 hx109_8 hx109_9 hx110_0 hx110_1 hx110_10 hx110_11 hx110_12 hx110_13 hx110_14 hx110_15 hx110_2 hx110_3 hx110_4 hx110_5 hx110_6 hx110_7 hx110_8 hx110_9 hHeld ⊢
   refine pq_ 0 17 HT_ #[ii,oo,oo,oo,oo,oo,oo,oo,oo,oo] ?_
   refine pq_ 1 18 HT_ #[ii,ii,oo,oo,oo,oo,oo,oo,oo,oo] ?_
   refine pq_ 2 19 HT_ #[ii,ii,ii,oo,oo,oo,oo,oo,oo,oo] ?_
   refine pq_ 4 21 HT_ #[ii,ii,ii,oo,ii,oo,oo,oo,oo,oo] ?_
   refine pq_ 5 22 HT_ #[ii,ii,ii,oo,ii,ii,oo,oo,oo,oo] ?_
   refine pq_ 6 23 HT_ #[ii,ii,ii,oo,ii,ii,ii,oo,oo,oo] ?_
   refine tz_ (i := 3) (N := some 20) HT_ HW_ #[ii,ii,ii,ii,ii,ii,ii,oo,oo,oo] rfl rfl hHeld ?_
   refine tz_ (i := 7) (N := some 24) HT_ HW_ #[ii,ii,ii,ii,ii,ii,ii,ii,oo,oo] rfl rfl hHeld ?_
   refine on_ HT_ (i := 8) (N := some 25) #[ii,ii,ii,ii,ii,ii,ii,ii,ii,oo] (fun K hK => ?_)
   refine goes_ Try.func114 (by kernel_rfl) rfl #[.agg #[.int .i64 ((rd_T126 l0 x5_1).f0), .int .i64 ((rd_T126 l0 x5_1).f1.f0), .string ((rd_T126 l0 x5_1).f1.f1), .int .i64 ((rd_T126 l0 x5_1).f1.f2), .int .i64 ((rd_T126 l0 x5_1).f1.f3), .int .i64 ((rd_T126 l0 x5_1).f1.f4), .string ((rd_T126 l0 x5_1).f1.f5), .int .i64 ((rd_T126 l0 x5_1).f1.f6), .int .i64 ((rd_T126 l0 x5_1).f1.f7), .int .i64 ((rd_T126 l0 x5_1).f2.f0), .string ((rd_T126 l0 x5_1).f2.f1), .int .i64 ((rd_T126 l0 x5_1).f2.f2), .int .i64 ((rd_T126 l0 x5_1).f2.f3), .int .i64 ((rd_T126 l0 x5_1).f2.f4), .int .i64 ((rd_T126 l0 x5_1).f2.f5), .int .i64 ((rd_T126 l0 x5_1).f2.f6)], .agg #[.int .i64 ((rd_T126 l1 x5_1).f0), .int .i64 ((rd_T126 l1 x5_1).f1.f0), .string ((rd_T126 l1 x5_1).f1.f1), .int .i64 ((rd_T126 l1 x5_1).f1.f2), .int .i64 ((rd_T126 l1 x5_1).f1.f3), .int .i64 ((rd_T126 l1 x5_1).f1.f4), .string ((rd_T126 l1 x5_1).f1.f5), .int .i64 ((rd_T126 l1 x5_1).f1.f6), .int .i64 ((rd_T126 l1 x5_1).f1.f7), .int .i64 ((rd_T126 l1 x5_1).f2.f0), .string ((rd_T126 l1 x5_1).f2.f1), .int .i64 ((rd_T126 l1 x5_1).f2.f2), .int .i64 ((rd_T126 l1 x5_1).f2.f3), .int .i64 ((rd_T126 l1 x5_1).f2.f4), .int .i64 ((rd_T126 l1 x5_1).f2.f5), .int .i64 ((rd_T126 l1 x5_1).f2.f6)]] (by rfl) rfl rfl la_ ?_
   with_reducible refine (laws_eqItem.calls ((rd_T126 l0 x5_1).f0) ((rd_T126 l0 x5_1).f1.f0) ((rd_T126 l0 x5_1).f1.f1) ((rd_T126 l0 x5_1).f1.f2) ((rd_T126 l0 x5_1).f1.f3) ((rd_T126 l0 x5_1).f1.f4) ((rd_T126 l0 x5_1).f1.f5) ((rd_T126 l0 x5_1).f1.f6) ((rd_T126 l0 x5_1).f1.f7) ((rd_T126 l0 x5_1).f2.f0) ((rd_T126 l0 x5_1).f2.f1) ((rd_T126 l0 x5_1).f2.f2) ((rd_T126 l0 x5_1).f2.f3) ((rd_T126 l0 x5_1).f2.f4) ((rd_T126 l0 x5_1).f2.f5) ((rd_T126 l0 x5_1).f2.f6) ((rd_T126 l1 x5_1).f0) ((rd_T126 l1 x5_1).f1.f0) ((rd_T126 l1 x5_1).f1.f1) ((rd_T126 l1 x5_1).f1.f2) ((rd_T126 l1 x5_1).f1.f3) ((rd_T126 l1 x5_1).f1.f4) ((rd_T126 l1 x5_1).f1.f5) ((rd_T126 l1 x5_1).f1.f6) ((rd_T126 l1 x5_1).f1.f7) ((rd_T126 l1 x5_1).f2.f0) ((rd_T126 l1 x5_1).f2.f1) ((rd_T126 l1 x5_1).f2.f2) ((rd_T126 l1 x5_1).f2.f3) ((rd_T126 l1 x5_1).f2.f4) ((rd_T126 l1 x5_1).f2.f5) ((rd_T126 l1 x5_1).f2.f6) true _ ⟨rfl⟩ A7.out).mono ?_
   rintro e w10 ⟨rfl, hb⟩
   refine ⟨_, rfl, ?_⟩
   replace HB := bS_ HB hb
   (try clear hb)
   refine hK.out _ _ ⟨(lb_ HB hw109_0 :), (lb_ HB hw109_1 :), (lb_ HB hw109_2 :), (lb_ HB hw109_3 :), (lb_ HB hw109_4 :), (lb_ HB hw109_5 :), (lb_ HB hw109_6 :), (lb_ HB hw109_7 :), (lb_ HB hw109_8 :), (lb_ HB hw109_9 :), (lb_ HB hw109_10 :), (lb_ HB hw109_11 :), (lb_ HB hw109_12 :), (lb_ HB hw109_13 :), (lb_ HB hw109_14 :), (lb_ HB hw109_15 :), (lb_ HB hw110_0 :), (lb_ HB hw110_1 :), (lb_ HB hw110_2 :), (lb_ HB hw110_3 :), (lb_ HB hw110_4 :), (lb_ HB hw110_5 :), (lb_ HB hw110_6 :), (lb_ HB hw110_7 :), (lb_ HB hw110_8 :), (lb_ HB hw110_9 :), (lb_ HB hw110_10 :), (lb_ HB hw110_11 :), (lb_ HB hw110_12 :), (lb_ HB hw110_13 :), (lb_ HB hw110_14 :), (lb_ HB hw110_15 :)⟩ (fun hHeld => ?_)
   clear hK K
   refine nm_ (some 25) ?_
   refine pq_ 9 26 HT_ #[ii,ii,ii,ii,ii,ii,ii,ii,ii,ii] ?_
   refine done_ (done_of HT_.out (by kernel_rfl)) ?_
   try go_wp2
   go_roundg k1
   case measure => have := HK1.out; omega
   case rel => exact ⟨(wrap64 (x5_1 + 1)), eqq_, H', ⟨by have := HK1.out; omega⟩, ⟨qB HB⟩⟩

/-! ### laws_eqCtl: function 30 -/
def laws_eqCtl.f (k : Nat) (a0_0 : Int) (a0_1 : Int) (a0_2 : Int) (a0_3 : Int) (a0_4 : Int) (a0_5 : Bool) (a0_6 : Int) (l0_7 : List (S126)) (a1_0 : Int) (a1_1 : Int) (a1_2 : Int) (a1_3 : Int) (a1_4 : Int) (a1_5 : Bool) (a1_6 : Int) (l1_7 : List (S126)) : Option (Bool) := if a0_0 = a1_0 then (if a0_1 = a1_1 then (if a0_2 = a1_2 then (if a0_3 = a1_3 then (if a0_4 = a1_4 then (if (a0_5 != a1_5) = true then (some false) else (if a0_6 = a1_6 then ((laws_eqItemS.f k l0_7 l1_7).bind fun t114 => (if t114 = true then (some true) else (some false))) else (some false))) else (some false)) else (some false)) else (some false)) else (some false)) else (some false)
theorem laws_eqCtl.mono : ∀ a0 a1 a2 a3 a4 a5 a6 a7 a8 a9 a10 a11 a12 a13 a14 a15 k, LeO (laws_eqCtl.f k a0 a1 a2 a3 a4 a5 a6 a7 a8 a9 a10 a11 a12 a13 a14 a15) (laws_eqCtl.f (k + 1) a0 a1 a2 a3 a4 a5 a6 a7 a8 a9 a10 a11 a12 a13 a14 a15) := by
 intro a0 a1 a2 a3 a4 a5 a6 a7 a8 a9 a10 a11 a12 a13 a14 a15 k
 unfold laws_eqCtl.f
 have m0 := @laws_eqItemS.mono; exact mo_
set_option maxHeartbeats 8000000 in
set_option maxRecDepth 100000 in
theorem laws_eqCtl.calls (k : Nat) (a0_0 : Int) (a0_1 : Int) (a0_2 : Int) (a0_3 : Int) (a0_4 : Int) (a0_5 : Bool) (a0_6 : Int) (A0_7 : Option Addr) (c0_7 : Nat) (l0_7 : List (S126)) (a1_0 : Int) (a1_1 : Int) (a1_2 : Int) (a1_3 : Int) (a1_4 : Int) (a1_5 : Bool) (a1_6 : Int) (A1_7 : Option Addr) (c1_7 : Nat) (l1_7 : List (S126)) (r : Bool) (w : World) (hr0_7 : Kd.C k126 w A0_7 l0_7.length l0_7) (hc0_7 : l0_7.length ≤ c0_7) (hr1_7 : Kd.C k126 w A1_7 l1_7.length l1_7) (hc1_7 : l1_7.length ≤ c1_7) (hr_ : Aside0 (r = true)) (h : laws_eqCtl.f k a0_0 a0_1 a0_2 a0_3 a0_4 a0_5 a0_6 l0_7 a1_0 a1_1 a1_2 a1_3 a1_4 a1_5 a1_6 l1_7 = some r) :
  Calls Try.prog 30 #[.agg #[.int .i64 a0_0, .int .i64 a0_1, .int .i64 a0_2, .int .i64 a0_3, .int .i64 a0_4, .bool a0_5, .int .i64 a0_6, .slice A0_7 l0_7.length c0_7], .agg #[.int .i64 a1_0, .int .i64 a1_1, .int .i64 a1_2, .int .i64 a1_3, .int .i64 a1_4, .bool a1_5, .int .i64 a1_6, .slice A1_7 l1_7.length c1_7]] w fun e w' => e = .returned (.bool r) ∧ Below w.heap.size w w' := by
 have hu63 := Try.underlying63
 have HR0_7 := Aside0.mk hr0_7
 have HC0_7 := Aside0.mk hc0_7
 clear hr0_7 hc0_7
 have HR1_7 := Aside0.mk hr1_7
 have HC1_7 := Aside0.mk hc1_7
 clear hr1_7 hc1_7
 have HB := Aside0.mk (Below.refl w.heap.size w)
 have H := h
 unfold laws_eqCtl.f at H
 clear h
 replace H := ie_ H
 obtain ⟨-, H, c3b0, c3b1⟩ | ⟨c3, H, c3b0, c3b1⟩ := H
 rotate_left
 ·
  exact absurd (hr_.out ▸ H) (by simp)
 replace H := ie_ H
 obtain ⟨-, H, c4b0, c4b1⟩ | ⟨c4, H, c4b0, c4b1⟩ := H
 rotate_left
 ·
  exact absurd (hr_.out ▸ H) (by simp)
 replace H := ie_ H
 obtain ⟨-, H, c5b0, c5b1⟩ | ⟨c5, H, c5b0, c5b1⟩ := H
 rotate_left
 ·
  exact absurd (hr_.out ▸ H) (by simp)
 replace H := ie_ H
 obtain ⟨-, H, c6b0, c6b1⟩ | ⟨c6, H, c6b0, c6b1⟩ := H
 rotate_left
 ·
  exact absurd (hr_.out ▸ H) (by simp)
 replace H := ie_ H
 obtain ⟨-, H, c7b0, c7b1⟩ | ⟨c7, H, c7b0, c7b1⟩ := H
 rotate_left
 ·
  exact absurd (hr_.out ▸ H) (by simp)
 replace H := id_ H
 obtain ⟨c8, H, -⟩ | ⟨c8, H, -⟩ := H
 ·
  have c8b0 : (a0_5 != a1_5) = true := c8
  (try (have c8b1 : decide (a0_5 = a1_5) = false := by simpa using c8))
  (try (have c8b2 : (a0_5 == a1_5) = false := by simpa using c8))
  (try (have c8b3 : ¬ (a0_5 = a1_5) := by simpa using c8))
  clear c8
  exact absurd (hr_.out ▸ H) (by simp)
 have c8b0 : (a0_5 != a1_5) = false := by simpa using c8
 (try (have c8b1 : decide (a0_5 = a1_5) = true := by simpa using c8))
 (try (have c8b2 : (a0_5 == a1_5) = true := by simpa using c8))
 clear c8
 replace H := ie_ H
 obtain ⟨-, H, c9b0, c9b1⟩ | ⟨c9, H, c9b0, c9b1⟩ := H
 rotate_left
 ·
  exact absurd (hr_.out ▸ H) (by simp)
 replace H := bd_ H
 obtain ⟨t114, A10, H⟩ := H
 by_cases c11 : t114 = true
 rotate_left
 ·
  replace c11 := Bool.eq_false_iff.mpr c11
  subst c11
  rw [if_neg (show ¬ (false = true) by decide)] at H
  exact absurd (hr_.out ▸ H) (by simp)
 subst c11
 rw [if_pos rfl] at H
 obtain rfl := Option.some.inj H
 go_enter Try.func30, Try.ntmps30
 go_wp2_with (first | ((with_reducible refine gate_dst (N := 2) rfl ?_); refine bx_ (N := 2) (cs := #[.int .i64 a0_0, .int .i64 a0_1, .int .i64 a0_2, .int .i64 a0_3, .int .i64 a0_4, .bool a0_5, .int .i64 a0_6, .slice A0_7 l0_7.length c0_7]) (t := 63) ?_; intro gb112 hg w12 hbox hb; have BK112 := am_ (hbox); have GW112 := gA_ hg HB; have GE112 := GW112; have IGE112 := gI_ GE112; replace HB := bS_ HB hb; clear hb hbox hg) | ((with_reducible refine gate_dst (N := 3) rfl ?_); refine bx_ (N := 3) (cs := #[.int .i64 a1_0, .int .i64 a1_1, .int .i64 a1_2, .int .i64 a1_3, .int .i64 a1_4, .bool a1_5, .int .i64 a1_6, .slice A1_7 l1_7.length c1_7]) (t := 63) ?_; intro gb113 hg w13 hbox hb; have BK113 := am_ (hbox); have GW113 := gA_ hg HB; have GE113 := GW113; have IGE113 := gI_ GE113; replace HB := bS_ HB hb; have NB112_113 := am_ ((gN_ hg (qK BK112))); have NB113_112 := am_ ((gM_ hg (qK BK112))); replace BK112 := bK_ BK112 hb; clear hb hbox hg; have hnb14 := NB112_113.out; have hnc14 := NB113_112.out; (try clear zK112); have zK112 := cz8 BK112.out; (try clear zK113); have zK113 := cz8 BK113.out) | ((with_reducible refine gate_callee (f := 78) rfl ?_); refine gl_ (some 44) Try.func78 #[.slice A0_7 l0_7.length c0_7, .slice A1_7 l1_7.length c1_7] ?_; (with_reducible refine (laws_eqItemS.calls k _ _ l0_7 _ _ l1_7 true _ ?side1 ?side2 ?side3 ?side4 ⟨rfl⟩ A10.out).mono ?_); (case side1 => exact qC (Kd.C_below HR0_7.out HB.out)); (case side2 => exact HC0_7.out); (case side3 => exact qC (Kd.C_below HR1_7.out HB.out)); (case side4 => exact HC1_7.out); rintro e w17 ⟨rfl, hb⟩; refine ⟨_, rfl, ?_⟩; replace BK112 := bK_ BK112 hb; replace BK113 := bK_ BK113 hb; replace HB := bS_ HB hb; (try clear hb)))
 go_ret
 exact ⟨er_, qB HB⟩

/-! ### laws_markText: function 102 -/
def laws_markText.l0 : Nat → Int → ByteArray → Option (ByteArray)
 | 0, _, _ => none
 | k + 1, x0, x3 => if x0 > 0 then ((some (([(wrap64 (48 + (Int.tmod x0 10))) % 256] : List Int) : List Int)).bind fun y115 => (if (strOfNums y115).size + x3.size ≤ 9223372036854775807 then (laws_markText.l0 k (wrap64 (Int.tdiv x0 10)) ((strOfNums y115) ++ x3)) else (none))) else (if 1 + x3.size ≤ 9223372036854775807 then (some ((⟨#[109]⟩ : ByteArray) ++ x3)) else (none))
def laws_markText.f (k : Nat) (a0 : Int) : Option (ByteArray) := if a0 ≤ 0 then (some (⟨#[109, 48]⟩ : ByteArray)) else (laws_markText.l0 k a0 (⟨#[]⟩ : ByteArray))
theorem laws_markText.mono_l : ∀ k, (∀ y0 y1, LeO (laws_markText.l0 k y0 y1) (laws_markText.l0 (k + 1) y0 y1))
 | 0 => fun _ _ r h => by simp [laws_markText.l0] at h
 | k + 1 => by
  have ih0 := laws_markText.mono_l k
  ·
   intro y0 y1
   unfold laws_markText.l0
   exact mo_
theorem laws_markText.mono : ∀ a0 k, LeO (laws_markText.f k a0) (laws_markText.f (k + 1) a0) := by
 intro a0 k
 have ih0 := laws_markText.mono_l k
 unfold laws_markText.f
 exact mo_
set_option maxHeartbeats 8000000 in
set_option maxRecDepth 100000 in
theorem laws_markText.calls (k : Nat) (a0 : Int) (r : ByteArray) (w : World) (h : laws_markText.f k a0 = some r) :
  Calls Try.prog 102 #[.int .i64 a0] w fun e w' => e = .returned (.string r) ∧ Below w.heap.size w w' := by
 have HB := Aside0.mk (Below.refl w.heap.size w)
 have H := h
 unfold laws_markText.f at H
 clear h
 replace H := id_ H
 obtain ⟨-, H, c2b0⟩ | ⟨-, H, c2b0⟩ := H
 ·
  obtain rfl := Option.some.inj H
  go_enter Try.func102, Try.ntmps102
  go_wp2
  go_ret
  exact ⟨er_, qB HB⟩
 have H' := Aside0.mk H
 clear H
 go_enter Try.func102, Try.ntmps102
 go_wp2
 go_loopg [0, 3] k (fun kq v0 v3 w' => ∃ (x0_1 : Int) (x3_1 : ByteArray), v0 = .int .i64 x0_1 ∧ v3 = .string x3_1 ∧ Aside0 (laws_markText.l0 kq x0_1 x3_1 = some r) ∧ Aside0 (kq ≤ k) ∧ Aside0 (Below w.heap.size w w'))
 case atStart => exact ⟨(a0), ((⟨#[]⟩ : ByteArray)), eqq_, eqq_, H', ⟨Nat.le_refl _⟩, ⟨qB HB⟩⟩
 case round =>
  clear H'
  try clear c1
  try clear c2
  try clear c2b0
  try clear p2
  obtain ⟨x0_1, x3_1, rfl, rfl, HA, HK1, HB⟩ := hrel
  cases gk with
  | zero => exact absurd HA.out (by simp [laws_markText.l0])
  | succ k1 =>
   have H := HA.out
   clear HA
   simp only [laws_markText.l0] at H
   replace H := id_ H
   obtain ⟨-, H, c3b0⟩ | ⟨-, H, c3b0⟩ := H
   rotate_left
   ·
    replace H := ip_ H
    obtain ⟨c8, H, -⟩ := H
    have c8b0 := eq_true c8
    have c8b1 : decide (1 + x3_1.size ≤ 9223372036854775807) = true := decide_eq_true c8
    try have c8b2 : (9223372036854775807 < 1 + x3_1.size) = False := eq_false (Nat.not_lt.2 c8)
    obtain rfl := Option.some.inj H
    go_wp2
    go_ret
    exact ⟨er_, qB HB⟩
   obtain ⟨y115, hy115⟩ : ∃ y_ : List Int, y_ = (([(wrap64 (48 + (Int.tmod x0_1 10))) % 256] : List Int)) := ⟨_, rfl⟩
   replace H := mk_ H hy115
   (try dsimp only at H)
   have Ny115 := Aside0.mk hy115
   clear hy115
   replace H := ip_ H
   obtain ⟨c4, H, -⟩ := H
   have c4b0 := eq_true c4
   have c4b1 : decide ((strOfNums y115).size + x3_1.size ≤ 9223372036854775807) = true := decide_eq_true c4
   try have c4b2 : (9223372036854775807 < (strOfNums y115).size + x3_1.size) = False := eq_false (Nat.not_lt.2 c4)
   have H' := Aside0.mk H
   clear H
   go_wp2_with (first | ((with_reducible refine gate_dst (N := 12) rfl ?_); refine Kd.R_lit (Kd.int .u8) _ 5 ?hg (N := 12) ?hd (xs := ([(wrap64 (48 + (Int.tmod x0_1 10))) % 256] : List Int)) (inner := [.int .u8 ((wrap64 (48 + (Int.tmod x0_1 10))) % 256)]) (ok := fun _ => True) (okp := fun _ => True) ?hr ?hp (fun _ hk => hk) trivial (Below.refl _ _) (Nat.le_refl _) (by simp) ?_; (case hd => rfl); (case hg => rfl); (case hr => first | (go_simp; done) | (go_simp; rfl)); (case hp => exact (Reps.one (show Kd.M (Kd.int .u8) _ _ _ ((wrap64 (48 + (Int.tmod x0_1 10))) % 256) [.int .u8 ((wrap64 (48 + (Int.tmod x0_1 10))) % 256)] from rfl) (Reps.none _ _))); intro v116 w5 ho6 hb hg_ hnew_; clear hg_ hnew_; (first | rw [← Ny115.out] at ho6 | (simp only [Int.reduceToNat] at ho6; rw [← Ny115.out] at ho6)); have HO117 := am_ (Kd.R_lower ho6 (below_size (qB HB))); replace HB := bS_ HB hb; clear hb ho6; have hcv7 := own_string (P := Try.prog) Try.underlying70 Try.underlying5 Try.underlying9 (Kd.own_of_R HO117.out)))
   go_roundg k1
   case measure => have := HK1.out; omega
   case rel => exact ⟨(wrap64 (Int.tdiv x0_1 10)), ((strOfNums y115) ++ x3_1), eqq_, eqq_, H', ⟨by have := HK1.out; omega⟩, ⟨qB HB⟩⟩

/-! ### laws_markItemS: function 79, by hand -/
def laws_markItemS.up : Nat → Int → Int
 | 0, a => a
 | j + 1, a => wrap64 (laws_markItemS.up j a + 1)
def laws_markItemS.f (k : Nat) : List (S126) → Int → Option (Int × List (S126))
 | [], a => some (a, [])
 | _ :: l, a => (laws_markText.f k (laws_markItemS.up 2 a)).bind fun s1 => (laws_markText.f k (laws_markItemS.up 6 a)).bind fun s2 => (laws_markText.f k (laws_markItemS.up 10 a)).bind fun s3 => (laws_markItemS.f k l (laws_markItemS.up 16 a)).bind fun d => some (d.1, (⟨a, (⟨(laws_markItemS.up 1 a), s1, (laws_markItemS.up 3 a), (laws_markItemS.up 4 a), (laws_markItemS.up 5 a), s2, (laws_markItemS.up 7 a), (laws_markItemS.up 8 a)⟩ : S90), (⟨(laws_markItemS.up 9 a), s3, (laws_markItemS.up 11 a), (laws_markItemS.up 12 a), (laws_markItemS.up 13 a), (laws_markItemS.up 14 a), (laws_markItemS.up 15 a)⟩ : S124)⟩ : S126) :: d.2)
theorem laws_markItemS.mono : ∀ l a k, LeO (laws_markItemS.f k l a) (laws_markItemS.f (k + 1) l a) := by
 intro l
 induction l with
 | nil => intro a k; exact LeO.refl _
 | cons x l ih => intro a k; exact LeO.bind (laws_markText.mono _ _) (fun _ => LeO.bind (laws_markText.mono _ _) (fun _ => LeO.bind (laws_markText.mono _ _) (fun _ => LeO.bind (ih _ _) (fun _ => LeO.refl _))))
set_option maxHeartbeats 8000000 in
set_option maxRecDepth 100000 in
theorem laws_markItemS.calls (k : Nat) (P0_ : Nat → Prop) (u9000_ : Value) (l0 : List (S126)) (a1 : Int) (r1 : Int) (r2 : List (S126)) (w0 w : World) (hB : Below w0.heap.size w0 w) (ho0 : Kd.R k126 126 w w0.heap.size P0_ u9000_ l0) (h : laws_markItemS.f k l0 a1 = some (r1, r2)) :
  Calls Try.prog 79 #[u9000_, .int .i64 a1] w fun e w' => e = .returned (.int .i64 r1) ∧ Kd.R k126 126 w' w0.heap.size (fun k_ => (P0_ k_ ∨ w.heap.size ≤ k_)) u9000_ r2 ∧ Below w0.heap.size w0 w' ∧ Kept w w' (fun k_ => P0_ k_) := by
 have hu126 := Try.underlying126
 obtain ⟨A0, c0, e0⟩ := Kd.R_slice ho0
 subst e0
 have hbig : l0.length ≤ 9223372036854775807 := (Kd.R_reads' ho0).2.2.2.1
 have HBIG := Aside0.mk hbig
 have HO := Aside0.mk ho0
 have HB := Aside0.mk hB
 have HK := Aside0.mk (Kept.refl w P0_)
 have HQ0 := Aside0.mk (show (laws_markItemS.f k (l0.drop (0 : Int).toNat) a1).map (fun p => (p.1, l0.take (0 : Int).toNat ++ p.2)) = some (r1, r2) by simp [h])
 clear ho0 hB h hbig
 go_enter Try.func79, Try.ntmps79
 go_wp2
 go_loopg [1, 5] l0.length (fun gg v1 v5 wr => ∃ (xs : List (S126)) (kk i : Int), v1 = .int .i64 kk ∧ v5 = .int .i64 i ∧ Aside0 (0 ≤ i ∧ i ≤ (l0.length : Int) ∧ ((l0.length : Int) - i).toNat ≤ gg ∧ xs.length = l0.length) ∧ Aside0 ((laws_markItemS.f k (xs.drop i.toNat) kk).map (fun p => (p.1, xs.take i.toNat ++ p.2)) = some (r1, r2)) ∧ Aside0 (Kd.R k126 126 wr w0.heap.size P0_ (.slice A0 l0.length c0) xs) ∧ Aside0 (Below w0.heap.size w0 wr) ∧ Aside0 (Kept w wr P0_))
 case atStart => exact ⟨l0, a1, 0, rfl, rfl, ⟨by omega, by omega, by omega, rfl⟩, HQ0, HO, HB, HK⟩
 case round =>
  clear HQ0 HO HB HK
  obtain ⟨xs, kk, i, rfl, rfl, HR, HQ, HO, HB, HK⟩ := hrel
  obtain ⟨h0, h1, hg, hl⟩ := HR.out
  by_cases hlt : i < (l0.length : Int)
  rotate_left
  ·
   have c3 : decide (i < (l0.length : Int)) = false := decide_eq_false hlt
   go_wp2
   go_ret
   have hi := HQ.out
   rw [List.drop_eq_nil_of_le (by omega), List.take_of_length_le (by omega)] at hi
   simp only [laws_markItemS.f, Option.map_some, List.append_nil] at hi
   obtain ⟨rfl, rfl⟩ := Prod.mk.inj (Option.some.inj hi)
   exact ⟨rfl, Kd.R_mono HO.out (fun _ hk => .inl hk), HB.out, HK.out⟩
  have c3 : decide (i < (l0.length : Int)) = true := decide_eq_true hlt
  obtain ⟨g, cap, eg, hgb, _, _⟩ := Kd.R_form HO.out (by omega)
  injection eg with eg1 eg2 eg3
  subst eg1
  clear eg2 eg3
  have hit : i.toNat < xs.length := by omega
  have hPg : P0_ g := HO.out.1 g (by simp [Value.ownBlock])
  have hdrop : xs.drop i.toNat = xs.getD i.toNat z126 :: xs.drop (i + 1).toNat := by
   rw [List.drop_eq_getElem_cons hit, show (i + 1).toNat = i.toNat + 1 by omega]
   congr 1
   simp [List.getD_eq_getElem?_getD, List.getElem?_eq_getElem hit]
  have hq := HQ.out
  rw [hdrop] at hq
  obtain ⟨ce, hcl, hM, hcc, hfr⟩ := Kd.R_elem HO.out z126 i h0 hlt
  generalize xs.getD i.toNat z126 = x at hM hq
  obtain ⟨t0, ⟨t1, t2, t3, t4, t5, t6, t7, t8⟩, ⟨t9, t10, t11, t12, t13, t14, t15⟩⟩ := x
  obtain rfl := k126_openM hM
  simp only [laws_markItemS.f, Option.map_eq_some_iff, Option.bind_eq_some_iff] at hq
  obtain ⟨pp, ⟨s1, hs1, s2, hs2, s3, hs3, ⟨q1, q2⟩, hqq, hp⟩, hr⟩ := hq
  obtain rfl := Option.some.inj hp
  clear hp hM
  have HS1 := Aside0.mk hs1
  have HS2 := Aside0.mk hs2
  have HS3 := Aside0.mk hs3
  have HQQ := Aside0.mk hqq
  have HRR := Aside0.mk hr
  have HL := Aside0.mk hl
  have HIT := Aside0.mk hit
  have HPG := Aside0.mk hPg
  have HGB := Aside0.mk hgb
  have H01 := Aside0.mk (And.intro h0 hlt)
  have hm : Aside0 (((l0.length : Int) - (i + 1)).toNat < gk ∧ 0 ≤ i + 1 ∧ i + 1 ≤ (l0.length : Int) ∧ wrap64 (i + 1) = i + 1) := ⟨by omega, by omega, by omega, by have := HBIG.out; unfold wrap64; omega⟩
  clear hs1 hs2 hs3 hqq hr hl hit hPg hgb hdrop HR HQ h1 hg
  replace h0 := eq_true h0
  replace hlt := eq_true hlt
  have hx0 : wr.cell? ⟨g, i.toNat * 16, none⟩ = some (.int .i64 t0) := hcc 0 _ rfl
  have hf0 : wr.frozen? ⟨g, i.toNat * 16, none⟩ = false := hfr 0
  have hx1 : wr.cell? ⟨g, i.toNat * 16 + 1, none⟩ = some (.int .i64 t1) := hcc 1 _ rfl
  have hf1 : wr.frozen? ⟨g, i.toNat * 16 + 1, none⟩ = false := hfr 1
  have HCC0 := Aside0.mk hcc
  have HCL0 := Aside0.mk hcl
  clear hcc hcl hfr
  have t_ := trivial
  go_wp2_with (clear t_; go_at_call 102; refine (laws_markText.calls k (laws_markItemS.up 2 kk) s1 _ HS1.out).mono ?_; rintro e w1 ⟨rfl, b1⟩; have hb_ : Below w0.heap.size w0 ((wr.setCell ⟨g, i.toNat * 16, none⟩ (.int .i64 kk)).setCell ⟨g, i.toNat * 16 + 1, none⟩ (.int .i64 (laws_markItemS.up 1 kk))) := (below_set (below_set HB.out HGB.out) HGB.out); have hk_ : Kept w ((wr.setCell ⟨g, i.toNat * 16, none⟩ (.int .i64 kk)).setCell ⟨g, i.toNat * 16 + 1, none⟩ (.int .i64 (laws_markItemS.up 1 kk))) P0_ := (Kept.setCell (p := ⟨g, i.toNat * 16 + 1, none⟩) (Kept.setCell (p := ⟨g, i.toNat * 16, none⟩) HK.out (.inl HPG.out) _) (.inl HPG.out) _); have hp_ : Kd.R k126 126 ((wr.setCell ⟨g, i.toNat * 16, none⟩ (.int .i64 kk)).setCell ⟨g, i.toNat * 16 + 1, none⟩ (.int .i64 (laws_markItemS.up 1 kk))) w0.heap.size P0_ (.slice (some ⟨g, 0, none⟩) l0.length c0) (xs.set i.toNat (⟨kk, (⟨(laws_markItemS.up 1 kk), t2, t3, t4, t5, t6, t7, t8⟩ : S90), (⟨t9, t10, t11, t12, t13, t14, t15⟩ : S124)⟩ : S126)) := (Kd.R_seg HO.out i H01.out.1 H01.out.2 (seg := [.int .i64 kk, .int .i64 (laws_markItemS.up 1 kk)]) (j := 0) HCL0.out HCC0.out (show 0 + 2 ≤ 16 from by decide) (x' := (⟨kk, (⟨(laws_markItemS.up 1 kk), t2, t3, t4, t5, t6, t7, t8⟩ : S90), (⟨t9, t10, t11, t12, t13, t14, t15⟩ : S124)⟩ : S126)) (k126_mkM _ _ _ _) (fun _ hk => hk)).1; have HB1 := am_ (hb_.trans (Below.mono b1 hb_.size)); have HK1 := am_ (show Kept w w1 P0_ from ⟨Nat.le_trans hk_.1 (Below.size b1), fun j_ hi_ hn_ => (b1.block j_ (Nat.lt_of_lt_of_le hi_ hk_.1)).trans (hk_.2 j_ hi_ hn_)⟩); have HO1 := am_ (Kd.R_below hp_ b1); clear b1 hb_ hk_ hp_ hx0 hf0 hx1 hf1; obtain ⟨c1_, hcl1, hM_, hcc1, hfr⟩ := Kd.R_elem HO1.out z126 i H01.out.1 H01.out.2; rw [show (xs.set i.toNat (⟨kk, (⟨(laws_markItemS.up 1 kk), t2, t3, t4, t5, t6, t7, t8⟩ : S90), (⟨t9, t10, t11, t12, t13, t14, t15⟩ : S124)⟩ : S126)).getD i.toNat z126 = (⟨kk, (⟨(laws_markItemS.up 1 kk), t2, t3, t4, t5, t6, t7, t8⟩ : S90), (⟨t9, t10, t11, t12, t13, t14, t15⟩ : S124)⟩ : S126) from by rw [List.getD_eq_getElem?_getD, List.getElem?_set_self (by (try simp only [List.length_set]); exact HIT.out)]; rfl] at hM_; obtain rfl := k126_openM hM_; clear hM_; have hx2 : w1.cell? ⟨g, i.toNat * 16 + 2, none⟩ = some (.string t2) := hcc1 2 _ rfl; have hf2 : w1.frozen? ⟨g, i.toNat * 16 + 2, none⟩ = false := hfr 2; have hx3 : w1.cell? ⟨g, i.toNat * 16 + 3, none⟩ = some (.int .i64 t3) := hcc1 3 _ rfl; have hf3 : w1.frozen? ⟨g, i.toNat * 16 + 3, none⟩ = false := hfr 3; have hx4 : w1.cell? ⟨g, i.toNat * 16 + 4, none⟩ = some (.int .i64 t4) := hcc1 4 _ rfl; have hf4 : w1.frozen? ⟨g, i.toNat * 16 + 4, none⟩ = false := hfr 4; have hx5 : w1.cell? ⟨g, i.toNat * 16 + 5, none⟩ = some (.int .i64 t5) := hcc1 5 _ rfl; have hf5 : w1.frozen? ⟨g, i.toNat * 16 + 5, none⟩ = false := hfr 5)
  have hx2 : w1.cell? ⟨g, i.toNat * 16 + 2, none⟩ = some (.string t2) := hcc1 2 _ rfl
  have hf2 : w1.frozen? ⟨g, i.toNat * 16 + 2, none⟩ = false := hfr 2
  have hx3 : w1.cell? ⟨g, i.toNat * 16 + 3, none⟩ = some (.int .i64 t3) := hcc1 3 _ rfl
  have hf3 : w1.frozen? ⟨g, i.toNat * 16 + 3, none⟩ = false := hfr 3
  have hx4 : w1.cell? ⟨g, i.toNat * 16 + 4, none⟩ = some (.int .i64 t4) := hcc1 4 _ rfl
  have hf4 : w1.frozen? ⟨g, i.toNat * 16 + 4, none⟩ = false := hfr 4
  have hx5 : w1.cell? ⟨g, i.toNat * 16 + 5, none⟩ = some (.int .i64 t5) := hcc1 5 _ rfl
  have hf5 : w1.frozen? ⟨g, i.toNat * 16 + 5, none⟩ = false := hfr 5
  have HCC1 := Aside0.mk hcc1
  have HCL1 := Aside0.mk hcl1
  clear hcc1 hcl1 hfr
  have t_ := trivial
  go_wp2_with (clear t_; go_at_call 102; refine (laws_markText.calls k (laws_markItemS.up 6 kk) s2 _ HS2.out).mono ?_; rintro e w2 ⟨rfl, b1⟩; have hb_ : Below w0.heap.size w0 ((((w1.setCell ⟨g, i.toNat * 16 + 2, none⟩ (.string s1)).setCell ⟨g, i.toNat * 16 + 3, none⟩ (.int .i64 (laws_markItemS.up 3 kk))).setCell ⟨g, i.toNat * 16 + 4, none⟩ (.int .i64 (laws_markItemS.up 4 kk))).setCell ⟨g, i.toNat * 16 + 5, none⟩ (.int .i64 (laws_markItemS.up 5 kk))) := (below_set (below_set (below_set (below_set HB1.out HGB.out) HGB.out) HGB.out) HGB.out); have hk_ : Kept w ((((w1.setCell ⟨g, i.toNat * 16 + 2, none⟩ (.string s1)).setCell ⟨g, i.toNat * 16 + 3, none⟩ (.int .i64 (laws_markItemS.up 3 kk))).setCell ⟨g, i.toNat * 16 + 4, none⟩ (.int .i64 (laws_markItemS.up 4 kk))).setCell ⟨g, i.toNat * 16 + 5, none⟩ (.int .i64 (laws_markItemS.up 5 kk))) P0_ := (Kept.setCell (p := ⟨g, i.toNat * 16 + 5, none⟩) (Kept.setCell (p := ⟨g, i.toNat * 16 + 4, none⟩) (Kept.setCell (p := ⟨g, i.toNat * 16 + 3, none⟩) (Kept.setCell (p := ⟨g, i.toNat * 16 + 2, none⟩) HK1.out (.inl HPG.out) _) (.inl HPG.out) _) (.inl HPG.out) _) (.inl HPG.out) _); have hp_ : Kd.R k126 126 ((((w1.setCell ⟨g, i.toNat * 16 + 2, none⟩ (.string s1)).setCell ⟨g, i.toNat * 16 + 3, none⟩ (.int .i64 (laws_markItemS.up 3 kk))).setCell ⟨g, i.toNat * 16 + 4, none⟩ (.int .i64 (laws_markItemS.up 4 kk))).setCell ⟨g, i.toNat * 16 + 5, none⟩ (.int .i64 (laws_markItemS.up 5 kk))) w0.heap.size P0_ (.slice (some ⟨g, 0, none⟩) l0.length c0) ((xs.set i.toNat (⟨kk, (⟨(laws_markItemS.up 1 kk), t2, t3, t4, t5, t6, t7, t8⟩ : S90), (⟨t9, t10, t11, t12, t13, t14, t15⟩ : S124)⟩ : S126)).set i.toNat (⟨kk, (⟨(laws_markItemS.up 1 kk), s1, (laws_markItemS.up 3 kk), (laws_markItemS.up 4 kk), (laws_markItemS.up 5 kk), t6, t7, t8⟩ : S90), (⟨t9, t10, t11, t12, t13, t14, t15⟩ : S124)⟩ : S126)) := (Kd.R_seg HO1.out i H01.out.1 H01.out.2 (seg := [.string s1, .int .i64 (laws_markItemS.up 3 kk), .int .i64 (laws_markItemS.up 4 kk), .int .i64 (laws_markItemS.up 5 kk)]) (j := 2) HCL1.out HCC1.out (show 2 + 4 ≤ 16 from by decide) (x' := (⟨kk, (⟨(laws_markItemS.up 1 kk), s1, (laws_markItemS.up 3 kk), (laws_markItemS.up 4 kk), (laws_markItemS.up 5 kk), t6, t7, t8⟩ : S90), (⟨t9, t10, t11, t12, t13, t14, t15⟩ : S124)⟩ : S126)) (k126_mkM _ _ _ _) (fun _ hk => hk)).1; have HB2 := am_ (hb_.trans (Below.mono b1 hb_.size)); have HK2 := am_ (show Kept w w2 P0_ from ⟨Nat.le_trans hk_.1 (Below.size b1), fun j_ hi_ hn_ => (b1.block j_ (Nat.lt_of_lt_of_le hi_ hk_.1)).trans (hk_.2 j_ hi_ hn_)⟩); have HO2 := am_ (Kd.R_below hp_ b1); clear b1 hb_ hk_ hp_ hx2 hf2 hx3 hf3 hx4 hf4 hx5 hf5; obtain ⟨c2_, hcl2, hM_, hcc2, hfr⟩ := Kd.R_elem HO2.out z126 i H01.out.1 H01.out.2; rw [show ((xs.set i.toNat (⟨kk, (⟨(laws_markItemS.up 1 kk), t2, t3, t4, t5, t6, t7, t8⟩ : S90), (⟨t9, t10, t11, t12, t13, t14, t15⟩ : S124)⟩ : S126)).set i.toNat (⟨kk, (⟨(laws_markItemS.up 1 kk), s1, (laws_markItemS.up 3 kk), (laws_markItemS.up 4 kk), (laws_markItemS.up 5 kk), t6, t7, t8⟩ : S90), (⟨t9, t10, t11, t12, t13, t14, t15⟩ : S124)⟩ : S126)).getD i.toNat z126 = (⟨kk, (⟨(laws_markItemS.up 1 kk), s1, (laws_markItemS.up 3 kk), (laws_markItemS.up 4 kk), (laws_markItemS.up 5 kk), t6, t7, t8⟩ : S90), (⟨t9, t10, t11, t12, t13, t14, t15⟩ : S124)⟩ : S126) from by rw [List.getD_eq_getElem?_getD, List.getElem?_set_self (by (try simp only [List.length_set]); exact HIT.out)]; rfl] at hM_; obtain rfl := k126_openM hM_; clear hM_; have hx6 : w2.cell? ⟨g, i.toNat * 16 + 6, none⟩ = some (.string t6) := hcc2 6 _ rfl; have hf6 : w2.frozen? ⟨g, i.toNat * 16 + 6, none⟩ = false := hfr 6; have hx7 : w2.cell? ⟨g, i.toNat * 16 + 7, none⟩ = some (.int .i64 t7) := hcc2 7 _ rfl; have hf7 : w2.frozen? ⟨g, i.toNat * 16 + 7, none⟩ = false := hfr 7; have hx8 : w2.cell? ⟨g, i.toNat * 16 + 8, none⟩ = some (.int .i64 t8) := hcc2 8 _ rfl; have hf8 : w2.frozen? ⟨g, i.toNat * 16 + 8, none⟩ = false := hfr 8; have hx9 : w2.cell? ⟨g, i.toNat * 16 + 9, none⟩ = some (.int .i64 t9) := hcc2 9 _ rfl; have hf9 : w2.frozen? ⟨g, i.toNat * 16 + 9, none⟩ = false := hfr 9)
  have hx6 : w2.cell? ⟨g, i.toNat * 16 + 6, none⟩ = some (.string t6) := hcc2 6 _ rfl
  have hf6 : w2.frozen? ⟨g, i.toNat * 16 + 6, none⟩ = false := hfr 6
  have hx7 : w2.cell? ⟨g, i.toNat * 16 + 7, none⟩ = some (.int .i64 t7) := hcc2 7 _ rfl
  have hf7 : w2.frozen? ⟨g, i.toNat * 16 + 7, none⟩ = false := hfr 7
  have hx8 : w2.cell? ⟨g, i.toNat * 16 + 8, none⟩ = some (.int .i64 t8) := hcc2 8 _ rfl
  have hf8 : w2.frozen? ⟨g, i.toNat * 16 + 8, none⟩ = false := hfr 8
  have hx9 : w2.cell? ⟨g, i.toNat * 16 + 9, none⟩ = some (.int .i64 t9) := hcc2 9 _ rfl
  have hf9 : w2.frozen? ⟨g, i.toNat * 16 + 9, none⟩ = false := hfr 9
  have HCC2 := Aside0.mk hcc2
  have HCL2 := Aside0.mk hcl2
  clear hcc2 hcl2 hfr
  have t_ := trivial
  go_wp2_with (clear t_; go_at_call 102; refine (laws_markText.calls k (laws_markItemS.up 10 kk) s3 _ HS3.out).mono ?_; rintro e w3 ⟨rfl, b1⟩; have hb_ : Below w0.heap.size w0 ((((w2.setCell ⟨g, i.toNat * 16 + 6, none⟩ (.string s2)).setCell ⟨g, i.toNat * 16 + 7, none⟩ (.int .i64 (laws_markItemS.up 7 kk))).setCell ⟨g, i.toNat * 16 + 8, none⟩ (.int .i64 (laws_markItemS.up 8 kk))).setCell ⟨g, i.toNat * 16 + 9, none⟩ (.int .i64 (laws_markItemS.up 9 kk))) := (below_set (below_set (below_set (below_set HB2.out HGB.out) HGB.out) HGB.out) HGB.out); have hk_ : Kept w ((((w2.setCell ⟨g, i.toNat * 16 + 6, none⟩ (.string s2)).setCell ⟨g, i.toNat * 16 + 7, none⟩ (.int .i64 (laws_markItemS.up 7 kk))).setCell ⟨g, i.toNat * 16 + 8, none⟩ (.int .i64 (laws_markItemS.up 8 kk))).setCell ⟨g, i.toNat * 16 + 9, none⟩ (.int .i64 (laws_markItemS.up 9 kk))) P0_ := (Kept.setCell (p := ⟨g, i.toNat * 16 + 9, none⟩) (Kept.setCell (p := ⟨g, i.toNat * 16 + 8, none⟩) (Kept.setCell (p := ⟨g, i.toNat * 16 + 7, none⟩) (Kept.setCell (p := ⟨g, i.toNat * 16 + 6, none⟩) HK2.out (.inl HPG.out) _) (.inl HPG.out) _) (.inl HPG.out) _) (.inl HPG.out) _); have hp_ : Kd.R k126 126 ((((w2.setCell ⟨g, i.toNat * 16 + 6, none⟩ (.string s2)).setCell ⟨g, i.toNat * 16 + 7, none⟩ (.int .i64 (laws_markItemS.up 7 kk))).setCell ⟨g, i.toNat * 16 + 8, none⟩ (.int .i64 (laws_markItemS.up 8 kk))).setCell ⟨g, i.toNat * 16 + 9, none⟩ (.int .i64 (laws_markItemS.up 9 kk))) w0.heap.size P0_ (.slice (some ⟨g, 0, none⟩) l0.length c0) (((xs.set i.toNat (⟨kk, (⟨(laws_markItemS.up 1 kk), t2, t3, t4, t5, t6, t7, t8⟩ : S90), (⟨t9, t10, t11, t12, t13, t14, t15⟩ : S124)⟩ : S126)).set i.toNat (⟨kk, (⟨(laws_markItemS.up 1 kk), s1, (laws_markItemS.up 3 kk), (laws_markItemS.up 4 kk), (laws_markItemS.up 5 kk), t6, t7, t8⟩ : S90), (⟨t9, t10, t11, t12, t13, t14, t15⟩ : S124)⟩ : S126)).set i.toNat (⟨kk, (⟨(laws_markItemS.up 1 kk), s1, (laws_markItemS.up 3 kk), (laws_markItemS.up 4 kk), (laws_markItemS.up 5 kk), s2, (laws_markItemS.up 7 kk), (laws_markItemS.up 8 kk)⟩ : S90), (⟨(laws_markItemS.up 9 kk), t10, t11, t12, t13, t14, t15⟩ : S124)⟩ : S126)) := (Kd.R_seg HO2.out i H01.out.1 H01.out.2 (seg := [.string s2, .int .i64 (laws_markItemS.up 7 kk), .int .i64 (laws_markItemS.up 8 kk), .int .i64 (laws_markItemS.up 9 kk)]) (j := 6) HCL2.out HCC2.out (show 6 + 4 ≤ 16 from by decide) (x' := (⟨kk, (⟨(laws_markItemS.up 1 kk), s1, (laws_markItemS.up 3 kk), (laws_markItemS.up 4 kk), (laws_markItemS.up 5 kk), s2, (laws_markItemS.up 7 kk), (laws_markItemS.up 8 kk)⟩ : S90), (⟨(laws_markItemS.up 9 kk), t10, t11, t12, t13, t14, t15⟩ : S124)⟩ : S126)) (k126_mkM _ _ _ _) (fun _ hk => hk)).1; have HB3 := am_ (hb_.trans (Below.mono b1 hb_.size)); have HK3 := am_ (show Kept w w3 P0_ from ⟨Nat.le_trans hk_.1 (Below.size b1), fun j_ hi_ hn_ => (b1.block j_ (Nat.lt_of_lt_of_le hi_ hk_.1)).trans (hk_.2 j_ hi_ hn_)⟩); have HO3 := am_ (Kd.R_below hp_ b1); clear b1 hb_ hk_ hp_ hx6 hf6 hx7 hf7 hx8 hf8 hx9 hf9; obtain ⟨c3_, hcl3, hM_, hcc3, hfr⟩ := Kd.R_elem HO3.out z126 i H01.out.1 H01.out.2; rw [show (((xs.set i.toNat (⟨kk, (⟨(laws_markItemS.up 1 kk), t2, t3, t4, t5, t6, t7, t8⟩ : S90), (⟨t9, t10, t11, t12, t13, t14, t15⟩ : S124)⟩ : S126)).set i.toNat (⟨kk, (⟨(laws_markItemS.up 1 kk), s1, (laws_markItemS.up 3 kk), (laws_markItemS.up 4 kk), (laws_markItemS.up 5 kk), t6, t7, t8⟩ : S90), (⟨t9, t10, t11, t12, t13, t14, t15⟩ : S124)⟩ : S126)).set i.toNat (⟨kk, (⟨(laws_markItemS.up 1 kk), s1, (laws_markItemS.up 3 kk), (laws_markItemS.up 4 kk), (laws_markItemS.up 5 kk), s2, (laws_markItemS.up 7 kk), (laws_markItemS.up 8 kk)⟩ : S90), (⟨(laws_markItemS.up 9 kk), t10, t11, t12, t13, t14, t15⟩ : S124)⟩ : S126)).getD i.toNat z126 = (⟨kk, (⟨(laws_markItemS.up 1 kk), s1, (laws_markItemS.up 3 kk), (laws_markItemS.up 4 kk), (laws_markItemS.up 5 kk), s2, (laws_markItemS.up 7 kk), (laws_markItemS.up 8 kk)⟩ : S90), (⟨(laws_markItemS.up 9 kk), t10, t11, t12, t13, t14, t15⟩ : S124)⟩ : S126) from by rw [List.getD_eq_getElem?_getD, List.getElem?_set_self (by (try simp only [List.length_set]); exact HIT.out)]; rfl] at hM_; obtain rfl := k126_openM hM_; clear hM_; have hx10 : w3.cell? ⟨g, i.toNat * 16 + 10, none⟩ = some (.string t10) := hcc3 10 _ rfl; have hf10 : w3.frozen? ⟨g, i.toNat * 16 + 10, none⟩ = false := hfr 10; have hx11 : w3.cell? ⟨g, i.toNat * 16 + 11, none⟩ = some (.int .i64 t11) := hcc3 11 _ rfl; have hf11 : w3.frozen? ⟨g, i.toNat * 16 + 11, none⟩ = false := hfr 11; have hx12 : w3.cell? ⟨g, i.toNat * 16 + 12, none⟩ = some (.int .i64 t12) := hcc3 12 _ rfl; have hf12 : w3.frozen? ⟨g, i.toNat * 16 + 12, none⟩ = false := hfr 12; have hx13 : w3.cell? ⟨g, i.toNat * 16 + 13, none⟩ = some (.int .i64 t13) := hcc3 13 _ rfl; have hf13 : w3.frozen? ⟨g, i.toNat * 16 + 13, none⟩ = false := hfr 13; have hx14 : w3.cell? ⟨g, i.toNat * 16 + 14, none⟩ = some (.int .i64 t14) := hcc3 14 _ rfl; have hf14 : w3.frozen? ⟨g, i.toNat * 16 + 14, none⟩ = false := hfr 14; have hx15 : w3.cell? ⟨g, i.toNat * 16 + 15, none⟩ = some (.int .i64 t15) := hcc3 15 _ rfl; have hf15 : w3.frozen? ⟨g, i.toNat * 16 + 15, none⟩ = false := hfr 15)
  have hx10 : w3.cell? ⟨g, i.toNat * 16 + 10, none⟩ = some (.string t10) := hcc3 10 _ rfl
  have hf10 : w3.frozen? ⟨g, i.toNat * 16 + 10, none⟩ = false := hfr 10
  have hx11 : w3.cell? ⟨g, i.toNat * 16 + 11, none⟩ = some (.int .i64 t11) := hcc3 11 _ rfl
  have hf11 : w3.frozen? ⟨g, i.toNat * 16 + 11, none⟩ = false := hfr 11
  have hx12 : w3.cell? ⟨g, i.toNat * 16 + 12, none⟩ = some (.int .i64 t12) := hcc3 12 _ rfl
  have hf12 : w3.frozen? ⟨g, i.toNat * 16 + 12, none⟩ = false := hfr 12
  have hx13 : w3.cell? ⟨g, i.toNat * 16 + 13, none⟩ = some (.int .i64 t13) := hcc3 13 _ rfl
  have hf13 : w3.frozen? ⟨g, i.toNat * 16 + 13, none⟩ = false := hfr 13
  have hx14 : w3.cell? ⟨g, i.toNat * 16 + 14, none⟩ = some (.int .i64 t14) := hcc3 14 _ rfl
  have hf14 : w3.frozen? ⟨g, i.toNat * 16 + 14, none⟩ = false := hfr 14
  have hx15 : w3.cell? ⟨g, i.toNat * 16 + 15, none⟩ = some (.int .i64 t15) := hcc3 15 _ rfl
  have hf15 : w3.frozen? ⟨g, i.toNat * 16 + 15, none⟩ = false := hfr 15
  have HCC3 := Aside0.mk hcc3
  have HCL3 := Aside0.mk hcl3
  clear hcc3 hcl3 hfr
  go_wp2
  have hw := hm.out.2.2.2
  have hp_ : Kd.R k126 126 ((((((w3.setCell ⟨g, i.toNat * 16 + 10, none⟩ (.string s3)).setCell ⟨g, i.toNat * 16 + 11, none⟩ (.int .i64 (laws_markItemS.up 11 kk))).setCell ⟨g, i.toNat * 16 + 12, none⟩ (.int .i64 (laws_markItemS.up 12 kk))).setCell ⟨g, i.toNat * 16 + 13, none⟩ (.int .i64 (laws_markItemS.up 13 kk))).setCell ⟨g, i.toNat * 16 + 14, none⟩ (.int .i64 (laws_markItemS.up 14 kk))).setCell ⟨g, i.toNat * 16 + 15, none⟩ (.int .i64 (laws_markItemS.up 15 kk))) w0.heap.size P0_ (.slice (some ⟨g, 0, none⟩) l0.length c0) ((((xs.set i.toNat (⟨kk, (⟨(laws_markItemS.up 1 kk), t2, t3, t4, t5, t6, t7, t8⟩ : S90), (⟨t9, t10, t11, t12, t13, t14, t15⟩ : S124)⟩ : S126)).set i.toNat (⟨kk, (⟨(laws_markItemS.up 1 kk), s1, (laws_markItemS.up 3 kk), (laws_markItemS.up 4 kk), (laws_markItemS.up 5 kk), t6, t7, t8⟩ : S90), (⟨t9, t10, t11, t12, t13, t14, t15⟩ : S124)⟩ : S126)).set i.toNat (⟨kk, (⟨(laws_markItemS.up 1 kk), s1, (laws_markItemS.up 3 kk), (laws_markItemS.up 4 kk), (laws_markItemS.up 5 kk), s2, (laws_markItemS.up 7 kk), (laws_markItemS.up 8 kk)⟩ : S90), (⟨(laws_markItemS.up 9 kk), t10, t11, t12, t13, t14, t15⟩ : S124)⟩ : S126)).set i.toNat (⟨kk, (⟨(laws_markItemS.up 1 kk), s1, (laws_markItemS.up 3 kk), (laws_markItemS.up 4 kk), (laws_markItemS.up 5 kk), s2, (laws_markItemS.up 7 kk), (laws_markItemS.up 8 kk)⟩ : S90), (⟨(laws_markItemS.up 9 kk), s3, (laws_markItemS.up 11 kk), (laws_markItemS.up 12 kk), (laws_markItemS.up 13 kk), (laws_markItemS.up 14 kk), (laws_markItemS.up 15 kk)⟩ : S124)⟩ : S126)) := (Kd.R_seg HO3.out i H01.out.1 H01.out.2 (seg := [.string s3, .int .i64 (laws_markItemS.up 11 kk), .int .i64 (laws_markItemS.up 12 kk), .int .i64 (laws_markItemS.up 13 kk), .int .i64 (laws_markItemS.up 14 kk), .int .i64 (laws_markItemS.up 15 kk)]) (j := 10) HCL3.out HCC3.out (show 10 + 6 ≤ 16 from by decide) (x' := (⟨kk, (⟨(laws_markItemS.up 1 kk), s1, (laws_markItemS.up 3 kk), (laws_markItemS.up 4 kk), (laws_markItemS.up 5 kk), s2, (laws_markItemS.up 7 kk), (laws_markItemS.up 8 kk)⟩ : S90), (⟨(laws_markItemS.up 9 kk), s3, (laws_markItemS.up 11 kk), (laws_markItemS.up 12 kk), (laws_markItemS.up 13 kk), (laws_markItemS.up 14 kk), (laws_markItemS.up 15 kk)⟩ : S124)⟩ : S126)) (k126_mkM _ _ _ _) (fun _ hk => hk)).1
  rw [show ((((xs.set i.toNat (⟨kk, (⟨(laws_markItemS.up 1 kk), t2, t3, t4, t5, t6, t7, t8⟩ : S90), (⟨t9, t10, t11, t12, t13, t14, t15⟩ : S124)⟩ : S126)).set i.toNat (⟨kk, (⟨(laws_markItemS.up 1 kk), s1, (laws_markItemS.up 3 kk), (laws_markItemS.up 4 kk), (laws_markItemS.up 5 kk), t6, t7, t8⟩ : S90), (⟨t9, t10, t11, t12, t13, t14, t15⟩ : S124)⟩ : S126)).set i.toNat (⟨kk, (⟨(laws_markItemS.up 1 kk), s1, (laws_markItemS.up 3 kk), (laws_markItemS.up 4 kk), (laws_markItemS.up 5 kk), s2, (laws_markItemS.up 7 kk), (laws_markItemS.up 8 kk)⟩ : S90), (⟨(laws_markItemS.up 9 kk), t10, t11, t12, t13, t14, t15⟩ : S124)⟩ : S126)).set i.toNat (⟨kk, (⟨(laws_markItemS.up 1 kk), s1, (laws_markItemS.up 3 kk), (laws_markItemS.up 4 kk), (laws_markItemS.up 5 kk), s2, (laws_markItemS.up 7 kk), (laws_markItemS.up 8 kk)⟩ : S90), (⟨(laws_markItemS.up 9 kk), s3, (laws_markItemS.up 11 kk), (laws_markItemS.up 12 kk), (laws_markItemS.up 13 kk), (laws_markItemS.up 14 kk), (laws_markItemS.up 15 kk)⟩ : S124)⟩ : S126)) = xs.set i.toNat (⟨kk, (⟨(laws_markItemS.up 1 kk), s1, (laws_markItemS.up 3 kk), (laws_markItemS.up 4 kk), (laws_markItemS.up 5 kk), s2, (laws_markItemS.up 7 kk), (laws_markItemS.up 8 kk)⟩ : S90), (⟨(laws_markItemS.up 9 kk), s3, (laws_markItemS.up 11 kk), (laws_markItemS.up 12 kk), (laws_markItemS.up 13 kk), (laws_markItemS.up 14 kk), (laws_markItemS.up 15 kk)⟩ : S124)⟩ : S126) from by simp only [List.set_set]] at hp_
  have HN := Aside0.mk (show (laws_markItemS.f k ((xs.set i.toNat (⟨kk, (⟨(laws_markItemS.up 1 kk), s1, (laws_markItemS.up 3 kk), (laws_markItemS.up 4 kk), (laws_markItemS.up 5 kk), s2, (laws_markItemS.up 7 kk), (laws_markItemS.up 8 kk)⟩ : S90), (⟨(laws_markItemS.up 9 kk), s3, (laws_markItemS.up 11 kk), (laws_markItemS.up 12 kk), (laws_markItemS.up 13 kk), (laws_markItemS.up 14 kk), (laws_markItemS.up 15 kk)⟩ : S124)⟩ : S126)).drop (i + 1).toNat) (laws_markItemS.up 16 kk)).map (fun p => (p.1, (xs.set i.toNat (⟨kk, (⟨(laws_markItemS.up 1 kk), s1, (laws_markItemS.up 3 kk), (laws_markItemS.up 4 kk), (laws_markItemS.up 5 kk), s2, (laws_markItemS.up 7 kk), (laws_markItemS.up 8 kk)⟩ : S90), (⟨(laws_markItemS.up 9 kk), s3, (laws_markItemS.up 11 kk), (laws_markItemS.up 12 kk), (laws_markItemS.up 13 kk), (laws_markItemS.up 14 kk), (laws_markItemS.up 15 kk)⟩ : S124)⟩ : S126)).take (i + 1).toNat ++ p.2)) = some (r1, r2) by
   have hi := HIT.out
   have h0_ := H01.out.1
   have e1 : (xs.set i.toNat (⟨kk, (⟨(laws_markItemS.up 1 kk), s1, (laws_markItemS.up 3 kk), (laws_markItemS.up 4 kk), (laws_markItemS.up 5 kk), s2, (laws_markItemS.up 7 kk), (laws_markItemS.up 8 kk)⟩ : S90), (⟨(laws_markItemS.up 9 kk), s3, (laws_markItemS.up 11 kk), (laws_markItemS.up 12 kk), (laws_markItemS.up 13 kk), (laws_markItemS.up 14 kk), (laws_markItemS.up 15 kk)⟩ : S124)⟩ : S126)).drop (i + 1).toNat = xs.drop (i + 1).toNat := by
    rw [show (i + 1).toNat = i.toNat + 1 by omega, List.drop_set_of_lt (by omega)]
   have e2 : (xs.set i.toNat (⟨kk, (⟨(laws_markItemS.up 1 kk), s1, (laws_markItemS.up 3 kk), (laws_markItemS.up 4 kk), (laws_markItemS.up 5 kk), s2, (laws_markItemS.up 7 kk), (laws_markItemS.up 8 kk)⟩ : S90), (⟨(laws_markItemS.up 9 kk), s3, (laws_markItemS.up 11 kk), (laws_markItemS.up 12 kk), (laws_markItemS.up 13 kk), (laws_markItemS.up 14 kk), (laws_markItemS.up 15 kk)⟩ : S124)⟩ : S126)).take (i + 1).toNat = xs.take i.toNat ++ [(⟨kk, (⟨(laws_markItemS.up 1 kk), s1, (laws_markItemS.up 3 kk), (laws_markItemS.up 4 kk), (laws_markItemS.up 5 kk), s2, (laws_markItemS.up 7 kk), (laws_markItemS.up 8 kk)⟩ : S90), (⟨(laws_markItemS.up 9 kk), s3, (laws_markItemS.up 11 kk), (laws_markItemS.up 12 kk), (laws_markItemS.up 13 kk), (laws_markItemS.up 14 kk), (laws_markItemS.up 15 kk)⟩ : S124)⟩ : S126)] := by
    rw [show (i + 1).toNat = i.toNat + 1 by omega, List.take_add_one, List.getElem?_set_self hi, List.take_set_of_le (by omega)]
    rfl
   rw [e1, e2, HQQ.out]
   simp only [Option.map_some, List.append_assoc, List.singleton_append]
   exact congrArg some HRR.out)
  go_roundg (((l0.length : Int) - (i + 1)).toNat)
  case measure => exact hm.out.1
  case rel => exact ⟨xs.set i.toNat (⟨kk, (⟨(laws_markItemS.up 1 kk), s1, (laws_markItemS.up 3 kk), (laws_markItemS.up 4 kk), (laws_markItemS.up 5 kk), s2, (laws_markItemS.up 7 kk), (laws_markItemS.up 8 kk)⟩ : S90), (⟨(laws_markItemS.up 9 kk), s3, (laws_markItemS.up 11 kk), (laws_markItemS.up 12 kk), (laws_markItemS.up 13 kk), (laws_markItemS.up 14 kk), (laws_markItemS.up 15 kk)⟩ : S124)⟩ : S126), (laws_markItemS.up 16 kk), i + 1, rfl, by rw [hw], ⟨hm.out.2.1, hm.out.2.2.1, Nat.le_refl _, by rw [List.length_set]; exact HL.out⟩, HN, ⟨hp_⟩, ⟨(below_set (below_set (below_set (below_set (below_set (below_set HB3.out HGB.out) HGB.out) HGB.out) HGB.out) HGB.out) HGB.out)⟩, ⟨(Kept.setCell (p := ⟨g, i.toNat * 16 + 15, none⟩) (Kept.setCell (p := ⟨g, i.toNat * 16 + 14, none⟩) (Kept.setCell (p := ⟨g, i.toNat * 16 + 13, none⟩) (Kept.setCell (p := ⟨g, i.toNat * 16 + 12, none⟩) (Kept.setCell (p := ⟨g, i.toNat * 16 + 11, none⟩) (Kept.setCell (p := ⟨g, i.toNat * 16 + 10, none⟩) HK3.out (.inl HPG.out) _) (.inl HPG.out) _) (.inl HPG.out) _) (.inl HPG.out) _) (.inl HPG.out) _) (.inl HPG.out) _)⟩⟩

end Go.Proofs.Ytiffahfpfgnjnab.PFnExactGetCtl
