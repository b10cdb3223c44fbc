-- Written by a program of this session (myprint.py, over the kit's print): contracts of FnExactGetItem
import Derived.Test.YtahfemlfdpbkkaaPFnExactGetItemx0
import Derived.Test.YtahfemlfdpbkkaaPFnExactGetItemx3
import Derived.Test.YtahfemlfdpbkkaaPFnExactGetItemx8
import Derived.Test.YtahfemlfdpbkkaaPFnExactGetItemx9
import Derived.Test.YtahfemlfdpbkkaaPFnExactGetItemx14
import Derived.Test.YtahfemlfdpbkkaaPFnExactGetItemx15
namespace Go.Proofs.Ytahfemlfdpbkkaa.PFnExactGetItem
open Go.RowKit Go.Proofs.YtahfemlfdpbkkaaW.PrintWords Go.Proofs.YtahfemlfdpbkkaaW.PrintLast Go.Proofs.YtahfemlfdpbkkaaW.PrintMore Go.Proofs.YtahfemlfdpbkkaaV
attribute [local go_sem] max2_int min2_int max_two min_two max_three min_three max_four min_four   -- for this text's walks alone
set_option linter.unusedVariables false
set_option linter.unusedSimpArgs false

/-! ### laws_eqItem: function 45 -/
def laws_eqItem.f (a0_0 : Int) (a0_1 : Int) (a0_2 : ByteArray) (a0_3 : Int) (a0_4 : Int) (a0_5 : Int) (a0_6 : ByteArray) (a0_7 : Int) (a0_8 : Int) (a0_9 : Int) (a0_10 : ByteArray) (a0_11 : Int) (a0_12 : Int) (a0_13 : Int) (a0_14 : Int) (a0_15 : Int) (a1_0 : Int) (a1_1 : Int) (a1_2 : ByteArray) (a1_3 : Int) (a1_4 : Int) (a1_5 : Int) (a1_6 : ByteArray) (a1_7 : Int) (a1_8 : Int) (a1_9 : Int) (a1_10 : ByteArray) (a1_11 : Int) (a1_12 : Int) (a1_13 : Int) (a1_14 : Int) (a1_15 : Int) : Option (Bool) := if a0_0 = a1_0 then ((laws_eqAsker.f a0_1 a0_2 a0_3 a0_4 a0_5 a0_6 a0_7 a0_8 a1_1 a1_2 a1_3 a1_4 a1_5 a1_6 a1_7 a1_8).bind fun t470 => (if t470 = true then ((laws_eqLine.f a0_9 a0_10 a0_11 a0_12 a0_13 a0_14 a0_15 a1_9 a1_10 a1_11 a1_12 a1_13 a1_14 a1_15).bind fun t471 => (if t471 = true then (some true) else (some false))) else (some false))) else (some false)
set_option maxHeartbeats 8000000 in
set_option maxRecDepth 100000 in
theorem laws_eqItem.calls (a0_0 : Int) (a0_1 : Int) (a0_2 : ByteArray) (a0_3 : Int) (a0_4 : Int) (a0_5 : Int) (a0_6 : ByteArray) (a0_7 : Int) (a0_8 : Int) (a0_9 : Int) (a0_10 : ByteArray) (a0_11 : Int) (a0_12 : Int) (a0_13 : Int) (a0_14 : Int) (a0_15 : Int) (a1_0 : Int) (a1_1 : Int) (a1_2 : ByteArray) (a1_3 : Int) (a1_4 : Int) (a1_5 : Int) (a1_6 : ByteArray) (a1_7 : Int) (a1_8 : Int) (a1_9 : Int) (a1_10 : ByteArray) (a1_11 : Int) (a1_12 : Int) (a1_13 : Int) (a1_14 : Int) (a1_15 : Int) (r : Bool) (w : World) (h : laws_eqItem.f a0_0 a0_1 a0_2 a0_3 a0_4 a0_5 a0_6 a0_7 a0_8 a0_9 a0_10 a0_11 a0_12 a0_13 a0_14 a0_15 a1_0 a1_1 a1_2 a1_3 a1_4 a1_5 a1_6 a1_7 a1_8 a1_9 a1_10 a1_11 a1_12 a1_13 a1_14 a1_15 = some r) :
  Calls Try.prog 45 #[.agg #[.int .i64 a0_0, .int .i64 a0_1, .string a0_2, .int .i64 a0_3, .int .i64 a0_4, .int .i64 a0_5, .string a0_6, .int .i64 a0_7, .int .i64 a0_8, .int .i64 a0_9, .string a0_10, .int .i64 a0_11, .int .i64 a0_12, .int .i64 a0_13, .int .i64 a0_14, .int .i64 a0_15], .agg #[.int .i64 a1_0, .int .i64 a1_1, .string a1_2, .int .i64 a1_3, .int .i64 a1_4, .int .i64 a1_5, .string a1_6, .int .i64 a1_7, .int .i64 a1_8, .int .i64 a1_9, .string a1_10, .int .i64 a1_11, .int .i64 a1_12, .int .i64 a1_13, .int .i64 a1_14, .int .i64 a1_15]] w fun e w' => e = .returned (.bool r) ∧ Below w.heap.size w w' := by
 have hu48 := Try.underlying48
 have hu45 := Try.underlying45
 have hu46 := Try.underlying46
 have HB := Aside0.mk (Below.refl w.heap.size w)
 have H : (if a0_0 = a1_0 then ((laws_eqAsker.f a0_1 a0_2 a0_3 a0_4 a0_5 a0_6 a0_7 a0_8 a1_1 a1_2 a1_3 a1_4 a1_5 a1_6 a1_7 a1_8).bind fun t470 => (if t470 = true then ((laws_eqLine.f a0_9 a0_10 a0_11 a0_12 a0_13 a0_14 a0_15 a1_9 a1_10 a1_11 a1_12 a1_13 a1_14 a1_15).bind fun t471 => (if t471 = true then (some true) else (some false))) else (some false))) else (some false)) = some r := h
 clear h
 have HC3 := Aside0.mk H
 clear H
 go_enter Try.func45, Try.ntmps45
 go_upto_if 9 with (first | ((with_reducible refine gate_dst (N := 2) rfl ?_); refine box_event ?hg (N := 2) ?hd (cs := #[.int .i64 a0_0, .int .i64 a0_1, .string a0_2, .int .i64 a0_3, .int .i64 a0_4, .int .i64 a0_5, .string a0_6, .int .i64 a0_7, .int .i64 a0_8, .int .i64 a0_9, .string a0_10, .int .i64 a0_11, .int .i64 a0_12, .int .i64 a0_13, .int .i64 a0_14, .int .i64 a0_15]) (t := 48) ?hr ?_; (case hd => rfl); (case hg => rfl); (case hr => first | (go_simp; done) | (go_simp; rfl)); intro gb468 hg w4 hbox hb; have BK468 := am_ (hbox); have GW468 := am_ ((gG_ hg (qB HB))); have IGW468 := gI_ GW468; have GE468 := am_ ((gG_ hg (qB HB))); have IGE468 := gI_ GE468; replace HB := am_ (below_step (qB HB) hb); clear hb hbox hg) | ((with_reducible refine gate_dst (N := 3) rfl ?_); refine box_event ?hg (N := 3) ?hd (cs := #[.int .i64 a1_0, .int .i64 a1_1, .string a1_2, .int .i64 a1_3, .int .i64 a1_4, .int .i64 a1_5, .string a1_6, .int .i64 a1_7, .int .i64 a1_8, .int .i64 a1_9, .string a1_10, .int .i64 a1_11, .int .i64 a1_12, .int .i64 a1_13, .int .i64 a1_14, .int .i64 a1_15]) (t := 48) ?hr ?_; (case hd => rfl); (case hg => rfl); (case hr => first | (go_simp; done) | (go_simp; rfl)); intro gb469 hg w5 hbox hb; have BK469 := am_ (hbox); have GW469 := am_ ((gG_ hg (qB HB))); have IGW469 := gI_ GW469; have GE469 := am_ ((gG_ hg (qB HB))); have IGE469 := gI_ GE469; replace HB := am_ (below_step (qB HB) hb); have NB468_469 := am_ ((gN_ hg (qK BK468))); have NB469_468 := am_ ((gM_ hg (qK BK468))); replace BK468 := am_ (blk_below (qK BK468) hb); clear hb hbox hg; have hnb6 := NB468_469.out; have hnc6 := NB469_468.out; obtain ⟨z7_0, z7_1, z7_2, z7_3, z7_4, z7_5, z7_6, z7_7, z7_8, z7_9, z7_10, z7_11, z7_12, z7_13, z7_14, z7_15⟩ := cz16 BK468.out; obtain ⟨f7_0, f7_1, f7_2, f7_3, f7_4, f7_5, f7_6, f7_7, f7_8, f7_9, f7_10, f7_11, f7_12, f7_13, f7_14, f7_15⟩ := fz16 BK468.out; obtain ⟨z8_0, z8_1, z8_2, z8_3, z8_4, z8_5, z8_6, z8_7, z8_8, z8_9, z8_10, z8_11, z8_12, z8_13, z8_14, z8_15⟩ := cz16 BK469.out; obtain ⟨f8_0, f8_1, f8_2, f8_3, f8_4, f8_5, f8_6, f8_7, f8_8, f8_9, f8_10, f8_11, f8_12, f8_13, f8_14, f8_15⟩ := fz16 BK469.out))
 (try simp only [Act.put, List.setIfInBounds_toArray, List.set_cons_zero, List.set_cons_succ])
 have H := HC3.out
 clear HC3
 by_cases c9 : a0_0 = a1_0
 ·
  rw [if_pos c9] at H
  have c9b0 : (a0_0 == a1_0) = true := beq_iff_eq.mpr c9
  have c9b1 : (a0_0 != a1_0) = false := bne_eq_false_iff_eq.mpr c9
  clear c9
  (first | rw [c9b0] | rw [c9b1] | (simp only [i64_w, i32_w]; rw [c9b0]) | skip)
  obtain ⟨t470, A10, H⟩ := bd_ H
  have HC11 := Aside0.mk H
  clear H
  have hnb12 := NB468_469.out
  have hnc12 := NB469_468.out
  obtain ⟨z13_0, z13_1, z13_2, z13_3, z13_4, z13_5, z13_6, z13_7, z13_8, z13_9, z13_10, z13_11, z13_12, z13_13, z13_14, z13_15⟩ := cz16 BK468.out
  obtain ⟨f13_0, f13_1, f13_2, f13_3, f13_4, f13_5, f13_6, f13_7, f13_8, f13_9, f13_10, f13_11, f13_12, f13_13, f13_14, f13_15⟩ := fz16 BK468.out
  obtain ⟨z14_0, z14_1, z14_2, z14_3, z14_4, z14_5, z14_6, z14_7, z14_8, z14_9, z14_10, z14_11, z14_12, z14_13, z14_14, z14_15⟩ := cz16 BK469.out
  obtain ⟨f14_0, f14_1, f14_2, f14_3, f14_4, f14_5, f14_6, f14_7, f14_8, f14_9, f14_10, f14_11, f14_12, f14_13, f14_14, f14_15⟩ := fz16 BK469.out
  go_upto_if 15 with (first | ((with_reducible refine gate_callee (f := 107) rfl ?_); refine goesL_ (some 14) rfl rfl Try.func107 (by kernel_rfl) rfl #[.agg #[.int .i64 a0_1, .string a0_2, .int .i64 a0_3, .int .i64 a0_4, .int .i64 a0_5, .string a0_6, .int .i64 a0_7, .int .i64 a0_8], .agg #[.int .i64 a1_1, .string a1_2, .int .i64 a1_3, .int .i64 a1_4, .int .i64 a1_5, .string a1_6, .int .i64 a1_7, .int .i64 a1_8]] rfl la_ ?_; (with_reducible refine (laws_eqAsker.calls a0_1 a0_2 a0_3 a0_4 a0_5 a0_6 a0_7 a0_8 a1_1 a1_2 a1_3 a1_4 a1_5 a1_6 a1_7 a1_8 t470 _ A10.out).mono ?_); rintro e w15 ⟨rfl, hb⟩; refine ⟨_, rfl, ?_⟩; replace BK468 := am_ (blk_below (qK BK468) hb); replace BK469 := am_ (blk_below (qK BK469) hb); replace HB := am_ (below_step (qB HB) hb); (try clear hb); (try clear hb2); (try clear hk); (try clear hi)))
  (try simp only [Act.put, List.setIfInBounds_toArray, List.set_cons_zero, List.set_cons_succ])
  have H := HC11.out
  clear HC11
  by_cases c16 : t470 = true
  ·
   subst c16
   rw [if_pos rfl] at H
   obtain ⟨t471, A17, H⟩ := bd_ H
   have HC18 := Aside0.mk H
   clear H
   have hnb19 := NB468_469.out
   have hnc19 := NB469_468.out
   obtain ⟨z20_0, z20_1, z20_2, z20_3, z20_4, z20_5, z20_6, z20_7, z20_8, z20_9, z20_10, z20_11, z20_12, z20_13, z20_14, z20_15⟩ := cz16 BK468.out
   obtain ⟨f20_0, f20_1, f20_2, f20_3, f20_4, f20_5, f20_6, f20_7, f20_8, f20_9, f20_10, f20_11, f20_12, f20_13, f20_14, f20_15⟩ := fz16 BK468.out
   obtain ⟨z21_0, z21_1, z21_2, z21_3, z21_4, z21_5, z21_6, z21_7, z21_8, z21_9, z21_10, z21_11, z21_12, z21_13, z21_14, z21_15⟩ := cz16 BK469.out
   obtain ⟨f21_0, f21_1, f21_2, f21_3, f21_4, f21_5, f21_6, f21_7, f21_8, f21_9, f21_10, f21_11, f21_12, f21_13, f21_14, f21_15⟩ := fz16 BK469.out
   go_upto_if 21 with (first | ((with_reducible refine gate_callee (f := 108) rfl ?_); refine goesL_ (some 20) rfl rfl Try.func108 (by kernel_rfl) rfl #[.agg #[.int .i64 a0_9, .string a0_10, .int .i64 a0_11, .int .i64 a0_12, .int .i64 a0_13, .int .i64 a0_14, .int .i64 a0_15], .agg #[.int .i64 a1_9, .string a1_10, .int .i64 a1_11, .int .i64 a1_12, .int .i64 a1_13, .int .i64 a1_14, .int .i64 a1_15]] rfl la_ ?_; (with_reducible refine (laws_eqLine.calls a0_9 a0_10 a0_11 a0_12 a0_13 a0_14 a0_15 a1_9 a1_10 a1_11 a1_12 a1_13 a1_14 a1_15 t471 _ A17.out).mono ?_); rintro e w22 ⟨rfl, hb⟩; refine ⟨_, rfl, ?_⟩; replace BK468 := am_ (blk_below (qK BK468) hb); replace BK469 := am_ (blk_below (qK BK469) hb); replace HB := am_ (below_step (qB HB) hb); (try clear hb); (try clear hb2); (try clear hk); (try clear hi)))
   (try simp only [Act.put, List.setIfInBounds_toArray, List.set_cons_zero, List.set_cons_succ])
   have H := HC18.out
   clear HC18
   by_cases c23 : t471 = true
   ·
    subst c23
    rw [if_pos rfl] at H
    obtain rfl := Option.some.inj H
    go_wp2
    go_ret
    exact ⟨by first | rfl | (simp [errW_none, errW_some] <;> rfl) | (simp [*, errW_none, errW_some] <;> rfl), qB HB⟩
   ·
    replace c23 := Bool.eq_false_iff.mpr c23
    subst c23
    rw [if_neg (show ¬ (false = true) by decide)] at H
    obtain rfl := Option.some.inj H
    go_wp2
    go_ret
    exact ⟨by first | rfl | (simp [errW_none, errW_some] <;> rfl) | (simp [*, errW_none, errW_some] <;> rfl), qB HB⟩
  ·
   replace c16 := Bool.eq_false_iff.mpr c16
   subst c16
   rw [if_neg (show ¬ (false = true) by decide)] at H
   obtain rfl := Option.some.inj H
   go_wp2
   go_ret
   exact ⟨by first | rfl | (simp [errW_none, errW_some] <;> rfl) | (simp [*, errW_none, errW_some] <;> rfl), qB HB⟩
 ·
  rw [if_neg c9] at H
  have c9b0 : (a0_0 == a1_0) = false := beq_eq_false_iff_ne.mpr c9
  have c9b1 : (a0_0 != a1_0) = true := bne_iff_ne.mpr c9
  (first | rw [c9b0] | rw [c9b1] | (simp only [i64_w, i32_w]; rw [c9b0]) | skip)
  obtain rfl := Option.some.inj H
  go_wp2
  go_ret
  exact ⟨by first | rfl | (simp [errW_none, errW_some] <;> rfl) | (simp [*, errW_none, errW_some] <;> rfl), qB HB⟩

/-! ### laws_FnExactGetItem: function 9 -/
def laws_FnExactGetItem.j0 : Nat → List Int → List Int → Bool → Option (Bool)
 | 0, _, _, _ => none
 | k + 1, x0, x5, x32 => if x32 = true then (some false) else ((laws_toByteS.f k x0).bind fun t515 => ((laws_eqByteS.f k x5 t515).bind fun t518 => (if t518 = true then (some true) else (some false))))
def laws_FnExactGetItem.f (k : Nat) (l0 : List Int) : Option (Bool) := if (l0.length : Int) > 1048576 then (some true) else ((laws_toByteS.f k l0).bind fun t472 => ((spec_GetItem.f k t472).bind fun bt475 => ((laws_toByteS.f k l0).bind fun t493 => ((impl_GetItem.f k t493).bind fun bt496 => ((laws_eqItem.f bt496.1 bt496.2.1 bt496.2.2.1 bt496.2.2.2.1 bt496.2.2.2.2.1 bt496.2.2.2.2.2.1 bt496.2.2.2.2.2.2.1 bt496.2.2.2.2.2.2.2.1 bt496.2.2.2.2.2.2.2.2.1 bt496.2.2.2.2.2.2.2.2.2.1 bt496.2.2.2.2.2.2.2.2.2.2.1 bt496.2.2.2.2.2.2.2.2.2.2.2.1 bt496.2.2.2.2.2.2.2.2.2.2.2.2.1 bt496.2.2.2.2.2.2.2.2.2.2.2.2.2.1 bt496.2.2.2.2.2.2.2.2.2.2.2.2.2.2.1 bt496.2.2.2.2.2.2.2.2.2.2.2.2.2.2.2.1 bt475.1 bt475.2.1 bt475.2.2.1 bt475.2.2.2.1 bt475.2.2.2.2.1 bt475.2.2.2.2.2.1 bt475.2.2.2.2.2.2.1 bt475.2.2.2.2.2.2.2.1 bt475.2.2.2.2.2.2.2.2.1 bt475.2.2.2.2.2.2.2.2.2.1 bt475.2.2.2.2.2.2.2.2.2.2.1 bt475.2.2.2.2.2.2.2.2.2.2.2.1 bt475.2.2.2.2.2.2.2.2.2.2.2.2.1 bt475.2.2.2.2.2.2.2.2.2.2.2.2.2.1 bt475.2.2.2.2.2.2.2.2.2.2.2.2.2.2.1 bt475.2.2.2.2.2.2.2.2.2.2.2.2.2.2.2.1).bind fun t514 => (if t514 = true then (laws_FnExactGetItem.j0 k l0 t493 (bt496.2.2.2.2.2.2.2.2.2.2.2.2.2.2.2.2 != bt475.2.2.2.2.2.2.2.2.2.2.2.2.2.2.2.2)) else (laws_FnExactGetItem.j0 k l0 t493 true)))))))
theorem laws_FnExactGetItem.mono_l : ∀ k, (∀ y0 y1 y2, LeO (laws_FnExactGetItem.j0 k y0 y1 y2) (laws_FnExactGetItem.j0 (k + 1) y0 y1 y2))
 | 0 => fun _ _ _ r h => by simp [laws_FnExactGetItem.j0] at h
 | k + 1 => by
  have ih0 := laws_FnExactGetItem.mono_l k
  ·
   intro y0 y1 y2
   unfold laws_FnExactGetItem.j0
   repeat' first
   | (with_reducible exact ih0 _ _ _)
   | (with_reducible exact impl_GetItem.mono _ _)
   | (with_reducible exact laws_eqByteS.mono _ _ _)
   | (with_reducible exact laws_toByteS.mono _ _)
   | (with_reducible exact spec_GetItem.mono _ _)
   | (with_reducible exact LeO.refl _)
   | (with_reducible exact LeO.none _)
   | (with_reducible refine LeO.ite ?_ ?_)
   | (with_reducible refine LeO.bind ?_ (fun _ => ?_))
   | exact ih0 _ _ _
   | exact impl_GetItem.mono _ _
   | exact laws_eqByteS.mono _ _ _
   | exact laws_toByteS.mono _ _
   | exact spec_GetItem.mono _ _
   | exact LeO.none _
   | refine LeO.ite ?_ ?_
   | refine LeO.bind ?_ (fun _ => ?_)
theorem laws_FnExactGetItem.mono : ∀ a0 k, LeO (laws_FnExactGetItem.f k a0) (laws_FnExactGetItem.f (k + 1) a0) := by
 intro a0 k
 have ih0 := laws_FnExactGetItem.mono_l k
 unfold laws_FnExactGetItem.f
 repeat' first
   | (with_reducible exact ih0 _ _ _)
   | (with_reducible exact impl_GetItem.mono _ _)
   | (with_reducible exact laws_eqByteS.mono _ _ _)
   | (with_reducible exact laws_toByteS.mono _ _)
   | (with_reducible exact spec_GetItem.mono _ _)
   | (with_reducible exact LeO.refl _)
   | (with_reducible exact LeO.none _)
   | (with_reducible refine LeO.ite ?_ ?_)
   | (with_reducible refine LeO.bind ?_ (fun _ => ?_))
   | exact ih0 _ _ _
   | exact impl_GetItem.mono _ _
   | exact laws_eqByteS.mono _ _ _
   | exact laws_toByteS.mono _ _
   | exact spec_GetItem.mono _ _
   | exact LeO.none _
   | refine LeO.ite ?_ ?_
   | refine LeO.bind ?_ (fun _ => ?_)
set_option maxHeartbeats 8000000 in
set_option maxRecDepth 100000 in
theorem laws_FnExactGetItem.calls (k : Nat) (A0 : Option Addr) (c0 : Nat) (l0 : List Int) (r : Bool) (w : World) (hr0 : Kd.C (Kd.int .u8) w A0 l0.length l0) (hc0 : l0.length ≤ c0) (hr_ : Aside0 (r = true)) (h : laws_FnExactGetItem.f k l0 = some r) :
  Calls Try.prog 9 #[.slice A0 l0.length c0] w fun e w' => e = .returned (.bool r) ∧ Below w.heap.size w w' := by
 have hu48 := Try.underlying48
 have HR0 := Aside0.mk hr0
 have HC0 := Aside0.mk hc0
 clear hr0 hc0
 have HB := Aside0.mk (Below.refl w.heap.size w)
 have H : (if (l0.length : Int) > 1048576 then (some true) else ((laws_toByteS.f k l0).bind fun t472 => ((spec_GetItem.f k t472).bind fun bt475 => ((laws_toByteS.f k l0).bind fun t493 => ((impl_GetItem.f k t493).bind fun bt496 => ((laws_eqItem.f bt496.1 bt496.2.1 bt496.2.2.1 bt496.2.2.2.1 bt496.2.2.2.2.1 bt496.2.2.2.2.2.1 bt496.2.2.2.2.2.2.1 bt496.2.2.2.2.2.2.2.1 bt496.2.2.2.2.2.2.2.2.1 bt496.2.2.2.2.2.2.2.2.2.1 bt496.2.2.2.2.2.2.2.2.2.2.1 bt496.2.2.2.2.2.2.2.2.2.2.2.1 bt496.2.2.2.2.2.2.2.2.2.2.2.2.1 bt496.2.2.2.2.2.2.2.2.2.2.2.2.2.1 bt496.2.2.2.2.2.2.2.2.2.2.2.2.2.2.1 bt496.2.2.2.2.2.2.2.2.2.2.2.2.2.2.2.1 bt475.1 bt475.2.1 bt475.2.2.1 bt475.2.2.2.1 bt475.2.2.2.2.1 bt475.2.2.2.2.2.1 bt475.2.2.2.2.2.2.1 bt475.2.2.2.2.2.2.2.1 bt475.2.2.2.2.2.2.2.2.1 bt475.2.2.2.2.2.2.2.2.2.1 bt475.2.2.2.2.2.2.2.2.2.2.1 bt475.2.2.2.2.2.2.2.2.2.2.2.1 bt475.2.2.2.2.2.2.2.2.2.2.2.2.1 bt475.2.2.2.2.2.2.2.2.2.2.2.2.2.1 bt475.2.2.2.2.2.2.2.2.2.2.2.2.2.2.1 bt475.2.2.2.2.2.2.2.2.2.2.2.2.2.2.2.1).bind fun t514 => (if t514 = true then (laws_FnExactGetItem.j0 k l0 t493 (bt496.2.2.2.2.2.2.2.2.2.2.2.2.2.2.2.2 != bt475.2.2.2.2.2.2.2.2.2.2.2.2.2.2.2.2)) else (laws_FnExactGetItem.j0 k l0 t493 true)))))))) = some r := h
 clear h
 by_cases c2 : (l0.length : Int) > 1048576
 ·
  rw [if_pos c2] at H
  have c2b0 : decide (1048576 < (l0.length : Int)) = true := decide_eq_true c2
  have c2b1 : decide (1048576 < l0.length) = true := decide_eq_true (by omega)
  clear c2
  obtain rfl := Option.some.inj H
  go_enter Try.func9, Try.ntmps9
  go_wp2
  go_ret
  exact ⟨by first | rfl | (simp [errW_none, errW_some] <;> rfl) | (simp [*, errW_none, errW_some] <;> rfl), qB HB⟩
 ·
  rw [if_neg c2] at H
  have c2b0 : decide (1048576 < (l0.length : Int)) = false := decide_eq_false c2
  have c2b1 : decide (1048576 < l0.length) = false := decide_eq_false (by omega)
  clear c2
  obtain ⟨t472, A3, H⟩ := bd_ H
  obtain ⟨⟨t475, t476, t477, t478, t479, t480, t481, t482, t483, t484, t485, t486, t487, t488, t489, t490, t491⟩, A4, H⟩ := bd_ H
  (try dsimp only at H)
  obtain ⟨t493, A5, H⟩ := bd_ H
  obtain ⟨⟨t496, t497, t498, t499, t500, t501, t502, t503, t504, t505, t506, t507, t508, t509, t510, t511, t512⟩, A6, H⟩ := bd_ H
  (try dsimp only at H)
  have HC7 := Aside0.mk H
  clear H
  go_enter Try.func9, Try.ntmps9
  go_upto_region 6 with (first | ((with_reducible refine gate_callee (f := 43) rfl ?_); refine goesL_ (some 13) rfl rfl Try.func43 (by kernel_rfl) rfl #[.slice A0 l0.length c0] rfl la_ ?_; (with_reducible refine (laws_toByteS.calls k _ _ l0 t472 _ ?side1 ?side2 A3.out).mono ?_); (case side1 => exact qC (HR0.out)); (case side2 => exact HC0.out); rintro e w8 ⟨v473, rfl, ho0, hb⟩; refine ⟨_, rfl, ?_⟩; have HO474 := am_ (Kd.R_lower ho0 (below_size (qB HB))); replace HB := am_ (below_step (qB HB) hb); (try clear hb); (try clear hb2); (try clear hk); (try clear hi); (try clear ho0); obtain ⟨Ao9, co9, eo9⟩ := Kd.R_slice HO474.out; subst eo9) | ((with_reducible refine gate_callee (f := 42) rfl ?_); refine goesL_ (some 14) rfl rfl Try.func42 (by kernel_rfl) rfl #[.slice Ao9 t472.length co9] rfl la_ ?_; (with_reducible refine (spec_GetItem.calls k _ _ t472 t475 t476 t477 t478 t479 t480 t481 t482 t483 t484 t485 t486 t487 t488 t489 t490 t491 _ ?side1 ?side2 A4.out).mono ?_); (case side1 => exact qC ((Kd.R_reads' HO474.out).2.2)); (case side2 => exact (Kd.R_reads' HO474.out).2.1); rintro e w10 ⟨rfl, hb⟩; refine ⟨_, rfl, ?_⟩; replace HO474 := am_ (Kd.R_below (qR HO474) hb); replace HB := am_ (below_step (qB HB) hb); (try clear hb); (try clear hb2); (try clear hk); (try clear hi)) | ((with_reducible refine gate_dst (N := 3) rfl ?_); refine box_event ?hg (N := 3) ?hd (cs := #[.int .i64 0, .int .i64 0, .string (⟨#[]⟩ : ByteArray), .int .i64 0, .int .i64 0, .int .i64 0, .string (⟨#[]⟩ : ByteArray), .int .i64 0, .int .i64 0, .int .i64 0, .string (⟨#[]⟩ : ByteArray), .int .i64 0, .int .i64 0, .int .i64 0, .int .i64 0, .int .i64 0]) (t := 48) ?hr ?_; (case hd => rfl); (case hg => rfl); (case hr => first | (go_simp; done) | (go_simp; rfl)); intro gb492 hg w11 hbox hb; replace HO474 := am_ (Kd.R_below (qR HO474) hb); have BK492 := am_ (hbox); have GW492 := am_ ((gG_ hg (qB HB))); have IGW492 := gI_ GW492; have GE492 := am_ ((gG_ hg (qB HB))); have IGE492 := gI_ GE492; replace HB := am_ (below_step (qB HB) hb); clear hb hbox hg; obtain ⟨z12_0, z12_1, z12_2, z12_3, z12_4, z12_5, z12_6, z12_7, z12_8, z12_9, z12_10, z12_11, z12_12, z12_13, z12_14, z12_15⟩ := cz16 BK492.out; obtain ⟨f12_0, f12_1, f12_2, f12_3, f12_4, f12_5, f12_6, f12_7, f12_8, f12_9, f12_10, f12_11, f12_12, f12_13, f12_14, f12_15⟩ := fz16 BK492.out) | ((with_reducible refine gate_callee (f := 43) rfl ?_); refine goesL_ (some 18) rfl rfl Try.func43 (by kernel_rfl) rfl #[.slice A0 l0.length c0] rfl la_ ?_; (with_reducible refine (laws_toByteS.calls k _ _ l0 t493 _ ?side1 ?side2 A5.out).mono ?_); (case side1 => exact Kd.C_below HR0.out (qB HB)); (case side2 => exact HC0.out); rintro e w13 ⟨v494, rfl, ho0, hb⟩; refine ⟨_, rfl, ?_⟩; have HO495 := am_ (Kd.R_lower (Kd.R_new' ho0 (Kd.R_lt (by (with_reducible repeat (first | apply Kd.R_alloc | apply Kd.R_drewN | apply Kd.R_drew)); exact (Kd.R_mono (Go.Proofs.YtahfemlfdpbkkaaV.R_far16 (g := gb492) (Kd.R_types HO474.out BK492.out (by decide)) (fun _ hk => hk.2)) (fun _ h_ => h_.1))))) (below_size (qB HB))); replace HO474 := am_ (Kd.R_elder' (by (with_reducible repeat (first | apply Kd.R_alloc | apply Kd.R_drewN | apply Kd.R_drew)); exact (Kd.R_mono (Go.Proofs.YtahfemlfdpbkkaaV.R_far16 (g := gb492) (Kd.R_types HO474.out BK492.out (by decide)) (fun _ hk => hk.2)) (fun _ h_ => h_.1))) (Kd.R_base ho0) hb); replace BK492 := am_ (blk_below (g := gb492) (o := .cells #[.int .i64 t475, .int .i64 t476, .string t477, .int .i64 t478, .int .i64 t479, .int .i64 t480, .string t481, .int .i64 t482, .int .i64 t483, .int .i64 t484, .string t485, .int .i64 t486, .int .i64 t487, .int .i64 t488, .int .i64 t489, .int .i64 t490] 48 (0, 0)) (by (with_reducible repeat (first | refine blk_drewN ?_ _ | refine blk_drew ?_ | refine blk_alloc ?_ _)); refine Go.Proofs.YtahfemlfdpbkkaaV.blk_all16 (show _ = some (Go.Obj.cells #[.int .i64 0, .int .i64 0, .string (⟨#[]⟩ : ByteArray), .int .i64 0, .int .i64 0, .int .i64 0, .string (⟨#[]⟩ : ByteArray), .int .i64 0, .int .i64 0, .int .i64 0, .string (⟨#[]⟩ : ByteArray), .int .i64 0, .int .i64 0, .int .i64 0, .int .i64 0, .int .i64 0] _ (0, 0)) from ?_); (with_reducible repeat (first | refine blk_drewN ?_ _ | refine blk_drew ?_ | refine blk_alloc ?_ _)); exact BK492.out) hb); replace HB := am_ (below_step (qB HB) hb); (try clear hb); (try clear hb2); (try clear hk); (try clear hi); (try clear ho0); obtain ⟨Ao14, co14, eo14⟩ := Kd.R_slice HO495.out; subst eo14) | ((with_reducible refine gate_callee (f := 44) rfl ?_); refine goesL_ (some 21) rfl rfl Try.func44 (by kernel_rfl) rfl #[.slice Ao14 t493.length co14] rfl la_ ?_; (with_reducible refine (impl_GetItem.calls k _ _ t493 t496 t497 t498 t499 t500 t501 t502 t503 t504 t505 t506 t507 t508 t509 t510 t511 t512 _ ?side1 ?side2 A6.out).mono ?_); (case side1 => exact qC ((Kd.R_reads' HO495.out).2.2)); (case side2 => exact (Kd.R_reads' HO495.out).2.1); rintro e w15 ⟨rfl, hb⟩; refine ⟨_, rfl, ?_⟩; replace HO474 := am_ (Kd.R_below (qR HO474) hb); replace HO495 := am_ (Kd.R_below (qR HO495) hb); replace BK492 := am_ (blk_below (qK BK492) hb); replace HB := am_ (below_step (qB HB) hb); (try clear hb); (try clear hb2); (try clear hk); (try clear hi)) | ((with_reducible refine gate_dst (N := 6) rfl ?_); refine box_event ?hg (N := 6) ?hd (cs := #[.int .i64 0, .int .i64 0, .string (⟨#[]⟩ : ByteArray), .int .i64 0, .int .i64 0, .int .i64 0, .string (⟨#[]⟩ : ByteArray), .int .i64 0, .int .i64 0, .int .i64 0, .string (⟨#[]⟩ : ByteArray), .int .i64 0, .int .i64 0, .int .i64 0, .int .i64 0, .int .i64 0]) (t := 48) ?hr ?_; (case hd => rfl); (case hg => rfl); (case hr => first | (go_simp; done) | (go_simp; rfl)); intro gb513 hg w16 hbox hb; replace HO474 := am_ (Kd.R_below (qR HO474) hb); replace HO495 := am_ (Kd.R_below (qR HO495) hb); have BK513 := am_ (hbox); have GW513 := am_ ((gG_ hg (qB HB))); have IGW513 := gI_ GW513; have GE513 := am_ ((gG_ hg (qB HB))); have IGE513 := gI_ GE513; replace HB := am_ (below_step (qB HB) hb); have NB492_513 := am_ ((gN_ hg (qK BK492))); have NB513_492 := am_ ((gM_ hg (qK BK492))); replace BK492 := am_ (blk_below (qK BK492) hb); clear hb hbox hg; have hnb17 := NB513_492.out; have hnc17 := NB492_513.out; obtain ⟨z18_0, z18_1, z18_2, z18_3, z18_4, z18_5, z18_6, z18_7, z18_8, z18_9, z18_10, z18_11, z18_12, z18_13, z18_14, z18_15⟩ := cz16 BK513.out; obtain ⟨f18_0, f18_1, f18_2, f18_3, f18_4, f18_5, f18_6, f18_7, f18_8, f18_9, f18_10, f18_11, f18_12, f18_13, f18_14, f18_15⟩ := fz16 BK513.out))
  (try simp only [Act.put, List.setIfInBounds_toArray, List.set_cons_zero, List.set_cons_succ])
  go_cut [32] (fun v32 wc => ∃ (kq : Nat) (x32_6 : Bool), v32 = .bool x32_6 ∧ Aside0 (laws_FnExactGetItem.j0 kq l0 t493 x32_6 = some r) ∧ Aside0 (kq ≤ k) ∧ Aside0 (Kd.R (Kd.int .u8) 5 wc w.heap.size (fun _ => True) (.slice Ao14 t493.length co14) t493) ∧ Aside0 (wc.heap[gb492]? = some (.cells #[.int .i64 t475, .int .i64 t476, .string t477, .int .i64 t478, .int .i64 t479, .int .i64 t480, .string t481, .int .i64 t482, .int .i64 t483, .int .i64 t484, .string t485, .int .i64 t486, .int .i64 t487, .int .i64 t488, .int .i64 t489, .int .i64 t490] 48 (0, 0))) ∧ Aside0 (wc.heap[gb513]? = some (.cells #[.int .i64 t496, .int .i64 t497, .string t498, .int .i64 t499, .int .i64 t500, .int .i64 t501, .string t502, .int .i64 t503, .int .i64 t504, .int .i64 t505, .string t506, .int .i64 t507, .int .i64 t508, .int .i64 t509, .int .i64 t510, .int .i64 t511] 48 (0, 0))) ∧ Aside0 (Below w.heap.size w wc))
  case first =>
   have H := HC7.out
   clear HC7
   obtain ⟨t514, A19, H⟩ := bd_ H
   by_cases c20 : t514 = true
   ·
    subst c20
    rw [if_pos rfl] at H
    have H' := Aside0.mk H
    clear H
    have hnb21 := NB513_492.out
    have hnc21 := NB492_513.out
    obtain ⟨z22_0, z22_1, z22_2, z22_3, z22_4, z22_5, z22_6, z22_7, z22_8, z22_9, z22_10, z22_11, z22_12, z22_13, z22_14, z22_15⟩ := cz16 BK513.out
    obtain ⟨f22_0, f22_1, f22_2, f22_3, f22_4, f22_5, f22_6, f22_7, f22_8, f22_9, f22_10, f22_11, f22_12, f22_13, f22_14, f22_15⟩ := fz16 BK513.out
    obtain ⟨z23_0, z23_1, z23_2, z23_3, z23_4, z23_5, z23_6, z23_7, z23_8, z23_9, z23_10, z23_11, z23_12, z23_13, z23_14, z23_15⟩ := cz16 BK492.out
    obtain ⟨f23_0, f23_1, f23_2, f23_3, f23_4, f23_5, f23_6, f23_7, f23_8, f23_9, f23_10, f23_11, f23_12, f23_13, f23_14, f23_15⟩ := fz16 BK492.out
    go_wp2_with (first | ((with_reducible refine gate_callee (f := 45) rfl ?_); refine goesL_ (some 26) rfl rfl Try.func45 (by kernel_rfl) rfl #[.agg #[.int .i64 t496, .int .i64 t497, .string t498, .int .i64 t499, .int .i64 t500, .int .i64 t501, .string t502, .int .i64 t503, .int .i64 t504, .int .i64 t505, .string t506, .int .i64 t507, .int .i64 t508, .int .i64 t509, .int .i64 t510, .int .i64 t511], .agg #[.int .i64 t475, .int .i64 t476, .string t477, .int .i64 t478, .int .i64 t479, .int .i64 t480, .string t481, .int .i64 t482, .int .i64 t483, .int .i64 t484, .string t485, .int .i64 t486, .int .i64 t487, .int .i64 t488, .int .i64 t489, .int .i64 t490]] rfl la_ ?_; (with_reducible refine (laws_eqItem.calls t496 t497 t498 t499 t500 t501 t502 t503 t504 t505 t506 t507 t508 t509 t510 t511 t475 t476 t477 t478 t479 t480 t481 t482 t483 t484 t485 t486 t487 t488 t489 t490 true _ A19.out).mono ?_); rintro e w24 ⟨rfl, hb⟩; refine ⟨_, rfl, ?_⟩; replace HO474 := am_ (Kd.R_below (by (with_reducible repeat (first | apply Kd.R_alloc | apply Kd.R_drewN | apply Kd.R_drew)); exact (Kd.R_mono (Go.Proofs.YtahfemlfdpbkkaaV.R_far16 (g := gb513) (Kd.R_types HO474.out BK513.out (by decide)) (fun _ hk => hk.2)) (fun _ h_ => h_.1))) hb); replace HO495 := am_ (Kd.R_below (by (with_reducible repeat (first | apply Kd.R_alloc | apply Kd.R_drewN | apply Kd.R_drew)); exact (Kd.R_mono (Go.Proofs.YtahfemlfdpbkkaaV.R_far16 (g := gb513) (Kd.R_types HO495.out BK513.out (by decide)) (fun _ hk => hk.2)) (fun _ h_ => h_.1))) hb); replace BK492 := am_ (blk_below (g := gb492) (o := .cells #[.int .i64 t475, .int .i64 t476, .string t477, .int .i64 t478, .int .i64 t479, .int .i64 t480, .string t481, .int .i64 t482, .int .i64 t483, .int .i64 t484, .string t485, .int .i64 t486, .int .i64 t487, .int .i64 t488, .int .i64 t489, .int .i64 t490] 48 (0, 0)) (by (with_reducible repeat (first | refine blk_drewN ?_ _ | refine blk_drew ?_ | refine blk_alloc ?_ _)); refine Go.Proofs.YtahfemlfdpbkkaaV.blk_far16 ?_ NB492_513.out; (with_reducible repeat (first | refine blk_drewN ?_ _ | refine blk_drew ?_ | refine blk_alloc ?_ _)); exact BK492.out) hb); replace BK513 := am_ (blk_below (g := gb513) (o := .cells #[.int .i64 t496, .int .i64 t497, .string t498, .int .i64 t499, .int .i64 t500, .int .i64 t501, .string t502, .int .i64 t503, .int .i64 t504, .int .i64 t505, .string t506, .int .i64 t507, .int .i64 t508, .int .i64 t509, .int .i64 t510, .int .i64 t511] 48 (0, 0)) (by (with_reducible repeat (first | refine blk_drewN ?_ _ | refine blk_drew ?_ | refine blk_alloc ?_ _)); refine Go.Proofs.YtahfemlfdpbkkaaV.blk_all16 (show _ = some (Go.Obj.cells #[.int .i64 0, .int .i64 0, .string (⟨#[]⟩ : ByteArray), .int .i64 0, .int .i64 0, .int .i64 0, .string (⟨#[]⟩ : ByteArray), .int .i64 0, .int .i64 0, .int .i64 0, .string (⟨#[]⟩ : ByteArray), .int .i64 0, .int .i64 0, .int .i64 0, .int .i64 0, .int .i64 0] _ (0, 0)) from ?_); (with_reducible repeat (first | refine blk_drewN ?_ _ | refine blk_drew ?_ | refine blk_alloc ?_ _)); exact BK513.out) hb); replace HB := am_ (below_step (qB HB) hb); (try clear hb); (try clear hb2); (try clear hk); (try clear hi)))
    go_meet
    case rel => exact ⟨_, ((t512 != t491)), eqq_, H', ⟨by first | omega | exact Nat.le_refl _⟩, ⟨by (with_reducible repeat (first | apply Kd.R_alloc | apply Kd.R_drewN | apply Kd.R_drew)); exact Kd.R_mono HO495.out (fun _ hk => trivial)⟩, ⟨qK BK492⟩, ⟨qK BK513⟩, ⟨qB HB⟩⟩
   ·
    replace c20 := Bool.eq_false_iff.mpr c20
    subst c20
    rw [if_neg (show ¬ (false = true) by decide)] at H
    have H' := Aside0.mk H
    clear H
    have hnb25 := NB513_492.out
    have hnc25 := NB492_513.out
    obtain ⟨z26_0, z26_1, z26_2, z26_3, z26_4, z26_5, z26_6, z26_7, z26_8, z26_9, z26_10, z26_11, z26_12, z26_13, z26_14, z26_15⟩ := cz16 BK513.out
    obtain ⟨f26_0, f26_1, f26_2, f26_3, f26_4, f26_5, f26_6, f26_7, f26_8, f26_9, f26_10, f26_11, f26_12, f26_13, f26_14, f26_15⟩ := fz16 BK513.out
    obtain ⟨z27_0, z27_1, z27_2, z27_3, z27_4, z27_5, z27_6, z27_7, z27_8, z27_9, z27_10, z27_11, z27_12, z27_13, z27_14, z27_15⟩ := cz16 BK492.out
    obtain ⟨f27_0, f27_1, f27_2, f27_3, f27_4, f27_5, f27_6, f27_7, f27_8, f27_9, f27_10, f27_11, f27_12, f27_13, f27_14, f27_15⟩ := fz16 BK492.out
    go_wp2_with (first | ((with_reducible refine gate_callee (f := 45) rfl ?_); refine goesL_ (some 26) rfl rfl Try.func45 (by kernel_rfl) rfl #[.agg #[.int .i64 t496, .int .i64 t497, .string t498, .int .i64 t499, .int .i64 t500, .int .i64 t501, .string t502, .int .i64 t503, .int .i64 t504, .int .i64 t505, .string t506, .int .i64 t507, .int .i64 t508, .int .i64 t509, .int .i64 t510, .int .i64 t511], .agg #[.int .i64 t475, .int .i64 t476, .string t477, .int .i64 t478, .int .i64 t479, .int .i64 t480, .string t481, .int .i64 t482, .int .i64 t483, .int .i64 t484, .string t485, .int .i64 t486, .int .i64 t487, .int .i64 t488, .int .i64 t489, .int .i64 t490]] rfl la_ ?_; (with_reducible refine (laws_eqItem.calls t496 t497 t498 t499 t500 t501 t502 t503 t504 t505 t506 t507 t508 t509 t510 t511 t475 t476 t477 t478 t479 t480 t481 t482 t483 t484 t485 t486 t487 t488 t489 t490 false _ A19.out).mono ?_); rintro e w28 ⟨rfl, hb⟩; refine ⟨_, rfl, ?_⟩; replace HO474 := am_ (Kd.R_below (by (with_reducible repeat (first | apply Kd.R_alloc | apply Kd.R_drewN | apply Kd.R_drew)); exact (Kd.R_mono (Go.Proofs.YtahfemlfdpbkkaaV.R_far16 (g := gb513) (Kd.R_types HO474.out BK513.out (by decide)) (fun _ hk => hk.2)) (fun _ h_ => h_.1))) hb); replace HO495 := am_ (Kd.R_below (by (with_reducible repeat (first | apply Kd.R_alloc | apply Kd.R_drewN | apply Kd.R_drew)); exact (Kd.R_mono (Go.Proofs.YtahfemlfdpbkkaaV.R_far16 (g := gb513) (Kd.R_types HO495.out BK513.out (by decide)) (fun _ hk => hk.2)) (fun _ h_ => h_.1))) hb); replace BK492 := am_ (blk_below (g := gb492) (o := .cells #[.int .i64 t475, .int .i64 t476, .string t477, .int .i64 t478, .int .i64 t479, .int .i64 t480, .string t481, .int .i64 t482, .int .i64 t483, .int .i64 t484, .string t485, .int .i64 t486, .int .i64 t487, .int .i64 t488, .int .i64 t489, .int .i64 t490] 48 (0, 0)) (by (with_reducible repeat (first | refine blk_drewN ?_ _ | refine blk_drew ?_ | refine blk_alloc ?_ _)); refine Go.Proofs.YtahfemlfdpbkkaaV.blk_far16 ?_ NB492_513.out; (with_reducible repeat (first | refine blk_drewN ?_ _ | refine blk_drew ?_ | refine blk_alloc ?_ _)); exact BK492.out) hb); replace BK513 := am_ (blk_below (g := gb513) (o := .cells #[.int .i64 t496, .int .i64 t497, .string t498, .int .i64 t499, .int .i64 t500, .int .i64 t501, .string t502, .int .i64 t503, .int .i64 t504, .int .i64 t505, .string t506, .int .i64 t507, .int .i64 t508, .int .i64 t509, .int .i64 t510, .int .i64 t511] 48 (0, 0)) (by (with_reducible repeat (first | refine blk_drewN ?_ _ | refine blk_drew ?_ | refine blk_alloc ?_ _)); refine Go.Proofs.YtahfemlfdpbkkaaV.blk_all16 (show _ = some (Go.Obj.cells #[.int .i64 0, .int .i64 0, .string (⟨#[]⟩ : ByteArray), .int .i64 0, .int .i64 0, .int .i64 0, .string (⟨#[]⟩ : ByteArray), .int .i64 0, .int .i64 0, .int .i64 0, .string (⟨#[]⟩ : ByteArray), .int .i64 0, .int .i64 0, .int .i64 0, .int .i64 0, .int .i64 0] _ (0, 0)) from ?_); (with_reducible repeat (first | refine blk_drewN ?_ _ | refine blk_drew ?_ | refine blk_alloc ?_ _)); exact BK513.out) hb); replace HB := am_ (below_step (qB HB) hb); (try clear hb); (try clear hb2); (try clear hk); (try clear hi)))
    go_meet
    case rel => exact ⟨_, (true), eqq_, H', ⟨by first | omega | exact Nat.le_refl _⟩, ⟨by (with_reducible repeat (first | apply Kd.R_alloc | apply Kd.R_drewN | apply Kd.R_drew)); exact Kd.R_mono HO495.out (fun _ hk => trivial)⟩, ⟨qK BK492⟩, ⟨qK BK513⟩, ⟨qB HB⟩⟩
  case rest =>
   clear HC7
   try clear c1
   try clear c2
   try clear c2b0
   try clear c2b1
   try clear p2
   try clear c4
   try clear c9
   try clear c17
   try clear c20
   try clear c21
   try clear c25
   (try clear z12_0 z12_1 z12_10 z12_11 z12_12 z12_13 z12_14 z12_15 z12_2 z12_3 z12_4 z12_5 z12_6 z12_7 z12_8 z12_9)
   (try clear z18_0 z18_1 z18_10 z18_11 z18_12 z18_13 z18_14 z18_15 z18_2 z18_3 z18_4 z18_5 z18_6 z18_7 z18_8 z18_9)
   (try clear z22_0 z22_1 z22_10 z22_11 z22_12 z22_13 z22_14 z22_15 z22_2 z22_3 z22_4 z22_5 z22_6 z22_7 z22_8 z22_9)
   (try clear z23_0 z23_1 z23_10 z23_11 z23_12 z23_13 z23_14 z23_15 z23_2 z23_3 z23_4 z23_5 z23_6 z23_7 z23_8 z23_9)
   (try clear z26_0 z26_1 z26_10 z26_11 z26_12 z26_13 z26_14 z26_15 z26_2 z26_3 z26_4 z26_5 z26_6 z26_7 z26_8 z26_9)
   (try clear z27_0 z27_1 z27_10 z27_11 z27_12 z27_13 z27_14 z27_15 z27_2 z27_3 z27_4 z27_5 z27_6 z27_7 z27_8 z27_9)
   (try clear f12_0 f12_1 f12_10 f12_11 f12_12 f12_13 f12_14 f12_15 f12_2 f12_3 f12_4 f12_5 f12_6 f12_7 f12_8 f12_9)
   (try clear f18_0 f18_1 f18_10 f18_11 f18_12 f18_13 f18_14 f18_15 f18_2 f18_3 f18_4 f18_5 f18_6 f18_7 f18_8 f18_9)
   (try clear f22_0 f22_1 f22_10 f22_11 f22_12 f22_13 f22_14 f22_15 f22_2 f22_3 f22_4 f22_5 f22_6 f22_7 f22_8 f22_9)
   (try clear f23_0 f23_1 f23_10 f23_11 f23_12 f23_13 f23_14 f23_15 f23_2 f23_3 f23_4 f23_5 f23_6 f23_7 f23_8 f23_9)
   (try clear f26_0 f26_1 f26_10 f26_11 f26_12 f26_13 f26_14 f26_15 f26_2 f26_3 f26_4 f26_5 f26_6 f26_7 f26_8 f26_9)
   (try clear f27_0 f27_1 f27_10 f27_11 f27_12 f27_13 f27_14 f27_15 f27_2 f27_3 f27_4 f27_5 f27_6 f27_7 f27_8 f27_9)
   obtain ⟨kq, x32_6, rfl, HA, HJ6, HO_5, BK492, BK513, HB⟩ := hcut
   cases kq with
   | zero => exact absurd HA.out (by simp [laws_FnExactGetItem.j0])
   | succ kj6 =>
    have H := HA.out
    clear HA
    simp only [laws_FnExactGetItem.j0] at H
    by_cases c29 : x32_6 = true
    ·
     subst c29
     rw [if_pos rfl] at H
     exact absurd (hr_.out ▸ H) (by simp)
    ·
     replace c29 := Bool.eq_false_iff.mpr c29
     subst c29
     rw [if_neg (show ¬ (false = true) by decide)] at H
     obtain ⟨t515, A30, H⟩ := bd_ H
     obtain ⟨t518, A31, H⟩ := bd_ H
     by_cases c32 : t518 = true
     ·
      subst c32
      rw [if_pos rfl] at H
      obtain rfl := Option.some.inj H
      go_wp2_with (first | ((with_reducible refine gate_callee (f := 43) rfl ?_); refine goesL_ (some 35) rfl rfl Try.func43 (by kernel_rfl) rfl #[.slice A0 l0.length c0] rfl la_ ?_; (with_reducible refine (laws_toByteS.calls kj6 _ _ l0 t515 _ ?side1 ?side2 A30.out).mono ?_); (case side1 => exact qC (Kd.C_below HR0.out HB.out)); (case side2 => exact HC0.out); rintro e w33 ⟨v516, rfl, ho0, hb⟩; refine ⟨_, rfl, ?_⟩; have HO517 := am_ (Kd.R_lower (Kd.R_new' ho0 (Kd.R_lt (qR HO_5))) (below_size (qB HB))); replace HO_5 := am_ (eR HO_5 ho0 hb); replace BK492 := am_ (blk_below (qK BK492) hb); replace BK513 := am_ (blk_below (qK BK513) hb); replace HB := am_ (below_step (qB HB) hb); (try clear hb); (try clear hb2); (try clear hk); (try clear hi); (try clear ho0); obtain ⟨Ao34, co34, eo34⟩ := Kd.R_slice HO517.out; subst eo34) | ((with_reducible refine gate_callee (f := 28) rfl ?_); refine goesL_ (some 36) rfl rfl Try.func28 (by kernel_rfl) rfl #[.slice Ao14 t493.length co14, .slice Ao34 t515.length co34] rfl la_ ?_; (with_reducible refine (laws_eqByteS.calls kj6 _ _ t493 _ _ t515 true _ ?side1 ?side2 ?side3 ?side4 ⟨rfl⟩ A31.out).mono ?_); (case side1 => exact qC ((Kd.R_reads' HO_5.out).2.2)); (case side2 => exact (Kd.R_reads' HO_5.out).2.1); (case side3 => exact qC ((Kd.R_reads' HO517.out).2.2)); (case side4 => exact (Kd.R_reads' HO517.out).2.1); rintro e w' ⟨rfl, ⟨nd, rfl⟩⟩; refine ⟨_, rfl, ?_⟩))
      go_ret
      exact ⟨by first | rfl | (simp [errW_none, errW_some] <;> rfl) | (simp [*, errW_none, errW_some] <;> rfl), qB HB⟩
     ·
      replace c32 := Bool.eq_false_iff.mpr c32
      subst c32
      rw [if_neg (show ¬ (false = true) by decide)] at H
      exact absurd (hr_.out ▸ H) (by simp)

/-- THE ONE PURE STATEMENT of laws_FnExactGetItem: yours. -/
def laws_FnExactGetItem.Pure : Prop := ∀ (l0 : List Int), l0.length ≤ maxLen → l0.length * 1 ≤ 140737488351232 → (∀ x ∈ l0, (Lit.int .u8 x).wf = true) → ∃ k, laws_FnExactGetItem.f k l0 = some true
theorem laws_FnExactGetItem.walk (P : laws_FnExactGetItem.Pure) (a0 : Option Addr) (len0 cap0 : Nat) (z0 : List Int) (w : World) (w0 : (a0 = none ∧ len0 = 0 ∧ cap0 = 0 ∧ z0 = []) ∨ ∃ x, a0 = some x ∧ len0 ≤ cap0 ∧ cap0 ≤ maxLen ∧ z0.length = cap0 ∧ (∀ i, i < z0.length → w.cell? (x.add i) = some (.int .u8 (z0.getD i 0))) ∧ ∀ n ∈ z0, (Lit.int .u8 n).wf = true) (y0 : len0 * 1 ≤ 140737488351232) :
  Calls Try.prog 9 #[.slice a0 len0 cap0] w fun e w' => e = .returned (.bool true) ∧ Below w.heap.size w w' := by
 obtain ⟨l0, rfl, hr0, hm0, hw0, hc0⟩ := ReadsInt.ofRowC w0
 obtain ⟨k, h⟩ := P l0 hm0 y0 hw0
 refine (laws_FnExactGetItem.calls k _ _ l0 true w (Kd.C_of_reads (d := (0 : Int)) (h1 := fun _ => rfl) hr0) hc0 ⟨rfl⟩ h).mono ?_
 rintro e w' ⟨rfl, hd⟩
 exact ⟨rfl, hd⟩

end Go.Proofs.Ytahfemlfdpbkkaa.PFnExactGetItem
