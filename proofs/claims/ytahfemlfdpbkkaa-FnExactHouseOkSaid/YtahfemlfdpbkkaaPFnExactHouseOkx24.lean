-- Written by a program of this session (myprint.py, over the kit's print): contracts of FnExactHouseOk
import Derived.Test.YtahfemlfdpbkkaaPFnExactHouseOkx0
import Derived.Test.YtahfemlfdpbkkaaPFnExactHouseOkx18
import Derived.Test.YtahfemlfdpbkkaaPFnExactHouseOkx23
namespace Go.Proofs.Ytahfemlfdpbkkaa.PFnExactHouseOk
open Go.RowKit Go.Proofs.YtahfemlfdpbkkaaW.PrintWords Go.Proofs.YtahfemlfdpbkkaaW.PrintLast Go.Proofs.YtahfemlfdpbkkaaW.PrintMore Go.Proofs.YtahfemlfdpbkkaaV
attribute [local go_sem] max2_int min2_int max_two min_two max_three min_three max_four min_four   -- for this text's walks alone
set_option linter.unusedVariables false
set_option linter.unusedSimpArgs false

/-! ### impl_pairsOk: function 168 -/
mutual
def impl_pairsOk.l0 : Nat → List (S45) → Int → Int → Int → Int → Int → List (S125) → Bool → List (S45) → List (S46) → Int → Int → Int → Int → Int → Option (Bool)
 | 0, _, _, _, _, _, _, _, _, _, _, _, _, _, _, _ => none
 | k + 1, x10, x11, x12, x345000, x345001, x345002, x345003, x345004, x345005, x345006, x345007, x345008, x345009, x345010, x345011 => if x12 < x11 then (if 0 ≤ x12 then (if x12 < (x10.length : Int) then (if ((rd_T45 x10 x12).f2) = 3 then (impl_pairsOk.j1 k x10 x11 x12 true x345000 x345001 x345002 x345003 x345004 x345005 x345006 x345007 x345008 x345009 x345010 x345011 ((rd_T45 x10 x12).f0) ((rd_T45 x10 x12).f1) ((rd_T45 x10 x12).f2) ((rd_T45 x10 x12).f3) ((rd_T45 x10 x12).f4) ((rd_T45 x10 x12).f5) ((rd_T45 x10 x12).f6) ((rd_T45 x10 x12).f7)) else (impl_pairsOk.j1 k x10 x11 x12 (((rd_T45 x10 x12).f2) == 4) x345000 x345001 x345002 x345003 x345004 x345005 x345006 x345007 x345008 x345009 x345010 x345011 ((rd_T45 x10 x12).f0) ((rd_T45 x10 x12).f1) ((rd_T45 x10 x12).f2) ((rd_T45 x10 x12).f3) ((rd_T45 x10 x12).f4) ((rd_T45 x10 x12).f5) ((rd_T45 x10 x12).f6) ((rd_T45 x10 x12).f7))) else (none)) else (none)) else (impl_pairsOk.l1 k x345006 (x345006.length : Int) 0 x345000 x345001 x345002 x345003 x345004 x345005 x345006 x345007 x345008 x345009 x345010 x345011)
def impl_pairsOk.j1 : Nat → List (S45) → Int → Int → Bool → Int → Int → Int → List (S125) → Bool → List (S45) → List (S46) → Int → Int → Int → Int → Int → Int → ByteArray → Int → Int → Int → ByteArray → Int → Int → Option (Bool)
 | 0, _, _, _, _, _, _, _, _, _, _, _, _, _, _, _, _, _, _, _, _, _, _, _, _ => none
 | k + 1, x10, x11, x12, x23, x345000, x345001, x345002, x345003, x345004, x345005, x345006, x345007, x345008, x345009, x345010, x345011, x347000, x347001, x347002, x347003, x347004, x347005, x347006, x347007 => if x23 = true then ((impl_LineAt.f x345006 x347006).bind fun t347 => (if t347 < 0 then (some false) else (if 0 ≤ t347 then (if t347 < (x345006.length : Int) then ((impl_leased.f x347000 x347001 x347002 x347003 x347004 x347005 x347006 x347007 ((rd_T46 x345006 t347).f0) ((rd_T46 x345006 t347).f1) ((rd_T46 x345006 t347).f2) ((rd_T46 x345006 t347).f3) ((rd_T46 x345006 t347).f4) ((rd_T46 x345006 t347).f5) ((rd_T46 x345006 t347).f6)).bind fun t349 => (if t349 = true then (impl_pairsOk.l0 k x10 x11 (wrap64 (x12 + 1)) x345000 x345001 x345002 x345003 x345004 x345005 x345006 x345007 x345008 x345009 x345010 x345011) else (some false))) else (none)) else (none)))) else (impl_pairsOk.l0 k x10 x11 (wrap64 (x12 + 1)) x345000 x345001 x345002 x345003 x345004 x345005 x345006 x345007 x345008 x345009 x345010 x345011)
def impl_pairsOk.l1 : Nat → List (S46) → Int → Int → Int → Int → Int → List (S125) → Bool → List (S45) → List (S46) → Int → Int → Int → Int → Int → Option (Bool)
 | 0, _, _, _, _, _, _, _, _, _, _, _, _, _, _, _ => none
 | k + 1, x43, x44, x45, x345000, x345001, x345002, x345003, x345004, x345005, x345006, x345007, x345008, x345009, x345010, x345011 => if x45 < x44 then (if 0 ≤ x45 then (if x45 < (x43.length : Int) then (if ((rd_T46 x43 x45).f3) = 0 then (impl_pairsOk.l1 k x43 x44 (wrap64 (x45 + 1)) x345000 x345001 x345002 x345003 x345004 x345005 x345006 x345007 x345008 x345009 x345010 x345011) else ((impl_AskerAt.f x345005 ((rd_T46 x43 x45).f5)).bind fun t352 => (if t352 < 0 then (some false) else (if 0 ≤ t352 then (if t352 < (x345005.length : Int) then ((impl_leased.f ((rd_T45 x345005 t352).f0) ((rd_T45 x345005 t352).f1) ((rd_T45 x345005 t352).f2) ((rd_T45 x345005 t352).f3) ((rd_T45 x345005 t352).f4) ((rd_T45 x345005 t352).f5) ((rd_T45 x345005 t352).f6) ((rd_T45 x345005 t352).f7) ((rd_T46 x43 x45).f0) ((rd_T46 x43 x45).f1) ((rd_T46 x43 x45).f2) ((rd_T46 x43 x45).f3) ((rd_T46 x43 x45).f4) ((rd_T46 x43 x45).f5) ((rd_T46 x43 x45).f6)).bind fun t354 => (if t354 = true then (impl_pairsOk.l1 k x43 x44 (wrap64 (x45 + 1)) x345000 x345001 x345002 x345003 x345004 x345005 x345006 x345007 x345008 x345009 x345010 x345011) else (some false))) else (none)) else (none))))) else (none)) else (none)) else (some true)
end
def impl_pairsOk.f (k : Nat) (a0_0 : Int) (a0_1 : Int) (a0_2 : Int) (l0_3 : List (S125)) (a0_4 : Bool) (l0_5 : List (S45)) (l0_6 : List (S46)) (a0_7 : Int) (a0_8 : Int) (a0_9 : Int) (a0_10 : Int) (a0_11 : Int) : Option (Bool) := impl_pairsOk.l0 k l0_5 (l0_5.length : Int) 0 a0_0 a0_1 a0_2 l0_3 a0_4 l0_5 l0_6 a0_7 a0_8 a0_9 a0_10 a0_11
theorem impl_pairsOk.mono_l : ∀ k, (∀ y0 y1 y2 y3 y4 y5 y6 y7 y8 y9 y10 y11 y12 y13 y14, LeO (impl_pairsOk.l0 k y0 y1 y2 y3 y4 y5 y6 y7 y8 y9 y10 y11 y12 y13 y14) (impl_pairsOk.l0 (k + 1) y0 y1 y2 y3 y4 y5 y6 y7 y8 y9 y10 y11 y12 y13 y14)) ∧ (∀ y0 y1 y2 y3 y4 y5 y6 y7 y8 y9 y10 y11 y12 y13 y14 y15 y16 y17 y18 y19 y20 y21 y22 y23, LeO (impl_pairsOk.j1 k y0 y1 y2 y3 y4 y5 y6 y7 y8 y9 y10 y11 y12 y13 y14 y15 y16 y17 y18 y19 y20 y21 y22 y23) (impl_pairsOk.j1 (k + 1) y0 y1 y2 y3 y4 y5 y6 y7 y8 y9 y10 y11 y12 y13 y14 y15 y16 y17 y18 y19 y20 y21 y22 y23)) ∧ (∀ y0 y1 y2 y3 y4 y5 y6 y7 y8 y9 y10 y11 y12 y13 y14, LeO (impl_pairsOk.l1 k y0 y1 y2 y3 y4 y5 y6 y7 y8 y9 y10 y11 y12 y13 y14) (impl_pairsOk.l1 (k + 1) y0 y1 y2 y3 y4 y5 y6 y7 y8 y9 y10 y11 y12 y13 y14))
 | 0 => ⟨fun _ _ _ _ _ _ _ _ _ _ _ _ _ _ _ r h => by simp [impl_pairsOk.l0] at h, fun _ _ _ _ _ _ _ _ _ _ _ _ _ _ _ _ _ _ _ _ _ _ _ _ r h => by simp [impl_pairsOk.j1] at h, fun _ _ _ _ _ _ _ _ _ _ _ _ _ _ _ r h => by simp [impl_pairsOk.l1] at h⟩
 | k + 1 => by
  obtain ⟨ih0, ih1, ih2⟩ := impl_pairsOk.mono_l k
  refine ⟨?_, ?_, ?_⟩
  ·
   intro y0 y1 y2 y3 y4 y5 y6 y7 y8 y9 y10 y11 y12 y13 y14
   unfold impl_pairsOk.l0
   repeat' first
   | (with_reducible exact ih0 _ _ _ _ _ _ _ _ _ _ _ _ _ _ _)
   | (with_reducible exact ih1 _ _ _ _ _ _ _ _ _ _ _ _ _ _ _ _ _ _ _ _ _ _ _ _)
   | (with_reducible exact ih2 _ _ _ _ _ _ _ _ _ _ _ _ _ _ _)
   | (with_reducible exact LeO.refl _)
   | (with_reducible exact LeO.none _)
   | (with_reducible refine LeO.ite ?_ ?_)
   | (with_reducible refine LeO.bind ?_ (fun _ => ?_))
   | exact ih0 _ _ _ _ _ _ _ _ _ _ _ _ _ _ _
   | exact ih1 _ _ _ _ _ _ _ _ _ _ _ _ _ _ _ _ _ _ _ _ _ _ _ _
   | exact ih2 _ _ _ _ _ _ _ _ _ _ _ _ _ _ _
   | exact LeO.none _
   | refine LeO.ite ?_ ?_
   | refine LeO.bind ?_ (fun _ => ?_)
  ·
   intro y0 y1 y2 y3 y4 y5 y6 y7 y8 y9 y10 y11 y12 y13 y14 y15 y16 y17 y18 y19 y20 y21 y22 y23
   unfold impl_pairsOk.j1
   repeat' first
   | (with_reducible exact ih0 _ _ _ _ _ _ _ _ _ _ _ _ _ _ _)
   | (with_reducible exact ih1 _ _ _ _ _ _ _ _ _ _ _ _ _ _ _ _ _ _ _ _ _ _ _ _)
   | (with_reducible exact ih2 _ _ _ _ _ _ _ _ _ _ _ _ _ _ _)
   | (with_reducible exact LeO.refl _)
   | (with_reducible exact LeO.none _)
   | (with_reducible refine LeO.ite ?_ ?_)
   | (with_reducible refine LeO.bind ?_ (fun _ => ?_))
   | exact ih0 _ _ _ _ _ _ _ _ _ _ _ _ _ _ _
   | exact ih1 _ _ _ _ _ _ _ _ _ _ _ _ _ _ _ _ _ _ _ _ _ _ _ _
   | exact ih2 _ _ _ _ _ _ _ _ _ _ _ _ _ _ _
   | exact LeO.none _
   | refine LeO.ite ?_ ?_
   | refine LeO.bind ?_ (fun _ => ?_)
  ·
   intro y0 y1 y2 y3 y4 y5 y6 y7 y8 y9 y10 y11 y12 y13 y14
   unfold impl_pairsOk.l1
   repeat' first
   | (with_reducible exact ih0 _ _ _ _ _ _ _ _ _ _ _ _ _ _ _)
   | (with_reducible exact ih1 _ _ _ _ _ _ _ _ _ _ _ _ _ _ _ _ _ _ _ _ _ _ _ _)
   | (with_reducible exact ih2 _ _ _ _ _ _ _ _ _ _ _ _ _ _ _)
   | (with_reducible exact LeO.refl _)
   | (with_reducible exact LeO.none _)
   | (with_reducible refine LeO.ite ?_ ?_)
   | (with_reducible refine LeO.bind ?_ (fun _ => ?_))
   | exact ih0 _ _ _ _ _ _ _ _ _ _ _ _ _ _ _
   | exact ih1 _ _ _ _ _ _ _ _ _ _ _ _ _ _ _ _ _ _ _ _ _ _ _ _
   | exact ih2 _ _ _ _ _ _ _ _ _ _ _ _ _ _ _
   | exact LeO.none _
   | refine LeO.ite ?_ ?_
   | refine LeO.bind ?_ (fun _ => ?_)
theorem impl_pairsOk.mono : ∀ a0 a1 a2 a3 a4 a5 a6 a7 a8 a9 a10 a11 k, LeO (impl_pairsOk.f k a0 a1 a2 a3 a4 a5 a6 a7 a8 a9 a10 a11) (impl_pairsOk.f (k + 1) a0 a1 a2 a3 a4 a5 a6 a7 a8 a9 a10 a11) := by
 intro a0 a1 a2 a3 a4 a5 a6 a7 a8 a9 a10 a11 k
 obtain ⟨ih0, ih1, ih2⟩ := impl_pairsOk.mono_l k
 unfold impl_pairsOk.f
 repeat' first
   | (with_reducible exact ih0 _ _ _ _ _ _ _ _ _ _ _ _ _ _ _)
   | (with_reducible exact ih1 _ _ _ _ _ _ _ _ _ _ _ _ _ _ _ _ _ _ _ _ _ _ _ _)
   | (with_reducible exact ih2 _ _ _ _ _ _ _ _ _ _ _ _ _ _ _)
   | (with_reducible exact LeO.refl _)
   | (with_reducible exact LeO.none _)
   | (with_reducible refine LeO.ite ?_ ?_)
   | (with_reducible refine LeO.bind ?_ (fun _ => ?_))
   | exact ih0 _ _ _ _ _ _ _ _ _ _ _ _ _ _ _
   | exact ih1 _ _ _ _ _ _ _ _ _ _ _ _ _ _ _ _ _ _ _ _ _ _ _ _
   | exact ih2 _ _ _ _ _ _ _ _ _ _ _ _ _ _ _
   | exact LeO.none _
   | refine LeO.ite ?_ ?_
   | refine LeO.bind ?_ (fun _ => ?_)
def impl_pairsOk.T6 : Bool × List (List Nat × List Nat) := (true, [([], []), ([0], [0]), ([1], [1]), ([2], [2]), ([2], [2]), ([4, 2], [2, 4]), ([2], [2]), ([5, 6, 2], [2, 5, 6]), ([7, 2], [2, 7]), ([3, 8, 2, 2], [2, 3, 8]), ([9, 2], [2, 9]), ([2, 10], [2, 10])])
def impl_pairsOk.B6 : List Nat := [0, 1, 3, 7, 7, 23, 7, 119, 247, 511, 1023, 2047]
theorem impl_pairsOk.tab6 : rtab .any (opsOf Try.f168 6) = impl_pairsOk.T6 := by kernel_rfl
theorem impl_pairsOk.bits6 : waitsOk impl_pairsOk.T6.2 impl_pairsOk.B6 = true := by kernel_rfl
def impl_pairsOk.T14 : Bool × List (List Nat × List Nat) := (true, [([], []), ([0], [0]), ([1], [1]), ([2], [2]), ([3, 2], [2, 3]), ([2], [2]), ([4, 5, 2], [2, 4, 5]), ([6, 2], [2, 6]), ([2], [2]), ([7, 8, 2, 2], [2, 7, 8]), ([9, 2], [2, 9]), ([2, 10], [2, 10])])
def impl_pairsOk.B14 : List Nat := [0, 1, 3, 7, 15, 7, 63, 127, 7, 511, 1023, 2047]
theorem impl_pairsOk.tab14 : rtab .any (opsOf Try.f168 14) = impl_pairsOk.T14 := by kernel_rfl
theorem impl_pairsOk.bits14 : waitsOk impl_pairsOk.T14.2 impl_pairsOk.B14 = true := by kernel_rfl
set_option maxHeartbeats 8000000 in
set_option maxRecDepth 100000 in
theorem impl_pairsOk.calls (k : Nat) (a0_0 : Int) (a0_1 : Int) (a0_2 : Int) (A0_3 : Option Addr) (c0_3 : Nat) (l0_3 : List (S125)) (a0_4 : Bool) (A0_5 : Option Addr) (c0_5 : Nat) (l0_5 : List (S45)) (A0_6 : Option Addr) (c0_6 : Nat) (l0_6 : List (S46)) (a0_7 : Int) (a0_8 : Int) (a0_9 : Int) (a0_10 : Int) (a0_11 : Int) (r : Bool) (w : World) (hr0_3 : Kd.C k125 w A0_3 l0_3.length l0_3) (hc0_3 : l0_3.length ≤ c0_3) (hr0_5 : Kd.C k45 w A0_5 l0_5.length l0_5) (hc0_5 : l0_5.length ≤ c0_5) (hr0_6 : Kd.C k46 w A0_6 l0_6.length l0_6) (hc0_6 : l0_6.length ≤ c0_6) (h : impl_pairsOk.f k a0_0 a0_1 a0_2 l0_3 a0_4 l0_5 l0_6 a0_7 a0_8 a0_9 a0_10 a0_11 = some r) :
  Calls Try.prog 168 #[.agg #[.int .i64 a0_0, .int .i64 a0_1, .int .i64 a0_2, .slice A0_3 l0_3.length c0_3, .bool a0_4, .slice A0_5 l0_5.length c0_5, .slice A0_6 l0_6.length c0_6, .int .i64 a0_7, .int .i64 a0_8, .int .i64 a0_9, .int .i64 a0_10, .int .i64 a0_11]] w fun e w' => e = .returned (.bool r) ∧ Below w.heap.size w w' := by
 have hu67 := Try.underlying67
 have hu45 := Try.underlying45
 have hu46 := Try.underlying46
 have HR0_3 := Aside0.mk hr0_3
 have HC0_3 := Aside0.mk hc0_3
 clear hr0_3 hc0_3
 have HR0_5 := Aside0.mk hr0_5
 have HC0_5 := Aside0.mk hc0_5
 clear hr0_5 hc0_5
 have HR0_6 := Aside0.mk hr0_6
 have HC0_6 := Aside0.mk hc0_6
 clear hr0_6 hc0_6
 have HB := Aside0.mk (Below.refl w.heap.size w)
 have H : (impl_pairsOk.l0 k l0_5 (l0_5.length : Int) 0 a0_0 a0_1 a0_2 l0_3 a0_4 l0_5 l0_6 a0_7 a0_8 a0_9 a0_10 a0_11) = some r := h
 clear h
 have H' := Aside0.mk H
 clear H
 go_enter Try.func168, Try.ntmps168
 go_wp2_with (first | ((with_reducible refine gate_dst (N := 1) rfl ?_); refine box_event ?hg (N := 1) ?hd (cs := #[.int .i64 a0_0, .int .i64 a0_1, .int .i64 a0_2, .slice A0_3 l0_3.length c0_3, .bool a0_4, .slice A0_5 l0_5.length c0_5, .slice A0_6 l0_6.length c0_6, .int .i64 a0_7, .int .i64 a0_8, .int .i64 a0_9, .int .i64 a0_10, .int .i64 a0_11]) (t := 67) ?hr ?_; (case hd => rfl); (case hg => rfl); (case hr => first | (go_simp; done) | (go_simp; rfl)); intro gb344 hg w2 hbox hb; have BK344 := am_ (hbox); have GW344 := am_ ((gG_ hg (qB HB))); have IGW344 := gI_ GW344; have GE344 := am_ ((gG_ hg (qB HB))); have IGE344 := gI_ GE344; replace HB := am_ (below_step (qB HB) hb); clear hb hbox hg; obtain ⟨z3_0, z3_1, z3_2, z3_3, z3_4, z3_5, z3_6, z3_7, z3_8, z3_9, z3_10, z3_11⟩ := cz12 BK344.out; obtain ⟨f3_0, f3_1, f3_2, f3_3, f3_4, f3_5, f3_6, f3_7, f3_8, f3_9, f3_10, f3_11⟩ := fz12 BK344.out))
 go_loopg [12] k (fun kq v12 w' => ∃ (x12_1 : Int), v12 = .int .i64 x12_1 ∧ Aside0 (impl_pairsOk.l0 kq l0_5 (l0_5.length : Int) x12_1 a0_0 a0_1 a0_2 l0_3 a0_4 l0_5 l0_6 a0_7 a0_8 a0_9 a0_10 a0_11 = some r) ∧ Aside0 (kq ≤ k) ∧ Aside0 (w'.heap[gb344]? = some (.cells #[.int .i64 a0_0, .int .i64 a0_1, .int .i64 a0_2, (.slice A0_3 l0_3.length c0_3), .bool a0_4, (.slice A0_5 l0_5.length c0_5), (.slice A0_6 l0_6.length c0_6), .int .i64 a0_7, .int .i64 a0_8, .int .i64 a0_9, .int .i64 a0_10, .int .i64 a0_11] 67 (0, 0))) ∧ Aside0 (Below w.heap.size w w'))
 case atStart => exact ⟨(0), eqq_, H', ⟨Nat.le_refl _⟩, ⟨qK BK344⟩, ⟨qB HB⟩⟩
 case round =>
  clear H'
  try clear c1
  try clear p2
  (try clear z3_0 z3_1 z3_10 z3_11 z3_2 z3_3 z3_4 z3_5 z3_6 z3_7 z3_8 z3_9)
  (try clear f3_0 f3_1 f3_10 f3_11 f3_2 f3_3 f3_4 f3_5 f3_6 f3_7 f3_8 f3_9)
  obtain ⟨x12_1, rfl, HA, HK1, BK344, HB⟩ := hrel
  cases gk with
  | zero => exact absurd HA.out (by simp [impl_pairsOk.l0])
  | succ k1 =>
   have H := HA.out
   clear HA
   simp only [impl_pairsOk.l0] at H
   by_cases c4 : x12_1 < (l0_5.length : Int)
   ·
    rw [if_pos c4] at H
    have c4b0 : decide (x12_1 < (l0_5.length : Int)) = true := decide_eq_true c4
    clear c4
    by_cases c5 : 0 ≤ x12_1
    ·
     rw [if_pos c5] at H
     have c5b0 : decide (0 ≤ x12_1) = true := decide_eq_true c5
     clear c5
     by_cases c6 : x12_1 < (l0_5.length : Int)
     ·
      rw [if_pos c6] at H
      have c6b0 : decide (x12_1 < (l0_5.length : Int)) = true := decide_eq_true c6
      clear c6
      have HC7 := Aside0.mk H
      clear H
      have p345 : 0 ≤ (x12_1 : Int) := od_
      have q345 : x12_1 < (l0_5.length : Int) := od_
      obtain ⟨ad345, e345, hx345_0, hx345_1, hx345_2, hx345_3, hx345_4, hx345_5, hx345_6, hx345_7⟩ := at_T45 HR0_5.out x12_1 p345 q345
      cases e345
      replace hx345_0 := lb_ HB hx345_0
      replace hx345_1 := lb_ HB hx345_1
      replace hx345_2 := lb_ HB hx345_2
      replace hx345_3 := lb_ HB hx345_3
      replace hx345_4 := lb_ HB hx345_4
      replace hx345_5 := lb_ HB hx345_5
      replace hx345_6 := lb_ HB hx345_6
      replace hx345_7 := lb_ HB hx345_7
      replace p345 := eq_true p345
      replace q345 := eq_true q345
      go_upto_region 4 with (first | ((with_reducible refine gate_dst (N := 4) rfl ?_); refine box_event ?hg (N := 4) ?hd (cs := #[.int .i64 0, .string (⟨#[]⟩ : ByteArray), .int .i64 0, .int .i64 0, .int .i64 0, .string (⟨#[]⟩ : ByteArray), .int .i64 0, .int .i64 0]) (t := 45) ?hr ?_; (case hd => rfl); (case hg => rfl); (case hr => first | (go_simp; done) | (go_simp; rfl)); intro gb346 hg w8 hbox hb; have BK346 := am_ (hbox); have GW346 := am_ ((gG_ hg (qB HB))); have IGW346 := gI_ GW346; have GE346 := am_ ((gG_ hg (qB HB))); have IGE346 := gI_ GE346; replace HB := am_ (below_step (qB HB) hb); have NB344_346 := am_ ((gN_ hg (qK BK344))); have NB346_344 := am_ ((gM_ hg (qK BK344))); replace BK344 := am_ (blk_below (qK BK344) hb); clear hb hbox hg; have hnb9 := NB346_344.out; have hnc9 := NB344_346.out; obtain ⟨z10_0, z10_1, z10_2, z10_3, z10_4, z10_5, z10_6, z10_7⟩ := cz8 BK346.out; obtain ⟨f10_0, f10_1, f10_2, f10_3, f10_4, f10_5, f10_6, f10_7⟩ := fz8 BK346.out))
      (try simp only [Act.put, List.setIfInBounds_toArray, List.set_cons_zero, List.set_cons_succ])
      go_cut [23] (fun v23 wc => ∃ (kq : Nat) (x23_6 : Bool), v23 = .bool x23_6 ∧ Aside0 (impl_pairsOk.j1 kq l0_5 (l0_5.length : Int) x12_1 x23_6 a0_0 a0_1 a0_2 l0_3 a0_4 l0_5 l0_6 a0_7 a0_8 a0_9 a0_10 a0_11 ((rd_T45 l0_5 x12_1).f0) ((rd_T45 l0_5 x12_1).f1) ((rd_T45 l0_5 x12_1).f2) ((rd_T45 l0_5 x12_1).f3) ((rd_T45 l0_5 x12_1).f4) ((rd_T45 l0_5 x12_1).f5) ((rd_T45 l0_5 x12_1).f6) ((rd_T45 l0_5 x12_1).f7) = some r) ∧ Aside0 (kq ≤ k1) ∧ Aside0 (wc.heap[gb344]? = some (.cells #[.int .i64 a0_0, .int .i64 a0_1, .int .i64 a0_2, (.slice A0_3 l0_3.length c0_3), .bool a0_4, (.slice (some ad345) l0_5.length c0_5), (.slice A0_6 l0_6.length c0_6), .int .i64 a0_7, .int .i64 a0_8, .int .i64 a0_9, .int .i64 a0_10, .int .i64 a0_11] 67 (0, 0))) ∧ Aside0 (wc.heap[gb346]? = some (.cells #[.int .i64 ((rd_T45 l0_5 x12_1).f0), .string ((rd_T45 l0_5 x12_1).f1), .int .i64 ((rd_T45 l0_5 x12_1).f2), .int .i64 ((rd_T45 l0_5 x12_1).f3), .int .i64 ((rd_T45 l0_5 x12_1).f4), .string ((rd_T45 l0_5 x12_1).f5), .int .i64 ((rd_T45 l0_5 x12_1).f6), .int .i64 ((rd_T45 l0_5 x12_1).f7)] 45 (0, 0))) ∧ Aside0 (Below w.heap.size w wc))
      case first =>
       have H := HC7.out
       clear HC7
       by_cases c11 : ((rd_T45 l0_5 x12_1).f2) = 3
       ·
        rw [if_pos c11] at H
        have c11b0 : (((rd_T45 l0_5 x12_1).f2) == 3) = true := beq_iff_eq.mpr c11
        have c11b1 : (((rd_T45 l0_5 x12_1).f2) != 3) = false := bne_eq_false_iff_eq.mpr c11
        clear c11
        (first | rw [c11b0] | rw [c11b1] | (simp only [i64_w, i32_w]; rw [c11b0]) | skip)
        have H' := Aside0.mk H
        clear H
        have hnb12 := NB346_344.out
        have hnc12 := NB344_346.out
        obtain ⟨z13_0, z13_1, z13_2, z13_3, z13_4, z13_5, z13_6, z13_7⟩ := cz8 BK346.out
        obtain ⟨f13_0, f13_1, f13_2, f13_3, f13_4, f13_5, f13_6, f13_7⟩ := fz8 BK346.out
        go_wp2
        go_meet
        case rel => exact ⟨_, (true), eqq_, H', ⟨by have := HK1.out; first | omega | exact Nat.le_refl _⟩, ⟨by (with_reducible repeat (first | refine blk_drewN ?_ _ | refine blk_drew ?_ | refine blk_alloc ?_ _)); refine Go.Proofs.YtahfemlfdpbkkaaV.blk_far8 ?_ NB344_346.out; (with_reducible repeat (first | refine blk_drewN ?_ _ | refine blk_drew ?_ | refine blk_alloc ?_ _)); exact BK344.out⟩, ⟨by (with_reducible repeat (first | refine blk_drewN ?_ _ | refine blk_drew ?_ | refine blk_alloc ?_ _)); refine Go.Proofs.YtahfemlfdpbkkaaV.blk_all8 (show _ = some (Go.Obj.cells #[.int .i64 0, .string (⟨#[]⟩ : ByteArray), .int .i64 0, .int .i64 0, .int .i64 0, .string (⟨#[]⟩ : ByteArray), .int .i64 0, .int .i64 0] _ (0, 0)) from ?_); (with_reducible repeat (first | refine blk_drewN ?_ _ | refine blk_drew ?_ | refine blk_alloc ?_ _)); exact BK346.out⟩, ⟨qB HB⟩⟩
       ·
        rw [if_neg c11] at H
        have c11b0 : (((rd_T45 l0_5 x12_1).f2) == 3) = false := beq_eq_false_iff_ne.mpr c11
        have c11b1 : (((rd_T45 l0_5 x12_1).f2) != 3) = true := bne_iff_ne.mpr c11
        (first | rw [c11b0] | rw [c11b1] | (simp only [i64_w, i32_w]; rw [c11b0]) | skip)
        have H' := Aside0.mk H
        clear H
        have hnb14 := NB346_344.out
        have hnc14 := NB344_346.out
        obtain ⟨z15_0, z15_1, z15_2, z15_3, z15_4, z15_5, z15_6, z15_7⟩ := cz8 BK346.out
        obtain ⟨f15_0, f15_1, f15_2, f15_3, f15_4, f15_5, f15_6, f15_7⟩ := fz8 BK346.out
        go_wp2
        go_meet
        case rel => exact ⟨_, ((((rd_T45 l0_5 x12_1).f2) == 4)), eqq_, H', ⟨by have := HK1.out; first | omega | exact Nat.le_refl _⟩, ⟨by (with_reducible repeat (first | refine blk_drewN ?_ _ | refine blk_drew ?_ | refine blk_alloc ?_ _)); refine Go.Proofs.YtahfemlfdpbkkaaV.blk_far8 ?_ NB344_346.out; (with_reducible repeat (first | refine blk_drewN ?_ _ | refine blk_drew ?_ | refine blk_alloc ?_ _)); exact BK344.out⟩, ⟨by (with_reducible repeat (first | refine blk_drewN ?_ _ | refine blk_drew ?_ | refine blk_alloc ?_ _)); refine Go.Proofs.YtahfemlfdpbkkaaV.blk_all8 (show _ = some (Go.Obj.cells #[.int .i64 0, .string (⟨#[]⟩ : ByteArray), .int .i64 0, .int .i64 0, .int .i64 0, .string (⟨#[]⟩ : ByteArray), .int .i64 0, .int .i64 0] _ (0, 0)) from ?_); (with_reducible repeat (first | refine blk_drewN ?_ _ | refine blk_drew ?_ | refine blk_alloc ?_ _)); exact BK346.out⟩, ⟨qB HB⟩⟩
      case rest =>
       clear HC7
       try clear c1
       try clear p2
       try clear p3
       try clear q3
       try clear hx3
       try clear c4
       try clear c4b0
       try clear c5
       try clear c5b0
       try clear c6
       try clear c6b0
       try clear c9
       try clear c11
       try clear c11b0
       try clear c11b1
       try clear c12
       try clear c14
       (try clear z10_0 z10_1 z10_2 z10_3 z10_4 z10_5 z10_6 z10_7)
       (try clear z13_0 z13_1 z13_2 z13_3 z13_4 z13_5 z13_6 z13_7)
       (try clear z15_0 z15_1 z15_2 z15_3 z15_4 z15_5 z15_6 z15_7)
       (try clear z3_0 z3_1 z3_10 z3_11 z3_2 z3_3 z3_4 z3_5 z3_6 z3_7 z3_8 z3_9)
       (try clear f10_0 f10_1 f10_2 f10_3 f10_4 f10_5 f10_6 f10_7)
       (try clear f13_0 f13_1 f13_2 f13_3 f13_4 f13_5 f13_6 f13_7)
       (try clear f15_0 f15_1 f15_2 f15_3 f15_4 f15_5 f15_6 f15_7)
       (try clear f3_0 f3_1 f3_10 f3_11 f3_2 f3_3 f3_4 f3_5 f3_6 f3_7 f3_8 f3_9)
       try clear hx345_0
       try clear hx345_1
       try clear hx345_2
       try clear hx345_3
       try clear hx345_4
       try clear hx345_5
       try clear hx345_6
       try clear hx345_7
       try clear p2
       try clear p345
       try clear q345
       obtain ⟨kq, x23_6, rfl, HA, HJ6, BK344, BK346, HB⟩ := hcut
       cases kq with
       | zero => exact absurd HA.out (by simp [impl_pairsOk.j1])
       | succ kj6 =>
        have H := HA.out
        clear HA
        simp only [impl_pairsOk.j1] at H
        by_cases c16 : x23_6 = true
        ·
         subst c16
         rw [if_pos rfl] at H
         obtain ⟨t347, A17, H⟩ := bd_ H
         by_cases c18 : t347 < 0
         ·
          rw [if_pos c18] at H
          have c18b0 : decide (t347 < 0) = true := decide_eq_true c18
          clear c18
          obtain rfl := Option.some.inj H
          have hnb19 := NB344_346.out
          have hnc19 := NB346_344.out
          obtain ⟨z20_0, z20_1, z20_2, z20_3, z20_4, z20_5, z20_6, z20_7, z20_8, z20_9, z20_10, z20_11⟩ := cz12 BK344.out
          obtain ⟨f20_0, f20_1, f20_2, f20_3, f20_4, f20_5, f20_6, f20_7, f20_8, f20_9, f20_10, f20_11⟩ := fz12 BK344.out
          obtain ⟨z21_0, z21_1, z21_2, z21_3, z21_4, z21_5, z21_6, z21_7⟩ := cz8 BK346.out
          obtain ⟨f21_0, f21_1, f21_2, f21_3, f21_4, f21_5, f21_6, f21_7⟩ := fz8 BK346.out
          try go_wp2_with (first | ((with_reducible refine gate_callee (f := 162) rfl ?_); refine goesL_ (some 28) rfl rfl Try.func162 (by kernel_rfl) rfl #[.slice A0_6 l0_6.length c0_6, .int .i64 ((rd_T45 l0_5 x12_1).f6)] rfl la_ ?_; (with_reducible refine (impl_LineAt.calls _ _ l0_6 ((rd_T45 l0_5 x12_1).f6) t347 _ ?side1 ?side2 A17.out).mono ?_); (case side1 => exact qC (Kd.C_below HR0_6.out HB.out)); (case side2 => exact HC0_6.out); rintro e w22 ⟨rfl, hb⟩; refine ⟨_, rfl, ?_⟩; replace BK344 := am_ (blk_below (qK BK344) hb); replace BK346 := am_ (blk_below (qK BK346) hb); replace HB := am_ (below_step (qB HB) hb); (try clear hb); (try clear hb2); (try clear hk); (try clear hi)))
          replace BK344 := am_ (blk_drew BK344.out)
          replace BK346 := am_ (blk_drew BK346.out)
          replace HB := am_ (below_drew1 HB.out)
          refine start_ (n := 12) (S := fun w' => True) (ds := []) (rl [0,12]) (by kernel_rfl) rfl rfl trivial (fun hHeld => ?_); refine with_tabW impl_pairsOk.tab6 impl_pairsOk.bits6 (fun HT_ HW_ => ?_)
          generalize w22.drew = w23 at BK344 BK346 HB hHeld ⊢
          refine pz_ (i := 0) (N := some 29) HT_ (rl [1,11]) rfl rfl ?_
          refine pz_ (i := 1) (N := some 30) HT_ (rl [2,10]) rfl rfl ?_
          refine pz_ (i := 2) (N := some 31) HT_ (rl [3,9]) rfl rfl ?_
          refine pu_ (i := 3) (N := some 32) HT_ (rl [4,8]) rfl rfl ?_
          refine pu_ (i := 4) (N := some 33) HT_ (rl [5,7]) rfl rfl ?_
          refine pu_ (i := 5) (N := some 34) HT_ (rl [6,6]) rfl rfl ?_
          refine pu_ (i := 6) (N := some 35) HT_ (rl [7,5]) rfl rfl ?_
          refine pu_ (i := 7) (N := some 36) HT_ (rl [8,4]) rfl rfl ?_
          refine pu_ (i := 8) (N := some 37) HT_ (rl [9,3]) rfl rfl ?_
          refine pu_ (i := 9) (N := some 38) HT_ (rl [10,2]) rfl rfl ?_
          refine pu_ (i := 10) (N := some 39) HT_ (rl [11,1]) rfl rfl ?_
          refine pz_ (i := 11) (N := some 40) HT_ (rl [12]) rfl rfl ?_
          refine done_ (done_of HT_.out (by kernel_rfl)) ?_
          try go_wp2
          go_ret
          exact ⟨by first | rfl | (simp [errW_none, errW_some] <;> rfl) | (simp [*, errW_none, errW_some] <;> rfl), qB HB⟩
         ·
          rw [if_neg c18] at H
          have c18b0 : decide (t347 < 0) = false := decide_eq_false c18
          clear c18
          by_cases c24 : 0 ≤ t347
          ·
           rw [if_pos c24] at H
           have c24b0 : decide (0 ≤ t347) = true := decide_eq_true c24
           clear c24
           by_cases c25 : t347 < (l0_6.length : Int)
           ·
            rw [if_pos c25] at H
            have c25b0 : decide (t347 < (l0_6.length : Int)) = true := decide_eq_true c25
            clear c25
            obtain ⟨t349, A26, H⟩ := bd_ H
            have HC27 := Aside0.mk H
            clear H
            have hnb28 := NB344_346.out
            have hnc28 := NB346_344.out
            obtain ⟨z29_0, z29_1, z29_2, z29_3, z29_4, z29_5, z29_6, z29_7, z29_8, z29_9, z29_10, z29_11⟩ := cz12 BK344.out
            obtain ⟨f29_0, f29_1, f29_2, f29_3, f29_4, f29_5, f29_6, f29_7, f29_8, f29_9, f29_10, f29_11⟩ := fz12 BK344.out
            obtain ⟨z30_0, z30_1, z30_2, z30_3, z30_4, z30_5, z30_6, z30_7⟩ := cz8 BK346.out
            obtain ⟨f30_0, f30_1, f30_2, f30_3, f30_4, f30_5, f30_6, f30_7⟩ := fz8 BK346.out
            try go_wp2_with (first | ((with_reducible refine gate_callee (f := 162) rfl ?_); refine goesL_ (some 28) rfl rfl Try.func162 (by kernel_rfl) rfl #[.slice A0_6 l0_6.length c0_6, .int .i64 ((rd_T45 l0_5 x12_1).f6)] rfl la_ ?_; (with_reducible refine (impl_LineAt.calls _ _ l0_6 ((rd_T45 l0_5 x12_1).f6) t347 _ ?side1 ?side2 A17.out).mono ?_); (case side1 => exact qC (Kd.C_below HR0_6.out HB.out)); (case side2 => exact HC0_6.out); rintro e w31 ⟨rfl, hb⟩; refine ⟨_, rfl, ?_⟩; replace BK344 := am_ (blk_below (qK BK344) hb); replace BK346 := am_ (blk_below (qK BK346) hb); replace HB := am_ (below_step (qB HB) hb); (try clear hb); (try clear hb2); (try clear hk); (try clear hi)))
            replace BK344 := am_ (blk_drew BK344.out)
            replace BK346 := am_ (blk_drew BK346.out)
            replace HB := am_ (below_drew1 HB.out)
            have p348 : 0 ≤ (t347 : Int) := od_
            have q348 : t347 < (l0_6.length : Int) := od_
            obtain ⟨ad348, e348, hx348_0, hx348_1, hx348_2, hx348_3, hx348_4, hx348_5, hx348_6⟩ := at_T46 HR0_6.out t347 p348 q348
            have hw348_6 := hx348_6
            have hw348_5 := hx348_5
            have hw348_4 := hx348_4
            have hw348_3 := hx348_3
            have hw348_2 := hx348_2
            have hw348_1 := hx348_1
            have hw348_0 := hx348_0
            cases e348
            replace hx348_0 := lb_ HB hx348_0
            replace hx348_1 := lb_ HB hx348_1
            replace hx348_2 := lb_ HB hx348_2
            replace hx348_3 := lb_ HB hx348_3
            replace hx348_4 := lb_ HB hx348_4
            replace hx348_5 := lb_ HB hx348_5
            replace hx348_6 := lb_ HB hx348_6
            replace p348 := eq_true p348
            replace q348 := eq_true q348
            refine start_ (n := 12) (S := fun w' => w'.cell? ⟨gb346, 0, none⟩ = some (.int .i64 ((rd_T45 l0_5 x12_1).f0)) ∧ w'.cell? ⟨gb346, 1, none⟩ = some (.string ((rd_T45 l0_5 x12_1).f1)) ∧ w'.cell? ⟨gb346, 2, none⟩ = some (.int .i64 ((rd_T45 l0_5 x12_1).f2)) ∧ w'.cell? ⟨gb346, 3, none⟩ = some (.int .i64 ((rd_T45 l0_5 x12_1).f3)) ∧ w'.cell? ⟨gb346, 4, none⟩ = some (.int .i64 ((rd_T45 l0_5 x12_1).f4)) ∧ w'.cell? ⟨gb346, 5, none⟩ = some (.string ((rd_T45 l0_5 x12_1).f5)) ∧ w'.cell? ⟨gb346, 6, none⟩ = some (.int .i64 ((rd_T45 l0_5 x12_1).f6)) ∧ w'.cell? ⟨gb346, 7, none⟩ = some (.int .i64 ((rd_T45 l0_5 x12_1).f7)) ∧ w'.cell? ⟨gb344, 0, none⟩ = some (.int .i64 a0_0) ∧ w'.cell? ⟨gb344, 1, none⟩ = some (.int .i64 a0_1) ∧ w'.cell? ⟨gb344, 2, none⟩ = some (.int .i64 a0_2) ∧ w'.cell? ⟨gb344, 3, none⟩ = some (.slice A0_3 l0_3.length c0_3) ∧ w'.cell? ⟨gb344, 4, none⟩ = some (.bool a0_4) ∧ w'.cell? ⟨gb344, 5, none⟩ = some (.slice (some ad345) l0_5.length c0_5) ∧ w'.cell? ⟨gb344, 6, none⟩ = some (.slice (some ad348) l0_6.length c0_6) ∧ w'.cell? ⟨gb344, 7, none⟩ = some (.int .i64 a0_7) ∧ w'.cell? ⟨gb344, 8, none⟩ = some (.int .i64 a0_8) ∧ w'.cell? ⟨gb344, 9, none⟩ = some (.int .i64 a0_9) ∧ w'.cell? ⟨gb344, 10, none⟩ = some (.int .i64 a0_10) ∧ w'.cell? ⟨gb344, 11, none⟩ = some (.int .i64 a0_11) ∧ w'.cell? (ad348.add ((t347).toNat * 7)) = some (.int .i64 ((rd_T46 l0_6 t347).f0)) ∧ w'.cell? ⟨(ad348.add ((t347).toNat * 7)).block, (ad348.add ((t347).toNat * 7)).off + 1, none⟩ = some (.string ((rd_T46 l0_6 t347).f1)) ∧ w'.cell? ⟨(ad348.add ((t347).toNat * 7)).block, (ad348.add ((t347).toNat * 7)).off + 2, none⟩ = some (.int .i64 ((rd_T46 l0_6 t347).f2)) ∧ w'.cell? ⟨(ad348.add ((t347).toNat * 7)).block, (ad348.add ((t347).toNat * 7)).off + 3, none⟩ = some (.int .i64 ((rd_T46 l0_6 t347).f3)) ∧ w'.cell? ⟨(ad348.add ((t347).toNat * 7)).block, (ad348.add ((t347).toNat * 7)).off + 4, none⟩ = some (.int .i64 ((rd_T46 l0_6 t347).f4)) ∧ w'.cell? ⟨(ad348.add ((t347).toNat * 7)).block, (ad348.add ((t347).toNat * 7)).off + 5, none⟩ = some (.int .i64 ((rd_T46 l0_6 t347).f5)) ∧ w'.cell? ⟨(ad348.add ((t347).toNat * 7)).block, (ad348.add ((t347).toNat * 7)).off + 6, none⟩ = some (.int .i64 ((rd_T46 l0_6 t347).f6))) (ds := []) (rl [0,12]) (by kernel_rfl) rfl rfl (cw8 BK346.out (cw12 BK344.out ⟨(lb_ HB hw348_0 :), (lb_ HB hw348_1 :), (lb_ HB hw348_2 :), (lb_ HB hw348_3 :), (lb_ HB hw348_4 :), (lb_ HB hw348_5 :), (lb_ HB hw348_6 :)⟩)) (fun hHeld => ?_); refine with_tabW impl_pairsOk.tab6 impl_pairsOk.bits6 (fun HT_ HW_ => ?_)
            generalize w31.drew = w32 at BK344 BK346 HB hx348_0 hx348_1 hx348_2 hx348_3 hx348_4 hx348_5 hx348_6 hHeld ⊢
            refine pz_ (i := 0) (N := some 29) HT_ (rl [1,11]) rfl rfl ?_
            refine pz_ (i := 1) (N := some 30) HT_ (rl [2,10]) rfl rfl ?_
            refine pz_ (i := 2) (N := some 31) HT_ (rl [3,9]) rfl rfl ?_
            refine pz_ (i := 4) (N := some 33) HT_ (rl [3,1,1,7]) rfl rfl ?_
            refine pz_ (i := 6) (N := some 35) HT_ (rl [3,1,1,1,1,5]) rfl rfl ?_
            refine take_ (i := 3) (N := some 32) (v := ?_) (a' := ?_) (rl [5,1,1,5]) rfl rfl (take_ofW HT_.out HW_.out (by kernel_rfl)) (fun _ _ _ h => h) (Or.inl ⟨by rfl, ?_⟩) hHeld ?_ ?_
            rotate_left
            ·
             rintro w' ⟨s0, s1, s2, s3, s4, s5, s6, s7, s8, s9, s10, s11, s12, s13, s14, s15, s16, s17, s18, s19, s20, s21, s22, s23, s24, s25, s26⟩
             go_simp
             with_reducible rfl
            rotate_left
            ·
             exact ap_
            refine take_ (i := 5) (N := some 34) (v := ?_) (a' := ?_) (rl [7,5]) rfl rfl (take_ofW HT_.out HW_.out (by kernel_rfl)) (fun _ _ _ h => h) (Or.inl ⟨by rfl, ?_⟩) hHeld ?_ ?_
            rotate_left
            ·
             rintro w' ⟨s0, s1, s2, s3, s4, s5, s6, s7, s8, s9, s10, s11, s12, s13, s14, s15, s16, s17, s18, s19, s20, s21, s22, s23, s24, s25, s26⟩
             go_simp
             with_reducible rfl
            rotate_left
            ·
             exact ap_
            refine pz_ (i := 7) (N := some 36) HT_ (rl [8,4]) rfl rfl ?_
            refine take_ (i := 8) (N := some 37) (v := ?_) (a' := ?_) (rl [9,3]) rfl rfl (take_ofW HT_.out HW_.out (by kernel_rfl)) (fun _ _ _ h => h) (Or.inl ⟨by rfl, ?_⟩) hHeld ?_ ?_
            rotate_left
            ·
             rintro w' ⟨s0, s1, s2, s3, s4, s5, s6, s7, s8, s9, s10, s11, s12, s13, s14, s15, s16, s17, s18, s19, s20, s21, s22, s23, s24, s25, s26⟩
             go_simp
             with_reducible rfl
            rotate_left
            ·
             exact ap_
            refine one_ (i := 9) (N := some 38) (rl [10,2]) rfl rfl (one_of HT_.out (by kernel_rfl)) (by decide) (fun K hK => ?_)
            refine goes_ Try.func177 (by kernel_rfl) rfl #[.agg #[.int .i64 ((rd_T45 l0_5 x12_1).f0), .string ((rd_T45 l0_5 x12_1).f1), .int .i64 ((rd_T45 l0_5 x12_1).f2), .int .i64 ((rd_T45 l0_5 x12_1).f3), .int .i64 ((rd_T45 l0_5 x12_1).f4), .string ((rd_T45 l0_5 x12_1).f5), .int .i64 ((rd_T45 l0_5 x12_1).f6), .int .i64 ((rd_T45 l0_5 x12_1).f7)], .agg #[.int .i64 ((rd_T46 l0_6 t347).f0), .string ((rd_T46 l0_6 t347).f1), .int .i64 ((rd_T46 l0_6 t347).f2), .int .i64 ((rd_T46 l0_6 t347).f3), .int .i64 ((rd_T46 l0_6 t347).f4), .int .i64 ((rd_T46 l0_6 t347).f5), .int .i64 ((rd_T46 l0_6 t347).f6)]] (by rfl) rfl rfl la_ ?_
            with_reducible refine (impl_leased.calls ((rd_T45 l0_5 x12_1).f0) ((rd_T45 l0_5 x12_1).f1) ((rd_T45 l0_5 x12_1).f2) ((rd_T45 l0_5 x12_1).f3) ((rd_T45 l0_5 x12_1).f4) ((rd_T45 l0_5 x12_1).f5) ((rd_T45 l0_5 x12_1).f6) ((rd_T45 l0_5 x12_1).f7) ((rd_T46 l0_6 t347).f0) ((rd_T46 l0_6 t347).f1) ((rd_T46 l0_6 t347).f2) ((rd_T46 l0_6 t347).f3) ((rd_T46 l0_6 t347).f4) ((rd_T46 l0_6 t347).f5) ((rd_T46 l0_6 t347).f6) t349 _ A26.out).mono ?_
            rintro e w33 ⟨rfl, hb⟩
            refine ⟨_, rfl, ?_⟩
            replace BK344 := am_ (blk_below (qK BK344) hb)
            replace BK346 := am_ (blk_below (qK BK346) hb)
            replace HB := am_ (below_step (qB HB) hb)
            (try clear hb)
            refine hK.out _ _ (cw8 BK346.out (cw12 BK344.out ⟨(lb_ HB hw348_0 :), (lb_ HB hw348_1 :), (lb_ HB hw348_2 :), (lb_ HB hw348_3 :), (lb_ HB hw348_4 :), (lb_ HB hw348_5 :), (lb_ HB hw348_6 :)⟩)) (fun hHeld => ?_)
            clear hK K
            refine norm_ (a' := ?_) ?_ ?_
            rotate_left
            ·
             show Act.put _ (some 38) _ = _
             exact ap_
            refine pz_ (i := 10) (N := some 39) HT_ (rl [11,1]) rfl rfl ?_
            refine pz_ (i := 11) (N := some 40) HT_ (rl [12]) rfl rfl ?_
            refine done_ (done_of HT_.out (by kernel_rfl)) ?_
            go_upto_if 40 with (fail)
            have H := HC27.out
            clear HC27
            by_cases c34 : t349 = true
            ·
             subst c34
             rw [if_pos rfl] at H
             have H' := Aside0.mk H
             clear H
             go_wp2
             go_roundg kj6
             case measure => have := HK1.out; have := HJ6.out; omega
             case rel => exact ⟨(wrap64 (x12_1 + 1)), eqq_, H', ⟨by have := HK1.out; have := HJ6.out; omega⟩, ⟨qK BK344⟩, ⟨qB HB⟩⟩
            ·
             replace c34 := Bool.eq_false_iff.mpr c34
             subst c34
             rw [if_neg (show ¬ (false = true) by decide)] at H
             obtain rfl := Option.some.inj H
             go_wp2
             go_ret
             exact ⟨by first | rfl | (simp [errW_none, errW_some] <;> rfl) | (simp [*, errW_none, errW_some] <;> rfl), qB HB⟩
           ·
            rw [if_neg c25] at H
            exact absurd H (by simp)
          ·
           rw [if_neg c24] at H
           exact absurd H (by simp)
        ·
         replace c16 := Bool.eq_false_iff.mpr c16
         subst c16
         rw [if_neg (show ¬ (false = true) by decide)] at H
         have H' := Aside0.mk H
         clear H
         go_wp2
         go_roundg kj6
         case measure => have := HK1.out; have := HJ6.out; omega
         case rel => exact ⟨(wrap64 (x12_1 + 1)), eqq_, H', ⟨by have := HK1.out; have := HJ6.out; omega⟩, ⟨qK BK344⟩, ⟨qB HB⟩⟩
     ·
      rw [if_neg c6] at H
      exact absurd H (by simp)
    ·
     rw [if_neg c5] at H
     exact absurd H (by simp)
   ·
    rw [if_neg c4] at H
    have c4b0 : decide (x12_1 < (l0_5.length : Int)) = false := decide_eq_false c4
    clear c4
    have H' := Aside0.mk H
    clear H
    obtain ⟨z35_0, z35_1, z35_2, z35_3, z35_4, z35_5, z35_6, z35_7, z35_8, z35_9, z35_10, z35_11⟩ := cz12 BK344.out
    obtain ⟨f35_0, f35_1, f35_2, f35_3, f35_4, f35_5, f35_6, f35_7, f35_8, f35_9, f35_10, f35_11⟩ := fz12 BK344.out
    go_wp2
    go_loopg [45] k1 (fun kq v45 w' => ∃ (x45_2 : Int), v45 = .int .i64 x45_2 ∧ Aside0 (impl_pairsOk.l1 kq l0_6 (l0_6.length : Int) x45_2 a0_0 a0_1 a0_2 l0_3 a0_4 l0_5 l0_6 a0_7 a0_8 a0_9 a0_10 a0_11 = some r) ∧ Aside0 (kq ≤ k1) ∧ Aside0 (w'.heap[gb344]? = some (.cells #[.int .i64 a0_0, .int .i64 a0_1, .int .i64 a0_2, (.slice A0_3 l0_3.length c0_3), .bool a0_4, (.slice A0_5 l0_5.length c0_5), (.slice A0_6 l0_6.length c0_6), .int .i64 a0_7, .int .i64 a0_8, .int .i64 a0_9, .int .i64 a0_10, .int .i64 a0_11] 67 (0, 0))) ∧ Aside0 (Below w.heap.size w w'))
    case atStart => exact ⟨(0), eqq_, H', ⟨Nat.le_refl _⟩, ⟨qK BK344⟩, ⟨qB HB⟩⟩
    case round =>
     clear H'
     try clear c1
     try clear c2
     try clear p2
     try clear c3
     try clear p3
     try clear q3
     try clear hx3
     try clear c4
     try clear c4b0
     try clear c5
     try clear c5b0
     try clear c6
     try clear c6b0
     try clear p6
     try clear c9
     try clear c11
     try clear c11b0
     try clear c11b1
     try clear c12
     try clear c14
     try clear c16
     try clear c17
     try clear c18
     try clear c18b0
     try clear c19
     try clear c24
     try clear c24b0
     try clear c25
     try clear c25b0
     try clear c28
     try clear c34
     try clear p34
     try clear q34
     try clear hx34
     (try clear z10_0 z10_1 z10_2 z10_3 z10_4 z10_5 z10_6 z10_7)
     (try clear z13_0 z13_1 z13_2 z13_3 z13_4 z13_5 z13_6 z13_7)
     (try clear z15_0 z15_1 z15_2 z15_3 z15_4 z15_5 z15_6 z15_7)
     (try clear z20_0 z20_1 z20_10 z20_11 z20_2 z20_3 z20_4 z20_5 z20_6 z20_7 z20_8 z20_9)
     (try clear z21_0 z21_1 z21_2 z21_3 z21_4 z21_5 z21_6 z21_7)
     (try clear z29_0 z29_1 z29_10 z29_11 z29_2 z29_3 z29_4 z29_5 z29_6 z29_7 z29_8 z29_9)
     (try clear z30_0 z30_1 z30_2 z30_3 z30_4 z30_5 z30_6 z30_7)
     (try clear z35_0 z35_1 z35_10 z35_11 z35_2 z35_3 z35_4 z35_5 z35_6 z35_7 z35_8 z35_9)
     (try clear z3_0 z3_1 z3_10 z3_11 z3_2 z3_3 z3_4 z3_5 z3_6 z3_7 z3_8 z3_9)
     (try clear f10_0 f10_1 f10_2 f10_3 f10_4 f10_5 f10_6 f10_7)
     (try clear f13_0 f13_1 f13_2 f13_3 f13_4 f13_5 f13_6 f13_7)
     (try clear f15_0 f15_1 f15_2 f15_3 f15_4 f15_5 f15_6 f15_7)
     (try clear f20_0 f20_1 f20_10 f20_11 f20_2 f20_3 f20_4 f20_5 f20_6 f20_7 f20_8 f20_9)
     (try clear f21_0 f21_1 f21_2 f21_3 f21_4 f21_5 f21_6 f21_7)
     (try clear f29_0 f29_1 f29_10 f29_11 f29_2 f29_3 f29_4 f29_5 f29_6 f29_7 f29_8 f29_9)
     (try clear f30_0 f30_1 f30_2 f30_3 f30_4 f30_5 f30_6 f30_7)
     (try clear f35_0 f35_1 f35_10 f35_11 f35_2 f35_3 f35_4 f35_5 f35_6 f35_7 f35_8 f35_9)
     (try clear f3_0 f3_1 f3_10 f3_11 f3_2 f3_3 f3_4 f3_5 f3_6 f3_7 f3_8 f3_9)
     try clear hx345_0
     try clear hx345_1
     try clear hx345_2
     try clear hx345_3
     try clear hx345_4
     try clear hx345_5
     try clear hx345_6
     try clear hx345_7
     try clear hx348_0
     try clear hx348_1
     try clear hx348_2
     try clear hx348_3
     try clear hx348_4
     try clear hx348_5
     try clear hx348_6
     try clear p2
     try clear p3
     try clear p345
     try clear p348
     try clear q3
     try clear q345
     try clear q348
     obtain ⟨x45_2, rfl, HA, HK2, BK344, HB⟩ := hrel
     cases gk with
     | zero => exact absurd HA.out (by simp [impl_pairsOk.l1])
     | succ k2 =>
      have H := HA.out
      clear HA
      simp only [impl_pairsOk.l1] at H
      by_cases c36 : x45_2 < (l0_6.length : Int)
      ·
       rw [if_pos c36] at H
       have c36b0 : decide (x45_2 < (l0_6.length : Int)) = true := decide_eq_true c36
       clear c36
       by_cases c37 : 0 ≤ x45_2
       ·
        rw [if_pos c37] at H
        have c37b0 : decide (0 ≤ x45_2) = true := decide_eq_true c37
        clear c37
        by_cases c38 : x45_2 < (l0_6.length : Int)
        ·
         rw [if_pos c38] at H
         have c38b0 : decide (x45_2 < (l0_6.length : Int)) = true := decide_eq_true c38
         clear c38
         have HC39 := Aside0.mk H
         clear H
         have p350 : 0 ≤ (x45_2 : Int) := od_
         have q350 : x45_2 < (l0_6.length : Int) := od_
         obtain ⟨ad350, e350, hx350_0, hx350_1, hx350_2, hx350_3, hx350_4, hx350_5, hx350_6⟩ := at_T46 HR0_6.out x45_2 p350 q350
         cases e350
         replace hx350_0 := lb_ HB hx350_0
         replace hx350_1 := lb_ HB hx350_1
         replace hx350_2 := lb_ HB hx350_2
         replace hx350_3 := lb_ HB hx350_3
         replace hx350_4 := lb_ HB hx350_4
         replace hx350_5 := lb_ HB hx350_5
         replace hx350_6 := lb_ HB hx350_6
         replace p350 := eq_true p350
         replace q350 := eq_true q350
         go_upto_if 51 with (first | ((with_reducible refine gate_dst (N := 7) rfl ?_); refine box_event ?hg (N := 7) ?hd (cs := #[.int .i64 0, .string (⟨#[]⟩ : ByteArray), .int .i64 0, .int .i64 0, .int .i64 0, .int .i64 0, .int .i64 0]) (t := 46) ?hr ?_; (case hd => rfl); (case hg => rfl); (case hr => first | (go_simp; done) | (go_simp; rfl)); intro gb351 hg w40 hbox hb; have BK351 := am_ (hbox); have GW351 := am_ ((gG_ hg (qB HB))); have IGW351 := gI_ GW351; have GE351 := am_ ((gG_ hg (qB HB))); have IGE351 := gI_ GE351; replace HB := am_ (below_step (qB HB) hb); have NB344_351 := am_ ((gN_ hg (qK BK344))); have NB351_344 := am_ ((gM_ hg (qK BK344))); replace BK344 := am_ (blk_below (qK BK344) hb); clear hb hbox hg; have hnb41 := NB351_344.out; have hnc41 := NB344_351.out; obtain ⟨z42_0, z42_1, z42_2, z42_3, z42_4, z42_5, z42_6⟩ := cz7 BK351.out; obtain ⟨f42_0, f42_1, f42_2, f42_3, f42_4, f42_5, f42_6⟩ := fz7 BK351.out))
         (try simp only [Act.put, List.setIfInBounds_toArray, List.set_cons_zero, List.set_cons_succ])
         have H := HC39.out
         clear HC39
         by_cases c43 : ((rd_T46 l0_6 x45_2).f3) = 0
         ·
          rw [if_pos c43] at H
          have c43b0 : (((rd_T46 l0_6 x45_2).f3) == 0) = true := beq_iff_eq.mpr c43
          have c43b1 : (((rd_T46 l0_6 x45_2).f3) != 0) = false := bne_eq_false_iff_eq.mpr c43
          clear c43
          (first | rw [c43b0] | rw [c43b1] | (simp only [i64_w, i32_w]; rw [c43b0]) | skip)
          have H' := Aside0.mk H
          clear H
          go_wp2
          go_roundg k2
          case measure => have := HK1.out; have := HK2.out; omega
          case rel => exact ⟨(wrap64 (x45_2 + 1)), eqq_, H', ⟨by have := HK1.out; have := HK2.out; omega⟩, ⟨by (with_reducible repeat (first | refine blk_drewN ?_ _ | refine blk_drew ?_ | refine blk_alloc ?_ _)); refine Go.Proofs.YtahfemlfdpbkkaaV.blk_far7 ?_ NB344_351.out; (with_reducible repeat (first | refine blk_drewN ?_ _ | refine blk_drew ?_ | refine blk_alloc ?_ _)); exact BK344.out⟩, ⟨qB HB⟩⟩
         ·
          rw [if_neg c43] at H
          have c43b0 : (((rd_T46 l0_6 x45_2).f3) == 0) = false := beq_eq_false_iff_ne.mpr c43
          have c43b1 : (((rd_T46 l0_6 x45_2).f3) != 0) = true := bne_iff_ne.mpr c43
          (first | rw [c43b0] | rw [c43b1] | (simp only [i64_w, i32_w]; rw [c43b0]) | skip)
          obtain ⟨t352, A44, H⟩ := bd_ H
          by_cases c45 : t352 < 0
          ·
           rw [if_pos c45] at H
           have c45b0 : decide (t352 < 0) = true := decide_eq_true c45
           clear c45
           obtain rfl := Option.some.inj H
           have hnb46 := NB344_351.out
           have hnc46 := NB351_344.out
           obtain ⟨z47_0, z47_1, z47_2, z47_3, z47_4, z47_5, z47_6, z47_7, z47_8, z47_9, z47_10, z47_11⟩ := cz12 BK344.out
           obtain ⟨f47_0, f47_1, f47_2, f47_3, f47_4, f47_5, f47_6, f47_7, f47_8, f47_9, f47_10, f47_11⟩ := fz12 BK344.out
           obtain ⟨z48_0, z48_1, z48_2, z48_3, z48_4, z48_5, z48_6⟩ := cz7 BK351.out
           obtain ⟨f48_0, f48_1, f48_2, f48_3, f48_4, f48_5, f48_6⟩ := fz7 BK351.out
           try go_wp2_with (first | ((with_reducible refine gate_callee (f := 178) rfl ?_); refine goesL_ (some 56) rfl rfl Try.func178 (by kernel_rfl) rfl #[.slice A0_5 l0_5.length c0_5, .int .i64 ((rd_T46 l0_6 x45_2).f5)] rfl la_ ?_; (with_reducible refine (impl_AskerAt.calls _ _ l0_5 ((rd_T46 l0_6 x45_2).f5) t352 _ ?side1 ?side2 A44.out).mono ?_); (case side1 => exact Kd.C_below HR0_5.out (qB HB)); (case side2 => exact HC0_5.out); rintro e w49 ⟨rfl, hb⟩; refine ⟨_, rfl, ?_⟩; replace BK344 := am_ (blk_below (g := gb344) (o := .cells #[.int .i64 a0_0, .int .i64 a0_1, .int .i64 a0_2, .slice A0_3 l0_3.length c0_3, .bool a0_4, .slice A0_5 l0_5.length c0_5, .slice (some ad350) l0_6.length c0_6, .int .i64 a0_7, .int .i64 a0_8, .int .i64 a0_9, .int .i64 a0_10, .int .i64 a0_11] 67 (0, 0)) (by (with_reducible repeat (first | refine blk_drewN ?_ _ | refine blk_drew ?_ | refine blk_alloc ?_ _)); refine Go.Proofs.YtahfemlfdpbkkaaV.blk_far7 ?_ NB344_351.out; (with_reducible repeat (first | refine blk_drewN ?_ _ | refine blk_drew ?_ | refine blk_alloc ?_ _)); exact BK344.out) hb); replace BK351 := am_ (blk_below (g := gb351) (o := .cells #[.int .i64 ((rd_T46 l0_6 x45_2).f0), .string ((rd_T46 l0_6 x45_2).f1), .int .i64 ((rd_T46 l0_6 x45_2).f2), .int .i64 ((rd_T46 l0_6 x45_2).f3), .int .i64 ((rd_T46 l0_6 x45_2).f4), .int .i64 ((rd_T46 l0_6 x45_2).f5), .int .i64 ((rd_T46 l0_6 x45_2).f6)] 46 (0, 0)) (by (with_reducible repeat (first | refine blk_drewN ?_ _ | refine blk_drew ?_ | refine blk_alloc ?_ _)); refine Go.Proofs.YtahfemlfdpbkkaaV.blk_all7 (show _ = some (Go.Obj.cells #[.int .i64 0, .string (⟨#[]⟩ : ByteArray), .int .i64 0, .int .i64 0, .int .i64 0, .int .i64 0, .int .i64 0] _ (0, 0)) from ?_); (with_reducible repeat (first | refine blk_drewN ?_ _ | refine blk_drew ?_ | refine blk_alloc ?_ _)); exact BK351.out) hb); replace HB := am_ (below_step (qB HB) hb); (try clear hb); (try clear hb2); (try clear hk); (try clear hi)))
           replace BK344 := am_ (blk_drew BK344.out)
           replace BK351 := am_ (blk_drew BK351.out)
           replace HB := am_ (below_drew1 HB.out)
           refine start_ (n := 12) (S := fun w' => True) (ds := []) (rl [0,12]) (by kernel_rfl) rfl rfl trivial (fun hHeld => ?_); refine with_tabW impl_pairsOk.tab14 impl_pairsOk.bits14 (fun HT_ HW_ => ?_)
           generalize w49.drew = w50 at BK344 BK351 HB hHeld ⊢
           refine pz_ (i := 0) (N := some 57) HT_ (rl [1,11]) rfl rfl ?_
           refine pz_ (i := 1) (N := some 58) HT_ (rl [2,10]) rfl rfl ?_
           refine pz_ (i := 2) (N := some 59) HT_ (rl [3,9]) rfl rfl ?_
           refine pu_ (i := 3) (N := some 60) HT_ (rl [4,8]) rfl rfl ?_
           refine pu_ (i := 4) (N := some 61) HT_ (rl [5,7]) rfl rfl ?_
           refine pu_ (i := 5) (N := some 62) HT_ (rl [6,6]) rfl rfl ?_
           refine pu_ (i := 6) (N := some 63) HT_ (rl [7,5]) rfl rfl ?_
           refine pu_ (i := 7) (N := some 64) HT_ (rl [8,4]) rfl rfl ?_
           refine pu_ (i := 8) (N := some 65) HT_ (rl [9,3]) rfl rfl ?_
           refine pu_ (i := 9) (N := some 66) HT_ (rl [10,2]) rfl rfl ?_
           refine pu_ (i := 10) (N := some 67) HT_ (rl [11,1]) rfl rfl ?_
           refine pz_ (i := 11) (N := some 68) HT_ (rl [12]) rfl rfl ?_
           refine done_ (done_of HT_.out (by kernel_rfl)) ?_
           try go_wp2
           go_ret
           exact ⟨by first | rfl | (simp [errW_none, errW_some] <;> rfl) | (simp [*, errW_none, errW_some] <;> rfl), qB HB⟩
          ·
           rw [if_neg c45] at H
           have c45b0 : decide (t352 < 0) = false := decide_eq_false c45
           clear c45
           by_cases c51 : 0 ≤ t352
           ·
            rw [if_pos c51] at H
            have c51b0 : decide (0 ≤ t352) = true := decide_eq_true c51
            clear c51
            by_cases c52 : t352 < (l0_5.length : Int)
            ·
             rw [if_pos c52] at H
             have c52b0 : decide (t352 < (l0_5.length : Int)) = true := decide_eq_true c52
             clear c52
             obtain ⟨t354, A53, H⟩ := bd_ H
             have HC54 := Aside0.mk H
             clear H
             have hnb55 := NB344_351.out
             have hnc55 := NB351_344.out
             obtain ⟨z56_0, z56_1, z56_2, z56_3, z56_4, z56_5, z56_6, z56_7, z56_8, z56_9, z56_10, z56_11⟩ := cz12 BK344.out
             obtain ⟨f56_0, f56_1, f56_2, f56_3, f56_4, f56_5, f56_6, f56_7, f56_8, f56_9, f56_10, f56_11⟩ := fz12 BK344.out
             obtain ⟨z57_0, z57_1, z57_2, z57_3, z57_4, z57_5, z57_6⟩ := cz7 BK351.out
             obtain ⟨f57_0, f57_1, f57_2, f57_3, f57_4, f57_5, f57_6⟩ := fz7 BK351.out
             try go_wp2_with (first | ((with_reducible refine gate_callee (f := 178) rfl ?_); refine goesL_ (some 56) rfl rfl Try.func178 (by kernel_rfl) rfl #[.slice A0_5 l0_5.length c0_5, .int .i64 ((rd_T46 l0_6 x45_2).f5)] rfl la_ ?_; (with_reducible refine (impl_AskerAt.calls _ _ l0_5 ((rd_T46 l0_6 x45_2).f5) t352 _ ?side1 ?side2 A44.out).mono ?_); (case side1 => exact Kd.C_below HR0_5.out (qB HB)); (case side2 => exact HC0_5.out); rintro e w58 ⟨rfl, hb⟩; refine ⟨_, rfl, ?_⟩; replace BK344 := am_ (blk_below (g := gb344) (o := .cells #[.int .i64 a0_0, .int .i64 a0_1, .int .i64 a0_2, .slice A0_3 l0_3.length c0_3, .bool a0_4, .slice A0_5 l0_5.length c0_5, .slice (some ad350) l0_6.length c0_6, .int .i64 a0_7, .int .i64 a0_8, .int .i64 a0_9, .int .i64 a0_10, .int .i64 a0_11] 67 (0, 0)) (by (with_reducible repeat (first | refine blk_drewN ?_ _ | refine blk_drew ?_ | refine blk_alloc ?_ _)); refine Go.Proofs.YtahfemlfdpbkkaaV.blk_far7 ?_ NB344_351.out; (with_reducible repeat (first | refine blk_drewN ?_ _ | refine blk_drew ?_ | refine blk_alloc ?_ _)); exact BK344.out) hb); replace BK351 := am_ (blk_below (g := gb351) (o := .cells #[.int .i64 ((rd_T46 l0_6 x45_2).f0), .string ((rd_T46 l0_6 x45_2).f1), .int .i64 ((rd_T46 l0_6 x45_2).f2), .int .i64 ((rd_T46 l0_6 x45_2).f3), .int .i64 ((rd_T46 l0_6 x45_2).f4), .int .i64 ((rd_T46 l0_6 x45_2).f5), .int .i64 ((rd_T46 l0_6 x45_2).f6)] 46 (0, 0)) (by (with_reducible repeat (first | refine blk_drewN ?_ _ | refine blk_drew ?_ | refine blk_alloc ?_ _)); refine Go.Proofs.YtahfemlfdpbkkaaV.blk_all7 (show _ = some (Go.Obj.cells #[.int .i64 0, .string (⟨#[]⟩ : ByteArray), .int .i64 0, .int .i64 0, .int .i64 0, .int .i64 0, .int .i64 0] _ (0, 0)) from ?_); (with_reducible repeat (first | refine blk_drewN ?_ _ | refine blk_drew ?_ | refine blk_alloc ?_ _)); exact BK351.out) hb); replace HB := am_ (below_step (qB HB) hb); (try clear hb); (try clear hb2); (try clear hk); (try clear hi)))
             replace BK344 := am_ (blk_drew BK344.out)
             replace BK351 := am_ (blk_drew BK351.out)
             replace HB := am_ (below_drew1 HB.out)
             have p353 : 0 ≤ (t352 : Int) := od_
             have q353 : t352 < (l0_5.length : Int) := od_
             obtain ⟨ad353, e353, hx353_0, hx353_1, hx353_2, hx353_3, hx353_4, hx353_5, hx353_6, hx353_7⟩ := at_T45 HR0_5.out t352 p353 q353
             have hw353_7 := hx353_7
             have hw353_6 := hx353_6
             have hw353_5 := hx353_5
             have hw353_4 := hx353_4
             have hw353_3 := hx353_3
             have hw353_2 := hx353_2
             have hw353_1 := hx353_1
             have hw353_0 := hx353_0
             cases e353
             replace hx353_0 := lb_ HB hx353_0
             replace hx353_1 := lb_ HB hx353_1
             replace hx353_2 := lb_ HB hx353_2
             replace hx353_3 := lb_ HB hx353_3
             replace hx353_4 := lb_ HB hx353_4
             replace hx353_5 := lb_ HB hx353_5
             replace hx353_6 := lb_ HB hx353_6
             replace hx353_7 := lb_ HB hx353_7
             replace p353 := eq_true p353
             replace q353 := eq_true q353
             refine start_ (n := 12) (S := fun w' => w'.cell? ⟨gb344, 0, none⟩ = some (.int .i64 a0_0) ∧ w'.cell? ⟨gb344, 1, none⟩ = some (.int .i64 a0_1) ∧ w'.cell? ⟨gb344, 2, none⟩ = some (.int .i64 a0_2) ∧ w'.cell? ⟨gb344, 3, none⟩ = some (.slice A0_3 l0_3.length c0_3) ∧ w'.cell? ⟨gb344, 4, none⟩ = some (.bool a0_4) ∧ w'.cell? ⟨gb344, 5, none⟩ = some (.slice (some ad353) l0_5.length c0_5) ∧ w'.cell? ⟨gb344, 6, none⟩ = some (.slice (some ad350) l0_6.length c0_6) ∧ w'.cell? ⟨gb344, 7, none⟩ = some (.int .i64 a0_7) ∧ w'.cell? ⟨gb344, 8, none⟩ = some (.int .i64 a0_8) ∧ w'.cell? ⟨gb344, 9, none⟩ = some (.int .i64 a0_9) ∧ w'.cell? ⟨gb344, 10, none⟩ = some (.int .i64 a0_10) ∧ w'.cell? ⟨gb344, 11, none⟩ = some (.int .i64 a0_11) ∧ w'.cell? ⟨gb351, 0, none⟩ = some (.int .i64 ((rd_T46 l0_6 x45_2).f0)) ∧ w'.cell? ⟨gb351, 1, none⟩ = some (.string ((rd_T46 l0_6 x45_2).f1)) ∧ w'.cell? ⟨gb351, 2, none⟩ = some (.int .i64 ((rd_T46 l0_6 x45_2).f2)) ∧ w'.cell? ⟨gb351, 3, none⟩ = some (.int .i64 ((rd_T46 l0_6 x45_2).f3)) ∧ w'.cell? ⟨gb351, 4, none⟩ = some (.int .i64 ((rd_T46 l0_6 x45_2).f4)) ∧ w'.cell? ⟨gb351, 5, none⟩ = some (.int .i64 ((rd_T46 l0_6 x45_2).f5)) ∧ w'.cell? ⟨gb351, 6, none⟩ = some (.int .i64 ((rd_T46 l0_6 x45_2).f6)) ∧ w'.cell? (ad353.add ((t352).toNat * 8)) = some (.int .i64 ((rd_T45 l0_5 t352).f0)) ∧ w'.cell? ⟨(ad353.add ((t352).toNat * 8)).block, (ad353.add ((t352).toNat * 8)).off + 1, none⟩ = some (.string ((rd_T45 l0_5 t352).f1)) ∧ w'.cell? ⟨(ad353.add ((t352).toNat * 8)).block, (ad353.add ((t352).toNat * 8)).off + 2, none⟩ = some (.int .i64 ((rd_T45 l0_5 t352).f2)) ∧ w'.cell? ⟨(ad353.add ((t352).toNat * 8)).block, (ad353.add ((t352).toNat * 8)).off + 3, none⟩ = some (.int .i64 ((rd_T45 l0_5 t352).f3)) ∧ w'.cell? ⟨(ad353.add ((t352).toNat * 8)).block, (ad353.add ((t352).toNat * 8)).off + 4, none⟩ = some (.int .i64 ((rd_T45 l0_5 t352).f4)) ∧ w'.cell? ⟨(ad353.add ((t352).toNat * 8)).block, (ad353.add ((t352).toNat * 8)).off + 5, none⟩ = some (.string ((rd_T45 l0_5 t352).f5)) ∧ w'.cell? ⟨(ad353.add ((t352).toNat * 8)).block, (ad353.add ((t352).toNat * 8)).off + 6, none⟩ = some (.int .i64 ((rd_T45 l0_5 t352).f6)) ∧ w'.cell? ⟨(ad353.add ((t352).toNat * 8)).block, (ad353.add ((t352).toNat * 8)).off + 7, none⟩ = some (.int .i64 ((rd_T45 l0_5 t352).f7))) (ds := []) (rl [0,12]) (by kernel_rfl) rfl rfl (cw12 BK344.out (cw7 BK351.out ⟨(lb_ HB hw353_0 :), (lb_ HB hw353_1 :), (lb_ HB hw353_2 :), (lb_ HB hw353_3 :), (lb_ HB hw353_4 :), (lb_ HB hw353_5 :), (lb_ HB hw353_6 :), (lb_ HB hw353_7 :)⟩)) (fun hHeld => ?_); refine with_tabW impl_pairsOk.tab14 impl_pairsOk.bits14 (fun HT_ HW_ => ?_)
             generalize w58.drew = w59 at BK344 BK351 HB hx353_0 hx353_1 hx353_2 hx353_3 hx353_4 hx353_5 hx353_6 hx353_7 hHeld ⊢
             refine pz_ (i := 0) (N := some 57) HT_ (rl [1,11]) rfl rfl ?_
             refine pz_ (i := 1) (N := some 58) HT_ (rl [2,10]) rfl rfl ?_
             refine pz_ (i := 2) (N := some 59) HT_ (rl [3,9]) rfl rfl ?_
             refine pz_ (i := 3) (N := some 60) HT_ (rl [4,8]) rfl rfl ?_
             refine pz_ (i := 5) (N := some 62) HT_ (rl [4,1,1,6]) rfl rfl ?_
             refine take_ (i := 4) (N := some 61) (v := ?_) (a' := ?_) (rl [6,6]) rfl rfl (take_ofW HT_.out HW_.out (by kernel_rfl)) (fun _ _ _ h => h) (Or.inl ⟨by rfl, ?_⟩) hHeld ?_ ?_
             rotate_left
             ·
              rintro w' ⟨s0, s1, s2, s3, s4, s5, s6, s7, s8, s9, s10, s11, s12, s13, s14, s15, s16, s17, s18, s19, s20, s21, s22, s23, s24, s25, s26⟩
              go_simp
              with_reducible rfl
             rotate_left
             ·
              exact ap_
             refine pz_ (i := 6) (N := some 63) HT_ (rl [7,5]) rfl rfl ?_
             refine take_ (i := 7) (N := some 64) (v := ?_) (a' := ?_) (rl [8,4]) rfl rfl (take_ofW HT_.out HW_.out (by kernel_rfl)) (fun _ _ _ h => h) (Or.inl ⟨by rfl, ?_⟩) hHeld ?_ ?_
             rotate_left
             ·
              rintro w' ⟨s0, s1, s2, s3, s4, s5, s6, s7, s8, s9, s10, s11, s12, s13, s14, s15, s16, s17, s18, s19, s20, s21, s22, s23, s24, s25, s26⟩
              go_simp
              with_reducible rfl
             rotate_left
             ·
              exact ap_
             refine take_ (i := 8) (N := some 65) (v := ?_) (a' := ?_) (rl [9,3]) rfl rfl (take_ofW HT_.out HW_.out (by kernel_rfl)) (fun _ _ _ h => h) (Or.inl ⟨by rfl, ?_⟩) hHeld ?_ ?_
             rotate_left
             ·
              rintro w' ⟨s0, s1, s2, s3, s4, s5, s6, s7, s8, s9, s10, s11, s12, s13, s14, s15, s16, s17, s18, s19, s20, s21, s22, s23, s24, s25, s26⟩
              go_simp
              with_reducible rfl
             rotate_left
             ·
              exact ap_
             refine one_ (i := 9) (N := some 66) (rl [10,2]) rfl rfl (one_of HT_.out (by kernel_rfl)) (by decide) (fun K hK => ?_)
             refine goes_ Try.func177 (by kernel_rfl) rfl #[.agg #[.int .i64 ((rd_T45 l0_5 t352).f0), .string ((rd_T45 l0_5 t352).f1), .int .i64 ((rd_T45 l0_5 t352).f2), .int .i64 ((rd_T45 l0_5 t352).f3), .int .i64 ((rd_T45 l0_5 t352).f4), .string ((rd_T45 l0_5 t352).f5), .int .i64 ((rd_T45 l0_5 t352).f6), .int .i64 ((rd_T45 l0_5 t352).f7)], .agg #[.int .i64 ((rd_T46 l0_6 x45_2).f0), .string ((rd_T46 l0_6 x45_2).f1), .int .i64 ((rd_T46 l0_6 x45_2).f2), .int .i64 ((rd_T46 l0_6 x45_2).f3), .int .i64 ((rd_T46 l0_6 x45_2).f4), .int .i64 ((rd_T46 l0_6 x45_2).f5), .int .i64 ((rd_T46 l0_6 x45_2).f6)]] (by rfl) rfl rfl la_ ?_
             with_reducible refine (impl_leased.calls ((rd_T45 l0_5 t352).f0) ((rd_T45 l0_5 t352).f1) ((rd_T45 l0_5 t352).f2) ((rd_T45 l0_5 t352).f3) ((rd_T45 l0_5 t352).f4) ((rd_T45 l0_5 t352).f5) ((rd_T45 l0_5 t352).f6) ((rd_T45 l0_5 t352).f7) ((rd_T46 l0_6 x45_2).f0) ((rd_T46 l0_6 x45_2).f1) ((rd_T46 l0_6 x45_2).f2) ((rd_T46 l0_6 x45_2).f3) ((rd_T46 l0_6 x45_2).f4) ((rd_T46 l0_6 x45_2).f5) ((rd_T46 l0_6 x45_2).f6) t354 _ A53.out).mono ?_
             rintro e w60 ⟨rfl, hb⟩
             refine ⟨_, rfl, ?_⟩
             replace BK344 := am_ (blk_below (qK BK344) hb)
             replace BK351 := am_ (blk_below (qK BK351) hb)
             replace HB := am_ (below_step (qB HB) hb)
             (try clear hb)
             refine hK.out _ _ (cw12 BK344.out (cw7 BK351.out ⟨(lb_ HB hw353_0 :), (lb_ HB hw353_1 :), (lb_ HB hw353_2 :), (lb_ HB hw353_3 :), (lb_ HB hw353_4 :), (lb_ HB hw353_5 :), (lb_ HB hw353_6 :), (lb_ HB hw353_7 :)⟩)) (fun hHeld => ?_)
             clear hK K
             refine norm_ (a' := ?_) ?_ ?_
             rotate_left
             ·
              show Act.put _ (some 66) _ = _
              exact ap_
             refine pz_ (i := 10) (N := some 67) HT_ (rl [11,1]) rfl rfl ?_
             refine pz_ (i := 11) (N := some 68) HT_ (rl [12]) rfl rfl ?_
             refine done_ (done_of HT_.out (by kernel_rfl)) ?_
             go_upto_if 68 with (fail)
             have H := HC54.out
             clear HC54
             by_cases c61 : t354 = true
             ·
              subst c61
              rw [if_pos rfl] at H
              have H' := Aside0.mk H
              clear H
              go_wp2
              go_roundg k2
              case measure => have := HK1.out; have := HK2.out; omega
              case rel => exact ⟨(wrap64 (x45_2 + 1)), eqq_, H', ⟨by have := HK1.out; have := HK2.out; omega⟩, ⟨qK BK344⟩, ⟨qB HB⟩⟩
             ·
              replace c61 := Bool.eq_false_iff.mpr c61
              subst c61
              rw [if_neg (show ¬ (false = true) by decide)] at H
              obtain rfl := Option.some.inj H
              go_wp2
              go_ret
              exact ⟨by first | rfl | (simp [errW_none, errW_some] <;> rfl) | (simp [*, errW_none, errW_some] <;> rfl), qB HB⟩
            ·
             rw [if_neg c52] at H
             exact absurd H (by simp)
           ·
            rw [if_neg c51] at H
            exact absurd H (by simp)
        ·
         rw [if_neg c38] at H
         exact absurd H (by simp)
       ·
        rw [if_neg c37] at H
        exact absurd H (by simp)
      ·
       rw [if_neg c36] at H
       have c36b0 : decide (x45_2 < (l0_6.length : Int)) = false := decide_eq_false c36
       clear c36
       obtain rfl := Option.some.inj H
       go_wp2
       go_ret
       exact ⟨by first | rfl | (simp [errW_none, errW_some] <;> rfl) | (simp [*, errW_none, errW_some] <;> rfl), qB HB⟩

end Go.Proofs.Ytahfemlfdpbkkaa.PFnExactHouseOk
