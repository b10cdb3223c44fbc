-- Written by a program of this session (myprint.py, over the kit's print): contracts of FnExactHouseOk
import Derived.Test.YtahfemlfdpbkkaaPFnExactHouseOkx0
import Derived.Test.YtahfemlfdpbkkaaPFnExactHouseOkx10
import Derived.Test.YtahfemlfdpbkkaaPFnExactHouseOkx12
import Derived.Test.YtahfemlfdpbkkaaPFnExactHouseOkx13
namespace Go.Proofs.Ytahfemlfdpbkkaa.PFnExactHouseOk
open Go.RowKit Go.Proofs.YtahfemlfdpbkkaaW.PrintWords Go.Proofs.YtahfemlfdpbkkaaW.PrintLast Go.Proofs.YtahfemlfdpbkkaaW.PrintMore Go.Proofs.YtahfemlfdpbkkaaV
attribute [local go_sem] max2_int min2_int max_two min_two max_three min_three max_four min_four   -- for this text's walks alone
set_option linter.unusedVariables false
set_option linter.unusedSimpArgs false

/-! ### spec_l10Pairs: function 132 -/
mutual
def spec_l10Pairs.l0 : Nat → Int → Int → Int → Int → List (S125) → Bool → List (S45) → List (S46) → Int → Int → Int → Int → Int → Option (Bool)
 | 0, _, _, _, _, _, _, _, _, _, _, _, _, _ => none
 | k + 1, x3, x249000, x249001, x249002, x249003, x249004, x249005, x249006, x249007, x249008, x249009, x249010, x249011 => if x3 < (x249005.length : Int) then (if 0 ≤ x3 then (if ((rd_T45 x249005 x3).f2) ≥ 3 then ((spec_LineAt.f k x249006 ((rd_T45 x249005 x3).f6)).bind fun t251 => (if t251 < 0 then (some false) else (if 0 ≤ t251 then (if t251 < (x249006.length : Int) then ((spec_l10Lent.f ((rd_T45 x249005 x3).f0) ((rd_T45 x249005 x3).f1) ((rd_T45 x249005 x3).f2) ((rd_T45 x249005 x3).f3) ((rd_T45 x249005 x3).f4) ((rd_T45 x249005 x3).f5) ((rd_T45 x249005 x3).f6) ((rd_T45 x249005 x3).f7) ((rd_T46 x249006 t251).f0) ((rd_T46 x249006 t251).f1) ((rd_T46 x249006 t251).f2) ((rd_T46 x249006 t251).f3) ((rd_T46 x249006 t251).f4) ((rd_T46 x249006 t251).f5) ((rd_T46 x249006 t251).f6)).bind fun t254 => (if t254 = true then (spec_l10Pairs.l0 k (wrap64 (x3 + 1)) x249000 x249001 x249002 x249003 x249004 x249005 x249006 x249007 x249008 x249009 x249010 x249011) else (some false))) else (none)) else (none)))) else (spec_l10Pairs.l0 k (wrap64 (x3 + 1)) x249000 x249001 x249002 x249003 x249004 x249005 x249006 x249007 x249008 x249009 x249010 x249011)) else (none)) else (spec_l10Pairs.l1 k 0 x249000 x249001 x249002 x249003 x249004 x249005 x249006 x249007 x249008 x249009 x249010 x249011)
def spec_l10Pairs.l1 : Nat → Int → Int → Int → Int → List (S125) → Bool → List (S45) → List (S46) → Int → Int → Int → Int → Int → Option (Bool)
 | 0, _, _, _, _, _, _, _, _, _, _, _, _, _ => none
 | k + 1, x5, x249000, x249001, x249002, x249003, x249004, x249005, x249006, x249007, x249008, x249009, x249010, x249011 => if x5 < (x249006.length : Int) then (if 0 ≤ x5 then (if ((rd_T46 x249006 x5).f3) = 0 then (spec_l10Pairs.l1 k (wrap64 (x5 + 1)) x249000 x249001 x249002 x249003 x249004 x249005 x249006 x249007 x249008 x249009 x249010 x249011) else ((spec_AskerAt.f k x249005 ((rd_T46 x249006 x5).f5)).bind fun t257 => (if t257 < 0 then (some false) else (if 0 ≤ t257 then (if t257 < (x249005.length : Int) then ((spec_l10Lent.f ((rd_T45 x249005 t257).f0) ((rd_T45 x249005 t257).f1) ((rd_T45 x249005 t257).f2) ((rd_T45 x249005 t257).f3) ((rd_T45 x249005 t257).f4) ((rd_T45 x249005 t257).f5) ((rd_T45 x249005 t257).f6) ((rd_T45 x249005 t257).f7) ((rd_T46 x249006 x5).f0) ((rd_T46 x249006 x5).f1) ((rd_T46 x249006 x5).f2) ((rd_T46 x249006 x5).f3) ((rd_T46 x249006 x5).f4) ((rd_T46 x249006 x5).f5) ((rd_T46 x249006 x5).f6)).bind fun t260 => (if t260 = true then (spec_l10Pairs.l1 k (wrap64 (x5 + 1)) x249000 x249001 x249002 x249003 x249004 x249005 x249006 x249007 x249008 x249009 x249010 x249011) else (some false))) else (none)) else (none))))) else (none)) else (some true)
end
def spec_l10Pairs.f (k : Nat) (a0_0 : Int) (a0_1 : Int) (a0_2 : Int) (l0_3 : List (S125)) (a0_4 : Bool) (l0_5 : List (S45)) (l0_6 : List (S46)) (a0_7 : Int) (a0_8 : Int) (a0_9 : Int) (a0_10 : Int) (a0_11 : Int) : Option (Bool) := spec_l10Pairs.l0 k 0 a0_0 a0_1 a0_2 l0_3 a0_4 l0_5 l0_6 a0_7 a0_8 a0_9 a0_10 a0_11
theorem spec_l10Pairs.mono_l : ∀ k, (∀ y0 y1 y2 y3 y4 y5 y6 y7 y8 y9 y10 y11 y12, LeO (spec_l10Pairs.l0 k y0 y1 y2 y3 y4 y5 y6 y7 y8 y9 y10 y11 y12) (spec_l10Pairs.l0 (k + 1) y0 y1 y2 y3 y4 y5 y6 y7 y8 y9 y10 y11 y12)) ∧ (∀ y0 y1 y2 y3 y4 y5 y6 y7 y8 y9 y10 y11 y12, LeO (spec_l10Pairs.l1 k y0 y1 y2 y3 y4 y5 y6 y7 y8 y9 y10 y11 y12) (spec_l10Pairs.l1 (k + 1) y0 y1 y2 y3 y4 y5 y6 y7 y8 y9 y10 y11 y12))
 | 0 => ⟨fun _ _ _ _ _ _ _ _ _ _ _ _ _ r h => by simp [spec_l10Pairs.l0] at h, fun _ _ _ _ _ _ _ _ _ _ _ _ _ r h => by simp [spec_l10Pairs.l1] at h⟩
 | k + 1 => by
  obtain ⟨ih0, ih1⟩ := spec_l10Pairs.mono_l k
  refine ⟨?_, ?_⟩
  ·
   intro y0 y1 y2 y3 y4 y5 y6 y7 y8 y9 y10 y11 y12
   unfold spec_l10Pairs.l0
   repeat' first
   | (with_reducible exact ih0 _ _ _ _ _ _ _ _ _ _ _ _ _)
   | (with_reducible exact ih1 _ _ _ _ _ _ _ _ _ _ _ _ _)
   | (with_reducible exact spec_AskerAt.mono _ _ _)
   | (with_reducible exact spec_LineAt.mono _ _ _)
   | (with_reducible exact LeO.refl _)
   | (with_reducible exact LeO.none _)
   | (with_reducible refine LeO.ite ?_ ?_)
   | (with_reducible refine LeO.bind ?_ (fun _ => ?_))
   | exact ih0 _ _ _ _ _ _ _ _ _ _ _ _ _
   | exact ih1 _ _ _ _ _ _ _ _ _ _ _ _ _
   | exact spec_AskerAt.mono _ _ _
   | exact spec_LineAt.mono _ _ _
   | exact LeO.none _
   | refine LeO.ite ?_ ?_
   | refine LeO.bind ?_ (fun _ => ?_)
  ·
   intro y0 y1 y2 y3 y4 y5 y6 y7 y8 y9 y10 y11 y12
   unfold spec_l10Pairs.l1
   repeat' first
   | (with_reducible exact ih0 _ _ _ _ _ _ _ _ _ _ _ _ _)
   | (with_reducible exact ih1 _ _ _ _ _ _ _ _ _ _ _ _ _)
   | (with_reducible exact spec_AskerAt.mono _ _ _)
   | (with_reducible exact spec_LineAt.mono _ _ _)
   | (with_reducible exact LeO.refl _)
   | (with_reducible exact LeO.none _)
   | (with_reducible refine LeO.ite ?_ ?_)
   | (with_reducible refine LeO.bind ?_ (fun _ => ?_))
   | exact ih0 _ _ _ _ _ _ _ _ _ _ _ _ _
   | exact ih1 _ _ _ _ _ _ _ _ _ _ _ _ _
   | exact spec_AskerAt.mono _ _ _
   | exact spec_LineAt.mono _ _ _
   | exact LeO.none _
   | refine LeO.ite ?_ ?_
   | refine LeO.bind ?_ (fun _ => ?_)
theorem spec_l10Pairs.mono : ∀ a0 a1 a2 a3 a4 a5 a6 a7 a8 a9 a10 a11 k, LeO (spec_l10Pairs.f k a0 a1 a2 a3 a4 a5 a6 a7 a8 a9 a10 a11) (spec_l10Pairs.f (k + 1) a0 a1 a2 a3 a4 a5 a6 a7 a8 a9 a10 a11) := by
 intro a0 a1 a2 a3 a4 a5 a6 a7 a8 a9 a10 a11 k
 obtain ⟨ih0, ih1⟩ := spec_l10Pairs.mono_l k
 unfold spec_l10Pairs.f
 repeat' first
   | (with_reducible exact ih0 _ _ _ _ _ _ _ _ _ _ _ _ _)
   | (with_reducible exact ih1 _ _ _ _ _ _ _ _ _ _ _ _ _)
   | (with_reducible exact spec_AskerAt.mono _ _ _)
   | (with_reducible exact spec_LineAt.mono _ _ _)
   | (with_reducible exact LeO.refl _)
   | (with_reducible exact LeO.none _)
   | (with_reducible refine LeO.ite ?_ ?_)
   | (with_reducible refine LeO.bind ?_ (fun _ => ?_))
   | exact ih0 _ _ _ _ _ _ _ _ _ _ _ _ _
   | exact ih1 _ _ _ _ _ _ _ _ _ _ _ _ _
   | exact spec_AskerAt.mono _ _ _
   | exact spec_LineAt.mono _ _ _
   | exact LeO.none _
   | refine LeO.ite ?_ ?_
   | refine LeO.bind ?_ (fun _ => ?_)
def spec_l10Pairs.T5 : Bool × List (List Nat × List Nat) := (true, [([], []), ([0], [0]), ([], []), ([2], [2]), ([], []), ([3, 4], [3, 4]), ([5], [5]), ([6], [6]), ([1, 7], [1, 7]), ([8, 8, 0, 1, 2, 3, 4, 5, 6, 7, 8], [8])])
def spec_l10Pairs.B5 : List Nat := [0, 1, 0, 4, 0, 28, 60, 124, 255, 511]
theorem spec_l10Pairs.tab5 : rtab .any (opsOf Try.f132 5) = spec_l10Pairs.T5 := by kernel_rfl
theorem spec_l10Pairs.bits5 : waitsOk spec_l10Pairs.T5.2 spec_l10Pairs.B5 = true := by kernel_rfl
def spec_l10Pairs.T6 : Bool × List (List Nat × List Nat) := (true, [([], []), ([0], [0]), ([1], [1]), ([2], [2]), ([3, 2], [2, 3]), ([2], [2]), ([4, 5, 2], [2, 4, 5]), ([6, 2], [2, 6]), ([2], [2]), ([8, 2], [2, 8]), ([2], [2]), ([9, 10, 2], [2, 9, 10]), ([11, 2], [2, 11]), ([7, 12, 2, 2], [2, 7, 12]), ([13, 2], [2, 13]), ([2, 14], [2, 14])])
def spec_l10Pairs.B6 : List Nat := [0, 1, 3, 7, 15, 7, 63, 127, 7, 263, 7, 1799, 3847, 8191, 16383, 32767]
theorem spec_l10Pairs.tab6 : rtab .any (opsOf Try.f132 6) = spec_l10Pairs.T6 := by kernel_rfl
theorem spec_l10Pairs.bits6 : waitsOk spec_l10Pairs.T6.2 spec_l10Pairs.B6 = true := by kernel_rfl
def spec_l10Pairs.T12 : Bool × List (List Nat × List Nat) := (true, [([], []), ([0], [0]), ([], []), ([2], [2]), ([], []), ([3, 4], [3, 4]), ([5], [5]), ([6], [6]), ([1, 7], [1, 7]), ([8, 8, 0, 1, 2, 3, 4, 5, 6, 7, 8], [8])])
def spec_l10Pairs.B12 : List Nat := [0, 1, 0, 4, 0, 28, 60, 124, 255, 511]
theorem spec_l10Pairs.tab12 : rtab .any (opsOf Try.f132 12) = spec_l10Pairs.T12 := by kernel_rfl
theorem spec_l10Pairs.bits12 : waitsOk spec_l10Pairs.T12.2 spec_l10Pairs.B12 = true := by kernel_rfl
def spec_l10Pairs.T13 : Bool × List (List Nat × List Nat) := (true, [([], []), ([0], [0]), ([1], [1]), ([2], [2]), ([3, 2], [2, 3]), ([2], [2]), ([4, 5, 2], [2, 4, 5]), ([6, 2], [2, 6]), ([2], [2]), ([8, 2], [2, 8]), ([2], [2]), ([9, 10, 2], [2, 9, 10]), ([11, 2], [2, 11]), ([7, 12, 2, 2], [2, 7, 12]), ([13, 2], [2, 13]), ([2, 14], [2, 14])])
def spec_l10Pairs.B13 : List Nat := [0, 1, 3, 7, 15, 7, 63, 127, 7, 263, 7, 1799, 3847, 8191, 16383, 32767]
theorem spec_l10Pairs.tab13 : rtab .any (opsOf Try.f132 13) = spec_l10Pairs.T13 := by kernel_rfl
theorem spec_l10Pairs.bits13 : waitsOk spec_l10Pairs.T13.2 spec_l10Pairs.B13 = true := by kernel_rfl
set_option maxHeartbeats 8000000 in
set_option maxRecDepth 100000 in
theorem spec_l10Pairs.calls (k : Nat) (a0_0 : Int) (a0_1 : Int) (a0_2 : Int) (A0_3 : Option Addr) (c0_3 : Nat) (l0_3 : List (S125)) (a0_4 : Bool) (A0_5 : Option Addr) (c0_5 : Nat) (l0_5 : List (S45)) (A0_6 : Option Addr) (c0_6 : Nat) (l0_6 : List (S46)) (a0_7 : Int) (a0_8 : Int) (a0_9 : Int) (a0_10 : Int) (a0_11 : Int) (r : Bool) (w : World) (hr0_3 : Kd.C k125 w A0_3 l0_3.length l0_3) (hc0_3 : l0_3.length ≤ c0_3) (hr0_5 : Kd.C k45 w A0_5 l0_5.length l0_5) (hc0_5 : l0_5.length ≤ c0_5) (hr0_6 : Kd.C k46 w A0_6 l0_6.length l0_6) (hc0_6 : l0_6.length ≤ c0_6) (h : spec_l10Pairs.f k a0_0 a0_1 a0_2 l0_3 a0_4 l0_5 l0_6 a0_7 a0_8 a0_9 a0_10 a0_11 = some r) :
  Calls Try.prog 132 #[.agg #[.int .i64 a0_0, .int .i64 a0_1, .int .i64 a0_2, .slice A0_3 l0_3.length c0_3, .bool a0_4, .slice A0_5 l0_5.length c0_5, .slice A0_6 l0_6.length c0_6, .int .i64 a0_7, .int .i64 a0_8, .int .i64 a0_9, .int .i64 a0_10, .int .i64 a0_11]] w fun e w' => e = .returned (.bool r) ∧ Below w.heap.size w w' := by
 have hu67 := Try.underlying67
 have hu45 := Try.underlying45
 have hu46 := Try.underlying46
 have HR0_3 := Aside0.mk hr0_3
 have HC0_3 := Aside0.mk hc0_3
 clear hr0_3 hc0_3
 have HR0_5 := Aside0.mk hr0_5
 have HC0_5 := Aside0.mk hc0_5
 clear hr0_5 hc0_5
 have HR0_6 := Aside0.mk hr0_6
 have HC0_6 := Aside0.mk hc0_6
 clear hr0_6 hc0_6
 have HB := Aside0.mk (Below.refl w.heap.size w)
 have H : (spec_l10Pairs.l0 k 0 a0_0 a0_1 a0_2 l0_3 a0_4 l0_5 l0_6 a0_7 a0_8 a0_9 a0_10 a0_11) = some r := h
 clear h
 have H' := Aside0.mk H
 clear H
 go_enter Try.func132, Try.ntmps132
 go_wp2_with (first | ((with_reducible refine gate_dst (N := 1) rfl ?_); refine box_event ?hg (N := 1) ?hd (cs := #[.int .i64 a0_0, .int .i64 a0_1, .int .i64 a0_2, .slice A0_3 l0_3.length c0_3, .bool a0_4, .slice A0_5 l0_5.length c0_5, .slice A0_6 l0_6.length c0_6, .int .i64 a0_7, .int .i64 a0_8, .int .i64 a0_9, .int .i64 a0_10, .int .i64 a0_11]) (t := 67) ?hr ?_; (case hd => rfl); (case hg => rfl); (case hr => first | (go_simp; done) | (go_simp; rfl)); intro gb248 hg w2 hbox hb; have BK248 := am_ (hbox); have GW248 := am_ ((gG_ hg (qB HB))); have IGW248 := gI_ GW248; have GE248 := am_ ((gG_ hg (qB HB))); have IGE248 := gI_ GE248; replace HB := am_ (below_step (qB HB) hb); clear hb hbox hg))
 go_loopg [3] k (fun kq v3 w' => ∃ (x3_1 : Int), v3 = .int .i64 x3_1 ∧ Aside0 (spec_l10Pairs.l0 kq x3_1 a0_0 a0_1 a0_2 l0_3 a0_4 l0_5 l0_6 a0_7 a0_8 a0_9 a0_10 a0_11 = some r) ∧ Aside0 (kq ≤ k) ∧ Aside0 (w'.heap[gb248]? = some (.cells #[.int .i64 a0_0, .int .i64 a0_1, .int .i64 a0_2, (.slice A0_3 l0_3.length c0_3), .bool a0_4, (.slice A0_5 l0_5.length c0_5), (.slice A0_6 l0_6.length c0_6), .int .i64 a0_7, .int .i64 a0_8, .int .i64 a0_9, .int .i64 a0_10, .int .i64 a0_11] 67 (0, 0))) ∧ Aside0 (Below w.heap.size w w'))
 case atStart => exact ⟨(0), eqq_, H', ⟨Nat.le_refl _⟩, ⟨qK BK248⟩, ⟨qB HB⟩⟩
 case round =>
  clear H'
  try clear c1
  try clear p2
  obtain ⟨x3_1, rfl, HA, HK1, BK248, HB⟩ := hrel
  cases gk with
  | zero => exact absurd HA.out (by simp [spec_l10Pairs.l0])
  | succ k1 =>
   have H := HA.out
   clear HA
   simp only [spec_l10Pairs.l0] at H
   by_cases c3 : x3_1 < (l0_5.length : Int)
   ·
    rw [if_pos c3] at H
    have c3b0 : decide (x3_1 < (l0_5.length : Int)) = true := decide_eq_true c3
    clear c3
    by_cases c4 : 0 ≤ x3_1
    ·
     rw [if_pos c4] at H
     have c4b0 : decide (0 ≤ x3_1) = true := decide_eq_true c4
     clear c4
     by_cases c5 : ((rd_T45 l0_5 x3_1).f2) ≥ 3
     ·
      rw [if_pos c5] at H
      have c5b0 : decide (3 ≤ ((rd_T45 l0_5 x3_1).f2)) = true := decide_eq_true c5
      clear c5
      obtain ⟨t251, A6, H⟩ := bd_ H
      by_cases c7 : t251 < 0
      ·
       rw [if_pos c7] at H
       have c7b0 : decide (t251 < 0) = true := decide_eq_true c7
       clear c7
       obtain rfl := Option.some.inj H
       obtain ⟨z8_0, z8_1, z8_2, z8_3, z8_4, z8_5, z8_6, z8_7, z8_8, z8_9, z8_10, z8_11⟩ := cz12 BK248.out
       obtain ⟨f8_0, f8_1, f8_2, f8_3, f8_4, f8_5, f8_6, f8_7, f8_8, f8_9, f8_10, f8_11⟩ := fz12 BK248.out
       have p249 : 0 ≤ (x3_1 : Int) := od_
       have q249 : x3_1 < (l0_5.length : Int) := od_
       obtain ⟨ad249, e249, hx249_0, hx249_1, hx249_2, hx249_3, hx249_4, hx249_5, hx249_6, hx249_7⟩ := at_T45 HR0_5.out x3_1 p249 q249
       cases e249
       replace hx249_0 := lb_ HB hx249_0
       replace hx249_1 := lb_ HB hx249_1
       replace hx249_2 := lb_ HB hx249_2
       replace hx249_3 := lb_ HB hx249_3
       replace hx249_4 := lb_ HB hx249_4
       replace hx249_5 := lb_ HB hx249_5
       replace hx249_6 := lb_ HB hx249_6
       replace hx249_7 := lb_ HB hx249_7
       replace p249 := eq_true p249
       replace q249 := eq_true q249
       try go_wp2
       replace BK248 := am_ (blk_drew BK248.out)
       replace HB := am_ (below_drew1 HB.out)
       have p250 : 0 ≤ (x3_1 : Int) := od_
       have q250 : x3_1 < (l0_5.length : Int) := od_
       obtain ⟨ad250, e250, hx250_0, hx250_1, hx250_2, hx250_3, hx250_4, hx250_5, hx250_6, hx250_7⟩ := at_T45 HR0_5.out x3_1 p250 q250
       have hw250_7 := hx250_7
       have hw250_6 := hx250_6
       have hw250_5 := hx250_5
       have hw250_4 := hx250_4
       have hw250_3 := hx250_3
       have hw250_2 := hx250_2
       have hw250_1 := hx250_1
       have hw250_0 := hx250_0
       obtain rfl : ad249 = ad250 := (by injection e250)
       replace hx250_0 := lb_ HB hx250_0
       replace hx250_1 := lb_ HB hx250_1
       replace hx250_2 := lb_ HB hx250_2
       replace hx250_3 := lb_ HB hx250_3
       replace hx250_4 := lb_ HB hx250_4
       replace hx250_5 := lb_ HB hx250_5
       replace hx250_6 := lb_ HB hx250_6
       replace hx250_7 := lb_ HB hx250_7
       replace p250 := eq_true p250
       replace q250 := eq_true q250
       refine start_ (n := 10) (S := fun w' => w'.cell? ⟨gb248, 0, none⟩ = some (.int .i64 a0_0) ∧ w'.cell? ⟨gb248, 1, none⟩ = some (.int .i64 a0_1) ∧ w'.cell? ⟨gb248, 2, none⟩ = some (.int .i64 a0_2) ∧ w'.cell? ⟨gb248, 3, none⟩ = some (.slice A0_3 l0_3.length c0_3) ∧ w'.cell? ⟨gb248, 4, none⟩ = some (.bool a0_4) ∧ w'.cell? ⟨gb248, 5, none⟩ = some (.slice (some ad249) l0_5.length c0_5) ∧ w'.cell? ⟨gb248, 6, none⟩ = some (.slice A0_6 l0_6.length c0_6) ∧ w'.cell? ⟨gb248, 7, none⟩ = some (.int .i64 a0_7) ∧ w'.cell? ⟨gb248, 8, none⟩ = some (.int .i64 a0_8) ∧ w'.cell? ⟨gb248, 9, none⟩ = some (.int .i64 a0_9) ∧ w'.cell? ⟨gb248, 10, none⟩ = some (.int .i64 a0_10) ∧ w'.cell? ⟨gb248, 11, none⟩ = some (.int .i64 a0_11) ∧ w'.cell? (ad249.add ((x3_1).toNat * 8)) = some (.int .i64 ((rd_T45 l0_5 x3_1).f0)) ∧ w'.cell? ⟨(ad249.add ((x3_1).toNat * 8)).block, (ad249.add ((x3_1).toNat * 8)).off + 1, none⟩ = some (.string ((rd_T45 l0_5 x3_1).f1)) ∧ w'.cell? ⟨(ad249.add ((x3_1).toNat * 8)).block, (ad249.add ((x3_1).toNat * 8)).off + 2, none⟩ = some (.int .i64 ((rd_T45 l0_5 x3_1).f2)) ∧ w'.cell? ⟨(ad249.add ((x3_1).toNat * 8)).block, (ad249.add ((x3_1).toNat * 8)).off + 3, none⟩ = some (.int .i64 ((rd_T45 l0_5 x3_1).f3)) ∧ w'.cell? ⟨(ad249.add ((x3_1).toNat * 8)).block, (ad249.add ((x3_1).toNat * 8)).off + 4, none⟩ = some (.int .i64 ((rd_T45 l0_5 x3_1).f4)) ∧ w'.cell? ⟨(ad249.add ((x3_1).toNat * 8)).block, (ad249.add ((x3_1).toNat * 8)).off + 5, none⟩ = some (.string ((rd_T45 l0_5 x3_1).f5)) ∧ w'.cell? ⟨(ad249.add ((x3_1).toNat * 8)).block, (ad249.add ((x3_1).toNat * 8)).off + 6, none⟩ = some (.int .i64 ((rd_T45 l0_5 x3_1).f6)) ∧ w'.cell? ⟨(ad249.add ((x3_1).toNat * 8)).block, (ad249.add ((x3_1).toNat * 8)).off + 7, none⟩ = some (.int .i64 ((rd_T45 l0_5 x3_1).f7))) (ds := []) #[oo,oo,oo,oo,oo,oo,oo,oo,oo,oo] (by kernel_rfl) rfl rfl (cw12 BK248.out ⟨(lb_ HB hw250_0 :), (lb_ HB hw250_1 :), (lb_ HB hw250_2 :), (lb_ HB hw250_3 :), (lb_ HB hw250_4 :), (lb_ HB hw250_5 :), (lb_ HB hw250_6 :), (lb_ HB hw250_7 :)⟩) (fun hHeld => ?_); refine with_tabW spec_l10Pairs.tab5 spec_l10Pairs.bits5 (fun HT_ HW_ => ?_)
       generalize wr.drew = w9 at BK248 HB hx250_0 hx250_1 hx250_2 hx250_3 hx250_4 hx250_5 hx250_6 hx250_7 hHeld ⊢
       refine pz_ (i := 0) (N := some 21) HT_ #[ii,oo,oo,oo,oo,oo,oo,oo,oo,oo] rfl rfl ?_
       refine pz_ (i := 2) (N := some 23) HT_ #[ii,oo,ii,oo,oo,oo,oo,oo,oo,oo] rfl rfl ?_
       refine pz_ (i := 4) (N := some 25) HT_ #[ii,oo,ii,oo,ii,oo,oo,oo,oo,oo] rfl rfl ?_
       refine take_ (i := 1) (N := some 22) (v := ?_) (a' := ?_) #[ii,ii,ii,oo,ii,oo,oo,oo,oo,oo] rfl rfl (take_ofW HT_.out HW_.out (by kernel_rfl)) (fun _ _ _ h => h) (Or.inl ⟨by rfl, ?_⟩) hHeld ?_ ?_
       rotate_left
       ·
        rintro w' ⟨s0, s1, s2, s3, s4, s5, s6, s7, s8, s9, s10, s11, s12, s13, s14, s15, s16, s17, s18, s19⟩
        go_simp
        with_reducible rfl
       rotate_left
       ·
        exact ap_
       refine take_ (i := 3) (N := some 24) (v := ?_) (a' := ?_) #[ii,ii,ii,ii,ii,oo,oo,oo,oo,oo] rfl rfl (take_ofW HT_.out HW_.out (by kernel_rfl)) (fun _ _ _ h => h) (Or.inl ⟨by rfl, ?_⟩) hHeld ?_ ?_
       rotate_left
       ·
        rintro w' ⟨s0, s1, s2, s3, s4, s5, s6, s7, s8, s9, s10, s11, s12, s13, s14, s15, s16, s17, s18, s19⟩
        go_simp
        with_reducible rfl
       rotate_left
       ·
        exact ap_
       refine pz_ (i := 5) (N := some 26) HT_ #[ii,ii,ii,ii,ii,ii,oo,oo,oo,oo] rfl rfl ?_
       refine pz_ (i := 6) (N := some 27) HT_ #[ii,ii,ii,ii,ii,ii,ii,oo,oo,oo] rfl rfl ?_
       refine take_ (i := 7) (N := some 28) (v := ?_) (a' := ?_) #[ii,ii,ii,ii,ii,ii,ii,ii,oo,oo] rfl rfl (take_ofW HT_.out HW_.out (by kernel_rfl)) (fun _ _ _ h => h) (Or.inl ⟨by rfl, ?_⟩) hHeld ?_ ?_
       rotate_left
       ·
        rintro w' ⟨s0, s1, s2, s3, s4, s5, s6, s7, s8, s9, s10, s11, s12, s13, s14, s15, s16, s17, s18, s19⟩
        go_simp
        with_reducible rfl
       rotate_left
       ·
        exact ap_
       refine one_ (i := 8) (N := some 29) #[ii,ii,ii,ii,ii,ii,ii,ii,ii,oo] rfl rfl (one_of HT_.out (by kernel_rfl)) (by decide) (fun K hK => ?_)
       refine goes_ Try.func158 (by kernel_rfl) rfl #[.slice A0_6 l0_6.length c0_6, .int .i64 ((rd_T45 l0_5 x3_1).f6)] (by rfl) rfl rfl la_ ?_
       with_reducible refine (spec_LineAt.calls k1 _ _ l0_6 ((rd_T45 l0_5 x3_1).f6) t251 _ ?side1 ?side2 A6.out).mono ?_
       (case side1 => exact qC (Kd.C_below HR0_6.out HB.out))
       (case side2 => exact HC0_6.out)
       rintro e w' ⟨rfl, ⟨nd, rfl⟩⟩
       refine ⟨_, rfl, ?_⟩
       refine hK.out _ _ (cw12 BK248.out ⟨(lb_ HB hw250_0 :), (lb_ HB hw250_1 :), (lb_ HB hw250_2 :), (lb_ HB hw250_3 :), (lb_ HB hw250_4 :), (lb_ HB hw250_5 :), (lb_ HB hw250_6 :), (lb_ HB hw250_7 :)⟩) (fun hHeld => ?_)
       clear hK K
       refine norm_ (a' := ?_) ?_ ?_
       rotate_left
       ·
        show Act.put _ (some 29) _ = _
        exact ap_
       refine pz_ (i := 9) (N := some 4) HT_ #[ii,ii,ii,ii,ii,ii,ii,ii,ii,ii] rfl rfl ?_
       refine done_ (done_of HT_.out (by kernel_rfl)) ?_
       try go_wp2
       (try (rw [drewN_self w9]; generalize hq_ : World.drewN w9 _ = w9; have n0_ : Aside0 (w9.heap[gb248]? = some (.cells #[.int .i64 a0_0, .int .i64 a0_1, .int .i64 a0_2, .slice A0_3 l0_3.length c0_3, .bool a0_4, .slice (some ad249) l0_5.length c0_5, .slice A0_6 l0_6.length c0_6, .int .i64 a0_7, .int .i64 a0_8, .int .i64 a0_9, .int .i64 a0_10, .int .i64 a0_11] 67 (0, 0))) := ⟨by rw [← hq_]; exact (qK BK248)⟩; have n1_ : Aside0 (Below w.heap.size w w9) := ⟨by rw [← hq_]; exact (qB HB)⟩; clear BK248 HB hq_; have BK248 := n0_; have HB := n1_; clear n0_ n1_))
       replace BK248 := am_ (blk_drew BK248.out)
       replace HB := am_ (below_drew1 HB.out)
       refine start_ (n := 16) (S := fun w' => True) (ds := []) (rl [0,16]) (by kernel_rfl) rfl rfl trivial (fun hHeld => ?_); refine with_tabW spec_l10Pairs.tab6 spec_l10Pairs.bits6 (fun HT_ HW_ => ?_)
       generalize w9.drew = w10 at BK248 HB hHeld ⊢
       refine pz_ (i := 0) (N := some 30) HT_ (rl [1,15]) rfl rfl ?_
       refine pz_ (i := 1) (N := some 31) HT_ (rl [2,14]) rfl rfl ?_
       refine pz_ (i := 2) (N := some 32) HT_ (rl [3,13]) rfl rfl ?_
       refine pu_ (i := 3) (N := some 33) HT_ (rl [4,12]) rfl rfl ?_
       refine pu_ (i := 4) (N := some 34) HT_ (rl [5,11]) rfl rfl ?_
       refine pu_ (i := 5) (N := some 35) HT_ (rl [6,10]) rfl rfl ?_
       refine pu_ (i := 6) (N := some 36) HT_ (rl [7,9]) rfl rfl ?_
       refine pu_ (i := 7) (N := some 37) HT_ (rl [8,8]) rfl rfl ?_
       refine pu_ (i := 8) (N := some 38) HT_ (rl [9,7]) rfl rfl ?_
       refine pu_ (i := 9) (N := some 39) HT_ (rl [10,6]) rfl rfl ?_
       refine pu_ (i := 10) (N := some 40) HT_ (rl [11,5]) rfl rfl ?_
       refine pu_ (i := 11) (N := some 41) HT_ (rl [12,4]) rfl rfl ?_
       refine pu_ (i := 12) (N := some 42) HT_ (rl [13,3]) rfl rfl ?_
       refine pu_ (i := 13) (N := some 43) HT_ (rl [14,2]) rfl rfl ?_
       refine pu_ (i := 14) (N := some 44) HT_ (rl [15,1]) rfl rfl ?_
       refine pz_ (i := 15) (N := some 45) HT_ (rl [16]) rfl rfl ?_
       refine done_ (done_of HT_.out (by kernel_rfl)) ?_
       try go_wp2
       go_ret
       exact ⟨by first | rfl | (simp [errW_none, errW_some] <;> rfl) | (simp [*, errW_none, errW_some] <;> rfl), qB HB⟩
      ·
       rw [if_neg c7] at H
       have c7b0 : decide (t251 < 0) = false := decide_eq_false c7
       clear c7
       by_cases c11 : 0 ≤ t251
       ·
        rw [if_pos c11] at H
        have c11b0 : decide (0 ≤ t251) = true := decide_eq_true c11
        clear c11
        by_cases c12 : t251 < (l0_6.length : Int)
        ·
         rw [if_pos c12] at H
         have c12b0 : decide (t251 < (l0_6.length : Int)) = true := decide_eq_true c12
         clear c12
         obtain ⟨t254, A13, H⟩ := bd_ H
         have HC14 := Aside0.mk H
         clear H
         obtain ⟨z15_0, z15_1, z15_2, z15_3, z15_4, z15_5, z15_6, z15_7, z15_8, z15_9, z15_10, z15_11⟩ := cz12 BK248.out
         obtain ⟨f15_0, f15_1, f15_2, f15_3, f15_4, f15_5, f15_6, f15_7, f15_8, f15_9, f15_10, f15_11⟩ := fz12 BK248.out
         have p249 : 0 ≤ (x3_1 : Int) := od_
         have q249 : x3_1 < (l0_5.length : Int) := od_
         obtain ⟨ad249, e249, hx249_0, hx249_1, hx249_2, hx249_3, hx249_4, hx249_5, hx249_6, hx249_7⟩ := at_T45 HR0_5.out x3_1 p249 q249
         cases e249
         replace hx249_0 := lb_ HB hx249_0
         replace hx249_1 := lb_ HB hx249_1
         replace hx249_2 := lb_ HB hx249_2
         replace hx249_3 := lb_ HB hx249_3
         replace hx249_4 := lb_ HB hx249_4
         replace hx249_5 := lb_ HB hx249_5
         replace hx249_6 := lb_ HB hx249_6
         replace hx249_7 := lb_ HB hx249_7
         replace p249 := eq_true p249
         replace q249 := eq_true q249
         try go_wp2
         replace BK248 := am_ (blk_drew BK248.out)
         replace HB := am_ (below_drew1 HB.out)
         have p250 : 0 ≤ (x3_1 : Int) := od_
         have q250 : x3_1 < (l0_5.length : Int) := od_
         obtain ⟨ad250, e250, hx250_0, hx250_1, hx250_2, hx250_3, hx250_4, hx250_5, hx250_6, hx250_7⟩ := at_T45 HR0_5.out x3_1 p250 q250
         have hw250_7 := hx250_7
         have hw250_6 := hx250_6
         have hw250_5 := hx250_5
         have hw250_4 := hx250_4
         have hw250_3 := hx250_3
         have hw250_2 := hx250_2
         have hw250_1 := hx250_1
         have hw250_0 := hx250_0
         obtain rfl : ad249 = ad250 := (by injection e250)
         replace hx250_0 := lb_ HB hx250_0
         replace hx250_1 := lb_ HB hx250_1
         replace hx250_2 := lb_ HB hx250_2
         replace hx250_3 := lb_ HB hx250_3
         replace hx250_4 := lb_ HB hx250_4
         replace hx250_5 := lb_ HB hx250_5
         replace hx250_6 := lb_ HB hx250_6
         replace hx250_7 := lb_ HB hx250_7
         replace p250 := eq_true p250
         replace q250 := eq_true q250
         refine start_ (n := 10) (S := fun w' => w'.cell? ⟨gb248, 0, none⟩ = some (.int .i64 a0_0) ∧ w'.cell? ⟨gb248, 1, none⟩ = some (.int .i64 a0_1) ∧ w'.cell? ⟨gb248, 2, none⟩ = some (.int .i64 a0_2) ∧ w'.cell? ⟨gb248, 3, none⟩ = some (.slice A0_3 l0_3.length c0_3) ∧ w'.cell? ⟨gb248, 4, none⟩ = some (.bool a0_4) ∧ w'.cell? ⟨gb248, 5, none⟩ = some (.slice (some ad249) l0_5.length c0_5) ∧ w'.cell? ⟨gb248, 6, none⟩ = some (.slice A0_6 l0_6.length c0_6) ∧ w'.cell? ⟨gb248, 7, none⟩ = some (.int .i64 a0_7) ∧ w'.cell? ⟨gb248, 8, none⟩ = some (.int .i64 a0_8) ∧ w'.cell? ⟨gb248, 9, none⟩ = some (.int .i64 a0_9) ∧ w'.cell? ⟨gb248, 10, none⟩ = some (.int .i64 a0_10) ∧ w'.cell? ⟨gb248, 11, none⟩ = some (.int .i64 a0_11) ∧ w'.cell? (ad249.add ((x3_1).toNat * 8)) = some (.int .i64 ((rd_T45 l0_5 x3_1).f0)) ∧ w'.cell? ⟨(ad249.add ((x3_1).toNat * 8)).block, (ad249.add ((x3_1).toNat * 8)).off + 1, none⟩ = some (.string ((rd_T45 l0_5 x3_1).f1)) ∧ w'.cell? ⟨(ad249.add ((x3_1).toNat * 8)).block, (ad249.add ((x3_1).toNat * 8)).off + 2, none⟩ = some (.int .i64 ((rd_T45 l0_5 x3_1).f2)) ∧ w'.cell? ⟨(ad249.add ((x3_1).toNat * 8)).block, (ad249.add ((x3_1).toNat * 8)).off + 3, none⟩ = some (.int .i64 ((rd_T45 l0_5 x3_1).f3)) ∧ w'.cell? ⟨(ad249.add ((x3_1).toNat * 8)).block, (ad249.add ((x3_1).toNat * 8)).off + 4, none⟩ = some (.int .i64 ((rd_T45 l0_5 x3_1).f4)) ∧ w'.cell? ⟨(ad249.add ((x3_1).toNat * 8)).block, (ad249.add ((x3_1).toNat * 8)).off + 5, none⟩ = some (.string ((rd_T45 l0_5 x3_1).f5)) ∧ w'.cell? ⟨(ad249.add ((x3_1).toNat * 8)).block, (ad249.add ((x3_1).toNat * 8)).off + 6, none⟩ = some (.int .i64 ((rd_T45 l0_5 x3_1).f6)) ∧ w'.cell? ⟨(ad249.add ((x3_1).toNat * 8)).block, (ad249.add ((x3_1).toNat * 8)).off + 7, none⟩ = some (.int .i64 ((rd_T45 l0_5 x3_1).f7))) (ds := []) #[oo,oo,oo,oo,oo,oo,oo,oo,oo,oo] (by kernel_rfl) rfl rfl (cw12 BK248.out ⟨(lb_ HB hw250_0 :), (lb_ HB hw250_1 :), (lb_ HB hw250_2 :), (lb_ HB hw250_3 :), (lb_ HB hw250_4 :), (lb_ HB hw250_5 :), (lb_ HB hw250_6 :), (lb_ HB hw250_7 :)⟩) (fun hHeld => ?_); refine with_tabW spec_l10Pairs.tab5 spec_l10Pairs.bits5 (fun HT_ HW_ => ?_)
         generalize wr.drew = w16 at BK248 HB hx250_0 hx250_1 hx250_2 hx250_3 hx250_4 hx250_5 hx250_6 hx250_7 hHeld ⊢
         refine pz_ (i := 0) (N := some 21) HT_ #[ii,oo,oo,oo,oo,oo,oo,oo,oo,oo] rfl rfl ?_
         refine pz_ (i := 2) (N := some 23) HT_ #[ii,oo,ii,oo,oo,oo,oo,oo,oo,oo] rfl rfl ?_
         refine pz_ (i := 4) (N := some 25) HT_ #[ii,oo,ii,oo,ii,oo,oo,oo,oo,oo] rfl rfl ?_
         refine take_ (i := 1) (N := some 22) (v := ?_) (a' := ?_) #[ii,ii,ii,oo,ii,oo,oo,oo,oo,oo] rfl rfl (take_ofW HT_.out HW_.out (by kernel_rfl)) (fun _ _ _ h => h) (Or.inl ⟨by rfl, ?_⟩) hHeld ?_ ?_
         rotate_left
         ·
          rintro w' ⟨s0, s1, s2, s3, s4, s5, s6, s7, s8, s9, s10, s11, s12, s13, s14, s15, s16, s17, s18, s19⟩
          go_simp
          with_reducible rfl
         rotate_left
         ·
          exact ap_
         refine take_ (i := 3) (N := some 24) (v := ?_) (a' := ?_) #[ii,ii,ii,ii,ii,oo,oo,oo,oo,oo] rfl rfl (take_ofW HT_.out HW_.out (by kernel_rfl)) (fun _ _ _ h => h) (Or.inl ⟨by rfl, ?_⟩) hHeld ?_ ?_
         rotate_left
         ·
          rintro w' ⟨s0, s1, s2, s3, s4, s5, s6, s7, s8, s9, s10, s11, s12, s13, s14, s15, s16, s17, s18, s19⟩
          go_simp
          with_reducible rfl
         rotate_left
         ·
          exact ap_
         refine pz_ (i := 5) (N := some 26) HT_ #[ii,ii,ii,ii,ii,ii,oo,oo,oo,oo] rfl rfl ?_
         refine pz_ (i := 6) (N := some 27) HT_ #[ii,ii,ii,ii,ii,ii,ii,oo,oo,oo] rfl rfl ?_
         refine take_ (i := 7) (N := some 28) (v := ?_) (a' := ?_) #[ii,ii,ii,ii,ii,ii,ii,ii,oo,oo] rfl rfl (take_ofW HT_.out HW_.out (by kernel_rfl)) (fun _ _ _ h => h) (Or.inl ⟨by rfl, ?_⟩) hHeld ?_ ?_
         rotate_left
         ·
          rintro w' ⟨s0, s1, s2, s3, s4, s5, s6, s7, s8, s9, s10, s11, s12, s13, s14, s15, s16, s17, s18, s19⟩
          go_simp
          with_reducible rfl
         rotate_left
         ·
          exact ap_
         refine one_ (i := 8) (N := some 29) #[ii,ii,ii,ii,ii,ii,ii,ii,ii,oo] rfl rfl (one_of HT_.out (by kernel_rfl)) (by decide) (fun K hK => ?_)
         refine goes_ Try.func158 (by kernel_rfl) rfl #[.slice A0_6 l0_6.length c0_6, .int .i64 ((rd_T45 l0_5 x3_1).f6)] (by rfl) rfl rfl la_ ?_
         with_reducible refine (spec_LineAt.calls k1 _ _ l0_6 ((rd_T45 l0_5 x3_1).f6) t251 _ ?side1 ?side2 A6.out).mono ?_
         (case side1 => exact qC (Kd.C_below HR0_6.out HB.out))
         (case side2 => exact HC0_6.out)
         rintro e w' ⟨rfl, ⟨nd, rfl⟩⟩
         refine ⟨_, rfl, ?_⟩
         refine hK.out _ _ (cw12 BK248.out ⟨(lb_ HB hw250_0 :), (lb_ HB hw250_1 :), (lb_ HB hw250_2 :), (lb_ HB hw250_3 :), (lb_ HB hw250_4 :), (lb_ HB hw250_5 :), (lb_ HB hw250_6 :), (lb_ HB hw250_7 :)⟩) (fun hHeld => ?_)
         clear hK K
         refine norm_ (a' := ?_) ?_ ?_
         rotate_left
         ·
          show Act.put _ (some 29) _ = _
          exact ap_
         refine pz_ (i := 9) (N := some 4) HT_ #[ii,ii,ii,ii,ii,ii,ii,ii,ii,ii] rfl rfl ?_
         refine done_ (done_of HT_.out (by kernel_rfl)) ?_
         try go_wp2
         (try (rw [drewN_self w16]; generalize hq_ : World.drewN w16 _ = w16; have n0_ : Aside0 (w16.heap[gb248]? = some (.cells #[.int .i64 a0_0, .int .i64 a0_1, .int .i64 a0_2, .slice A0_3 l0_3.length c0_3, .bool a0_4, .slice (some ad249) l0_5.length c0_5, .slice A0_6 l0_6.length c0_6, .int .i64 a0_7, .int .i64 a0_8, .int .i64 a0_9, .int .i64 a0_10, .int .i64 a0_11] 67 (0, 0))) := ⟨by rw [← hq_]; exact (qK BK248)⟩; have n1_ : Aside0 (Below w.heap.size w w16) := ⟨by rw [← hq_]; exact (qB HB)⟩; clear BK248 HB hq_; have BK248 := n0_; have HB := n1_; clear n0_ n1_))
         replace BK248 := am_ (blk_drew BK248.out)
         replace HB := am_ (below_drew1 HB.out)
         have p252 : 0 ≤ (x3_1 : Int) := od_
         have q252 : x3_1 < (l0_5.length : Int) := od_
         obtain ⟨ad252, e252, hx252_0, hx252_1, hx252_2, hx252_3, hx252_4, hx252_5, hx252_6, hx252_7⟩ := at_T45 HR0_5.out x3_1 p252 q252
         have hw252_7 := hx252_7
         have hw252_6 := hx252_6
         have hw252_5 := hx252_5
         have hw252_4 := hx252_4
         have hw252_3 := hx252_3
         have hw252_2 := hx252_2
         have hw252_1 := hx252_1
         have hw252_0 := hx252_0
         obtain rfl : ad249 = ad252 := (by injection e252)
         replace hx252_0 := lb_ HB hx252_0
         replace hx252_1 := lb_ HB hx252_1
         replace hx252_2 := lb_ HB hx252_2
         replace hx252_3 := lb_ HB hx252_3
         replace hx252_4 := lb_ HB hx252_4
         replace hx252_5 := lb_ HB hx252_5
         replace hx252_6 := lb_ HB hx252_6
         replace hx252_7 := lb_ HB hx252_7
         replace p252 := eq_true p252
         replace q252 := eq_true q252
         have p253 : 0 ≤ (t251 : Int) := od_
         have q253 : t251 < (l0_6.length : Int) := od_
         obtain ⟨ad253, e253, hx253_0, hx253_1, hx253_2, hx253_3, hx253_4, hx253_5, hx253_6⟩ := at_T46 HR0_6.out t251 p253 q253
         have hw253_6 := hx253_6
         have hw253_5 := hx253_5
         have hw253_4 := hx253_4
         have hw253_3 := hx253_3
         have hw253_2 := hx253_2
         have hw253_1 := hx253_1
         have hw253_0 := hx253_0
         cases e253
         replace hx253_0 := lb_ HB hx253_0
         replace hx253_1 := lb_ HB hx253_1
         replace hx253_2 := lb_ HB hx253_2
         replace hx253_3 := lb_ HB hx253_3
         replace hx253_4 := lb_ HB hx253_4
         replace hx253_5 := lb_ HB hx253_5
         replace hx253_6 := lb_ HB hx253_6
         replace p253 := eq_true p253
         replace q253 := eq_true q253
         refine start_ (n := 16) (S := fun w' => w'.cell? ⟨gb248, 0, none⟩ = some (.int .i64 a0_0) ∧ w'.cell? ⟨gb248, 1, none⟩ = some (.int .i64 a0_1) ∧ w'.cell? ⟨gb248, 2, none⟩ = some (.int .i64 a0_2) ∧ w'.cell? ⟨gb248, 3, none⟩ = some (.slice A0_3 l0_3.length c0_3) ∧ w'.cell? ⟨gb248, 4, none⟩ = some (.bool a0_4) ∧ w'.cell? ⟨gb248, 5, none⟩ = some (.slice (some ad249) l0_5.length c0_5) ∧ w'.cell? ⟨gb248, 6, none⟩ = some (.slice (some ad253) l0_6.length c0_6) ∧ w'.cell? ⟨gb248, 7, none⟩ = some (.int .i64 a0_7) ∧ w'.cell? ⟨gb248, 8, none⟩ = some (.int .i64 a0_8) ∧ w'.cell? ⟨gb248, 9, none⟩ = some (.int .i64 a0_9) ∧ w'.cell? ⟨gb248, 10, none⟩ = some (.int .i64 a0_10) ∧ w'.cell? ⟨gb248, 11, none⟩ = some (.int .i64 a0_11) ∧ w'.cell? (ad249.add ((x3_1).toNat * 8)) = some (.int .i64 ((rd_T45 l0_5 x3_1).f0)) ∧ w'.cell? ⟨(ad249.add ((x3_1).toNat * 8)).block, (ad249.add ((x3_1).toNat * 8)).off + 1, none⟩ = some (.string ((rd_T45 l0_5 x3_1).f1)) ∧ w'.cell? ⟨(ad249.add ((x3_1).toNat * 8)).block, (ad249.add ((x3_1).toNat * 8)).off + 2, none⟩ = some (.int .i64 ((rd_T45 l0_5 x3_1).f2)) ∧ w'.cell? ⟨(ad249.add ((x3_1).toNat * 8)).block, (ad249.add ((x3_1).toNat * 8)).off + 3, none⟩ = some (.int .i64 ((rd_T45 l0_5 x3_1).f3)) ∧ w'.cell? ⟨(ad249.add ((x3_1).toNat * 8)).block, (ad249.add ((x3_1).toNat * 8)).off + 4, none⟩ = some (.int .i64 ((rd_T45 l0_5 x3_1).f4)) ∧ w'.cell? ⟨(ad249.add ((x3_1).toNat * 8)).block, (ad249.add ((x3_1).toNat * 8)).off + 5, none⟩ = some (.string ((rd_T45 l0_5 x3_1).f5)) ∧ w'.cell? ⟨(ad249.add ((x3_1).toNat * 8)).block, (ad249.add ((x3_1).toNat * 8)).off + 6, none⟩ = some (.int .i64 ((rd_T45 l0_5 x3_1).f6)) ∧ w'.cell? ⟨(ad249.add ((x3_1).toNat * 8)).block, (ad249.add ((x3_1).toNat * 8)).off + 7, none⟩ = some (.int .i64 ((rd_T45 l0_5 x3_1).f7)) ∧ w'.cell? (ad253.add ((t251).toNat * 7)) = some (.int .i64 ((rd_T46 l0_6 t251).f0)) ∧ w'.cell? ⟨(ad253.add ((t251).toNat * 7)).block, (ad253.add ((t251).toNat * 7)).off + 1, none⟩ = some (.string ((rd_T46 l0_6 t251).f1)) ∧ w'.cell? ⟨(ad253.add ((t251).toNat * 7)).block, (ad253.add ((t251).toNat * 7)).off + 2, none⟩ = some (.int .i64 ((rd_T46 l0_6 t251).f2)) ∧ w'.cell? ⟨(ad253.add ((t251).toNat * 7)).block, (ad253.add ((t251).toNat * 7)).off + 3, none⟩ = some (.int .i64 ((rd_T46 l0_6 t251).f3)) ∧ w'.cell? ⟨(ad253.add ((t251).toNat * 7)).block, (ad253.add ((t251).toNat * 7)).off + 4, none⟩ = some (.int .i64 ((rd_T46 l0_6 t251).f4)) ∧ w'.cell? ⟨(ad253.add ((t251).toNat * 7)).block, (ad253.add ((t251).toNat * 7)).off + 5, none⟩ = some (.int .i64 ((rd_T46 l0_6 t251).f5)) ∧ w'.cell? ⟨(ad253.add ((t251).toNat * 7)).block, (ad253.add ((t251).toNat * 7)).off + 6, none⟩ = some (.int .i64 ((rd_T46 l0_6 t251).f6))) (ds := []) (rl [0,16]) (by kernel_rfl) rfl rfl (cw12 BK248.out ⟨(lb_ HB hw252_0 :), (lb_ HB hw252_1 :), (lb_ HB hw252_2 :), (lb_ HB hw252_3 :), (lb_ HB hw252_4 :), (lb_ HB hw252_5 :), (lb_ HB hw252_6 :), (lb_ HB hw252_7 :), (lb_ HB hw253_0 :), (lb_ HB hw253_1 :), (lb_ HB hw253_2 :), (lb_ HB hw253_3 :), (lb_ HB hw253_4 :), (lb_ HB hw253_5 :), (lb_ HB hw253_6 :)⟩) (fun hHeld => ?_); refine with_tabW spec_l10Pairs.tab6 spec_l10Pairs.bits6 (fun HT_ HW_ => ?_)
         generalize w16.drew = w17 at BK248 HB hx252_0 hx252_1 hx252_2 hx252_3 hx252_4 hx252_5 hx252_6 hx252_7 hx253_0 hx253_1 hx253_2 hx253_3 hx253_4 hx253_5 hx253_6 hHeld ⊢
         refine pz_ (i := 0) (N := some 30) HT_ (rl [1,15]) rfl rfl ?_
         refine pz_ (i := 1) (N := some 31) HT_ (rl [2,14]) rfl rfl ?_
         refine pz_ (i := 2) (N := some 32) HT_ (rl [3,13]) rfl rfl ?_
         refine pz_ (i := 3) (N := some 33) HT_ (rl [4,12]) rfl rfl ?_
         refine pz_ (i := 5) (N := some 35) HT_ (rl [4,1,1,10]) rfl rfl ?_
         refine pz_ (i := 8) (N := some 38) HT_ (rl [4,1,1,2,1,7]) rfl rfl ?_
         refine pz_ (i := 10) (N := some 40) HT_ (rl [4,1,1,2,1,1,1,5]) rfl rfl ?_
         refine take_ (i := 4) (N := some 34) (v := ?_) (a' := ?_) (rl [6,2,1,1,1,5]) rfl rfl (take_ofW HT_.out HW_.out (by kernel_rfl)) (fun _ _ _ h => h) (Or.inl ⟨by rfl, ?_⟩) hHeld ?_ ?_
         rotate_left
         ·
          rintro w' ⟨s0, s1, s2, s3, s4, s5, s6, s7, s8, s9, s10, s11, s12, s13, s14, s15, s16, s17, s18, s19, s20, s21, s22, s23, s24, s25, s26⟩
          go_simp
          with_reducible rfl
         rotate_left
         ·
          exact ap_
         refine pz_ (i := 6) (N := some 36) HT_ (rl [7,1,1,1,1,5]) rfl rfl ?_
         refine take_ (i := 7) (N := some 37) (v := ?_) (a' := ?_) (rl [9,1,1,5]) rfl rfl (take_ofW HT_.out HW_.out (by kernel_rfl)) (fun _ _ _ h => h) (Or.inl ⟨by rfl, ?_⟩) hHeld ?_ ?_
         rotate_left
         ·
          rintro w' ⟨s0, s1, s2, s3, s4, s5, s6, s7, s8, s9, s10, s11, s12, s13, s14, s15, s16, s17, s18, s19, s20, s21, s22, s23, s24, s25, s26⟩
          go_simp
          with_reducible rfl
         rotate_left
         ·
          exact ap_
         refine take_ (i := 9) (N := some 39) (v := ?_) (a' := ?_) (rl [11,5]) rfl rfl (take_ofW HT_.out HW_.out (by kernel_rfl)) (fun _ _ _ h => h) (Or.inl ⟨by rfl, ?_⟩) hHeld ?_ ?_
         rotate_left
         ·
          rintro w' ⟨s0, s1, s2, s3, s4, s5, s6, s7, s8, s9, s10, s11, s12, s13, s14, s15, s16, s17, s18, s19, s20, s21, s22, s23, s24, s25, s26⟩
          go_simp
          with_reducible rfl
         rotate_left
         ·
          exact ap_
         refine pz_ (i := 11) (N := some 41) HT_ (rl [12,4]) rfl rfl ?_
         refine take_ (i := 12) (N := some 42) (v := ?_) (a' := ?_) (rl [13,3]) rfl rfl (take_ofW HT_.out HW_.out (by kernel_rfl)) (fun _ _ _ h => h) (Or.inl ⟨by rfl, ?_⟩) hHeld ?_ ?_
         rotate_left
         ·
          rintro w' ⟨s0, s1, s2, s3, s4, s5, s6, s7, s8, s9, s10, s11, s12, s13, s14, s15, s16, s17, s18, s19, s20, s21, s22, s23, s24, s25, s26⟩
          go_simp
          with_reducible rfl
         rotate_left
         ·
          exact ap_
         refine one_ (i := 13) (N := some 43) (rl [14,2]) rfl rfl (one_of HT_.out (by kernel_rfl)) (by decide) (fun K hK => ?_)
         refine goes_ Try.func160 (by kernel_rfl) rfl #[.agg #[.int .i64 ((rd_T45 l0_5 x3_1).f0), .string ((rd_T45 l0_5 x3_1).f1), .int .i64 ((rd_T45 l0_5 x3_1).f2), .int .i64 ((rd_T45 l0_5 x3_1).f3), .int .i64 ((rd_T45 l0_5 x3_1).f4), .string ((rd_T45 l0_5 x3_1).f5), .int .i64 ((rd_T45 l0_5 x3_1).f6), .int .i64 ((rd_T45 l0_5 x3_1).f7)], .agg #[.int .i64 ((rd_T46 l0_6 t251).f0), .string ((rd_T46 l0_6 t251).f1), .int .i64 ((rd_T46 l0_6 t251).f2), .int .i64 ((rd_T46 l0_6 t251).f3), .int .i64 ((rd_T46 l0_6 t251).f4), .int .i64 ((rd_T46 l0_6 t251).f5), .int .i64 ((rd_T46 l0_6 t251).f6)]] (by rfl) rfl rfl la_ ?_
         with_reducible refine (spec_l10Lent.calls ((rd_T45 l0_5 x3_1).f0) ((rd_T45 l0_5 x3_1).f1) ((rd_T45 l0_5 x3_1).f2) ((rd_T45 l0_5 x3_1).f3) ((rd_T45 l0_5 x3_1).f4) ((rd_T45 l0_5 x3_1).f5) ((rd_T45 l0_5 x3_1).f6) ((rd_T45 l0_5 x3_1).f7) ((rd_T46 l0_6 t251).f0) ((rd_T46 l0_6 t251).f1) ((rd_T46 l0_6 t251).f2) ((rd_T46 l0_6 t251).f3) ((rd_T46 l0_6 t251).f4) ((rd_T46 l0_6 t251).f5) ((rd_T46 l0_6 t251).f6) t254 _ A13.out).mono ?_
         rintro e w18 ⟨rfl, hb⟩
         refine ⟨_, rfl, ?_⟩
         replace BK248 := am_ (blk_below (qK BK248) hb)
         replace HB := am_ (below_step (qB HB) hb)
         (try clear hb)
         refine hK.out _ _ (cw12 BK248.out ⟨(lb_ HB hw252_0 :), (lb_ HB hw252_1 :), (lb_ HB hw252_2 :), (lb_ HB hw252_3 :), (lb_ HB hw252_4 :), (lb_ HB hw252_5 :), (lb_ HB hw252_6 :), (lb_ HB hw252_7 :), (lb_ HB hw253_0 :), (lb_ HB hw253_1 :), (lb_ HB hw253_2 :), (lb_ HB hw253_3 :), (lb_ HB hw253_4 :), (lb_ HB hw253_5 :), (lb_ HB hw253_6 :)⟩) (fun hHeld => ?_)
         clear hK K
         refine norm_ (a' := ?_) ?_ ?_
         rotate_left
         ·
          show Act.put _ (some 43) _ = _
          exact ap_
         refine pz_ (i := 14) (N := some 44) HT_ (rl [15,1]) rfl rfl ?_
         refine pz_ (i := 15) (N := some 45) HT_ (rl [16]) rfl rfl ?_
         refine done_ (done_of HT_.out (by kernel_rfl)) ?_
         go_upto_if 45 with (fail)
         have H := HC14.out
         clear HC14
         by_cases c19 : t254 = true
         ·
          subst c19
          rw [if_pos rfl] at H
          have H' := Aside0.mk H
          clear H
          go_wp2
          go_roundg k1
          case measure => have := HK1.out; omega
          case rel => exact ⟨(wrap64 (x3_1 + 1)), eqq_, H', ⟨by have := HK1.out; omega⟩, ⟨qK BK248⟩, ⟨qB HB⟩⟩
         ·
          replace c19 := Bool.eq_false_iff.mpr c19
          subst c19
          rw [if_neg (show ¬ (false = true) by decide)] at H
          obtain rfl := Option.some.inj H
          go_wp2
          go_ret
          exact ⟨by first | rfl | (simp [errW_none, errW_some] <;> rfl) | (simp [*, errW_none, errW_some] <;> rfl), qB HB⟩
        ·
         rw [if_neg c12] at H
         exact absurd H (by simp)
       ·
        rw [if_neg c11] at H
        exact absurd H (by simp)
     ·
      rw [if_neg c5] at H
      have c5b0 : decide (3 ≤ ((rd_T45 l0_5 x3_1).f2)) = false := decide_eq_false c5
      clear c5
      have H' := Aside0.mk H
      clear H
      obtain ⟨z20_0, z20_1, z20_2, z20_3, z20_4, z20_5, z20_6, z20_7, z20_8, z20_9, z20_10, z20_11⟩ := cz12 BK248.out
      obtain ⟨f20_0, f20_1, f20_2, f20_3, f20_4, f20_5, f20_6, f20_7, f20_8, f20_9, f20_10, f20_11⟩ := fz12 BK248.out
      have p249 : 0 ≤ (x3_1 : Int) := od_
      have q249 : x3_1 < (l0_5.length : Int) := od_
      obtain ⟨ad249, e249, hx249_0, hx249_1, hx249_2, hx249_3, hx249_4, hx249_5, hx249_6, hx249_7⟩ := at_T45 HR0_5.out x3_1 p249 q249
      cases e249
      replace hx249_0 := lb_ HB hx249_0
      replace hx249_1 := lb_ HB hx249_1
      replace hx249_2 := lb_ HB hx249_2
      replace hx249_3 := lb_ HB hx249_3
      replace hx249_4 := lb_ HB hx249_4
      replace hx249_5 := lb_ HB hx249_5
      replace hx249_6 := lb_ HB hx249_6
      replace hx249_7 := lb_ HB hx249_7
      replace p249 := eq_true p249
      replace q249 := eq_true q249
      go_wp2
      go_roundg k1
      case measure => have := HK1.out; omega
      case rel => exact ⟨(wrap64 (x3_1 + 1)), eqq_, H', ⟨by have := HK1.out; omega⟩, ⟨qK BK248⟩, ⟨qB HB⟩⟩
    ·
     rw [if_neg c4] at H
     exact absurd H (by simp)
   ·
    rw [if_neg c3] at H
    have c3b0 : decide (x3_1 < (l0_5.length : Int)) = false := decide_eq_false c3
    clear c3
    have H' := Aside0.mk H
    clear H
    obtain ⟨z21_0, z21_1, z21_2, z21_3, z21_4, z21_5, z21_6, z21_7, z21_8, z21_9, z21_10, z21_11⟩ := cz12 BK248.out
    obtain ⟨f21_0, f21_1, f21_2, f21_3, f21_4, f21_5, f21_6, f21_7, f21_8, f21_9, f21_10, f21_11⟩ := fz12 BK248.out
    go_wp2
    go_loopg [5] k1 (fun kq v5 w' => ∃ (x5_2 : Int), v5 = .int .i64 x5_2 ∧ Aside0 (spec_l10Pairs.l1 kq x5_2 a0_0 a0_1 a0_2 l0_3 a0_4 l0_5 l0_6 a0_7 a0_8 a0_9 a0_10 a0_11 = some r) ∧ Aside0 (kq ≤ k1) ∧ Aside0 (w'.heap[gb248]? = some (.cells #[.int .i64 a0_0, .int .i64 a0_1, .int .i64 a0_2, (.slice A0_3 l0_3.length c0_3), .bool a0_4, (.slice A0_5 l0_5.length c0_5), (.slice A0_6 l0_6.length c0_6), .int .i64 a0_7, .int .i64 a0_8, .int .i64 a0_9, .int .i64 a0_10, .int .i64 a0_11] 67 (0, 0))) ∧ Aside0 (Below w.heap.size w w'))
    case atStart => exact ⟨(0), eqq_, H', ⟨Nat.le_refl _⟩, ⟨qK BK248⟩, ⟨qB HB⟩⟩
    case round =>
     clear H'
     try clear c1
     try clear p2
     try clear q2
     try clear hx2
     try clear c3
     try clear c3b0
     try clear c4
     try clear c5
     try clear c5b0
     try clear p6
     try clear c7
     try clear c7b0
     try clear c11
     try clear c11b0
     try clear c12
     try clear c12b0
     try clear c15
     try clear c16
     try clear c19
     (try clear z15_0 z15_1 z15_10 z15_11 z15_2 z15_3 z15_4 z15_5 z15_6 z15_7 z15_8 z15_9)
     (try clear z20_0 z20_1 z20_10 z20_11 z20_2 z20_3 z20_4 z20_5 z20_6 z20_7 z20_8 z20_9)
     (try clear z21_0 z21_1 z21_10 z21_11 z21_2 z21_3 z21_4 z21_5 z21_6 z21_7 z21_8 z21_9)
     (try clear f15_0 f15_1 f15_10 f15_11 f15_2 f15_3 f15_4 f15_5 f15_6 f15_7 f15_8 f15_9)
     (try clear f20_0 f20_1 f20_10 f20_11 f20_2 f20_3 f20_4 f20_5 f20_6 f20_7 f20_8 f20_9)
     (try clear f21_0 f21_1 f21_10 f21_11 f21_2 f21_3 f21_4 f21_5 f21_6 f21_7 f21_8 f21_9)
     try clear hx249_0
     try clear hx249_1
     try clear hx249_2
     try clear hx249_3
     try clear hx249_4
     try clear hx249_5
     try clear hx249_6
     try clear hx249_7
     try clear hx250_0
     try clear hx250_1
     try clear hx250_2
     try clear hx250_3
     try clear hx250_4
     try clear hx250_5
     try clear hx250_6
     try clear hx250_7
     try clear hx252_0
     try clear hx252_1
     try clear hx252_2
     try clear hx252_3
     try clear hx252_4
     try clear hx252_5
     try clear hx252_6
     try clear hx252_7
     try clear hx253_0
     try clear hx253_1
     try clear hx253_2
     try clear hx253_3
     try clear hx253_4
     try clear hx253_5
     try clear hx253_6
     try clear p249
     try clear p250
     try clear p252
     try clear p253
     try clear q249
     try clear q250
     try clear q252
     try clear q253
     obtain ⟨x5_2, rfl, HA, HK2, BK248, HB⟩ := hrel
     cases gk with
     | zero => exact absurd HA.out (by simp [spec_l10Pairs.l1])
     | succ k2 =>
      have H := HA.out
      clear HA
      simp only [spec_l10Pairs.l1] at H
      by_cases c22 : x5_2 < (l0_6.length : Int)
      ·
       rw [if_pos c22] at H
       have c22b0 : decide (x5_2 < (l0_6.length : Int)) = true := decide_eq_true c22
       clear c22
       by_cases c23 : 0 ≤ x5_2
       ·
        rw [if_pos c23] at H
        have c23b0 : decide (0 ≤ x5_2) = true := decide_eq_true c23
        clear c23
        by_cases c24 : ((rd_T46 l0_6 x5_2).f3) = 0
        ·
         rw [if_pos c24] at H
         have c24b0 : (((rd_T46 l0_6 x5_2).f3) == 0) = true := beq_iff_eq.mpr c24
         have c24b1 : (((rd_T46 l0_6 x5_2).f3) != 0) = false := bne_eq_false_iff_eq.mpr c24
         clear c24
         have H' := Aside0.mk H
         clear H
         obtain ⟨z25_0, z25_1, z25_2, z25_3, z25_4, z25_5, z25_6, z25_7, z25_8, z25_9, z25_10, z25_11⟩ := cz12 BK248.out
         obtain ⟨f25_0, f25_1, f25_2, f25_3, f25_4, f25_5, f25_6, f25_7, f25_8, f25_9, f25_10, f25_11⟩ := fz12 BK248.out
         have p255 : 0 ≤ (x5_2 : Int) := od_
         have q255 : x5_2 < (l0_6.length : Int) := od_
         obtain ⟨ad255, e255, hx255_0, hx255_1, hx255_2, hx255_3, hx255_4, hx255_5, hx255_6⟩ := at_T46 HR0_6.out x5_2 p255 q255
         cases e255
         replace hx255_0 := lb_ HB hx255_0
         replace hx255_1 := lb_ HB hx255_1
         replace hx255_2 := lb_ HB hx255_2
         replace hx255_3 := lb_ HB hx255_3
         replace hx255_4 := lb_ HB hx255_4
         replace hx255_5 := lb_ HB hx255_5
         replace hx255_6 := lb_ HB hx255_6
         replace p255 := eq_true p255
         replace q255 := eq_true q255
         go_wp2
         go_roundg k2
         case measure => have := HK1.out; have := HK2.out; omega
         case rel => exact ⟨(wrap64 (x5_2 + 1)), eqq_, H', ⟨by have := HK1.out; have := HK2.out; omega⟩, ⟨qK BK248⟩, ⟨qB HB⟩⟩
        ·
         rw [if_neg c24] at H
         have c24b0 : (((rd_T46 l0_6 x5_2).f3) == 0) = false := beq_eq_false_iff_ne.mpr c24
         have c24b1 : (((rd_T46 l0_6 x5_2).f3) != 0) = true := bne_iff_ne.mpr c24
         obtain ⟨t257, A26, H⟩ := bd_ H
         by_cases c27 : t257 < 0
         ·
          rw [if_pos c27] at H
          have c27b0 : decide (t257 < 0) = true := decide_eq_true c27
          clear c27
          obtain rfl := Option.some.inj H
          obtain ⟨z28_0, z28_1, z28_2, z28_3, z28_4, z28_5, z28_6, z28_7, z28_8, z28_9, z28_10, z28_11⟩ := cz12 BK248.out
          obtain ⟨f28_0, f28_1, f28_2, f28_3, f28_4, f28_5, f28_6, f28_7, f28_8, f28_9, f28_10, f28_11⟩ := fz12 BK248.out
          have p255 : 0 ≤ (x5_2 : Int) := od_
          have q255 : x5_2 < (l0_6.length : Int) := od_
          obtain ⟨ad255, e255, hx255_0, hx255_1, hx255_2, hx255_3, hx255_4, hx255_5, hx255_6⟩ := at_T46 HR0_6.out x5_2 p255 q255
          cases e255
          replace hx255_0 := lb_ HB hx255_0
          replace hx255_1 := lb_ HB hx255_1
          replace hx255_2 := lb_ HB hx255_2
          replace hx255_3 := lb_ HB hx255_3
          replace hx255_4 := lb_ HB hx255_4
          replace hx255_5 := lb_ HB hx255_5
          replace hx255_6 := lb_ HB hx255_6
          replace p255 := eq_true p255
          replace q255 := eq_true q255
          try go_wp2
          replace BK248 := am_ (blk_drew BK248.out)
          replace HB := am_ (below_drew1 HB.out)
          have p256 : 0 ≤ (x5_2 : Int) := od_
          have q256 : x5_2 < (l0_6.length : Int) := od_
          obtain ⟨ad256, e256, hx256_0, hx256_1, hx256_2, hx256_3, hx256_4, hx256_5, hx256_6⟩ := at_T46 HR0_6.out x5_2 p256 q256
          have hw256_6 := hx256_6
          have hw256_5 := hx256_5
          have hw256_4 := hx256_4
          have hw256_3 := hx256_3
          have hw256_2 := hx256_2
          have hw256_1 := hx256_1
          have hw256_0 := hx256_0
          obtain rfl : ad255 = ad256 := (by injection e256)
          replace hx256_0 := lb_ HB hx256_0
          replace hx256_1 := lb_ HB hx256_1
          replace hx256_2 := lb_ HB hx256_2
          replace hx256_3 := lb_ HB hx256_3
          replace hx256_4 := lb_ HB hx256_4
          replace hx256_5 := lb_ HB hx256_5
          replace hx256_6 := lb_ HB hx256_6
          replace p256 := eq_true p256
          replace q256 := eq_true q256
          refine start_ (n := 10) (S := fun w' => w'.cell? ⟨gb248, 0, none⟩ = some (.int .i64 a0_0) ∧ w'.cell? ⟨gb248, 1, none⟩ = some (.int .i64 a0_1) ∧ w'.cell? ⟨gb248, 2, none⟩ = some (.int .i64 a0_2) ∧ w'.cell? ⟨gb248, 3, none⟩ = some (.slice A0_3 l0_3.length c0_3) ∧ w'.cell? ⟨gb248, 4, none⟩ = some (.bool a0_4) ∧ w'.cell? ⟨gb248, 5, none⟩ = some (.slice A0_5 l0_5.length c0_5) ∧ w'.cell? ⟨gb248, 6, none⟩ = some (.slice (some ad255) l0_6.length c0_6) ∧ w'.cell? ⟨gb248, 7, none⟩ = some (.int .i64 a0_7) ∧ w'.cell? ⟨gb248, 8, none⟩ = some (.int .i64 a0_8) ∧ w'.cell? ⟨gb248, 9, none⟩ = some (.int .i64 a0_9) ∧ w'.cell? ⟨gb248, 10, none⟩ = some (.int .i64 a0_10) ∧ w'.cell? ⟨gb248, 11, none⟩ = some (.int .i64 a0_11) ∧ w'.cell? (ad255.add ((x5_2).toNat * 7)) = some (.int .i64 ((rd_T46 l0_6 x5_2).f0)) ∧ w'.cell? ⟨(ad255.add ((x5_2).toNat * 7)).block, (ad255.add ((x5_2).toNat * 7)).off + 1, none⟩ = some (.string ((rd_T46 l0_6 x5_2).f1)) ∧ w'.cell? ⟨(ad255.add ((x5_2).toNat * 7)).block, (ad255.add ((x5_2).toNat * 7)).off + 2, none⟩ = some (.int .i64 ((rd_T46 l0_6 x5_2).f2)) ∧ w'.cell? ⟨(ad255.add ((x5_2).toNat * 7)).block, (ad255.add ((x5_2).toNat * 7)).off + 3, none⟩ = some (.int .i64 ((rd_T46 l0_6 x5_2).f3)) ∧ w'.cell? ⟨(ad255.add ((x5_2).toNat * 7)).block, (ad255.add ((x5_2).toNat * 7)).off + 4, none⟩ = some (.int .i64 ((rd_T46 l0_6 x5_2).f4)) ∧ w'.cell? ⟨(ad255.add ((x5_2).toNat * 7)).block, (ad255.add ((x5_2).toNat * 7)).off + 5, none⟩ = some (.int .i64 ((rd_T46 l0_6 x5_2).f5)) ∧ w'.cell? ⟨(ad255.add ((x5_2).toNat * 7)).block, (ad255.add ((x5_2).toNat * 7)).off + 6, none⟩ = some (.int .i64 ((rd_T46 l0_6 x5_2).f6))) (ds := []) #[oo,oo,oo,oo,oo,oo,oo,oo,oo,oo] (by kernel_rfl) rfl rfl (cw12 BK248.out ⟨(lb_ HB hw256_0 :), (lb_ HB hw256_1 :), (lb_ HB hw256_2 :), (lb_ HB hw256_3 :), (lb_ HB hw256_4 :), (lb_ HB hw256_5 :), (lb_ HB hw256_6 :)⟩) (fun hHeld => ?_); refine with_tabW spec_l10Pairs.tab12 spec_l10Pairs.bits12 (fun HT_ HW_ => ?_)
          generalize wr.drew = w29 at BK248 HB hx256_0 hx256_1 hx256_2 hx256_3 hx256_4 hx256_5 hx256_6 hHeld ⊢
          refine pz_ (i := 0) (N := some 60) HT_ #[ii,oo,oo,oo,oo,oo,oo,oo,oo,oo] rfl rfl ?_
          refine pz_ (i := 2) (N := some 62) HT_ #[ii,oo,ii,oo,oo,oo,oo,oo,oo,oo] rfl rfl ?_
          refine pz_ (i := 4) (N := some 64) HT_ #[ii,oo,ii,oo,ii,oo,oo,oo,oo,oo] rfl rfl ?_
          refine take_ (i := 1) (N := some 61) (v := ?_) (a' := ?_) #[ii,ii,ii,oo,ii,oo,oo,oo,oo,oo] rfl rfl (take_ofW HT_.out HW_.out (by kernel_rfl)) (fun _ _ _ h => h) (Or.inl ⟨by rfl, ?_⟩) hHeld ?_ ?_
          rotate_left
          ·
           rintro w' ⟨s0, s1, s2, s3, s4, s5, s6, s7, s8, s9, s10, s11, s12, s13, s14, s15, s16, s17, s18⟩
           go_simp
           with_reducible rfl
          rotate_left
          ·
           exact ap_
          refine take_ (i := 3) (N := some 63) (v := ?_) (a' := ?_) #[ii,ii,ii,ii,ii,oo,oo,oo,oo,oo] rfl rfl (take_ofW HT_.out HW_.out (by kernel_rfl)) (fun _ _ _ h => h) (Or.inl ⟨by rfl, ?_⟩) hHeld ?_ ?_
          rotate_left
          ·
           rintro w' ⟨s0, s1, s2, s3, s4, s5, s6, s7, s8, s9, s10, s11, s12, s13, s14, s15, s16, s17, s18⟩
           go_simp
           with_reducible rfl
          rotate_left
          ·
           exact ap_
          refine pz_ (i := 5) (N := some 65) HT_ #[ii,ii,ii,ii,ii,ii,oo,oo,oo,oo] rfl rfl ?_
          refine pz_ (i := 6) (N := some 66) HT_ #[ii,ii,ii,ii,ii,ii,ii,oo,oo,oo] rfl rfl ?_
          refine take_ (i := 7) (N := some 67) (v := ?_) (a' := ?_) #[ii,ii,ii,ii,ii,ii,ii,ii,oo,oo] rfl rfl (take_ofW HT_.out HW_.out (by kernel_rfl)) (fun _ _ _ h => h) (Or.inl ⟨by rfl, ?_⟩) hHeld ?_ ?_
          rotate_left
          ·
           rintro w' ⟨s0, s1, s2, s3, s4, s5, s6, s7, s8, s9, s10, s11, s12, s13, s14, s15, s16, s17, s18⟩
           go_simp
           with_reducible rfl
          rotate_left
          ·
           exact ap_
          refine one_ (i := 8) (N := some 68) #[ii,ii,ii,ii,ii,ii,ii,ii,ii,oo] rfl rfl (one_of HT_.out (by kernel_rfl)) (by decide) (fun K hK => ?_)
          refine goes_ Try.func161 (by kernel_rfl) rfl #[.slice A0_5 l0_5.length c0_5, .int .i64 ((rd_T46 l0_6 x5_2).f5)] (by rfl) rfl rfl la_ ?_
          with_reducible refine (spec_AskerAt.calls k2 _ _ l0_5 ((rd_T46 l0_6 x5_2).f5) t257 _ ?side1 ?side2 A26.out).mono ?_
          (case side1 => exact qC (Kd.C_below HR0_5.out HB.out))
          (case side2 => exact HC0_5.out)
          rintro e w' ⟨rfl, ⟨nd, rfl⟩⟩
          refine ⟨_, rfl, ?_⟩
          refine hK.out _ _ (cw12 BK248.out ⟨(lb_ HB hw256_0 :), (lb_ HB hw256_1 :), (lb_ HB hw256_2 :), (lb_ HB hw256_3 :), (lb_ HB hw256_4 :), (lb_ HB hw256_5 :), (lb_ HB hw256_6 :)⟩) (fun hHeld => ?_)
          clear hK K
          refine norm_ (a' := ?_) ?_ ?_
          rotate_left
          ·
           show Act.put _ (some 68) _ = _
           exact ap_
          refine pz_ (i := 9) (N := some 6) HT_ #[ii,ii,ii,ii,ii,ii,ii,ii,ii,ii] rfl rfl ?_
          refine done_ (done_of HT_.out (by kernel_rfl)) ?_
          try go_wp2
          (try (rw [drewN_self w29]; generalize hq_ : World.drewN w29 _ = w29; have n0_ : Aside0 (w29.heap[gb248]? = some (.cells #[.int .i64 a0_0, .int .i64 a0_1, .int .i64 a0_2, .slice A0_3 l0_3.length c0_3, .bool a0_4, .slice A0_5 l0_5.length c0_5, .slice (some ad255) l0_6.length c0_6, .int .i64 a0_7, .int .i64 a0_8, .int .i64 a0_9, .int .i64 a0_10, .int .i64 a0_11] 67 (0, 0))) := ⟨by rw [← hq_]; exact (qK BK248)⟩; have n1_ : Aside0 (Below w.heap.size w w29) := ⟨by rw [← hq_]; exact (qB HB)⟩; clear BK248 HB hq_; have BK248 := n0_; have HB := n1_; clear n0_ n1_))
          replace BK248 := am_ (blk_drew BK248.out)
          replace HB := am_ (below_drew1 HB.out)
          refine start_ (n := 16) (S := fun w' => True) (ds := []) (rl [0,16]) (by kernel_rfl) rfl rfl trivial (fun hHeld => ?_); refine with_tabW spec_l10Pairs.tab13 spec_l10Pairs.bits13 (fun HT_ HW_ => ?_)
          generalize w29.drew = w30 at BK248 HB hHeld ⊢
          refine pz_ (i := 0) (N := some 69) HT_ (rl [1,15]) rfl rfl ?_
          refine pz_ (i := 1) (N := some 70) HT_ (rl [2,14]) rfl rfl ?_
          refine pz_ (i := 2) (N := some 71) HT_ (rl [3,13]) rfl rfl ?_
          refine pu_ (i := 3) (N := some 72) HT_ (rl [4,12]) rfl rfl ?_
          refine pu_ (i := 4) (N := some 73) HT_ (rl [5,11]) rfl rfl ?_
          refine pu_ (i := 5) (N := some 74) HT_ (rl [6,10]) rfl rfl ?_
          refine pu_ (i := 6) (N := some 75) HT_ (rl [7,9]) rfl rfl ?_
          refine pu_ (i := 7) (N := some 76) HT_ (rl [8,8]) rfl rfl ?_
          refine pu_ (i := 8) (N := some 77) HT_ (rl [9,7]) rfl rfl ?_
          refine pu_ (i := 9) (N := some 78) HT_ (rl [10,6]) rfl rfl ?_
          refine pu_ (i := 10) (N := some 79) HT_ (rl [11,5]) rfl rfl ?_
          refine pu_ (i := 11) (N := some 80) HT_ (rl [12,4]) rfl rfl ?_
          refine pu_ (i := 12) (N := some 81) HT_ (rl [13,3]) rfl rfl ?_
          refine pu_ (i := 13) (N := some 82) HT_ (rl [14,2]) rfl rfl ?_
          refine pu_ (i := 14) (N := some 83) HT_ (rl [15,1]) rfl rfl ?_
          refine pz_ (i := 15) (N := some 84) HT_ (rl [16]) rfl rfl ?_
          refine done_ (done_of HT_.out (by kernel_rfl)) ?_
          try go_wp2
          go_ret
          exact ⟨by first | rfl | (simp [errW_none, errW_some] <;> rfl) | (simp [*, errW_none, errW_some] <;> rfl), qB HB⟩
         ·
          rw [if_neg c27] at H
          have c27b0 : decide (t257 < 0) = false := decide_eq_false c27
          clear c27
          by_cases c31 : 0 ≤ t257
          ·
           rw [if_pos c31] at H
           have c31b0 : decide (0 ≤ t257) = true := decide_eq_true c31
           clear c31
           by_cases c32 : t257 < (l0_5.length : Int)
           ·
            rw [if_pos c32] at H
            have c32b0 : decide (t257 < (l0_5.length : Int)) = true := decide_eq_true c32
            clear c32
            obtain ⟨t260, A33, H⟩ := bd_ H
            have HC34 := Aside0.mk H
            clear H
            obtain ⟨z35_0, z35_1, z35_2, z35_3, z35_4, z35_5, z35_6, z35_7, z35_8, z35_9, z35_10, z35_11⟩ := cz12 BK248.out
            obtain ⟨f35_0, f35_1, f35_2, f35_3, f35_4, f35_5, f35_6, f35_7, f35_8, f35_9, f35_10, f35_11⟩ := fz12 BK248.out
            have p255 : 0 ≤ (x5_2 : Int) := od_
            have q255 : x5_2 < (l0_6.length : Int) := od_
            obtain ⟨ad255, e255, hx255_0, hx255_1, hx255_2, hx255_3, hx255_4, hx255_5, hx255_6⟩ := at_T46 HR0_6.out x5_2 p255 q255
            cases e255
            replace hx255_0 := lb_ HB hx255_0
            replace hx255_1 := lb_ HB hx255_1
            replace hx255_2 := lb_ HB hx255_2
            replace hx255_3 := lb_ HB hx255_3
            replace hx255_4 := lb_ HB hx255_4
            replace hx255_5 := lb_ HB hx255_5
            replace hx255_6 := lb_ HB hx255_6
            replace p255 := eq_true p255
            replace q255 := eq_true q255
            try go_wp2
            replace BK248 := am_ (blk_drew BK248.out)
            replace HB := am_ (below_drew1 HB.out)
            have p256 : 0 ≤ (x5_2 : Int) := od_
            have q256 : x5_2 < (l0_6.length : Int) := od_
            obtain ⟨ad256, e256, hx256_0, hx256_1, hx256_2, hx256_3, hx256_4, hx256_5, hx256_6⟩ := at_T46 HR0_6.out x5_2 p256 q256
            have hw256_6 := hx256_6
            have hw256_5 := hx256_5
            have hw256_4 := hx256_4
            have hw256_3 := hx256_3
            have hw256_2 := hx256_2
            have hw256_1 := hx256_1
            have hw256_0 := hx256_0
            obtain rfl : ad255 = ad256 := (by injection e256)
            replace hx256_0 := lb_ HB hx256_0
            replace hx256_1 := lb_ HB hx256_1
            replace hx256_2 := lb_ HB hx256_2
            replace hx256_3 := lb_ HB hx256_3
            replace hx256_4 := lb_ HB hx256_4
            replace hx256_5 := lb_ HB hx256_5
            replace hx256_6 := lb_ HB hx256_6
            replace p256 := eq_true p256
            replace q256 := eq_true q256
            refine start_ (n := 10) (S := fun w' => w'.cell? ⟨gb248, 0, none⟩ = some (.int .i64 a0_0) ∧ w'.cell? ⟨gb248, 1, none⟩ = some (.int .i64 a0_1) ∧ w'.cell? ⟨gb248, 2, none⟩ = some (.int .i64 a0_2) ∧ w'.cell? ⟨gb248, 3, none⟩ = some (.slice A0_3 l0_3.length c0_3) ∧ w'.cell? ⟨gb248, 4, none⟩ = some (.bool a0_4) ∧ w'.cell? ⟨gb248, 5, none⟩ = some (.slice A0_5 l0_5.length c0_5) ∧ w'.cell? ⟨gb248, 6, none⟩ = some (.slice (some ad255) l0_6.length c0_6) ∧ w'.cell? ⟨gb248, 7, none⟩ = some (.int .i64 a0_7) ∧ w'.cell? ⟨gb248, 8, none⟩ = some (.int .i64 a0_8) ∧ w'.cell? ⟨gb248, 9, none⟩ = some (.int .i64 a0_9) ∧ w'.cell? ⟨gb248, 10, none⟩ = some (.int .i64 a0_10) ∧ w'.cell? ⟨gb248, 11, none⟩ = some (.int .i64 a0_11) ∧ w'.cell? (ad255.add ((x5_2).toNat * 7)) = some (.int .i64 ((rd_T46 l0_6 x5_2).f0)) ∧ w'.cell? ⟨(ad255.add ((x5_2).toNat * 7)).block, (ad255.add ((x5_2).toNat * 7)).off + 1, none⟩ = some (.string ((rd_T46 l0_6 x5_2).f1)) ∧ w'.cell? ⟨(ad255.add ((x5_2).toNat * 7)).block, (ad255.add ((x5_2).toNat * 7)).off + 2, none⟩ = some (.int .i64 ((rd_T46 l0_6 x5_2).f2)) ∧ w'.cell? ⟨(ad255.add ((x5_2).toNat * 7)).block, (ad255.add ((x5_2).toNat * 7)).off + 3, none⟩ = some (.int .i64 ((rd_T46 l0_6 x5_2).f3)) ∧ w'.cell? ⟨(ad255.add ((x5_2).toNat * 7)).block, (ad255.add ((x5_2).toNat * 7)).off + 4, none⟩ = some (.int .i64 ((rd_T46 l0_6 x5_2).f4)) ∧ w'.cell? ⟨(ad255.add ((x5_2).toNat * 7)).block, (ad255.add ((x5_2).toNat * 7)).off + 5, none⟩ = some (.int .i64 ((rd_T46 l0_6 x5_2).f5)) ∧ w'.cell? ⟨(ad255.add ((x5_2).toNat * 7)).block, (ad255.add ((x5_2).toNat * 7)).off + 6, none⟩ = some (.int .i64 ((rd_T46 l0_6 x5_2).f6))) (ds := []) #[oo,oo,oo,oo,oo,oo,oo,oo,oo,oo] (by kernel_rfl) rfl rfl (cw12 BK248.out ⟨(lb_ HB hw256_0 :), (lb_ HB hw256_1 :), (lb_ HB hw256_2 :), (lb_ HB hw256_3 :), (lb_ HB hw256_4 :), (lb_ HB hw256_5 :), (lb_ HB hw256_6 :)⟩) (fun hHeld => ?_); refine with_tabW spec_l10Pairs.tab12 spec_l10Pairs.bits12 (fun HT_ HW_ => ?_)
            generalize wr.drew = w36 at BK248 HB hx256_0 hx256_1 hx256_2 hx256_3 hx256_4 hx256_5 hx256_6 hHeld ⊢
            refine pz_ (i := 0) (N := some 60) HT_ #[ii,oo,oo,oo,oo,oo,oo,oo,oo,oo] rfl rfl ?_
            refine pz_ (i := 2) (N := some 62) HT_ #[ii,oo,ii,oo,oo,oo,oo,oo,oo,oo] rfl rfl ?_
            refine pz_ (i := 4) (N := some 64) HT_ #[ii,oo,ii,oo,ii,oo,oo,oo,oo,oo] rfl rfl ?_
            refine take_ (i := 1) (N := some 61) (v := ?_) (a' := ?_) #[ii,ii,ii,oo,ii,oo,oo,oo,oo,oo] rfl rfl (take_ofW HT_.out HW_.out (by kernel_rfl)) (fun _ _ _ h => h) (Or.inl ⟨by rfl, ?_⟩) hHeld ?_ ?_
            rotate_left
            ·
             rintro w' ⟨s0, s1, s2, s3, s4, s5, s6, s7, s8, s9, s10, s11, s12, s13, s14, s15, s16, s17, s18⟩
             go_simp
             with_reducible rfl
            rotate_left
            ·
             exact ap_
            refine take_ (i := 3) (N := some 63) (v := ?_) (a' := ?_) #[ii,ii,ii,ii,ii,oo,oo,oo,oo,oo] rfl rfl (take_ofW HT_.out HW_.out (by kernel_rfl)) (fun _ _ _ h => h) (Or.inl ⟨by rfl, ?_⟩) hHeld ?_ ?_
            rotate_left
            ·
             rintro w' ⟨s0, s1, s2, s3, s4, s5, s6, s7, s8, s9, s10, s11, s12, s13, s14, s15, s16, s17, s18⟩
             go_simp
             with_reducible rfl
            rotate_left
            ·
             exact ap_
            refine pz_ (i := 5) (N := some 65) HT_ #[ii,ii,ii,ii,ii,ii,oo,oo,oo,oo] rfl rfl ?_
            refine pz_ (i := 6) (N := some 66) HT_ #[ii,ii,ii,ii,ii,ii,ii,oo,oo,oo] rfl rfl ?_
            refine take_ (i := 7) (N := some 67) (v := ?_) (a' := ?_) #[ii,ii,ii,ii,ii,ii,ii,ii,oo,oo] rfl rfl (take_ofW HT_.out HW_.out (by kernel_rfl)) (fun _ _ _ h => h) (Or.inl ⟨by rfl, ?_⟩) hHeld ?_ ?_
            rotate_left
            ·
             rintro w' ⟨s0, s1, s2, s3, s4, s5, s6, s7, s8, s9, s10, s11, s12, s13, s14, s15, s16, s17, s18⟩
             go_simp
             with_reducible rfl
            rotate_left
            ·
             exact ap_
            refine one_ (i := 8) (N := some 68) #[ii,ii,ii,ii,ii,ii,ii,ii,ii,oo] rfl rfl (one_of HT_.out (by kernel_rfl)) (by decide) (fun K hK => ?_)
            refine goes_ Try.func161 (by kernel_rfl) rfl #[.slice A0_5 l0_5.length c0_5, .int .i64 ((rd_T46 l0_6 x5_2).f5)] (by rfl) rfl rfl la_ ?_
            with_reducible refine (spec_AskerAt.calls k2 _ _ l0_5 ((rd_T46 l0_6 x5_2).f5) t257 _ ?side1 ?side2 A26.out).mono ?_
            (case side1 => exact qC (Kd.C_below HR0_5.out HB.out))
            (case side2 => exact HC0_5.out)
            rintro e w' ⟨rfl, ⟨nd, rfl⟩⟩
            refine ⟨_, rfl, ?_⟩
            refine hK.out _ _ (cw12 BK248.out ⟨(lb_ HB hw256_0 :), (lb_ HB hw256_1 :), (lb_ HB hw256_2 :), (lb_ HB hw256_3 :), (lb_ HB hw256_4 :), (lb_ HB hw256_5 :), (lb_ HB hw256_6 :)⟩) (fun hHeld => ?_)
            clear hK K
            refine norm_ (a' := ?_) ?_ ?_
            rotate_left
            ·
             show Act.put _ (some 68) _ = _
             exact ap_
            refine pz_ (i := 9) (N := some 6) HT_ #[ii,ii,ii,ii,ii,ii,ii,ii,ii,ii] rfl rfl ?_
            refine done_ (done_of HT_.out (by kernel_rfl)) ?_
            try go_wp2
            (try (rw [drewN_self w36]; generalize hq_ : World.drewN w36 _ = w36; have n0_ : Aside0 (w36.heap[gb248]? = some (.cells #[.int .i64 a0_0, .int .i64 a0_1, .int .i64 a0_2, .slice A0_3 l0_3.length c0_3, .bool a0_4, .slice A0_5 l0_5.length c0_5, .slice (some ad255) l0_6.length c0_6, .int .i64 a0_7, .int .i64 a0_8, .int .i64 a0_9, .int .i64 a0_10, .int .i64 a0_11] 67 (0, 0))) := ⟨by rw [← hq_]; exact (qK BK248)⟩; have n1_ : Aside0 (Below w.heap.size w w36) := ⟨by rw [← hq_]; exact (qB HB)⟩; clear BK248 HB hq_; have BK248 := n0_; have HB := n1_; clear n0_ n1_))
            replace BK248 := am_ (blk_drew BK248.out)
            replace HB := am_ (below_drew1 HB.out)
            have p258 : 0 ≤ (t257 : Int) := od_
            have q258 : t257 < (l0_5.length : Int) := od_
            obtain ⟨ad258, e258, hx258_0, hx258_1, hx258_2, hx258_3, hx258_4, hx258_5, hx258_6, hx258_7⟩ := at_T45 HR0_5.out t257 p258 q258
            have hw258_7 := hx258_7
            have hw258_6 := hx258_6
            have hw258_5 := hx258_5
            have hw258_4 := hx258_4
            have hw258_3 := hx258_3
            have hw258_2 := hx258_2
            have hw258_1 := hx258_1
            have hw258_0 := hx258_0
            cases e258
            replace hx258_0 := lb_ HB hx258_0
            replace hx258_1 := lb_ HB hx258_1
            replace hx258_2 := lb_ HB hx258_2
            replace hx258_3 := lb_ HB hx258_3
            replace hx258_4 := lb_ HB hx258_4
            replace hx258_5 := lb_ HB hx258_5
            replace hx258_6 := lb_ HB hx258_6
            replace hx258_7 := lb_ HB hx258_7
            replace p258 := eq_true p258
            replace q258 := eq_true q258
            have p259 : 0 ≤ (x5_2 : Int) := od_
            have q259 : x5_2 < (l0_6.length : Int) := od_
            obtain ⟨ad259, e259, hx259_0, hx259_1, hx259_2, hx259_3, hx259_4, hx259_5, hx259_6⟩ := at_T46 HR0_6.out x5_2 p259 q259
            have hw259_6 := hx259_6
            have hw259_5 := hx259_5
            have hw259_4 := hx259_4
            have hw259_3 := hx259_3
            have hw259_2 := hx259_2
            have hw259_1 := hx259_1
            have hw259_0 := hx259_0
            obtain rfl : ad255 = ad259 := (by injection e259)
            replace hx259_0 := lb_ HB hx259_0
            replace hx259_1 := lb_ HB hx259_1
            replace hx259_2 := lb_ HB hx259_2
            replace hx259_3 := lb_ HB hx259_3
            replace hx259_4 := lb_ HB hx259_4
            replace hx259_5 := lb_ HB hx259_5
            replace hx259_6 := lb_ HB hx259_6
            replace p259 := eq_true p259
            replace q259 := eq_true q259
            refine start_ (n := 16) (S := fun w' => w'.cell? ⟨gb248, 0, none⟩ = some (.int .i64 a0_0) ∧ w'.cell? ⟨gb248, 1, none⟩ = some (.int .i64 a0_1) ∧ w'.cell? ⟨gb248, 2, none⟩ = some (.int .i64 a0_2) ∧ w'.cell? ⟨gb248, 3, none⟩ = some (.slice A0_3 l0_3.length c0_3) ∧ w'.cell? ⟨gb248, 4, none⟩ = some (.bool a0_4) ∧ w'.cell? ⟨gb248, 5, none⟩ = some (.slice (some ad258) l0_5.length c0_5) ∧ w'.cell? ⟨gb248, 6, none⟩ = some (.slice (some ad255) l0_6.length c0_6) ∧ w'.cell? ⟨gb248, 7, none⟩ = some (.int .i64 a0_7) ∧ w'.cell? ⟨gb248, 8, none⟩ = some (.int .i64 a0_8) ∧ w'.cell? ⟨gb248, 9, none⟩ = some (.int .i64 a0_9) ∧ w'.cell? ⟨gb248, 10, none⟩ = some (.int .i64 a0_10) ∧ w'.cell? ⟨gb248, 11, none⟩ = some (.int .i64 a0_11) ∧ w'.cell? (ad258.add ((t257).toNat * 8)) = some (.int .i64 ((rd_T45 l0_5 t257).f0)) ∧ w'.cell? ⟨(ad258.add ((t257).toNat * 8)).block, (ad258.add ((t257).toNat * 8)).off + 1, none⟩ = some (.string ((rd_T45 l0_5 t257).f1)) ∧ w'.cell? ⟨(ad258.add ((t257).toNat * 8)).block, (ad258.add ((t257).toNat * 8)).off + 2, none⟩ = some (.int .i64 ((rd_T45 l0_5 t257).f2)) ∧ w'.cell? ⟨(ad258.add ((t257).toNat * 8)).block, (ad258.add ((t257).toNat * 8)).off + 3, none⟩ = some (.int .i64 ((rd_T45 l0_5 t257).f3)) ∧ w'.cell? ⟨(ad258.add ((t257).toNat * 8)).block, (ad258.add ((t257).toNat * 8)).off + 4, none⟩ = some (.int .i64 ((rd_T45 l0_5 t257).f4)) ∧ w'.cell? ⟨(ad258.add ((t257).toNat * 8)).block, (ad258.add ((t257).toNat * 8)).off + 5, none⟩ = some (.string ((rd_T45 l0_5 t257).f5)) ∧ w'.cell? ⟨(ad258.add ((t257).toNat * 8)).block, (ad258.add ((t257).toNat * 8)).off + 6, none⟩ = some (.int .i64 ((rd_T45 l0_5 t257).f6)) ∧ w'.cell? ⟨(ad258.add ((t257).toNat * 8)).block, (ad258.add ((t257).toNat * 8)).off + 7, none⟩ = some (.int .i64 ((rd_T45 l0_5 t257).f7)) ∧ w'.cell? (ad255.add ((x5_2).toNat * 7)) = some (.int .i64 ((rd_T46 l0_6 x5_2).f0)) ∧ w'.cell? ⟨(ad255.add ((x5_2).toNat * 7)).block, (ad255.add ((x5_2).toNat * 7)).off + 1, none⟩ = some (.string ((rd_T46 l0_6 x5_2).f1)) ∧ w'.cell? ⟨(ad255.add ((x5_2).toNat * 7)).block, (ad255.add ((x5_2).toNat * 7)).off + 2, none⟩ = some (.int .i64 ((rd_T46 l0_6 x5_2).f2)) ∧ w'.cell? ⟨(ad255.add ((x5_2).toNat * 7)).block, (ad255.add ((x5_2).toNat * 7)).off + 3, none⟩ = some (.int .i64 ((rd_T46 l0_6 x5_2).f3)) ∧ w'.cell? ⟨(ad255.add ((x5_2).toNat * 7)).block, (ad255.add ((x5_2).toNat * 7)).off + 4, none⟩ = some (.int .i64 ((rd_T46 l0_6 x5_2).f4)) ∧ w'.cell? ⟨(ad255.add ((x5_2).toNat * 7)).block, (ad255.add ((x5_2).toNat * 7)).off + 5, none⟩ = some (.int .i64 ((rd_T46 l0_6 x5_2).f5)) ∧ w'.cell? ⟨(ad255.add ((x5_2).toNat * 7)).block, (ad255.add ((x5_2).toNat * 7)).off + 6, none⟩ = some (.int .i64 ((rd_T46 l0_6 x5_2).f6))) (ds := []) (rl [0,16]) (by kernel_rfl) rfl rfl (cw12 BK248.out ⟨(lb_ HB hw258_0 :), (lb_ HB hw258_1 :), (lb_ HB hw258_2 :), (lb_ HB hw258_3 :), (lb_ HB hw258_4 :), (lb_ HB hw258_5 :), (lb_ HB hw258_6 :), (lb_ HB hw258_7 :), (lb_ HB hw259_0 :), (lb_ HB hw259_1 :), (lb_ HB hw259_2 :), (lb_ HB hw259_3 :), (lb_ HB hw259_4 :), (lb_ HB hw259_5 :), (lb_ HB hw259_6 :)⟩) (fun hHeld => ?_); refine with_tabW spec_l10Pairs.tab13 spec_l10Pairs.bits13 (fun HT_ HW_ => ?_)
            generalize w36.drew = w37 at BK248 HB hx258_0 hx258_1 hx258_2 hx258_3 hx258_4 hx258_5 hx258_6 hx258_7 hx259_0 hx259_1 hx259_2 hx259_3 hx259_4 hx259_5 hx259_6 hHeld ⊢
            refine pz_ (i := 0) (N := some 69) HT_ (rl [1,15]) rfl rfl ?_
            refine pz_ (i := 1) (N := some 70) HT_ (rl [2,14]) rfl rfl ?_
            refine pz_ (i := 2) (N := some 71) HT_ (rl [3,13]) rfl rfl ?_
            refine pz_ (i := 3) (N := some 72) HT_ (rl [4,12]) rfl rfl ?_
            refine pz_ (i := 5) (N := some 74) HT_ (rl [4,1,1,10]) rfl rfl ?_
            refine pz_ (i := 8) (N := some 77) HT_ (rl [4,1,1,2,1,7]) rfl rfl ?_
            refine pz_ (i := 10) (N := some 79) HT_ (rl [4,1,1,2,1,1,1,5]) rfl rfl ?_
            refine take_ (i := 4) (N := some 73) (v := ?_) (a' := ?_) (rl [6,2,1,1,1,5]) rfl rfl (take_ofW HT_.out HW_.out (by kernel_rfl)) (fun _ _ _ h => h) (Or.inl ⟨by rfl, ?_⟩) hHeld ?_ ?_
            rotate_left
            ·
             rintro w' ⟨s0, s1, s2, s3, s4, s5, s6, s7, s8, s9, s10, s11, s12, s13, s14, s15, s16, s17, s18, s19, s20, s21, s22, s23, s24, s25, s26⟩
             go_simp
             with_reducible rfl
            rotate_left
            ·
             exact ap_
            refine pz_ (i := 6) (N := some 75) HT_ (rl [7,1,1,1,1,5]) rfl rfl ?_
            refine take_ (i := 7) (N := some 76) (v := ?_) (a' := ?_) (rl [9,1,1,5]) rfl rfl (take_ofW HT_.out HW_.out (by kernel_rfl)) (fun _ _ _ h => h) (Or.inl ⟨by rfl, ?_⟩) hHeld ?_ ?_
            rotate_left
            ·
             rintro w' ⟨s0, s1, s2, s3, s4, s5, s6, s7, s8, s9, s10, s11, s12, s13, s14, s15, s16, s17, s18, s19, s20, s21, s22, s23, s24, s25, s26⟩
             go_simp
             with_reducible rfl
            rotate_left
            ·
             exact ap_
            refine take_ (i := 9) (N := some 78) (v := ?_) (a' := ?_) (rl [11,5]) rfl rfl (take_ofW HT_.out HW_.out (by kernel_rfl)) (fun _ _ _ h => h) (Or.inl ⟨by rfl, ?_⟩) hHeld ?_ ?_
            rotate_left
            ·
             rintro w' ⟨s0, s1, s2, s3, s4, s5, s6, s7, s8, s9, s10, s11, s12, s13, s14, s15, s16, s17, s18, s19, s20, s21, s22, s23, s24, s25, s26⟩
             go_simp
             with_reducible rfl
            rotate_left
            ·
             exact ap_
            refine pz_ (i := 11) (N := some 80) HT_ (rl [12,4]) rfl rfl ?_
            refine take_ (i := 12) (N := some 81) (v := ?_) (a' := ?_) (rl [13,3]) rfl rfl (take_ofW HT_.out HW_.out (by kernel_rfl)) (fun _ _ _ h => h) (Or.inl ⟨by rfl, ?_⟩) hHeld ?_ ?_
            rotate_left
            ·
             rintro w' ⟨s0, s1, s2, s3, s4, s5, s6, s7, s8, s9, s10, s11, s12, s13, s14, s15, s16, s17, s18, s19, s20, s21, s22, s23, s24, s25, s26⟩
             go_simp
             with_reducible rfl
            rotate_left
            ·
             exact ap_
            refine one_ (i := 13) (N := some 82) (rl [14,2]) rfl rfl (one_of HT_.out (by kernel_rfl)) (by decide) (fun K hK => ?_)
            refine goes_ Try.func160 (by kernel_rfl) rfl #[.agg #[.int .i64 ((rd_T45 l0_5 t257).f0), .string ((rd_T45 l0_5 t257).f1), .int .i64 ((rd_T45 l0_5 t257).f2), .int .i64 ((rd_T45 l0_5 t257).f3), .int .i64 ((rd_T45 l0_5 t257).f4), .string ((rd_T45 l0_5 t257).f5), .int .i64 ((rd_T45 l0_5 t257).f6), .int .i64 ((rd_T45 l0_5 t257).f7)], .agg #[.int .i64 ((rd_T46 l0_6 x5_2).f0), .string ((rd_T46 l0_6 x5_2).f1), .int .i64 ((rd_T46 l0_6 x5_2).f2), .int .i64 ((rd_T46 l0_6 x5_2).f3), .int .i64 ((rd_T46 l0_6 x5_2).f4), .int .i64 ((rd_T46 l0_6 x5_2).f5), .int .i64 ((rd_T46 l0_6 x5_2).f6)]] (by rfl) rfl rfl la_ ?_
            with_reducible refine (spec_l10Lent.calls ((rd_T45 l0_5 t257).f0) ((rd_T45 l0_5 t257).f1) ((rd_T45 l0_5 t257).f2) ((rd_T45 l0_5 t257).f3) ((rd_T45 l0_5 t257).f4) ((rd_T45 l0_5 t257).f5) ((rd_T45 l0_5 t257).f6) ((rd_T45 l0_5 t257).f7) ((rd_T46 l0_6 x5_2).f0) ((rd_T46 l0_6 x5_2).f1) ((rd_T46 l0_6 x5_2).f2) ((rd_T46 l0_6 x5_2).f3) ((rd_T46 l0_6 x5_2).f4) ((rd_T46 l0_6 x5_2).f5) ((rd_T46 l0_6 x5_2).f6) t260 _ A33.out).mono ?_
            rintro e w38 ⟨rfl, hb⟩
            refine ⟨_, rfl, ?_⟩
            replace BK248 := am_ (blk_below (qK BK248) hb)
            replace HB := am_ (below_step (qB HB) hb)
            (try clear hb)
            refine hK.out _ _ (cw12 BK248.out ⟨(lb_ HB hw258_0 :), (lb_ HB hw258_1 :), (lb_ HB hw258_2 :), (lb_ HB hw258_3 :), (lb_ HB hw258_4 :), (lb_ HB hw258_5 :), (lb_ HB hw258_6 :), (lb_ HB hw258_7 :), (lb_ HB hw259_0 :), (lb_ HB hw259_1 :), (lb_ HB hw259_2 :), (lb_ HB hw259_3 :), (lb_ HB hw259_4 :), (lb_ HB hw259_5 :), (lb_ HB hw259_6 :)⟩) (fun hHeld => ?_)
            clear hK K
            refine norm_ (a' := ?_) ?_ ?_
            rotate_left
            ·
             show Act.put _ (some 82) _ = _
             exact ap_
            refine pz_ (i := 14) (N := some 83) HT_ (rl [15,1]) rfl rfl ?_
            refine pz_ (i := 15) (N := some 84) HT_ (rl [16]) rfl rfl ?_
            refine done_ (done_of HT_.out (by kernel_rfl)) ?_
            go_upto_if 84 with (fail)
            have H := HC34.out
            clear HC34
            by_cases c39 : t260 = true
            ·
             subst c39
             rw [if_pos rfl] at H
             have H' := Aside0.mk H
             clear H
             go_wp2
             go_roundg k2
             case measure => have := HK1.out; have := HK2.out; omega
             case rel => exact ⟨(wrap64 (x5_2 + 1)), eqq_, H', ⟨by have := HK1.out; have := HK2.out; omega⟩, ⟨qK BK248⟩, ⟨qB HB⟩⟩
            ·
             replace c39 := Bool.eq_false_iff.mpr c39
             subst c39
             rw [if_neg (show ¬ (false = true) by decide)] at H
             obtain rfl := Option.some.inj H
             go_wp2
             go_ret
             exact ⟨by first | rfl | (simp [errW_none, errW_some] <;> rfl) | (simp [*, errW_none, errW_some] <;> rfl), qB HB⟩
           ·
            rw [if_neg c32] at H
            exact absurd H (by simp)
          ·
           rw [if_neg c31] at H
           exact absurd H (by simp)
       ·
        rw [if_neg c23] at H
        exact absurd H (by simp)
      ·
       rw [if_neg c22] at H
       have c22b0 : decide (x5_2 < (l0_6.length : Int)) = false := decide_eq_false c22
       clear c22
       obtain rfl := Option.some.inj H
       obtain ⟨z40_0, z40_1, z40_2, z40_3, z40_4, z40_5, z40_6, z40_7, z40_8, z40_9, z40_10, z40_11⟩ := cz12 BK248.out
       obtain ⟨f40_0, f40_1, f40_2, f40_3, f40_4, f40_5, f40_6, f40_7, f40_8, f40_9, f40_10, f40_11⟩ := fz12 BK248.out
       go_wp2
       go_ret
       exact ⟨by first | rfl | (simp [errW_none, errW_some] <;> rfl) | (simp [*, errW_none, errW_some] <;> rfl), qB HB⟩

end Go.Proofs.Ytahfemlfdpbkkaa.PFnExactHouseOk
