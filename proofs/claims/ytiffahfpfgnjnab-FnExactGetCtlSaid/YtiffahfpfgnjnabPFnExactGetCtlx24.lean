-- Written by a program of this session (myprint.py, over the kit's print): contracts of FnExactGetCtl
import Derived.Test.YtiffahfpfgnjnabPFnExactGetCtlx0
import Derived.Test.YtiffahfpfgnjnabPFnExactGetCtlx3
namespace Go.Proofs.Ytiffahfpfgnjnab.PFnExactGetCtl
open Go.RowKit Go.Proofs.YtiffahfpfgnjnabW.PrintWords Go.Proofs.YtiffahfpfgnjnabW.PrintLast Go.Proofs.YtiffahfpfgnjnabW.PrintMore Go.Proofs.YtiffahfpfgnjnabV
attribute [local go_sem] max2_int min2_int max_two min_two max_three min_three max_four min_four   -- for this text's walks alone
set_option linter.unusedVariables false
set_option linter.unusedSimpArgs false

/-! ### laws_heldItemS: function 88 -/
def laws_heldItemS.l0 : Nat → List (S126) → Int → Int → Option (Int)
 | 0, _, _, _ => none
 | k + 1, x0, x1, x5 => if x5 < (x0.length : Int) then (if 0 ≤ x5 then (if ((rd_T126 x0 x5).f0) = x1 then (if ((rd_T126 x0 x5).f1.f0) = (wrap64 (x1 + 1)) then ((laws_markText.f k (wrap64 ((wrap64 (x1 + 1)) + 1))).bind fun t705 => (if ((rd_T126 x0 x5).f1.f1).toList = t705.toList then (if ((rd_T126 x0 x5).f1.f2) = (wrap64 ((wrap64 ((wrap64 (x1 + 1)) + 1)) + 1)) then (if ((rd_T126 x0 x5).f1.f3) = (wrap64 ((wrap64 ((wrap64 ((wrap64 (x1 + 1)) + 1)) + 1)) + 1)) then (if ((rd_T126 x0 x5).f1.f4) = (wrap64 ((wrap64 ((wrap64 ((wrap64 ((wrap64 (x1 + 1)) + 1)) + 1)) + 1)) + 1)) then ((laws_markText.f k (wrap64 ((wrap64 ((wrap64 ((wrap64 ((wrap64 ((wrap64 (x1 + 1)) + 1)) + 1)) + 1)) + 1)) + 1))).bind fun t710 => (if ((rd_T126 x0 x5).f1.f5).toList = t710.toList then (if ((rd_T126 x0 x5).f1.f6) = (wrap64 ((wrap64 ((wrap64 ((wrap64 ((wrap64 ((wrap64 ((wrap64 (x1 + 1)) + 1)) + 1)) + 1)) + 1)) + 1)) + 1)) then (if ((rd_T126 x0 x5).f1.f7) = (wrap64 ((wrap64 ((wrap64 ((wrap64 ((wrap64 ((wrap64 ((wrap64 ((wrap64 (x1 + 1)) + 1)) + 1)) + 1)) + 1)) + 1)) + 1)) + 1)) then (if ((rd_T126 x0 x5).f2.f0) = (wrap64 ((wrap64 ((wrap64 ((wrap64 ((wrap64 ((wrap64 ((wrap64 ((wrap64 ((wrap64 (x1 + 1)) + 1)) + 1)) + 1)) + 1)) + 1)) + 1)) + 1)) + 1)) then ((laws_markText.f k (wrap64 ((wrap64 ((wrap64 ((wrap64 ((wrap64 ((wrap64 ((wrap64 ((wrap64 ((wrap64 ((wrap64 (x1 + 1)) + 1)) + 1)) + 1)) + 1)) + 1)) + 1)) + 1)) + 1)) + 1))).bind fun t715 => (if ((rd_T126 x0 x5).f2.f1).toList = t715.toList then (if ((rd_T126 x0 x5).f2.f2) = (wrap64 ((wrap64 ((wrap64 ((wrap64 ((wrap64 ((wrap64 ((wrap64 ((wrap64 ((wrap64 ((wrap64 ((wrap64 (x1 + 1)) + 1)) + 1)) + 1)) + 1)) + 1)) + 1)) + 1)) + 1)) + 1)) + 1)) then (if ((rd_T126 x0 x5).f2.f3) = (wrap64 ((wrap64 ((wrap64 ((wrap64 ((wrap64 ((wrap64 ((wrap64 ((wrap64 ((wrap64 ((wrap64 ((wrap64 ((wrap64 (x1 + 1)) + 1)) + 1)) + 1)) + 1)) + 1)) + 1)) + 1)) + 1)) + 1)) + 1)) + 1)) then (if ((rd_T126 x0 x5).f2.f4) = (wrap64 ((wrap64 ((wrap64 ((wrap64 ((wrap64 ((wrap64 ((wrap64 ((wrap64 ((wrap64 ((wrap64 ((wrap64 ((wrap64 ((wrap64 (x1 + 1)) + 1)) + 1)) + 1)) + 1)) + 1)) + 1)) + 1)) + 1)) + 1)) + 1)) + 1)) + 1)) then (if ((rd_T126 x0 x5).f2.f5) = (wrap64 ((wrap64 ((wrap64 ((wrap64 ((wrap64 ((wrap64 ((wrap64 ((wrap64 ((wrap64 ((wrap64 ((wrap64 ((wrap64 ((wrap64 ((wrap64 (x1 + 1)) + 1)) + 1)) + 1)) + 1)) + 1)) + 1)) + 1)) + 1)) + 1)) + 1)) + 1)) + 1)) + 1)) then (if ((rd_T126 x0 x5).f2.f6) = (wrap64 ((wrap64 ((wrap64 ((wrap64 ((wrap64 ((wrap64 ((wrap64 ((wrap64 ((wrap64 ((wrap64 ((wrap64 ((wrap64 ((wrap64 ((wrap64 ((wrap64 (x1 + 1)) + 1)) + 1)) + 1)) + 1)) + 1)) + 1)) + 1)) + 1)) + 1)) + 1)) + 1)) + 1)) + 1)) + 1)) then (laws_heldItemS.l0 k x0 (wrap64 ((wrap64 ((wrap64 ((wrap64 ((wrap64 ((wrap64 ((wrap64 ((wrap64 ((wrap64 ((wrap64 ((wrap64 ((wrap64 ((wrap64 ((wrap64 ((wrap64 ((wrap64 (x1 + 1)) + 1)) + 1)) + 1)) + 1)) + 1)) + 1)) + 1)) + 1)) + 1)) + 1)) + 1)) + 1)) + 1)) + 1)) + 1)) (wrap64 (x5 + 1))) else (some (-1))) else (some (-1))) else (some (-1))) else (some (-1))) else (some (-1))) else (some (-1)))) else (some (-1))) else (some (-1))) else (some (-1))) else (some (-1)))) else (some (-1))) else (some (-1))) else (some (-1))) else (some (-1)))) else (some (-1))) else (some (-1))) else (none)) else (some x1)
def laws_heldItemS.f (k : Nat) (l0 : List (S126)) (a1 : Int) : Option (Int) := laws_heldItemS.l0 k l0 a1 0
theorem laws_heldItemS.mono_l : ∀ k, (∀ y0 y1 y2, LeO (laws_heldItemS.l0 k y0 y1 y2) (laws_heldItemS.l0 (k + 1) y0 y1 y2))
 | 0 => fun _ _ _ r h => by simp [laws_heldItemS.l0] at h
 | k + 1 => by
  have ih0 := laws_heldItemS.mono_l k
  ·
   intro y0 y1 y2
   unfold laws_heldItemS.l0
   have m0 := @laws_markText.mono; exact mo_
theorem laws_heldItemS.mono : ∀ a0 a1 k, LeO (laws_heldItemS.f k a0 a1) (laws_heldItemS.f (k + 1) a0 a1) := by
 intro a0 a1 k
 have ih0 := laws_heldItemS.mono_l k
 unfold laws_heldItemS.f
 have m0 := @laws_markText.mono; exact mo_
def laws_heldItemS.T10 : Bool × List (List Nat × List Nat) := (true, [([], []), ([], []), ([0, 1], [0, 1]), ([2], [2]), ([3], [3]), ([4], [4]), ([], []), ([6], [6]), ([5, 7], [5, 7])])
def laws_heldItemS.B10 : List Nat := [0, 0, 3, 7, 15, 31, 0, 64, 255]
theorem laws_heldItemS.tab10 : rtab .any (opsOf Try.f88 10) = laws_heldItemS.T10 := by kernel_rfl
theorem laws_heldItemS.bits10 : waitsOk laws_heldItemS.T10.2 laws_heldItemS.B10 = true := by kernel_rfl
def laws_heldItemS.T22 : Bool × List (List Nat × List Nat) := (true, [([], []), ([], []), ([0, 1], [0, 1]), ([2], [2]), ([3], [3]), ([4], [4]), ([], []), ([6], [6]), ([5, 7], [5, 7])])
def laws_heldItemS.B22 : List Nat := [0, 0, 3, 7, 15, 31, 0, 64, 255]
theorem laws_heldItemS.tab22 : rtab .any (opsOf Try.f88 22) = laws_heldItemS.T22 := by kernel_rfl
theorem laws_heldItemS.bits22 : waitsOk laws_heldItemS.T22.2 laws_heldItemS.B22 = true := by kernel_rfl
def laws_heldItemS.T34 : Bool × List (List Nat × List Nat) := (true, [([], []), ([], []), ([0, 1], [0, 1]), ([2], [2]), ([3], [3]), ([4], [4]), ([], []), ([6], [6]), ([5, 7], [5, 7])])
def laws_heldItemS.B34 : List Nat := [0, 0, 3, 7, 15, 31, 0, 64, 255]
theorem laws_heldItemS.tab34 : rtab .any (opsOf Try.f88 34) = laws_heldItemS.T34 := by kernel_rfl
theorem laws_heldItemS.bits34 : waitsOk laws_heldItemS.T34.2 laws_heldItemS.B34 = true := by kernel_rfl
set_option maxHeartbeats 8000000 in
set_option maxRecDepth 100000 in
theorem laws_heldItemS.calls (k : Nat) (A0 : Option Addr) (c0 : Nat) (l0 : List (S126)) (a1 : Int) (r : Int) (w : World) (hr0 : Kd.C k126 w A0 l0.length l0) (hc0 : l0.length ≤ c0) (h : laws_heldItemS.f k l0 a1 = some r) :
  Calls Try.prog 88 #[.slice A0 l0.length c0, .int .i64 a1] w fun e w' => e = .returned (.int .i64 r) ∧ Below w.heap.size w w' := by
 have HR0 := Aside0.mk hr0
 have HC0 := Aside0.mk hc0
 clear hr0 hc0
 have HB := Aside0.mk (Below.refl w.heap.size w)
 have H : (laws_heldItemS.l0 k l0 a1 0) = some r := h
 clear h
 have H' := Aside0.mk H
 clear H
 go_enter Try.func88, Try.ntmps88
 go_wp2
 go_loopg [1, 5] k (fun kq v1 v5 w' => ∃ (x1_1 : Int) (x5_1 : Int), v1 = .int .i64 x1_1 ∧ v5 = .int .i64 x5_1 ∧ Aside0 (laws_heldItemS.l0 kq l0 x1_1 x5_1 = some r) ∧ Aside0 (kq ≤ k) ∧ Aside0 (Below w.heap.size w w'))
 case atStart => exact ⟨(a1), (0), eqq_, eqq_, H', ⟨Nat.le_refl _⟩, ⟨qB HB⟩⟩
 case round =>
  clear H'
  try clear p2
  obtain ⟨x1_1, x5_1, rfl, rfl, HA, HK1, HB⟩ := hrel
  cases gk with
  | zero => exact absurd HA.out (by simp [laws_heldItemS.l0])
  | succ k1 =>
   have H := HA.out
   clear HA
   simp only [laws_heldItemS.l0] at H
   replace H := id_ H
   obtain ⟨-, H, c3b0⟩ | ⟨-, H, c3b0⟩ := H
   rotate_left
   ·
    obtain rfl := Option.some.inj H
    go_wp2
    go_ret
    exact ⟨er_, qB HB⟩
   replace H := ip_ H
   obtain ⟨-, H, c4b0⟩ := H
   have p702 : 0 ≤ (x5_1 : Int) := od_
   have q702 : x5_1 < (l0.length : Int) := od_
   obtain ⟨ad702, e702, hx702_0, hx702_1, hx702_2, hx702_3, hx702_4, hx702_5, hx702_6, hx702_7, hx702_8, hx702_9, hx702_10, hx702_11, hx702_12, hx702_13, hx702_14, hx702_15⟩ := at_T126 HR0.out x5_1 p702 q702
   cases e702
   replace hx702_0 := lb_ HB hx702_0
   replace hx702_1 := lb_ HB hx702_1
   replace hx702_2 := lb_ HB hx702_2
   replace hx702_3 := lb_ HB hx702_3
   replace hx702_4 := lb_ HB hx702_4
   replace hx702_5 := lb_ HB hx702_5
   replace hx702_6 := lb_ HB hx702_6
   replace hx702_7 := lb_ HB hx702_7
   replace hx702_8 := lb_ HB hx702_8
   replace hx702_9 := lb_ HB hx702_9
   replace hx702_10 := lb_ HB hx702_10
   replace hx702_11 := lb_ HB hx702_11
   replace hx702_12 := lb_ HB hx702_12
   replace hx702_13 := lb_ HB hx702_13
   replace hx702_14 := lb_ HB hx702_14
   replace hx702_15 := lb_ HB hx702_15
   replace p702 := eq_true p702
   replace q702 := eq_true q702
   replace H := ie_ H
   obtain ⟨-, H, c5b0, c5b1⟩ | ⟨c5, H, c5b0, c5b1⟩ := H
   rotate_left
   ·
    obtain rfl := Option.some.inj H
    go_wp2
    go_ret
    exact ⟨er_, qB HB⟩
   replace H := ie_ H
   obtain ⟨-, H, c6b0, c6b1⟩ | ⟨c6, H, c6b0, c6b1⟩ := H
   rotate_left
   ·
    obtain rfl := Option.some.inj H
    go_wp2
    go_ret
    exact ⟨er_, qB HB⟩
   replace H := bd_ H
   obtain ⟨t705, A7, H⟩ := H
   have HC8 := Aside0.mk H
   clear H
   try go_wp2
   replace HB := am_ (below_drew1 HB.out)
   have p704 : 0 ≤ (x5_1 : Int) := od_
   have q704 : x5_1 < (l0.length : Int) := od_
   obtain ⟨ad704, e704, hx704_0, hx704_1, hx704_2, hx704_3, hx704_4, hx704_5, hx704_6, hx704_7, hx704_8, hx704_9, hx704_10, hx704_11, hx704_12, hx704_13, hx704_14, hx704_15⟩ := at_T126 HR0.out x5_1 p704 q704
   have hw704_15 := hx704_15
   have hw704_14 := hx704_14
   have hw704_13 := hx704_13
   have hw704_12 := hx704_12
   have hw704_11 := hx704_11
   have hw704_10 := hx704_10
   have hw704_9 := hx704_9
   have hw704_8 := hx704_8
   have hw704_7 := hx704_7
   have hw704_6 := hx704_6
   have hw704_5 := hx704_5
   have hw704_4 := hx704_4
   have hw704_3 := hx704_3
   have hw704_2 := hx704_2
   have hw704_1 := hx704_1
   have hw704_0 := hx704_0
   obtain rfl : ad702 = ad704 := (by injection e704)
   replace hx704_0 := lb_ HB hx704_0
   replace hx704_1 := lb_ HB hx704_1
   replace hx704_2 := lb_ HB hx704_2
   replace hx704_3 := lb_ HB hx704_3
   replace hx704_4 := lb_ HB hx704_4
   replace hx704_5 := lb_ HB hx704_5
   replace hx704_6 := lb_ HB hx704_6
   replace hx704_7 := lb_ HB hx704_7
   replace hx704_8 := lb_ HB hx704_8
   replace hx704_9 := lb_ HB hx704_9
   replace hx704_10 := lb_ HB hx704_10
   replace hx704_11 := lb_ HB hx704_11
   replace hx704_12 := lb_ HB hx704_12
   replace hx704_13 := lb_ HB hx704_13
   replace hx704_14 := lb_ HB hx704_14
   replace hx704_15 := lb_ HB hx704_15
   replace p704 := eq_true p704
   replace q704 := eq_true q704
   refine start_ (n := 9) (S := fun w' => w'.cell? (ad702.add ((x5_1).toNat * 16)) = some (.int .i64 ((rd_T126 l0 x5_1).f0)) ∧ w'.cell? ⟨(ad702.add ((x5_1).toNat * 16)).block, (ad702.add ((x5_1).toNat * 16)).off + 1, none⟩ = some (.int .i64 ((rd_T126 l0 x5_1).f1.f0)) ∧ w'.cell? ⟨(ad702.add ((x5_1).toNat * 16)).block, (ad702.add ((x5_1).toNat * 16)).off + 2, none⟩ = some (.string ((rd_T126 l0 x5_1).f1.f1)) ∧ w'.cell? ⟨(ad702.add ((x5_1).toNat * 16)).block, (ad702.add ((x5_1).toNat * 16)).off + 3, none⟩ = some (.int .i64 ((rd_T126 l0 x5_1).f1.f2)) ∧ w'.cell? ⟨(ad702.add ((x5_1).toNat * 16)).block, (ad702.add ((x5_1).toNat * 16)).off + 4, none⟩ = some (.int .i64 ((rd_T126 l0 x5_1).f1.f3)) ∧ w'.cell? ⟨(ad702.add ((x5_1).toNat * 16)).block, (ad702.add ((x5_1).toNat * 16)).off + 5, none⟩ = some (.int .i64 ((rd_T126 l0 x5_1).f1.f4)) ∧ w'.cell? ⟨(ad702.add ((x5_1).toNat * 16)).block, (ad702.add ((x5_1).toNat * 16)).off + 6, none⟩ = some (.string ((rd_T126 l0 x5_1).f1.f5)) ∧ w'.cell? ⟨(ad702.add ((x5_1).toNat * 16)).block, (ad702.add ((x5_1).toNat * 16)).off + 7, none⟩ = some (.int .i64 ((rd_T126 l0 x5_1).f1.f6)) ∧ w'.cell? ⟨(ad702.add ((x5_1).toNat * 16)).block, (ad702.add ((x5_1).toNat * 16)).off + 8, none⟩ = some (.int .i64 ((rd_T126 l0 x5_1).f1.f7)) ∧ w'.cell? ⟨(ad702.add ((x5_1).toNat * 16)).block, (ad702.add ((x5_1).toNat * 16)).off + 9, none⟩ = some (.int .i64 ((rd_T126 l0 x5_1).f2.f0)) ∧ w'.cell? ⟨(ad702.add ((x5_1).toNat * 16)).block, (ad702.add ((x5_1).toNat * 16)).off + 10, none⟩ = some (.string ((rd_T126 l0 x5_1).f2.f1)) ∧ w'.cell? ⟨(ad702.add ((x5_1).toNat * 16)).block, (ad702.add ((x5_1).toNat * 16)).off + 11, none⟩ = some (.int .i64 ((rd_T126 l0 x5_1).f2.f2)) ∧ w'.cell? ⟨(ad702.add ((x5_1).toNat * 16)).block, (ad702.add ((x5_1).toNat * 16)).off + 12, none⟩ = some (.int .i64 ((rd_T126 l0 x5_1).f2.f3)) ∧ w'.cell? ⟨(ad702.add ((x5_1).toNat * 16)).block, (ad702.add ((x5_1).toNat * 16)).off + 13, none⟩ = some (.int .i64 ((rd_T126 l0 x5_1).f2.f4)) ∧ w'.cell? ⟨(ad702.add ((x5_1).toNat * 16)).block, (ad702.add ((x5_1).toNat * 16)).off + 14, none⟩ = some (.int .i64 ((rd_T126 l0 x5_1).f2.f5)) ∧ w'.cell? ⟨(ad702.add ((x5_1).toNat * 16)).block, (ad702.add ((x5_1).toNat * 16)).off + 15, none⟩ = some (.int .i64 ((rd_T126 l0 x5_1).f2.f6))) (ds := []) #[oo,oo,oo,oo,oo,oo,oo,oo,oo] (by kernel_rfl) rfl rfl ⟨(lb_ HB hw704_0 :), (lb_ HB hw704_1 :), (lb_ HB hw704_2 :), (lb_ HB hw704_3 :), (lb_ HB hw704_4 :), (lb_ HB hw704_5 :), (lb_ HB hw704_6 :), (lb_ HB hw704_7 :), (lb_ HB hw704_8 :), (lb_ HB hw704_9 :), (lb_ HB hw704_10 :), (lb_ HB hw704_11 :), (lb_ HB hw704_12 :), (lb_ HB hw704_13 :), (lb_ HB hw704_14 :), (lb_ HB hw704_15 :)⟩ (fun hHeld => ?_); refine with_tabW laws_heldItemS.tab10 laws_heldItemS.bits10 (fun HT_ HW_ => ?_)
   generalize wr.drew = w9 at HB hx704_0 hx704_1 hx704_10 hx704_11 hx704_12 hx704_13 hx704_14 hx704_15 hx704_2 hx704_3 hx704_4 hx704_5 hx704_6 hx704_7 hx704_8 hx704_9 hHeld ⊢
   refine pq_ 0 31 HT_ #[ii,oo,oo,oo,oo,oo,oo,oo,oo] ?_
   refine pq_ 1 32 HT_ #[ii,ii,oo,oo,oo,oo,oo,oo,oo] ?_
   refine pq_ 2 33 HT_ #[ii,ii,ii,oo,oo,oo,oo,oo,oo] ?_
   refine pq_ 3 34 HT_ #[ii,ii,ii,ii,oo,oo,oo,oo,oo] ?_
   refine pq_ 4 35 HT_ #[ii,ii,ii,ii,ii,oo,oo,oo,oo] ?_
   refine pq_ 6 37 HT_ #[ii,ii,ii,ii,ii,oo,ii,oo,oo] ?_
   refine tz_ (i := 5) (N := some 36) HT_ HW_ #[ii,ii,ii,ii,ii,ii,ii,oo,oo] rfl rfl hHeld ?_
   refine on_ HT_ (i := 7) (N := some 38) #[ii,ii,ii,ii,ii,ii,ii,ii,oo] (fun K hK => ?_)
   refine goes_ Try.func102 (by kernel_rfl) rfl #[.int .i64 (wrap64 ((wrap64 (x1_1 + 1)) + 1))] (by rfl) rfl rfl la_ ?_
   with_reducible refine (laws_markText.calls k1 (wrap64 ((wrap64 (x1_1 + 1)) + 1)) t705 _ A7.out).mono ?_
   rintro e w10 ⟨rfl, hb⟩
   refine ⟨_, rfl, ?_⟩
   replace HB := bS_ HB hb
   (try clear hb)
   refine hK.out _ _ ⟨(lb_ HB hw704_0 :), (lb_ HB hw704_1 :), (lb_ HB hw704_2 :), (lb_ HB hw704_3 :), (lb_ HB hw704_4 :), (lb_ HB hw704_5 :), (lb_ HB hw704_6 :), (lb_ HB hw704_7 :), (lb_ HB hw704_8 :), (lb_ HB hw704_9 :), (lb_ HB hw704_10 :), (lb_ HB hw704_11 :), (lb_ HB hw704_12 :), (lb_ HB hw704_13 :), (lb_ HB hw704_14 :), (lb_ HB hw704_15 :)⟩ (fun hHeld => ?_)
   clear hK K
   refine nm_ (some 38) ?_
   refine pq_ 8 39 HT_ #[ii,ii,ii,ii,ii,ii,ii,ii,ii] ?_
   refine done_ (done_of HT_.out (by kernel_rfl)) ?_
   go_upto_if 39 with (fail)
   have p706 : 0 ≤ (x5_1 : Int) := od_
   have q706 : x5_1 < (l0.length : Int) := od_
   obtain ⟨ad706, e706, hx706_0, hx706_1, hx706_2, hx706_3, hx706_4, hx706_5, hx706_6, hx706_7, hx706_8, hx706_9, hx706_10, hx706_11, hx706_12, hx706_13, hx706_14, hx706_15⟩ := at_T126 HR0.out x5_1 p706 q706
   obtain rfl : ad702 = ad706 := (by injection e706)
   replace hx706_0 := lb_ HB hx706_0
   replace hx706_1 := lb_ HB hx706_1
   replace hx706_2 := lb_ HB hx706_2
   replace hx706_3 := lb_ HB hx706_3
   replace hx706_4 := lb_ HB hx706_4
   replace hx706_5 := lb_ HB hx706_5
   replace hx706_6 := lb_ HB hx706_6
   replace hx706_7 := lb_ HB hx706_7
   replace hx706_8 := lb_ HB hx706_8
   replace hx706_9 := lb_ HB hx706_9
   replace hx706_10 := lb_ HB hx706_10
   replace hx706_11 := lb_ HB hx706_11
   replace hx706_12 := lb_ HB hx706_12
   replace hx706_13 := lb_ HB hx706_13
   replace hx706_14 := lb_ HB hx706_14
   replace hx706_15 := lb_ HB hx706_15
   replace p706 := eq_true p706
   replace q706 := eq_true q706
   have H := HC8.out
   clear HC8
   replace H := ie_ H
   obtain ⟨-, H, c11b0, c11b1⟩ | ⟨c11, H, c11b0, c11b1⟩ := H
   rotate_left
   ·
    (first | rw [c11b0] | rw [c11b1] | (simp only [i64_w, i32_w]; rw [c11b0]) | skip)
    obtain rfl := Option.some.inj H
    go_wp2
    go_ret
    exact ⟨er_, qB HB⟩
   (first | rw [c11b0] | rw [c11b1] | (simp only [i64_w, i32_w]; rw [c11b0]) | skip)
   replace H := ie_ H
   obtain ⟨-, H, c12b0, c12b1⟩ | ⟨c12, H, c12b0, c12b1⟩ := H
   rotate_left
   ·
    obtain rfl := Option.some.inj H
    go_wp2
    go_ret
    exact ⟨er_, qB HB⟩
   replace H := ie_ H
   obtain ⟨-, H, c13b0, c13b1⟩ | ⟨c13, H, c13b0, c13b1⟩ := H
   rotate_left
   ·
    obtain rfl := Option.some.inj H
    go_wp2
    go_ret
    exact ⟨er_, qB HB⟩
   replace H := ie_ H
   obtain ⟨-, H, c14b0, c14b1⟩ | ⟨c14, H, c14b0, c14b1⟩ := H
   rotate_left
   ·
    obtain rfl := Option.some.inj H
    go_wp2
    go_ret
    exact ⟨er_, qB HB⟩
   replace H := bd_ H
   obtain ⟨t710, A15, H⟩ := H
   have HC16 := Aside0.mk H
   clear H
   try go_wp2
   replace HB := am_ (below_drew1 HB.out)
   have p709 : 0 ≤ (x5_1 : Int) := od_
   have q709 : x5_1 < (l0.length : Int) := od_
   obtain ⟨ad709, e709, hx709_0, hx709_1, hx709_2, hx709_3, hx709_4, hx709_5, hx709_6, hx709_7, hx709_8, hx709_9, hx709_10, hx709_11, hx709_12, hx709_13, hx709_14, hx709_15⟩ := at_T126 HR0.out x5_1 p709 q709
   have hw709_15 := hx709_15
   have hw709_14 := hx709_14
   have hw709_13 := hx709_13
   have hw709_12 := hx709_12
   have hw709_11 := hx709_11
   have hw709_10 := hx709_10
   have hw709_9 := hx709_9
   have hw709_8 := hx709_8
   have hw709_7 := hx709_7
   have hw709_6 := hx709_6
   have hw709_5 := hx709_5
   have hw709_4 := hx709_4
   have hw709_3 := hx709_3
   have hw709_2 := hx709_2
   have hw709_1 := hx709_1
   have hw709_0 := hx709_0
   obtain rfl : ad702 = ad709 := (by injection e709)
   replace hx709_0 := lb_ HB hx709_0
   replace hx709_1 := lb_ HB hx709_1
   replace hx709_2 := lb_ HB hx709_2
   replace hx709_3 := lb_ HB hx709_3
   replace hx709_4 := lb_ HB hx709_4
   replace hx709_5 := lb_ HB hx709_5
   replace hx709_6 := lb_ HB hx709_6
   replace hx709_7 := lb_ HB hx709_7
   replace hx709_8 := lb_ HB hx709_8
   replace hx709_9 := lb_ HB hx709_9
   replace hx709_10 := lb_ HB hx709_10
   replace hx709_11 := lb_ HB hx709_11
   replace hx709_12 := lb_ HB hx709_12
   replace hx709_13 := lb_ HB hx709_13
   replace hx709_14 := lb_ HB hx709_14
   replace hx709_15 := lb_ HB hx709_15
   replace p709 := eq_true p709
   replace q709 := eq_true q709
   refine start_ (n := 9) (S := fun w' => w'.cell? (ad702.add ((x5_1).toNat * 16)) = some (.int .i64 ((rd_T126 l0 x5_1).f0)) ∧ w'.cell? ⟨(ad702.add ((x5_1).toNat * 16)).block, (ad702.add ((x5_1).toNat * 16)).off + 1, none⟩ = some (.int .i64 ((rd_T126 l0 x5_1).f1.f0)) ∧ w'.cell? ⟨(ad702.add ((x5_1).toNat * 16)).block, (ad702.add ((x5_1).toNat * 16)).off + 2, none⟩ = some (.string ((rd_T126 l0 x5_1).f1.f1)) ∧ w'.cell? ⟨(ad702.add ((x5_1).toNat * 16)).block, (ad702.add ((x5_1).toNat * 16)).off + 3, none⟩ = some (.int .i64 ((rd_T126 l0 x5_1).f1.f2)) ∧ w'.cell? ⟨(ad702.add ((x5_1).toNat * 16)).block, (ad702.add ((x5_1).toNat * 16)).off + 4, none⟩ = some (.int .i64 ((rd_T126 l0 x5_1).f1.f3)) ∧ w'.cell? ⟨(ad702.add ((x5_1).toNat * 16)).block, (ad702.add ((x5_1).toNat * 16)).off + 5, none⟩ = some (.int .i64 ((rd_T126 l0 x5_1).f1.f4)) ∧ w'.cell? ⟨(ad702.add ((x5_1).toNat * 16)).block, (ad702.add ((x5_1).toNat * 16)).off + 6, none⟩ = some (.string ((rd_T126 l0 x5_1).f1.f5)) ∧ w'.cell? ⟨(ad702.add ((x5_1).toNat * 16)).block, (ad702.add ((x5_1).toNat * 16)).off + 7, none⟩ = some (.int .i64 ((rd_T126 l0 x5_1).f1.f6)) ∧ w'.cell? ⟨(ad702.add ((x5_1).toNat * 16)).block, (ad702.add ((x5_1).toNat * 16)).off + 8, none⟩ = some (.int .i64 ((rd_T126 l0 x5_1).f1.f7)) ∧ w'.cell? ⟨(ad702.add ((x5_1).toNat * 16)).block, (ad702.add ((x5_1).toNat * 16)).off + 9, none⟩ = some (.int .i64 ((rd_T126 l0 x5_1).f2.f0)) ∧ w'.cell? ⟨(ad702.add ((x5_1).toNat * 16)).block, (ad702.add ((x5_1).toNat * 16)).off + 10, none⟩ = some (.string ((rd_T126 l0 x5_1).f2.f1)) ∧ w'.cell? ⟨(ad702.add ((x5_1).toNat * 16)).block, (ad702.add ((x5_1).toNat * 16)).off + 11, none⟩ = some (.int .i64 ((rd_T126 l0 x5_1).f2.f2)) ∧ w'.cell? ⟨(ad702.add ((x5_1).toNat * 16)).block, (ad702.add ((x5_1).toNat * 16)).off + 12, none⟩ = some (.int .i64 ((rd_T126 l0 x5_1).f2.f3)) ∧ w'.cell? ⟨(ad702.add ((x5_1).toNat * 16)).block, (ad702.add ((x5_1).toNat * 16)).off + 13, none⟩ = some (.int .i64 ((rd_T126 l0 x5_1).f2.f4)) ∧ w'.cell? ⟨(ad702.add ((x5_1).toNat * 16)).block, (ad702.add ((x5_1).toNat * 16)).off + 14, none⟩ = some (.int .i64 ((rd_T126 l0 x5_1).f2.f5)) ∧ w'.cell? ⟨(ad702.add ((x5_1).toNat * 16)).block, (ad702.add ((x5_1).toNat * 16)).off + 15, none⟩ = some (.int .i64 ((rd_T126 l0 x5_1).f2.f6))) (ds := []) #[oo,oo,oo,oo,oo,oo,oo,oo,oo] (by kernel_rfl) rfl rfl ⟨(lb_ HB hw709_0 :), (lb_ HB hw709_1 :), (lb_ HB hw709_2 :), (lb_ HB hw709_3 :), (lb_ HB hw709_4 :), (lb_ HB hw709_5 :), (lb_ HB hw709_6 :), (lb_ HB hw709_7 :), (lb_ HB hw709_8 :), (lb_ HB hw709_9 :), (lb_ HB hw709_10 :), (lb_ HB hw709_11 :), (lb_ HB hw709_12 :), (lb_ HB hw709_13 :), (lb_ HB hw709_14 :), (lb_ HB hw709_15 :)⟩ (fun hHeld => ?_); refine with_tabW laws_heldItemS.tab22 laws_heldItemS.bits22 (fun HT_ HW_ => ?_)
   generalize w10.drew = w17 at HB hx709_0 hx709_1 hx709_10 hx709_11 hx709_12 hx709_13 hx709_14 hx709_15 hx709_2 hx709_3 hx709_4 hx709_5 hx709_6 hx709_7 hx709_8 hx709_9 hHeld ⊢
   refine pq_ 0 72 HT_ #[ii,oo,oo,oo,oo,oo,oo,oo,oo] ?_
   refine pq_ 1 73 HT_ #[ii,ii,oo,oo,oo,oo,oo,oo,oo] ?_
   refine pq_ 2 74 HT_ #[ii,ii,ii,oo,oo,oo,oo,oo,oo] ?_
   refine pq_ 3 75 HT_ #[ii,ii,ii,ii,oo,oo,oo,oo,oo] ?_
   refine pq_ 4 76 HT_ #[ii,ii,ii,ii,ii,oo,oo,oo,oo] ?_
   refine pq_ 6 78 HT_ #[ii,ii,ii,ii,ii,oo,ii,oo,oo] ?_
   refine tz_ (i := 5) (N := some 77) HT_ HW_ #[ii,ii,ii,ii,ii,ii,ii,oo,oo] rfl rfl hHeld ?_
   refine on_ HT_ (i := 7) (N := some 79) #[ii,ii,ii,ii,ii,ii,ii,ii,oo] (fun K hK => ?_)
   refine goes_ Try.func102 (by kernel_rfl) rfl #[.int .i64 (wrap64 ((wrap64 ((wrap64 ((wrap64 ((wrap64 ((wrap64 (x1_1 + 1)) + 1)) + 1)) + 1)) + 1)) + 1))] (by rfl) rfl rfl la_ ?_
   with_reducible refine (laws_markText.calls k1 (wrap64 ((wrap64 ((wrap64 ((wrap64 ((wrap64 ((wrap64 (x1_1 + 1)) + 1)) + 1)) + 1)) + 1)) + 1)) t710 _ A15.out).mono ?_
   rintro e w18 ⟨rfl, hb⟩
   refine ⟨_, rfl, ?_⟩
   replace HB := bS_ HB hb
   (try clear hb)
   refine hK.out _ _ ⟨(lb_ HB hw709_0 :), (lb_ HB hw709_1 :), (lb_ HB hw709_2 :), (lb_ HB hw709_3 :), (lb_ HB hw709_4 :), (lb_ HB hw709_5 :), (lb_ HB hw709_6 :), (lb_ HB hw709_7 :), (lb_ HB hw709_8 :), (lb_ HB hw709_9 :), (lb_ HB hw709_10 :), (lb_ HB hw709_11 :), (lb_ HB hw709_12 :), (lb_ HB hw709_13 :), (lb_ HB hw709_14 :), (lb_ HB hw709_15 :)⟩ (fun hHeld => ?_)
   clear hK K
   refine nm_ (some 79) ?_
   refine pq_ 8 80 HT_ #[ii,ii,ii,ii,ii,ii,ii,ii,ii] ?_
   refine done_ (done_of HT_.out (by kernel_rfl)) ?_
   go_upto_if 80 with (fail)
   have p711 : 0 ≤ (x5_1 : Int) := od_
   have q711 : x5_1 < (l0.length : Int) := od_
   obtain ⟨ad711, e711, hx711_0, hx711_1, hx711_2, hx711_3, hx711_4, hx711_5, hx711_6, hx711_7, hx711_8, hx711_9, hx711_10, hx711_11, hx711_12, hx711_13, hx711_14, hx711_15⟩ := at_T126 HR0.out x5_1 p711 q711
   obtain rfl : ad702 = ad711 := (by injection e711)
   replace hx711_0 := lb_ HB hx711_0
   replace hx711_1 := lb_ HB hx711_1
   replace hx711_2 := lb_ HB hx711_2
   replace hx711_3 := lb_ HB hx711_3
   replace hx711_4 := lb_ HB hx711_4
   replace hx711_5 := lb_ HB hx711_5
   replace hx711_6 := lb_ HB hx711_6
   replace hx711_7 := lb_ HB hx711_7
   replace hx711_8 := lb_ HB hx711_8
   replace hx711_9 := lb_ HB hx711_9
   replace hx711_10 := lb_ HB hx711_10
   replace hx711_11 := lb_ HB hx711_11
   replace hx711_12 := lb_ HB hx711_12
   replace hx711_13 := lb_ HB hx711_13
   replace hx711_14 := lb_ HB hx711_14
   replace hx711_15 := lb_ HB hx711_15
   replace p711 := eq_true p711
   replace q711 := eq_true q711
   have H := HC16.out
   clear HC16
   replace H := ie_ H
   obtain ⟨-, H, c19b0, c19b1⟩ | ⟨c19, H, c19b0, c19b1⟩ := H
   rotate_left
   ·
    (first | rw [c19b0] | rw [c19b1] | (simp only [i64_w, i32_w]; rw [c19b0]) | skip)
    obtain rfl := Option.some.inj H
    go_wp2
    go_ret
    exact ⟨er_, qB HB⟩
   (first | rw [c19b0] | rw [c19b1] | (simp only [i64_w, i32_w]; rw [c19b0]) | skip)
   replace H := ie_ H
   obtain ⟨-, H, c20b0, c20b1⟩ | ⟨c20, H, c20b0, c20b1⟩ := H
   rotate_left
   ·
    obtain rfl := Option.some.inj H
    go_wp2
    go_ret
    exact ⟨er_, qB HB⟩
   replace H := ie_ H
   obtain ⟨-, H, c21b0, c21b1⟩ | ⟨c21, H, c21b0, c21b1⟩ := H
   rotate_left
   ·
    obtain rfl := Option.some.inj H
    go_wp2
    go_ret
    exact ⟨er_, qB HB⟩
   replace H := ie_ H
   obtain ⟨-, H, c22b0, c22b1⟩ | ⟨c22, H, c22b0, c22b1⟩ := H
   rotate_left
   ·
    obtain rfl := Option.some.inj H
    go_wp2
    go_ret
    exact ⟨er_, qB HB⟩
   replace H := bd_ H
   obtain ⟨t715, A23, H⟩ := H
   have HC24 := Aside0.mk H
   clear H
   try go_wp2
   replace HB := am_ (below_drew1 HB.out)
   have p714 : 0 ≤ (x5_1 : Int) := od_
   have q714 : x5_1 < (l0.length : Int) := od_
   obtain ⟨ad714, e714, hx714_0, hx714_1, hx714_2, hx714_3, hx714_4, hx714_5, hx714_6, hx714_7, hx714_8, hx714_9, hx714_10, hx714_11, hx714_12, hx714_13, hx714_14, hx714_15⟩ := at_T126 HR0.out x5_1 p714 q714
   have hw714_15 := hx714_15
   have hw714_14 := hx714_14
   have hw714_13 := hx714_13
   have hw714_12 := hx714_12
   have hw714_11 := hx714_11
   have hw714_10 := hx714_10
   have hw714_9 := hx714_9
   have hw714_8 := hx714_8
   have hw714_7 := hx714_7
   have hw714_6 := hx714_6
   have hw714_5 := hx714_5
   have hw714_4 := hx714_4
   have hw714_3 := hx714_3
   have hw714_2 := hx714_2
   have hw714_1 := hx714_1
   have hw714_0 := hx714_0
   obtain rfl : ad702 = ad714 := (by injection e714)
   replace hx714_0 := lb_ HB hx714_0
   replace hx714_1 := lb_ HB hx714_1
   replace hx714_2 := lb_ HB hx714_2
   replace hx714_3 := lb_ HB hx714_3
   replace hx714_4 := lb_ HB hx714_4
   replace hx714_5 := lb_ HB hx714_5
   replace hx714_6 := lb_ HB hx714_6
   replace hx714_7 := lb_ HB hx714_7
   replace hx714_8 := lb_ HB hx714_8
   replace hx714_9 := lb_ HB hx714_9
   replace hx714_10 := lb_ HB hx714_10
   replace hx714_11 := lb_ HB hx714_11
   replace hx714_12 := lb_ HB hx714_12
   replace hx714_13 := lb_ HB hx714_13
   replace hx714_14 := lb_ HB hx714_14
   replace hx714_15 := lb_ HB hx714_15
   replace p714 := eq_true p714
   replace q714 := eq_true q714
   refine start_ (n := 9) (S := fun w' => w'.cell? (ad702.add ((x5_1).toNat * 16)) = some (.int .i64 ((rd_T126 l0 x5_1).f0)) ∧ w'.cell? ⟨(ad702.add ((x5_1).toNat * 16)).block, (ad702.add ((x5_1).toNat * 16)).off + 1, none⟩ = some (.int .i64 ((rd_T126 l0 x5_1).f1.f0)) ∧ w'.cell? ⟨(ad702.add ((x5_1).toNat * 16)).block, (ad702.add ((x5_1).toNat * 16)).off + 2, none⟩ = some (.string ((rd_T126 l0 x5_1).f1.f1)) ∧ w'.cell? ⟨(ad702.add ((x5_1).toNat * 16)).block, (ad702.add ((x5_1).toNat * 16)).off + 3, none⟩ = some (.int .i64 ((rd_T126 l0 x5_1).f1.f2)) ∧ w'.cell? ⟨(ad702.add ((x5_1).toNat * 16)).block, (ad702.add ((x5_1).toNat * 16)).off + 4, none⟩ = some (.int .i64 ((rd_T126 l0 x5_1).f1.f3)) ∧ w'.cell? ⟨(ad702.add ((x5_1).toNat * 16)).block, (ad702.add ((x5_1).toNat * 16)).off + 5, none⟩ = some (.int .i64 ((rd_T126 l0 x5_1).f1.f4)) ∧ w'.cell? ⟨(ad702.add ((x5_1).toNat * 16)).block, (ad702.add ((x5_1).toNat * 16)).off + 6, none⟩ = some (.string ((rd_T126 l0 x5_1).f1.f5)) ∧ w'.cell? ⟨(ad702.add ((x5_1).toNat * 16)).block, (ad702.add ((x5_1).toNat * 16)).off + 7, none⟩ = some (.int .i64 ((rd_T126 l0 x5_1).f1.f6)) ∧ w'.cell? ⟨(ad702.add ((x5_1).toNat * 16)).block, (ad702.add ((x5_1).toNat * 16)).off + 8, none⟩ = some (.int .i64 ((rd_T126 l0 x5_1).f1.f7)) ∧ w'.cell? ⟨(ad702.add ((x5_1).toNat * 16)).block, (ad702.add ((x5_1).toNat * 16)).off + 9, none⟩ = some (.int .i64 ((rd_T126 l0 x5_1).f2.f0)) ∧ w'.cell? ⟨(ad702.add ((x5_1).toNat * 16)).block, (ad702.add ((x5_1).toNat * 16)).off + 10, none⟩ = some (.string ((rd_T126 l0 x5_1).f2.f1)) ∧ w'.cell? ⟨(ad702.add ((x5_1).toNat * 16)).block, (ad702.add ((x5_1).toNat * 16)).off + 11, none⟩ = some (.int .i64 ((rd_T126 l0 x5_1).f2.f2)) ∧ w'.cell? ⟨(ad702.add ((x5_1).toNat * 16)).block, (ad702.add ((x5_1).toNat * 16)).off + 12, none⟩ = some (.int .i64 ((rd_T126 l0 x5_1).f2.f3)) ∧ w'.cell? ⟨(ad702.add ((x5_1).toNat * 16)).block, (ad702.add ((x5_1).toNat * 16)).off + 13, none⟩ = some (.int .i64 ((rd_T126 l0 x5_1).f2.f4)) ∧ w'.cell? ⟨(ad702.add ((x5_1).toNat * 16)).block, (ad702.add ((x5_1).toNat * 16)).off + 14, none⟩ = some (.int .i64 ((rd_T126 l0 x5_1).f2.f5)) ∧ w'.cell? ⟨(ad702.add ((x5_1).toNat * 16)).block, (ad702.add ((x5_1).toNat * 16)).off + 15, none⟩ = some (.int .i64 ((rd_T126 l0 x5_1).f2.f6))) (ds := []) #[oo,oo,oo,oo,oo,oo,oo,oo,oo] (by kernel_rfl) rfl rfl ⟨(lb_ HB hw714_0 :), (lb_ HB hw714_1 :), (lb_ HB hw714_2 :), (lb_ HB hw714_3 :), (lb_ HB hw714_4 :), (lb_ HB hw714_5 :), (lb_ HB hw714_6 :), (lb_ HB hw714_7 :), (lb_ HB hw714_8 :), (lb_ HB hw714_9 :), (lb_ HB hw714_10 :), (lb_ HB hw714_11 :), (lb_ HB hw714_12 :), (lb_ HB hw714_13 :), (lb_ HB hw714_14 :), (lb_ HB hw714_15 :)⟩ (fun hHeld => ?_); refine with_tabW laws_heldItemS.tab34 laws_heldItemS.bits34 (fun HT_ HW_ => ?_)
   generalize w18.drew = w25 at HB hx714_0 hx714_1 hx714_10 hx714_11 hx714_12 hx714_13 hx714_14 hx714_15 hx714_2 hx714_3 hx714_4 hx714_5 hx714_6 hx714_7 hx714_8 hx714_9 hHeld ⊢
   refine pq_ 0 113 HT_ #[ii,oo,oo,oo,oo,oo,oo,oo,oo] ?_
   refine pq_ 1 114 HT_ #[ii,ii,oo,oo,oo,oo,oo,oo,oo] ?_
   refine pq_ 2 115 HT_ #[ii,ii,ii,oo,oo,oo,oo,oo,oo] ?_
   refine pq_ 3 116 HT_ #[ii,ii,ii,ii,oo,oo,oo,oo,oo] ?_
   refine pq_ 4 117 HT_ #[ii,ii,ii,ii,ii,oo,oo,oo,oo] ?_
   refine pq_ 6 119 HT_ #[ii,ii,ii,ii,ii,oo,ii,oo,oo] ?_
   refine tz_ (i := 5) (N := some 118) HT_ HW_ #[ii,ii,ii,ii,ii,ii,ii,oo,oo] rfl rfl hHeld ?_
   refine on_ HT_ (i := 7) (N := some 120) #[ii,ii,ii,ii,ii,ii,ii,ii,oo] (fun K hK => ?_)
   refine goes_ Try.func102 (by kernel_rfl) rfl #[.int .i64 (wrap64 ((wrap64 ((wrap64 ((wrap64 ((wrap64 ((wrap64 ((wrap64 ((wrap64 ((wrap64 ((wrap64 (x1_1 + 1)) + 1)) + 1)) + 1)) + 1)) + 1)) + 1)) + 1)) + 1)) + 1))] (by rfl) rfl rfl la_ ?_
   with_reducible refine (laws_markText.calls k1 (wrap64 ((wrap64 ((wrap64 ((wrap64 ((wrap64 ((wrap64 ((wrap64 ((wrap64 ((wrap64 ((wrap64 (x1_1 + 1)) + 1)) + 1)) + 1)) + 1)) + 1)) + 1)) + 1)) + 1)) + 1)) t715 _ A23.out).mono ?_
   rintro e w26 ⟨rfl, hb⟩
   refine ⟨_, rfl, ?_⟩
   replace HB := bS_ HB hb
   (try clear hb)
   refine hK.out _ _ ⟨(lb_ HB hw714_0 :), (lb_ HB hw714_1 :), (lb_ HB hw714_2 :), (lb_ HB hw714_3 :), (lb_ HB hw714_4 :), (lb_ HB hw714_5 :), (lb_ HB hw714_6 :), (lb_ HB hw714_7 :), (lb_ HB hw714_8 :), (lb_ HB hw714_9 :), (lb_ HB hw714_10 :), (lb_ HB hw714_11 :), (lb_ HB hw714_12 :), (lb_ HB hw714_13 :), (lb_ HB hw714_14 :), (lb_ HB hw714_15 :)⟩ (fun hHeld => ?_)
   clear hK K
   refine nm_ (some 120) ?_
   refine pq_ 8 121 HT_ #[ii,ii,ii,ii,ii,ii,ii,ii,ii] ?_
   refine done_ (done_of HT_.out (by kernel_rfl)) ?_
   go_upto_if 121 with (fail)
   have p716 : 0 ≤ (x5_1 : Int) := od_
   have q716 : x5_1 < (l0.length : Int) := od_
   obtain ⟨ad716, e716, hx716_0, hx716_1, hx716_2, hx716_3, hx716_4, hx716_5, hx716_6, hx716_7, hx716_8, hx716_9, hx716_10, hx716_11, hx716_12, hx716_13, hx716_14, hx716_15⟩ := at_T126 HR0.out x5_1 p716 q716
   obtain rfl : ad702 = ad716 := (by injection e716)
   replace hx716_0 := lb_ HB hx716_0
   replace hx716_1 := lb_ HB hx716_1
   replace hx716_2 := lb_ HB hx716_2
   replace hx716_3 := lb_ HB hx716_3
   replace hx716_4 := lb_ HB hx716_4
   replace hx716_5 := lb_ HB hx716_5
   replace hx716_6 := lb_ HB hx716_6
   replace hx716_7 := lb_ HB hx716_7
   replace hx716_8 := lb_ HB hx716_8
   replace hx716_9 := lb_ HB hx716_9
   replace hx716_10 := lb_ HB hx716_10
   replace hx716_11 := lb_ HB hx716_11
   replace hx716_12 := lb_ HB hx716_12
   replace hx716_13 := lb_ HB hx716_13
   replace hx716_14 := lb_ HB hx716_14
   replace hx716_15 := lb_ HB hx716_15
   replace p716 := eq_true p716
   replace q716 := eq_true q716
   have H := HC24.out
   clear HC24
   replace H := ie_ H
   obtain ⟨-, H, c27b0, c27b1⟩ | ⟨c27, H, c27b0, c27b1⟩ := H
   rotate_left
   ·
    (first | rw [c27b0] | rw [c27b1] | (simp only [i64_w, i32_w]; rw [c27b0]) | skip)
    obtain rfl := Option.some.inj H
    go_wp2
    go_ret
    exact ⟨er_, qB HB⟩
   (first | rw [c27b0] | rw [c27b1] | (simp only [i64_w, i32_w]; rw [c27b0]) | skip)
   replace H := ie_ H
   obtain ⟨-, H, c28b0, c28b1⟩ | ⟨c28, H, c28b0, c28b1⟩ := H
   rotate_left
   ·
    obtain rfl := Option.some.inj H
    go_wp2
    go_ret
    exact ⟨er_, qB HB⟩
   replace H := ie_ H
   obtain ⟨-, H, c29b0, c29b1⟩ | ⟨c29, H, c29b0, c29b1⟩ := H
   rotate_left
   ·
    obtain rfl := Option.some.inj H
    go_wp2
    go_ret
    exact ⟨er_, qB HB⟩
   replace H := ie_ H
   obtain ⟨-, H, c30b0, c30b1⟩ | ⟨c30, H, c30b0, c30b1⟩ := H
   rotate_left
   ·
    obtain rfl := Option.some.inj H
    go_wp2
    go_ret
    exact ⟨er_, qB HB⟩
   replace H := ie_ H
   obtain ⟨-, H, c31b0, c31b1⟩ | ⟨c31, H, c31b0, c31b1⟩ := H
   rotate_left
   ·
    obtain rfl := Option.some.inj H
    go_wp2
    go_ret
    exact ⟨er_, qB HB⟩
   replace H := ie_ H
   obtain ⟨-, H, c32b0, c32b1⟩ | ⟨c32, H, c32b0, c32b1⟩ := H
   rotate_left
   ·
    obtain rfl := Option.some.inj H
    go_wp2
    go_ret
    exact ⟨er_, qB HB⟩
   have H' := Aside0.mk H
   clear H
   go_wp2
   go_roundg k1
   case measure => have := HK1.out; omega
   case rel => exact ⟨(wrap64 ((wrap64 ((wrap64 ((wrap64 ((wrap64 ((wrap64 ((wrap64 ((wrap64 ((wrap64 ((wrap64 ((wrap64 ((wrap64 ((wrap64 ((wrap64 ((wrap64 ((wrap64 (x1_1 + 1)) + 1)) + 1)) + 1)) + 1)) + 1)) + 1)) + 1)) + 1)) + 1)) + 1)) + 1)) + 1)) + 1)) + 1)) + 1)), (wrap64 (x5_1 + 1)), eqq_, eqq_, H', ⟨by have := HK1.out; omega⟩, ⟨qB HB⟩⟩

end Go.Proofs.Ytiffahfpfgnjnab.PFnExactGetCtl
