-- Written by a program of this session (myprint.py, over the kit's print): contracts of FnSocks
import Derived.Test.YtiffahfpfgnjnaaPFnSocksx0
import Derived.Test.YtiffahfpfgnjnaaPFnSocksx7
namespace Go.Proofs.Ytiffahfpfgnjnaa.PFnSocks
open Go.RowKit Go.Proofs.YtiffahfpfgnjnaaW.PrintWords Go.Proofs.YtiffahfpfgnjnaaW.PrintLast Go.Proofs.YtiffahfpfgnjnaaW.PrintMore Go.Proofs.YtiffahfpfgnjnaaV
attribute [local go_sem] max2_int min2_int max_two min_two max_three min_three max_four min_four   -- for this text's walks alone
set_option linter.unusedVariables false
set_option linter.unusedSimpArgs false

/-! ### spec_SocksOk: function 35 -/
def spec_SocksOk.l0 : Nat → List (S41) → Int → Option (Bool)
 | 0, _, _ => none
 | k + 1, x0, x3 => if x3 < (x0.length : Int) then (if 0 ≤ x3 then ((spec_SockOk.f k ((rd_T41 x0 x3).f0) ((rd_T41 x0 x3).f1) ((rd_T41 x0 x3).f2) ((rd_T41 x0 x3).f3) ((rd_T41 x0 x3).f4) ((rd_T41 x0 x3).f5) ((rd_T41 x0 x3).f6) ((rd_T41 x0 x3).f7)).bind fun t693 => (if t693 = true then (if x3 > 0 then (if 0 ≤ (wrap64 (x3 - 1)) then (if (wrap64 (x3 - 1)) < (x0.length : Int) then (if ((rd_T41 x0 (wrap64 (x3 - 1))).f0) ≥ ((rd_T41 x0 x3).f0) then (some false) else (spec_SocksOk.l0 k x0 (wrap64 (x3 + 1)))) else (none)) else (none)) else (spec_SocksOk.l0 k x0 (wrap64 (x3 + 1)))) else (some false))) else (none)) else (some (decide ((x0.length : Int) ≤ 12)))
def spec_SocksOk.f (k : Nat) (l0 : List (S41)) : Option (Bool) := spec_SocksOk.l0 k l0 0
theorem spec_SocksOk.mono_l : ∀ k, (∀ y0 y1, LeO (spec_SocksOk.l0 k y0 y1) (spec_SocksOk.l0 (k + 1) y0 y1))
 | 0 => fun _ _ r h => by simp [spec_SocksOk.l0] at h
 | k + 1 => by
  have ih0 := spec_SocksOk.mono_l k
  ·
   intro y0 y1
   unfold spec_SocksOk.l0
   have m0 := @spec_SockOk.mono; exact mo_
theorem spec_SocksOk.mono : ∀ a0 k, LeO (spec_SocksOk.f k a0) (spec_SocksOk.f (k + 1) a0) := by
 intro a0 k
 have ih0 := spec_SocksOk.mono_l k
 unfold spec_SocksOk.f
 have m0 := @spec_SockOk.mono; exact mo_
def spec_SocksOk.T4 : Bool × List (List Nat × List Nat) := (true, [([], []), ([], []), ([0, 1], [0, 1]), ([2], [2]), ([3], [3]), ([4], [4]), ([5, 4], [5]), ([6], [6]), ([7, 6], [6, 7]), ([8, 6, 6], [6, 8]), ([9], [9]), ([9], [9]), ([11, 9], [9, 11]), ([10, 12, 9], [9, 10, 12]), ([13, 9], [9, 13]), ([14, 9], [9, 14]), ([9], [9]), ([9], [9]), ([16, 17, 9], [9, 16, 17]), ([18, 9], [9, 18]), ([19, 9], [9, 19]), ([15, 20, 9], [9, 15, 20]), ([9, 21, 6], [6, 9, 21]), ([6, 22], [6, 22])])
def spec_SocksOk.B4 : List Nat := [0, 0, 3, 7, 15, 31, 63, 127, 255, 511, 1023, 1023, 3071, 8191, 16383, 32767, 1023, 1023, 197631, 459775, 984063, 2097151, 4194303, 8388607]
theorem spec_SocksOk.tab4 : rtab .any (opsOf Try.f35 4) = spec_SocksOk.T4 := by kernel_rfl
theorem spec_SocksOk.bits4 : waitsOk spec_SocksOk.T4.2 spec_SocksOk.B4 = true := by kernel_rfl
set_option maxHeartbeats 8000000 in
set_option maxRecDepth 100000 in
theorem spec_SocksOk.calls (k : Nat) (A0 : Option Addr) (c0 : Nat) (l0 : List (S41)) (r : Bool) (w : World) (hr0 : Kd.C k41 w A0 l0.length l0) (hc0 : l0.length ≤ c0) (h : spec_SocksOk.f k l0 = some r) :
  Calls Try.prog 35 #[.slice A0 l0.length c0] w fun e w' => e = .returned (.bool r) ∧ Below w.heap.size w w' := by
 have hu41 := Try.underlying41
 have HR0 := Aside0.mk hr0
 have HC0 := Aside0.mk hc0
 clear hr0 hc0
 have HB := Aside0.mk (Below.refl w.heap.size w)
 have H : (spec_SocksOk.l0 k l0 0) = some r := h
 clear h
 have H' := Aside0.mk H
 clear H
 go_enter Try.func35, Try.ntmps35
 go_wp2
 go_loopg [3] k (fun kq v3 w' => ∃ (x3_1 : Int), v3 = .int .i64 x3_1 ∧ Aside0 (spec_SocksOk.l0 kq l0 x3_1 = some r) ∧ Aside0 (kq ≤ k) ∧ Aside0 (Below w.heap.size w w'))
 case atStart => exact ⟨(0), eqq_, H', ⟨Nat.le_refl _⟩, ⟨qB HB⟩⟩
 case round =>
  clear H'
  obtain ⟨x3_1, rfl, HA, HK1, HB⟩ := hrel
  cases gk with
  | zero => exact absurd HA.out (by simp [spec_SocksOk.l0])
  | succ k1 =>
   have H := HA.out
   clear HA
   simp only [spec_SocksOk.l0] at H
   by_cases c2 : x3_1 < (l0.length : Int)
   rotate_left
   ·
    rw [if_neg c2] at H
    have c2b0 : decide (x3_1 < (l0.length : Int)) = false := decide_eq_false c2
    clear c2
    obtain rfl := Option.some.inj H
    go_wp2
    go_ret
    exact ⟨er_, qB HB⟩
   rw [if_pos c2] at H
   have c2b0 : decide (x3_1 < (l0.length : Int)) = true := decide_eq_true c2
   clear c2
   by_cases c3 : 0 ≤ x3_1
   case neg => exact nn_ c3 H
   rw [if_pos c3] at H
   have c3b0 : decide (0 ≤ x3_1) = true := decide_eq_true c3
   clear c3
   replace H := bd_ H
   obtain ⟨t693, A4, H⟩ := H
   by_cases c5 : t693 = true
   rotate_left
   ·
    replace c5 := Bool.eq_false_iff.mpr c5
    subst c5
    rw [if_neg (show ¬ (false = true) by decide)] at H
    obtain rfl := Option.some.inj H
    try go_wp2
    replace HB := am_ (below_drew1 HB.out)
    have p692 : 0 ≤ (x3_1 : Int) := od_
    have q692 : x3_1 < (l0.length : Int) := od_
    obtain ⟨ad692, A692_4, c692_4, A692_5, c692_5, e692, hx692_0, hx692_1, hx692_2, hx692_3, hx692_4, hx692_5, hx692_6, hx692_7, hl692_4, hi692_4, hl692_5, hi692_5⟩ := at_T41 HR0.out x3_1 p692 q692
    have hw692_7 := hx692_7
    have hw692_6 := hx692_6
    have hw692_5 := hx692_5
    have hw692_4 := hx692_4
    have hw692_3 := hx692_3
    have hw692_2 := hx692_2
    have hw692_1 := hx692_1
    have hw692_0 := hx692_0
    cases e692
    replace hx692_0 := lb_ HB hx692_0
    replace hx692_1 := lb_ HB hx692_1
    replace hx692_2 := lb_ HB hx692_2
    replace hx692_3 := lb_ HB hx692_3
    replace hx692_4 := lb_ HB hx692_4
    replace hx692_5 := lb_ HB hx692_5
    replace hx692_6 := lb_ HB hx692_6
    replace hx692_7 := lb_ HB hx692_7
    have HR692_4 := Aside0.mk hi692_4
    have HC692_4 := Aside0.mk hl692_4
    clear hi692_4 hl692_4
    have HR692_5 := Aside0.mk hi692_5
    have HC692_5 := Aside0.mk hl692_5
    clear hi692_5 hl692_5
    replace p692 := eq_true p692
    replace q692 := eq_true q692
    refine start_ (n := 24) (S := fun w' => w'.cell? (ad692.add ((x3_1).toNat * 8)) = some (.int .i64 ((rd_T41 l0 x3_1).f0)) ∧ w'.cell? ⟨(ad692.add ((x3_1).toNat * 8)).block, (ad692.add ((x3_1).toNat * 8)).off + 1, none⟩ = some (.int .i64 ((rd_T41 l0 x3_1).f1)) ∧ w'.cell? ⟨(ad692.add ((x3_1).toNat * 8)).block, (ad692.add ((x3_1).toNat * 8)).off + 2, none⟩ = some (.int .i64 ((rd_T41 l0 x3_1).f2)) ∧ w'.cell? ⟨(ad692.add ((x3_1).toNat * 8)).block, (ad692.add ((x3_1).toNat * 8)).off + 3, none⟩ = some (.bool ((rd_T41 l0 x3_1).f3)) ∧ w'.cell? ⟨(ad692.add ((x3_1).toNat * 8)).block, (ad692.add ((x3_1).toNat * 8)).off + 4, none⟩ = some (.slice A692_4 ((rd_T41 l0 x3_1).f4).length c692_4) ∧ w'.cell? ⟨(ad692.add ((x3_1).toNat * 8)).block, (ad692.add ((x3_1).toNat * 8)).off + 5, none⟩ = some (.slice A692_5 ((rd_T41 l0 x3_1).f5).length c692_5) ∧ w'.cell? ⟨(ad692.add ((x3_1).toNat * 8)).block, (ad692.add ((x3_1).toNat * 8)).off + 6, none⟩ = some (.int .i64 ((rd_T41 l0 x3_1).f6)) ∧ w'.cell? ⟨(ad692.add ((x3_1).toNat * 8)).block, (ad692.add ((x3_1).toNat * 8)).off + 7, none⟩ = some (.int .i64 ((rd_T41 l0 x3_1).f7))) (ds := []) (rl [0,24]) (by kernel_rfl) rfl rfl ⟨(lb_ HB hw692_0 :), (lb_ HB hw692_1 :), (lb_ HB hw692_2 :), (lb_ HB hw692_3 :), (lb_ HB hw692_4 :), (lb_ HB hw692_5 :), (lb_ HB hw692_6 :), (lb_ HB hw692_7 :)⟩ (fun hHeld => ?_); refine with_tabW spec_SocksOk.tab4 spec_SocksOk.bits4 (fun HT_ HW_ => ?_)
    generalize wr.drew = w16 at HB HR692_4 HR692_5 hx692_0 hx692_1 hx692_2 hx692_3 hx692_4 hx692_5 hx692_6 hx692_7 hHeld ⊢
    refine pq_ 0 10 HT_ (rl [1,23]) ?_
    refine pq_ 1 11 HT_ (rl [2,22]) ?_
    refine pq_ 2 12 HT_ (rl [3,21]) ?_
    refine tz_ (i := 3) (N := some 13) HT_ HW_ (rl [4,20]) rfl rfl hHeld ?_
    refine on_ HT_ (i := 4) (N := some 14) (rl [5,19]) (fun K hK => ?_)
    refine goes_ Try.func31 (by kernel_rfl) rfl #[.agg #[.int .i64 ((rd_T41 l0 x3_1).f0), .int .i64 ((rd_T41 l0 x3_1).f1), .int .i64 ((rd_T41 l0 x3_1).f2), .bool ((rd_T41 l0 x3_1).f3), .slice A692_4 ((rd_T41 l0 x3_1).f4).length c692_4, .slice A692_5 ((rd_T41 l0 x3_1).f5).length c692_5, .int .i64 ((rd_T41 l0 x3_1).f6), .int .i64 ((rd_T41 l0 x3_1).f7)]] (by rfl) rfl rfl la_ ?_
    with_reducible refine (spec_SockOk.calls k1 ((rd_T41 l0 x3_1).f0) ((rd_T41 l0 x3_1).f1) ((rd_T41 l0 x3_1).f2) ((rd_T41 l0 x3_1).f3) _ _ ((rd_T41 l0 x3_1).f4) _ _ ((rd_T41 l0 x3_1).f5) ((rd_T41 l0 x3_1).f6) ((rd_T41 l0 x3_1).f7) false _ ?side1 ?side2 ?side3 ?side4 A4.out).mono ?_
    (case side1 => exact qC (Kd.C_below HR692_4.out HB.out))
    (case side2 => exact HC692_4.out)
    (case side3 => exact qC (Kd.C_below HR692_5.out HB.out))
    (case side4 => exact HC692_5.out)
    rintro e w17 ⟨rfl, hb⟩
    refine ⟨_, rfl, ?_⟩
    replace HB := bS_ HB hb
    (try clear hb)
    refine hK.out _ _ ⟨(lb_ HB hw692_0 :), (lb_ HB hw692_1 :), (lb_ HB hw692_2 :), (lb_ HB hw692_3 :), (lb_ HB hw692_4 :), (lb_ HB hw692_5 :), (lb_ HB hw692_6 :), (lb_ HB hw692_7 :)⟩ (fun hHeld => ?_)
    clear hK K
    refine nm_ (some 14) ?_
    refine pq_ 5 15 HT_ (rl [6,18]) ?_
    refine pq_ 6 16 HT_ (rl [7,17]) ?_
    refine pv_ 7 17 HT_ (rl [8,16]) ?_
    refine pv_ 8 18 HT_ (rl [9,15]) ?_
    refine pv_ 9 19 HT_ (rl [10,14]) ?_
    refine pv_ 10 20 HT_ (rl [11,13]) ?_
    refine pv_ 11 21 HT_ (rl [12,12]) ?_
    refine pv_ 12 22 HT_ (rl [13,11]) ?_
    refine pv_ 13 23 HT_ (rl [14,10]) ?_
    refine pv_ 14 24 HT_ (rl [15,9]) ?_
    refine pv_ 15 25 HT_ (rl [16,8]) ?_
    refine pv_ 16 26 HT_ (rl [17,7]) ?_
    refine pv_ 17 27 HT_ (rl [18,6]) ?_
    refine pv_ 18 28 HT_ (rl [19,5]) ?_
    refine pv_ 19 29 HT_ (rl [20,4]) ?_
    refine pv_ 20 30 HT_ (rl [21,3]) ?_
    refine pv_ 21 31 HT_ (rl [22,2]) ?_
    refine pv_ 22 32 HT_ (rl [23,1]) ?_
    refine pq_ 23 33 HT_ (rl [24]) ?_
    refine done_ (done_of HT_.out (by kernel_rfl)) ?_
    try go_wp2
    go_ret
    exact ⟨er_, qB HB⟩
   subst c5
   rw [if_pos rfl] at H
   by_cases c6 : x3_1 > 0
   rotate_left
   ·
    rw [if_neg c6] at H
    have c6b0 : decide (0 < x3_1) = false := decide_eq_false c6
    clear c6
    have H' := Aside0.mk H
    clear H
    try go_wp2
    replace HB := am_ (below_drew1 HB.out)
    have p692 : 0 ≤ (x3_1 : Int) := od_
    have q692 : x3_1 < (l0.length : Int) := od_
    obtain ⟨ad692, A692_4, c692_4, A692_5, c692_5, e692, hx692_0, hx692_1, hx692_2, hx692_3, hx692_4, hx692_5, hx692_6, hx692_7, hl692_4, hi692_4, hl692_5, hi692_5⟩ := at_T41 HR0.out x3_1 p692 q692
    have hw692_7 := hx692_7
    have hw692_6 := hx692_6
    have hw692_5 := hx692_5
    have hw692_4 := hx692_4
    have hw692_3 := hx692_3
    have hw692_2 := hx692_2
    have hw692_1 := hx692_1
    have hw692_0 := hx692_0
    cases e692
    replace hx692_0 := lb_ HB hx692_0
    replace hx692_1 := lb_ HB hx692_1
    replace hx692_2 := lb_ HB hx692_2
    replace hx692_3 := lb_ HB hx692_3
    replace hx692_4 := lb_ HB hx692_4
    replace hx692_5 := lb_ HB hx692_5
    replace hx692_6 := lb_ HB hx692_6
    replace hx692_7 := lb_ HB hx692_7
    have HR692_4 := Aside0.mk hi692_4
    have HC692_4 := Aside0.mk hl692_4
    clear hi692_4 hl692_4
    have HR692_5 := Aside0.mk hi692_5
    have HC692_5 := Aside0.mk hl692_5
    clear hi692_5 hl692_5
    replace p692 := eq_true p692
    replace q692 := eq_true q692
    refine start_ (n := 24) (S := fun w' => w'.cell? (ad692.add ((x3_1).toNat * 8)) = some (.int .i64 ((rd_T41 l0 x3_1).f0)) ∧ w'.cell? ⟨(ad692.add ((x3_1).toNat * 8)).block, (ad692.add ((x3_1).toNat * 8)).off + 1, none⟩ = some (.int .i64 ((rd_T41 l0 x3_1).f1)) ∧ w'.cell? ⟨(ad692.add ((x3_1).toNat * 8)).block, (ad692.add ((x3_1).toNat * 8)).off + 2, none⟩ = some (.int .i64 ((rd_T41 l0 x3_1).f2)) ∧ w'.cell? ⟨(ad692.add ((x3_1).toNat * 8)).block, (ad692.add ((x3_1).toNat * 8)).off + 3, none⟩ = some (.bool ((rd_T41 l0 x3_1).f3)) ∧ w'.cell? ⟨(ad692.add ((x3_1).toNat * 8)).block, (ad692.add ((x3_1).toNat * 8)).off + 4, none⟩ = some (.slice A692_4 ((rd_T41 l0 x3_1).f4).length c692_4) ∧ w'.cell? ⟨(ad692.add ((x3_1).toNat * 8)).block, (ad692.add ((x3_1).toNat * 8)).off + 5, none⟩ = some (.slice A692_5 ((rd_T41 l0 x3_1).f5).length c692_5) ∧ w'.cell? ⟨(ad692.add ((x3_1).toNat * 8)).block, (ad692.add ((x3_1).toNat * 8)).off + 6, none⟩ = some (.int .i64 ((rd_T41 l0 x3_1).f6)) ∧ w'.cell? ⟨(ad692.add ((x3_1).toNat * 8)).block, (ad692.add ((x3_1).toNat * 8)).off + 7, none⟩ = some (.int .i64 ((rd_T41 l0 x3_1).f7))) (ds := []) (rl [0,24]) (by kernel_rfl) rfl rfl ⟨(lb_ HB hw692_0 :), (lb_ HB hw692_1 :), (lb_ HB hw692_2 :), (lb_ HB hw692_3 :), (lb_ HB hw692_4 :), (lb_ HB hw692_5 :), (lb_ HB hw692_6 :), (lb_ HB hw692_7 :)⟩ (fun hHeld => ?_); refine with_tabW spec_SocksOk.tab4 spec_SocksOk.bits4 (fun HT_ HW_ => ?_)
    generalize wr.drew = w14 at HB HR692_4 HR692_5 hx692_0 hx692_1 hx692_2 hx692_3 hx692_4 hx692_5 hx692_6 hx692_7 hHeld ⊢
    refine pq_ 0 10 HT_ (rl [1,23]) ?_
    refine pq_ 1 11 HT_ (rl [2,22]) ?_
    refine pq_ 2 12 HT_ (rl [3,21]) ?_
    refine tz_ (i := 3) (N := some 13) HT_ HW_ (rl [4,20]) rfl rfl hHeld ?_
    refine on_ HT_ (i := 4) (N := some 14) (rl [5,19]) (fun K hK => ?_)
    refine goes_ Try.func31 (by kernel_rfl) rfl #[.agg #[.int .i64 ((rd_T41 l0 x3_1).f0), .int .i64 ((rd_T41 l0 x3_1).f1), .int .i64 ((rd_T41 l0 x3_1).f2), .bool ((rd_T41 l0 x3_1).f3), .slice A692_4 ((rd_T41 l0 x3_1).f4).length c692_4, .slice A692_5 ((rd_T41 l0 x3_1).f5).length c692_5, .int .i64 ((rd_T41 l0 x3_1).f6), .int .i64 ((rd_T41 l0 x3_1).f7)]] (by rfl) rfl rfl la_ ?_
    with_reducible refine (spec_SockOk.calls k1 ((rd_T41 l0 x3_1).f0) ((rd_T41 l0 x3_1).f1) ((rd_T41 l0 x3_1).f2) ((rd_T41 l0 x3_1).f3) _ _ ((rd_T41 l0 x3_1).f4) _ _ ((rd_T41 l0 x3_1).f5) ((rd_T41 l0 x3_1).f6) ((rd_T41 l0 x3_1).f7) true _ ?side1 ?side2 ?side3 ?side4 A4.out).mono ?_
    (case side1 => exact qC (Kd.C_below HR692_4.out HB.out))
    (case side2 => exact HC692_4.out)
    (case side3 => exact qC (Kd.C_below HR692_5.out HB.out))
    (case side4 => exact HC692_5.out)
    rintro e w15 ⟨rfl, hb⟩
    refine ⟨_, rfl, ?_⟩
    replace HB := bS_ HB hb
    (try clear hb)
    refine hK.out _ _ ⟨(lb_ HB hw692_0 :), (lb_ HB hw692_1 :), (lb_ HB hw692_2 :), (lb_ HB hw692_3 :), (lb_ HB hw692_4 :), (lb_ HB hw692_5 :), (lb_ HB hw692_6 :), (lb_ HB hw692_7 :)⟩ (fun hHeld => ?_)
    clear hK K
    refine nm_ (some 14) ?_
    refine pq_ 5 15 HT_ (rl [6,18]) ?_
    refine pq_ 6 16 HT_ (rl [7,17]) ?_
    refine pq_ 7 17 HT_ (rl [8,16]) ?_
    refine pq_ 8 18 HT_ (rl [9,15]) ?_
    refine pq_ 9 19 HT_ (rl [10,14]) ?_
    refine pv_ 10 20 HT_ (rl [11,13]) ?_
    refine pv_ 11 21 HT_ (rl [12,12]) ?_
    refine pv_ 12 22 HT_ (rl [13,11]) ?_
    refine pv_ 13 23 HT_ (rl [14,10]) ?_
    refine pv_ 14 24 HT_ (rl [15,9]) ?_
    refine pv_ 15 25 HT_ (rl [16,8]) ?_
    refine pv_ 16 26 HT_ (rl [17,7]) ?_
    refine pv_ 17 27 HT_ (rl [18,6]) ?_
    refine pv_ 18 28 HT_ (rl [19,5]) ?_
    refine pv_ 19 29 HT_ (rl [20,4]) ?_
    refine pv_ 20 30 HT_ (rl [21,3]) ?_
    refine pv_ 21 31 HT_ (rl [22,2]) ?_
    refine pq_ 22 32 HT_ (rl [23,1]) ?_
    refine pq_ 23 33 HT_ (rl [24]) ?_
    refine done_ (done_of HT_.out (by kernel_rfl)) ?_
    try go_wp2
    go_roundg k1
    case measure => have := HK1.out; omega
    case rel => exact ⟨(wrap64 (x3_1 + 1)), eqq_, H', ⟨by have := HK1.out; omega⟩, ⟨qB HB⟩⟩
   rw [if_pos c6] at H
   have c6b0 : decide (0 < x3_1) = true := decide_eq_true c6
   clear c6
   obtain ⟨ji7, hji7⟩ : ∃ j_ : Int, (wrap64 (x3_1 - 1)) = j_ := ⟨_, rfl⟩
   replace H : (if 0 ≤ (ji7) then (if (ji7) < (l0.length : Int) then (if ((rd_T41 l0 (ji7)).f0) ≥ ((rd_T41 l0 x3_1).f0) then (some false) else (spec_SocksOk.l0 k1 l0 (wrap64 (x3_1 + 1)))) else (none)) else (none)) = some r := by first | (rw [hji7] at H; exact H) | (simp only [hji7] at H ⊢; exact H)
   (try rw [hji7] at A4)
   have hji7w : (IntKind.i64.wrap (x3_1 - 1)) = ji7 := (i64_w _).trans hji7
   by_cases c8 : 0 ≤ (ji7)
   case neg => exact nn_ c8 H
   rw [if_pos c8] at H
   have c8b0 : decide (0 ≤ (ji7)) = true := decide_eq_true c8
   clear c8
   by_cases c9 : (ji7) < (l0.length : Int)
   case neg => exact nn_ c9 H
   rw [if_pos c9] at H
   have c9b0 : decide ((ji7) < (l0.length : Int)) = true := decide_eq_true c9
   clear c9
   have HC10 := Aside0.mk H
   clear H
   try go_wp2
   replace HB := am_ (below_drew1 HB.out)
   have p692 : 0 ≤ (x3_1 : Int) := od_
   have q692 : x3_1 < (l0.length : Int) := od_
   obtain ⟨ad692, A692_4, c692_4, A692_5, c692_5, e692, hx692_0, hx692_1, hx692_2, hx692_3, hx692_4, hx692_5, hx692_6, hx692_7, hl692_4, hi692_4, hl692_5, hi692_5⟩ := at_T41 HR0.out x3_1 p692 q692
   have hw692_7 := hx692_7
   have hw692_6 := hx692_6
   have hw692_5 := hx692_5
   have hw692_4 := hx692_4
   have hw692_3 := hx692_3
   have hw692_2 := hx692_2
   have hw692_1 := hx692_1
   have hw692_0 := hx692_0
   cases e692
   replace hx692_0 := lb_ HB hx692_0
   replace hx692_1 := lb_ HB hx692_1
   replace hx692_2 := lb_ HB hx692_2
   replace hx692_3 := lb_ HB hx692_3
   replace hx692_4 := lb_ HB hx692_4
   replace hx692_5 := lb_ HB hx692_5
   replace hx692_6 := lb_ HB hx692_6
   replace hx692_7 := lb_ HB hx692_7
   have HR692_4 := Aside0.mk hi692_4
   have HC692_4 := Aside0.mk hl692_4
   clear hi692_4 hl692_4
   have HR692_5 := Aside0.mk hi692_5
   have HC692_5 := Aside0.mk hl692_5
   clear hi692_5 hl692_5
   replace p692 := eq_true p692
   replace q692 := eq_true q692
   have p694 : 0 ≤ ((ji7) : Int) := od_
   have q694 : (ji7) < (l0.length : Int) := od_
   obtain ⟨ad694, A694_4, c694_4, A694_5, c694_5, e694, hx694_0, hx694_1, hx694_2, hx694_3, hx694_4, hx694_5, hx694_6, hx694_7, hl694_4, hi694_4, hl694_5, hi694_5⟩ := at_T41 HR0.out (ji7) p694 q694
   have hw694_7 := hx694_7
   have hw694_6 := hx694_6
   have hw694_5 := hx694_5
   have hw694_4 := hx694_4
   have hw694_3 := hx694_3
   have hw694_2 := hx694_2
   have hw694_1 := hx694_1
   have hw694_0 := hx694_0
   obtain rfl : ad692 = ad694 := (by injection e694)
   replace hx694_0 := lb_ HB hx694_0
   replace hx694_1 := lb_ HB hx694_1
   replace hx694_2 := lb_ HB hx694_2
   replace hx694_3 := lb_ HB hx694_3
   replace hx694_4 := lb_ HB hx694_4
   replace hx694_5 := lb_ HB hx694_5
   replace hx694_6 := lb_ HB hx694_6
   replace hx694_7 := lb_ HB hx694_7
   have HR694_4 := Aside0.mk hi694_4
   have HC694_4 := Aside0.mk hl694_4
   clear hi694_4 hl694_4
   have HR694_5 := Aside0.mk hi694_5
   have HC694_5 := Aside0.mk hl694_5
   clear hi694_5 hl694_5
   replace p694 := eq_true p694
   replace q694 := eq_true q694
   have p695 : 0 ≤ (x3_1 : Int) := od_
   have q695 : x3_1 < (l0.length : Int) := od_
   obtain ⟨ad695, A695_4, c695_4, A695_5, c695_5, e695, hx695_0, hx695_1, hx695_2, hx695_3, hx695_4, hx695_5, hx695_6, hx695_7, hl695_4, hi695_4, hl695_5, hi695_5⟩ := at_T41 HR0.out x3_1 p695 q695
   have hw695_7 := hx695_7
   have hw695_6 := hx695_6
   have hw695_5 := hx695_5
   have hw695_4 := hx695_4
   have hw695_3 := hx695_3
   have hw695_2 := hx695_2
   have hw695_1 := hx695_1
   have hw695_0 := hx695_0
   obtain rfl : ad692 = ad695 := (by injection e695)
   replace hx695_0 := lb_ HB hx695_0
   replace hx695_1 := lb_ HB hx695_1
   replace hx695_2 := lb_ HB hx695_2
   replace hx695_3 := lb_ HB hx695_3
   replace hx695_4 := lb_ HB hx695_4
   replace hx695_5 := lb_ HB hx695_5
   replace hx695_6 := lb_ HB hx695_6
   replace hx695_7 := lb_ HB hx695_7
   have HR695_4 := Aside0.mk hi695_4
   have HC695_4 := Aside0.mk hl695_4
   clear hi695_4 hl695_4
   have HR695_5 := Aside0.mk hi695_5
   have HC695_5 := Aside0.mk hl695_5
   clear hi695_5 hl695_5
   replace p695 := eq_true p695
   replace q695 := eq_true q695
   refine start_ (n := 24) (S := fun w' => w'.cell? (ad692.add ((x3_1).toNat * 8)) = some (.int .i64 ((rd_T41 l0 x3_1).f0)) ∧ w'.cell? ⟨(ad692.add ((x3_1).toNat * 8)).block, (ad692.add ((x3_1).toNat * 8)).off + 1, none⟩ = some (.int .i64 ((rd_T41 l0 x3_1).f1)) ∧ w'.cell? ⟨(ad692.add ((x3_1).toNat * 8)).block, (ad692.add ((x3_1).toNat * 8)).off + 2, none⟩ = some (.int .i64 ((rd_T41 l0 x3_1).f2)) ∧ w'.cell? ⟨(ad692.add ((x3_1).toNat * 8)).block, (ad692.add ((x3_1).toNat * 8)).off + 3, none⟩ = some (.bool ((rd_T41 l0 x3_1).f3)) ∧ w'.cell? ⟨(ad692.add ((x3_1).toNat * 8)).block, (ad692.add ((x3_1).toNat * 8)).off + 4, none⟩ = some (.slice A692_4 ((rd_T41 l0 x3_1).f4).length c692_4) ∧ w'.cell? ⟨(ad692.add ((x3_1).toNat * 8)).block, (ad692.add ((x3_1).toNat * 8)).off + 5, none⟩ = some (.slice A692_5 ((rd_T41 l0 x3_1).f5).length c692_5) ∧ w'.cell? ⟨(ad692.add ((x3_1).toNat * 8)).block, (ad692.add ((x3_1).toNat * 8)).off + 6, none⟩ = some (.int .i64 ((rd_T41 l0 x3_1).f6)) ∧ w'.cell? ⟨(ad692.add ((x3_1).toNat * 8)).block, (ad692.add ((x3_1).toNat * 8)).off + 7, none⟩ = some (.int .i64 ((rd_T41 l0 x3_1).f7)) ∧ w'.cell? (ad692.add (((ji7)).toNat * 8)) = some (.int .i64 ((rd_T41 l0 (ji7)).f0)) ∧ w'.cell? ⟨(ad692.add (((ji7)).toNat * 8)).block, (ad692.add (((ji7)).toNat * 8)).off + 1, none⟩ = some (.int .i64 ((rd_T41 l0 (ji7)).f1)) ∧ w'.cell? ⟨(ad692.add (((ji7)).toNat * 8)).block, (ad692.add (((ji7)).toNat * 8)).off + 2, none⟩ = some (.int .i64 ((rd_T41 l0 (ji7)).f2)) ∧ w'.cell? ⟨(ad692.add (((ji7)).toNat * 8)).block, (ad692.add (((ji7)).toNat * 8)).off + 3, none⟩ = some (.bool ((rd_T41 l0 (ji7)).f3)) ∧ w'.cell? ⟨(ad692.add (((ji7)).toNat * 8)).block, (ad692.add (((ji7)).toNat * 8)).off + 4, none⟩ = some (.slice A694_4 ((rd_T41 l0 (ji7)).f4).length c694_4) ∧ w'.cell? ⟨(ad692.add (((ji7)).toNat * 8)).block, (ad692.add (((ji7)).toNat * 8)).off + 5, none⟩ = some (.slice A694_5 ((rd_T41 l0 (ji7)).f5).length c694_5) ∧ w'.cell? ⟨(ad692.add (((ji7)).toNat * 8)).block, (ad692.add (((ji7)).toNat * 8)).off + 6, none⟩ = some (.int .i64 ((rd_T41 l0 (ji7)).f6)) ∧ w'.cell? ⟨(ad692.add (((ji7)).toNat * 8)).block, (ad692.add (((ji7)).toNat * 8)).off + 7, none⟩ = some (.int .i64 ((rd_T41 l0 (ji7)).f7)) ∧ w'.cell? (ad692.add ((x3_1).toNat * 8)) = some (.int .i64 ((rd_T41 l0 x3_1).f0)) ∧ w'.cell? ⟨(ad692.add ((x3_1).toNat * 8)).block, (ad692.add ((x3_1).toNat * 8)).off + 1, none⟩ = some (.int .i64 ((rd_T41 l0 x3_1).f1)) ∧ w'.cell? ⟨(ad692.add ((x3_1).toNat * 8)).block, (ad692.add ((x3_1).toNat * 8)).off + 2, none⟩ = some (.int .i64 ((rd_T41 l0 x3_1).f2)) ∧ w'.cell? ⟨(ad692.add ((x3_1).toNat * 8)).block, (ad692.add ((x3_1).toNat * 8)).off + 3, none⟩ = some (.bool ((rd_T41 l0 x3_1).f3)) ∧ w'.cell? ⟨(ad692.add ((x3_1).toNat * 8)).block, (ad692.add ((x3_1).toNat * 8)).off + 4, none⟩ = some (.slice A695_4 ((rd_T41 l0 x3_1).f4).length c695_4) ∧ w'.cell? ⟨(ad692.add ((x3_1).toNat * 8)).block, (ad692.add ((x3_1).toNat * 8)).off + 5, none⟩ = some (.slice A695_5 ((rd_T41 l0 x3_1).f5).length c695_5) ∧ w'.cell? ⟨(ad692.add ((x3_1).toNat * 8)).block, (ad692.add ((x3_1).toNat * 8)).off + 6, none⟩ = some (.int .i64 ((rd_T41 l0 x3_1).f6)) ∧ w'.cell? ⟨(ad692.add ((x3_1).toNat * 8)).block, (ad692.add ((x3_1).toNat * 8)).off + 7, none⟩ = some (.int .i64 ((rd_T41 l0 x3_1).f7))) (ds := []) (rl [0,24]) (by kernel_rfl) rfl rfl ⟨(lb_ HB hw692_0 :), (lb_ HB hw692_1 :), (lb_ HB hw692_2 :), (lb_ HB hw692_3 :), (lb_ HB hw692_4 :), (lb_ HB hw692_5 :), (lb_ HB hw692_6 :), (lb_ HB hw692_7 :), (lb_ HB hw694_0 :), (lb_ HB hw694_1 :), (lb_ HB hw694_2 :), (lb_ HB hw694_3 :), (lb_ HB hw694_4 :), (lb_ HB hw694_5 :), (lb_ HB hw694_6 :), (lb_ HB hw694_7 :), (lb_ HB hw695_0 :), (lb_ HB hw695_1 :), (lb_ HB hw695_2 :), (lb_ HB hw695_3 :), (lb_ HB hw695_4 :), (lb_ HB hw695_5 :), (lb_ HB hw695_6 :), (lb_ HB hw695_7 :)⟩ (fun hHeld => ?_); refine with_tabW spec_SocksOk.tab4 spec_SocksOk.bits4 (fun HT_ HW_ => ?_)
   generalize wr.drew = w11 at HB HR692_4 HR692_5 HR694_4 HR694_5 HR695_4 HR695_5 hx692_0 hx692_1 hx692_2 hx692_3 hx692_4 hx692_5 hx692_6 hx692_7 hx694_0 hx694_1 hx694_2 hx694_3 hx694_4 hx694_5 hx694_6 hx694_7 hx695_0 hx695_1 hx695_2 hx695_3 hx695_4 hx695_5 hx695_6 hx695_7 hHeld ⊢
   refine pq_ 0 10 HT_ (rl [1,23]) ?_
   refine pq_ 1 11 HT_ (rl [2,22]) ?_
   refine pq_ 2 12 HT_ (rl [3,21]) ?_
   refine tz_ (i := 3) (N := some 13) HT_ HW_ (rl [4,20]) rfl rfl hHeld ?_
   refine on_ HT_ (i := 4) (N := some 14) (rl [5,19]) (fun K hK => ?_)
   refine goes_ Try.func31 (by kernel_rfl) rfl #[.agg #[.int .i64 ((rd_T41 l0 x3_1).f0), .int .i64 ((rd_T41 l0 x3_1).f1), .int .i64 ((rd_T41 l0 x3_1).f2), .bool ((rd_T41 l0 x3_1).f3), .slice A692_4 ((rd_T41 l0 x3_1).f4).length c692_4, .slice A692_5 ((rd_T41 l0 x3_1).f5).length c692_5, .int .i64 ((rd_T41 l0 x3_1).f6), .int .i64 ((rd_T41 l0 x3_1).f7)]] (by rfl) rfl rfl la_ ?_
   with_reducible refine (spec_SockOk.calls k1 ((rd_T41 l0 x3_1).f0) ((rd_T41 l0 x3_1).f1) ((rd_T41 l0 x3_1).f2) ((rd_T41 l0 x3_1).f3) _ _ ((rd_T41 l0 x3_1).f4) _ _ ((rd_T41 l0 x3_1).f5) ((rd_T41 l0 x3_1).f6) ((rd_T41 l0 x3_1).f7) true _ ?side1 ?side2 ?side3 ?side4 A4.out).mono ?_
   (case side1 => exact qC (Kd.C_below HR692_4.out HB.out))
   (case side2 => exact HC692_4.out)
   (case side3 => exact qC (Kd.C_below HR692_5.out HB.out))
   (case side4 => exact HC692_5.out)
   rintro e w12 ⟨rfl, hb⟩
   refine ⟨_, rfl, ?_⟩
   replace HB := bS_ HB hb
   (try clear hb)
   refine hK.out _ _ ⟨(lb_ HB hw692_0 :), (lb_ HB hw692_1 :), (lb_ HB hw692_2 :), (lb_ HB hw692_3 :), (lb_ HB hw692_4 :), (lb_ HB hw692_5 :), (lb_ HB hw692_6 :), (lb_ HB hw692_7 :), (lb_ HB hw694_0 :), (lb_ HB hw694_1 :), (lb_ HB hw694_2 :), (lb_ HB hw694_3 :), (lb_ HB hw694_4 :), (lb_ HB hw694_5 :), (lb_ HB hw694_6 :), (lb_ HB hw694_7 :), (lb_ HB hw695_0 :), (lb_ HB hw695_1 :), (lb_ HB hw695_2 :), (lb_ HB hw695_3 :), (lb_ HB hw695_4 :), (lb_ HB hw695_5 :), (lb_ HB hw695_6 :), (lb_ HB hw695_7 :)⟩ (fun hHeld => ?_)
   clear hK K
   refine nm_ (some 14) ?_
   refine pq_ 5 15 HT_ (rl [6,18]) ?_
   refine pq_ 6 16 HT_ (rl [7,17]) ?_
   refine pq_ 7 17 HT_ (rl [8,16]) ?_
   refine pq_ 8 18 HT_ (rl [9,15]) ?_
   refine pq_ 9 19 HT_ (rl [10,14]) ?_
   refine pq_ 10 20 HT_ (rl [11,13]) ?_
   refine pq_ 11 21 HT_ (rl [12,12]) ?_
   refine pq_ 12 22 HT_ (rl [13,11]) ?_
   refine pq_ 13 23 HT_ (rl [14,10]) ?_
   refine pq_ 14 24 HT_ (rl [15,9]) ?_
   refine pq_ 16 26 HT_ (rl [15,1,1,7]) ?_
   refine pq_ 17 27 HT_ (rl [15,1,2,6]) ?_
   refine pq_ 18 28 HT_ (rl [15,1,3,5]) ?_
   refine pq_ 19 29 HT_ (rl [15,1,4,4]) ?_
   refine tz_ (i := 15) (N := some 25) HT_ HW_ (rl [20,4]) rfl rfl hHeld ?_
   refine tz_ (i := 20) (N := some 30) HT_ HW_ (rl [21,3]) rfl rfl hHeld ?_
   refine pq_ 21 31 HT_ (rl [22,2]) ?_
   refine pq_ 22 32 HT_ (rl [23,1]) ?_
   refine pq_ 23 33 HT_ (rl [24]) ?_
   refine done_ (done_of HT_.out (by kernel_rfl)) ?_
   go_upto_if 33 with (fail)
   have H := HC10.out
   clear HC10
   by_cases c13 : ((rd_T41 l0 (ji7)).f0) ≥ ((rd_T41 l0 x3_1).f0)
   ·
    rw [if_pos c13] at H
    have c13b0 : decide (((rd_T41 l0 x3_1).f0) ≤ ((rd_T41 l0 (ji7)).f0)) = true := decide_eq_true c13
    clear c13
    (first | rw [c13b0] | (simp only [i64_w, i32_w]; rw [c13b0]) | skip)
    obtain rfl := Option.some.inj H
    go_wp2
    go_ret
    exact ⟨by first | rfl | (simp [errW_none, errW_some] <;> rfl) | (simp only [← hji7]; first | rfl | (simp [errW_none, errW_some] <;> rfl)) | (simp [*, errW_none, errW_some] <;> rfl), qB HB⟩
   rw [if_neg c13] at H
   have c13b0 : decide (((rd_T41 l0 x3_1).f0) ≤ ((rd_T41 l0 (ji7)).f0)) = false := decide_eq_false c13
   clear c13
   (first | rw [c13b0] | (simp only [i64_w, i32_w]; rw [c13b0]) | skip)
   have H' := Aside0.mk H
   clear H
   go_wp2
   go_roundg k1
   case measure => have := HK1.out; omega
   case rel => exact ⟨(wrap64 (x3_1 + 1)), eqq_, H', ⟨by have := HK1.out; omega⟩, ⟨qB HB⟩⟩

end Go.Proofs.Ytiffahfpfgnjnaa.PFnSocks
