-- Written by a program of this session (myprint.py, over the kit's print): contracts of FnSocks
import Derived.Test.YtiffahfpfgnjnaaPFnSocksx0
import Derived.Test.YtiffahfpfgnjnaaPFnSocksx6
namespace Go.Proofs.Ytiffahfpfgnjnaa.PFnSocks
open Go.RowKit Go.Proofs.YtiffahfpfgnjnaaW.PrintWords Go.Proofs.YtiffahfpfgnjnaaW.PrintLast Go.Proofs.YtiffahfpfgnjnaaW.PrintMore Go.Proofs.YtiffahfpfgnjnaaV
attribute [local go_sem] max2_int min2_int max_two min_two max_three min_three max_four min_four   -- for this text's walks alone
set_option linter.unusedVariables false
set_option linter.unusedSimpArgs false

/-! ### impl_SocksOk: function 34 -/
def impl_SocksOk.l0 : Nat → List (S41) → List (S41) → Int → Int → Option (Bool)
 | 0, _, _, _, _ => none
 | k + 1, x0, x5, x6, x7 => if x7 < x6 then (if 0 ≤ x7 then (if x7 < (x5.length : Int) then ((impl_SockOk.f k ((rd_T41 x5 x7).f0) ((rd_T41 x5 x7).f1) ((rd_T41 x5 x7).f2) ((rd_T41 x5 x7).f3) ((rd_T41 x5 x7).f4) ((rd_T41 x5 x7).f5) ((rd_T41 x5 x7).f6) ((rd_T41 x5 x7).f7)).bind fun t690 => (if t690 = true then (if x7 > 0 then (if 0 ≤ (wrap64 (x7 - 1)) then (if (wrap64 (x7 - 1)) < (x0.length : Int) then (if ((rd_T41 x5 x7).f0) ≤ ((rd_T41 x0 (wrap64 (x7 - 1))).f0) then (some false) else (impl_SocksOk.l0 k x0 x5 x6 (wrap64 (x7 + 1)))) else (none)) else (none)) else (impl_SocksOk.l0 k x0 x5 x6 (wrap64 (x7 + 1)))) else (some false))) else (none)) else (none)) else (some (decide ((x0.length : Int) ≤ 12)))
def impl_SocksOk.f (k : Nat) (l0 : List (S41)) : Option (Bool) := impl_SocksOk.l0 k l0 l0 (l0.length : Int) 0
theorem impl_SocksOk.mono_l : ∀ k, (∀ y0 y1 y2 y3, LeO (impl_SocksOk.l0 k y0 y1 y2 y3) (impl_SocksOk.l0 (k + 1) y0 y1 y2 y3))
 | 0 => fun _ _ _ _ r h => by simp [impl_SocksOk.l0] at h
 | k + 1 => by
  have ih0 := impl_SocksOk.mono_l k
  ·
   intro y0 y1 y2 y3
   unfold impl_SocksOk.l0
   have m0 := @impl_SockOk.mono; exact mo_
theorem impl_SocksOk.mono : ∀ a0 k, LeO (impl_SocksOk.f k a0) (impl_SocksOk.f (k + 1) a0) := by
 intro a0 k
 have ih0 := impl_SocksOk.mono_l k
 unfold impl_SocksOk.f
 have m0 := @impl_SockOk.mono; exact mo_
def impl_SocksOk.T4 : Bool × List (List Nat × List Nat) := (true, [([], []), ([0], [0]), ([1], [1]), ([2, 1], [2]), ([3], [3]), ([4, 3], [3, 4]), ([5, 3, 3], [3, 5]), ([6], [6]), ([7, 6], [6, 7]), ([6], [6]), ([6], [6]), ([10, 6], [6, 10]), ([9, 11, 6], [6, 9, 11]), ([12, 6], [6, 12]), ([13, 6], [6, 13]), ([8, 14, 6], [6, 8, 14]), ([6, 15, 3], [3, 6, 15]), ([3, 16], [3, 16])])
def impl_SocksOk.B4 : List Nat := [0, 1, 3, 7, 15, 31, 63, 127, 255, 127, 127, 1151, 3711, 7807, 15999, 32767, 65535, 131071]
theorem impl_SocksOk.tab4 : rtab .any (opsOf Try.f34 4) = impl_SocksOk.T4 := by kernel_rfl
theorem impl_SocksOk.bits4 : waitsOk impl_SocksOk.T4.2 impl_SocksOk.B4 = true := by kernel_rfl
set_option maxHeartbeats 8000000 in
set_option maxRecDepth 100000 in
theorem impl_SocksOk.calls (k : Nat) (A0 : Option Addr) (c0 : Nat) (l0 : List (S41)) (r : Bool) (w : World) (hr0 : Kd.C k41 w A0 l0.length l0) (hc0 : l0.length ≤ c0) (h : impl_SocksOk.f k l0 = some r) :
  Calls Try.prog 34 #[.slice A0 l0.length c0] w fun e w' => e = .returned (.bool r) ∧ Below w.heap.size w w' := by
 have hu41 := Try.underlying41
 have HR0 := Aside0.mk hr0
 have HC0 := Aside0.mk hc0
 clear hr0 hc0
 have HB := Aside0.mk (Below.refl w.heap.size w)
 have H : (impl_SocksOk.l0 k l0 l0 (l0.length : Int) 0) = some r := h
 clear h
 have H' := Aside0.mk H
 clear H
 go_enter Try.func34, Try.ntmps34
 go_wp2
 go_loopg [7] k (fun kq v7 w' => ∃ (x7_1 : Int), v7 = .int .i64 x7_1 ∧ Aside0 (impl_SocksOk.l0 kq l0 l0 (l0.length : Int) x7_1 = some r) ∧ Aside0 (kq ≤ k) ∧ Aside0 (Below w.heap.size w w'))
 case atStart => exact ⟨(0), eqq_, H', ⟨Nat.le_refl _⟩, ⟨qB HB⟩⟩
 case round =>
  clear H'
  obtain ⟨x7_1, rfl, HA, HK1, HB⟩ := hrel
  cases gk with
  | zero => exact absurd HA.out (by simp [impl_SocksOk.l0])
  | succ k1 =>
   have H := HA.out
   clear HA
   simp only [impl_SocksOk.l0] at H
   by_cases c2 : x7_1 < (l0.length : Int)
   rotate_left
   ·
    rw [if_neg c2] at H
    have c2b0 : decide (x7_1 < (l0.length : Int)) = false := decide_eq_false c2
    clear c2
    obtain rfl := Option.some.inj H
    go_wp2
    go_ret
    exact ⟨er_, qB HB⟩
   rw [if_pos c2] at H
   have c2b0 : decide (x7_1 < (l0.length : Int)) = true := decide_eq_true c2
   clear c2
   by_cases c3 : 0 ≤ x7_1
   case neg => exact nn_ c3 H
   rw [if_pos c3] at H
   have c3b0 : decide (0 ≤ x7_1) = true := decide_eq_true c3
   clear c3
   by_cases c4 : x7_1 < (l0.length : Int)
   case neg => exact nn_ c4 H
   rw [if_pos c4] at H
   have c4b0 : decide (x7_1 < (l0.length : Int)) = true := decide_eq_true c4
   clear c4
   replace H := bd_ H
   obtain ⟨t690, A5, H⟩ := H
   by_cases c6 : t690 = true
   rotate_left
   ·
    replace c6 := Bool.eq_false_iff.mpr c6
    subst c6
    rw [if_neg (show ¬ (false = true) by decide)] at H
    obtain rfl := Option.some.inj H
    have p688 : 0 ≤ (x7_1 : Int) := od_
    have q688 : x7_1 < (l0.length : Int) := od_
    obtain ⟨ad688, A688_4, c688_4, A688_5, c688_5, e688, hx688_0, hx688_1, hx688_2, hx688_3, hx688_4, hx688_5, hx688_6, hx688_7, hl688_4, hi688_4, hl688_5, hi688_5⟩ := at_T41 HR0.out x7_1 p688 q688
    cases e688
    replace hx688_0 := lb_ HB hx688_0
    replace hx688_1 := lb_ HB hx688_1
    replace hx688_2 := lb_ HB hx688_2
    replace hx688_3 := lb_ HB hx688_3
    replace hx688_4 := lb_ HB hx688_4
    replace hx688_5 := lb_ HB hx688_5
    replace hx688_6 := lb_ HB hx688_6
    replace hx688_7 := lb_ HB hx688_7
    have HR688_4 := Aside0.mk hi688_4
    have HC688_4 := Aside0.mk hl688_4
    clear hi688_4 hl688_4
    have HR688_5 := Aside0.mk hi688_5
    have HC688_5 := Aside0.mk hl688_5
    clear hi688_5 hl688_5
    replace p688 := eq_true p688
    replace q688 := eq_true q688
    try go_wp2_with (first | ((with_reducible refine gate_dst (N := 4) rfl ?_); refine bx_ (N := 4) (cs := #[.int .i64 0, .int .i64 0, .int .i64 0, .bool false, .slice none 0 0, .slice none 0 0, .int .i64 0, .int .i64 0]) (t := 41) ?_; intro gb689 hg w23 hbox hb; have BK689 := am_ (hbox); have GW689 := gA_ hg HB; have GE689 := GW689; have IGE689 := gI_ GE689; replace HB := bS_ HB hb; clear hb hbox hg; (try clear zK689); have zK689 := cz8 BK689.out; (try clear fK689); have fK689 := fz8 BK689.out))
    have n0_ : Aside0 (((((((((w23.setCell ⟨gb689, 0, none⟩ (.int .i64 ((rd_T41 l0 x7_1).f0))).setCell ⟨gb689, 1, none⟩ (.int .i64 ((rd_T41 l0 x7_1).f1))).setCell ⟨gb689, 2, none⟩ (.int .i64 ((rd_T41 l0 x7_1).f2))).setCell ⟨gb689, 3, none⟩ (.bool ((rd_T41 l0 x7_1).f3))).setCell ⟨gb689, 4, none⟩ (.slice A688_4 ((rd_T41 l0 x7_1).f4).length c688_4)).setCell ⟨gb689, 5, none⟩ (.slice A688_5 ((rd_T41 l0 x7_1).f5).length c688_5)).setCell ⟨gb689, 6, none⟩ (.int .i64 ((rd_T41 l0 x7_1).f6))).setCell ⟨gb689, 7, none⟩ (.int .i64 ((rd_T41 l0 x7_1).f7))).heap[gb689]? = some (.cells #[.int .i64 ((rd_T41 l0 x7_1).f0), .int .i64 ((rd_T41 l0 x7_1).f1), .int .i64 ((rd_T41 l0 x7_1).f2), .bool ((rd_T41 l0 x7_1).f3), .slice A688_4 ((rd_T41 l0 x7_1).f4).length c688_4, .slice A688_5 ((rd_T41 l0 x7_1).f5).length c688_5, .int .i64 ((rd_T41 l0 x7_1).f6), .int .i64 ((rd_T41 l0 x7_1).f7)] 41 (0, 0))) := ⟨by (with_reducible repeat (first | refine blk_drewN ?_ _ | refine blk_drew ?_ | refine blk_alloc ?_ _)); refine blk_all8 (show _ = some (Go.Obj.cells #[.int .i64 0, .int .i64 0, .int .i64 0, .bool false, .slice none 0 0, .slice none 0 0, .int .i64 0, .int .i64 0] _ (0, 0)) from ?_); exact qK BK689⟩
    have n1_ : Aside0 (Below w.heap.size w ((((((((w23.setCell ⟨gb689, 0, none⟩ (.int .i64 ((rd_T41 l0 x7_1).f0))).setCell ⟨gb689, 1, none⟩ (.int .i64 ((rd_T41 l0 x7_1).f1))).setCell ⟨gb689, 2, none⟩ (.int .i64 ((rd_T41 l0 x7_1).f2))).setCell ⟨gb689, 3, none⟩ (.bool ((rd_T41 l0 x7_1).f3))).setCell ⟨gb689, 4, none⟩ (.slice A688_4 ((rd_T41 l0 x7_1).f4).length c688_4)).setCell ⟨gb689, 5, none⟩ (.slice A688_5 ((rd_T41 l0 x7_1).f5).length c688_5)).setCell ⟨gb689, 6, none⟩ (.int .i64 ((rd_T41 l0 x7_1).f6))).setCell ⟨gb689, 7, none⟩ (.int .i64 ((rd_T41 l0 x7_1).f7)))) := ⟨qB HB⟩
    (try clear BK689)
    (try clear HB)
    generalize ((((((((w23.setCell ⟨gb689, 0, none⟩ (.int .i64 ((rd_T41 l0 x7_1).f0))).setCell ⟨gb689, 1, none⟩ (.int .i64 ((rd_T41 l0 x7_1).f1))).setCell ⟨gb689, 2, none⟩ (.int .i64 ((rd_T41 l0 x7_1).f2))).setCell ⟨gb689, 3, none⟩ (.bool ((rd_T41 l0 x7_1).f3))).setCell ⟨gb689, 4, none⟩ (.slice A688_4 ((rd_T41 l0 x7_1).f4).length c688_4)).setCell ⟨gb689, 5, none⟩ (.slice A688_5 ((rd_T41 l0 x7_1).f5).length c688_5)).setCell ⟨gb689, 6, none⟩ (.int .i64 ((rd_T41 l0 x7_1).f6))).setCell ⟨gb689, 7, none⟩ (.int .i64 ((rd_T41 l0 x7_1).f7))) = w25 at n0_ n1_ ⊢
    have BK689 := n0_
    have HB := n1_
    clear n0_ n1_
    replace BK689 := am_ (blk_drew BK689.out)
    replace HB := am_ (below_drew1 HB.out)
    refine start_ (n := 18) (S := fun w' => w'.cell? ⟨gb689, 0, none⟩ = some (.int .i64 ((rd_T41 l0 x7_1).f0)) ∧ w'.cell? ⟨gb689, 1, none⟩ = some (.int .i64 ((rd_T41 l0 x7_1).f1)) ∧ w'.cell? ⟨gb689, 2, none⟩ = some (.int .i64 ((rd_T41 l0 x7_1).f2)) ∧ w'.cell? ⟨gb689, 3, none⟩ = some (.bool ((rd_T41 l0 x7_1).f3)) ∧ w'.cell? ⟨gb689, 4, none⟩ = some (.slice A688_4 ((rd_T41 l0 x7_1).f4).length c688_4) ∧ w'.cell? ⟨gb689, 5, none⟩ = some (.slice A688_5 ((rd_T41 l0 x7_1).f5).length c688_5) ∧ w'.cell? ⟨gb689, 6, none⟩ = some (.int .i64 ((rd_T41 l0 x7_1).f6)) ∧ w'.cell? ⟨gb689, 7, none⟩ = some (.int .i64 ((rd_T41 l0 x7_1).f7))) (ds := []) (rl [0,18]) (by kernel_rfl) rfl rfl (cz8 BK689.out) (fun hHeld => ?_); refine with_tabW impl_SocksOk.tab4 impl_SocksOk.bits4 (fun HT_ HW_ => ?_)
    generalize w25.drew = w26 at BK689 HB hHeld ⊢
    refine tz_ (i := 0) (N := some 12) HT_ HW_ (rl [1,17]) rfl rfl hHeld ?_ (hy := fun w' ⟨s0, s1, s2, s3, s4, s5, s6, s7⟩ => ldr8 s0 s1 s2 s3 s4 s5 s6 s7)
    refine on_ HT_ (i := 1) (N := some 13) (rl [2,16]) (fun K hK => ?_)
    refine goes_ Try.func30 (by kernel_rfl) rfl #[.agg #[.int .i64 ((rd_T41 l0 x7_1).f0), .int .i64 ((rd_T41 l0 x7_1).f1), .int .i64 ((rd_T41 l0 x7_1).f2), .bool ((rd_T41 l0 x7_1).f3), .slice A688_4 ((rd_T41 l0 x7_1).f4).length c688_4, .slice A688_5 ((rd_T41 l0 x7_1).f5).length c688_5, .int .i64 ((rd_T41 l0 x7_1).f6), .int .i64 ((rd_T41 l0 x7_1).f7)]] (by rfl) rfl rfl la_ ?_
    with_reducible refine (impl_SockOk.calls k1 ((rd_T41 l0 x7_1).f0) ((rd_T41 l0 x7_1).f1) ((rd_T41 l0 x7_1).f2) ((rd_T41 l0 x7_1).f3) _ _ ((rd_T41 l0 x7_1).f4) _ _ ((rd_T41 l0 x7_1).f5) ((rd_T41 l0 x7_1).f6) ((rd_T41 l0 x7_1).f7) false _ ?side1 ?side2 ?side3 ?side4 A5.out).mono ?_
    (case side1 => exact qC (Kd.C_below HR688_4.out HB.out))
    (case side2 => exact HC688_4.out)
    (case side3 => exact qC (Kd.C_below HR688_5.out HB.out))
    (case side4 => exact HC688_5.out)
    rintro e w27 ⟨rfl, hb⟩
    refine ⟨_, rfl, ?_⟩
    replace BK689 := bK_ BK689 hb
    replace HB := bS_ HB hb
    (try clear hb)
    refine hK.out _ _ (cz8 BK689.out) (fun hHeld => ?_)
    clear hK K
    refine nm_ (some 13) ?_
    refine pq_ 2 14 HT_ (rl [3,15]) ?_
    refine pq_ 3 15 HT_ (rl [4,14]) ?_
    refine pv_ 4 16 HT_ (rl [5,13]) ?_
    refine pv_ 5 17 HT_ (rl [6,12]) ?_
    refine pv_ 6 18 HT_ (rl [7,11]) ?_
    refine pv_ 7 19 HT_ (rl [8,10]) ?_
    refine pv_ 8 20 HT_ (rl [9,9]) ?_
    refine pv_ 9 21 HT_ (rl [10,8]) ?_
    refine pv_ 10 22 HT_ (rl [11,7]) ?_
    refine pv_ 11 23 HT_ (rl [12,6]) ?_
    refine pv_ 12 24 HT_ (rl [13,5]) ?_
    refine pv_ 13 25 HT_ (rl [14,4]) ?_
    refine pv_ 14 26 HT_ (rl [15,3]) ?_
    refine pv_ 15 27 HT_ (rl [16,2]) ?_
    refine pv_ 16 28 HT_ (rl [17,1]) ?_
    refine pq_ 17 29 HT_ (rl [18]) ?_
    refine done_ (done_of HT_.out (by kernel_rfl)) ?_
    try go_wp2
    go_ret
    exact ⟨er_, qB HB⟩
   subst c6
   rw [if_pos rfl] at H
   by_cases c7 : x7_1 > 0
   rotate_left
   ·
    rw [if_neg c7] at H
    have c7b0 : decide (0 < x7_1) = false := decide_eq_false c7
    clear c7
    have H' := Aside0.mk H
    clear H
    have p688 : 0 ≤ (x7_1 : Int) := od_
    have q688 : x7_1 < (l0.length : Int) := od_
    obtain ⟨ad688, A688_4, c688_4, A688_5, c688_5, e688, hx688_0, hx688_1, hx688_2, hx688_3, hx688_4, hx688_5, hx688_6, hx688_7, hl688_4, hi688_4, hl688_5, hi688_5⟩ := at_T41 HR0.out x7_1 p688 q688
    cases e688
    replace hx688_0 := lb_ HB hx688_0
    replace hx688_1 := lb_ HB hx688_1
    replace hx688_2 := lb_ HB hx688_2
    replace hx688_3 := lb_ HB hx688_3
    replace hx688_4 := lb_ HB hx688_4
    replace hx688_5 := lb_ HB hx688_5
    replace hx688_6 := lb_ HB hx688_6
    replace hx688_7 := lb_ HB hx688_7
    have HR688_4 := Aside0.mk hi688_4
    have HC688_4 := Aside0.mk hl688_4
    clear hi688_4 hl688_4
    have HR688_5 := Aside0.mk hi688_5
    have HC688_5 := Aside0.mk hl688_5
    clear hi688_5 hl688_5
    replace p688 := eq_true p688
    replace q688 := eq_true q688
    try go_wp2_with (first | ((with_reducible refine gate_dst (N := 4) rfl ?_); refine bx_ (N := 4) (cs := #[.int .i64 0, .int .i64 0, .int .i64 0, .bool false, .slice none 0 0, .slice none 0 0, .int .i64 0, .int .i64 0]) (t := 41) ?_; intro gb689 hg w18 hbox hb; have BK689 := am_ (hbox); have GW689 := gA_ hg HB; have GE689 := GW689; have IGE689 := gI_ GE689; replace HB := bS_ HB hb; clear hb hbox hg; (try clear zK689); have zK689 := cz8 BK689.out; (try clear fK689); have fK689 := fz8 BK689.out))
    have n0_ : Aside0 (((((((((w18.setCell ⟨gb689, 0, none⟩ (.int .i64 ((rd_T41 l0 x7_1).f0))).setCell ⟨gb689, 1, none⟩ (.int .i64 ((rd_T41 l0 x7_1).f1))).setCell ⟨gb689, 2, none⟩ (.int .i64 ((rd_T41 l0 x7_1).f2))).setCell ⟨gb689, 3, none⟩ (.bool ((rd_T41 l0 x7_1).f3))).setCell ⟨gb689, 4, none⟩ (.slice A688_4 ((rd_T41 l0 x7_1).f4).length c688_4)).setCell ⟨gb689, 5, none⟩ (.slice A688_5 ((rd_T41 l0 x7_1).f5).length c688_5)).setCell ⟨gb689, 6, none⟩ (.int .i64 ((rd_T41 l0 x7_1).f6))).setCell ⟨gb689, 7, none⟩ (.int .i64 ((rd_T41 l0 x7_1).f7))).heap[gb689]? = some (.cells #[.int .i64 ((rd_T41 l0 x7_1).f0), .int .i64 ((rd_T41 l0 x7_1).f1), .int .i64 ((rd_T41 l0 x7_1).f2), .bool ((rd_T41 l0 x7_1).f3), .slice A688_4 ((rd_T41 l0 x7_1).f4).length c688_4, .slice A688_5 ((rd_T41 l0 x7_1).f5).length c688_5, .int .i64 ((rd_T41 l0 x7_1).f6), .int .i64 ((rd_T41 l0 x7_1).f7)] 41 (0, 0))) := ⟨by (with_reducible repeat (first | refine blk_drewN ?_ _ | refine blk_drew ?_ | refine blk_alloc ?_ _)); refine blk_all8 (show _ = some (Go.Obj.cells #[.int .i64 0, .int .i64 0, .int .i64 0, .bool false, .slice none 0 0, .slice none 0 0, .int .i64 0, .int .i64 0] _ (0, 0)) from ?_); exact qK BK689⟩
    have n1_ : Aside0 (Below w.heap.size w ((((((((w18.setCell ⟨gb689, 0, none⟩ (.int .i64 ((rd_T41 l0 x7_1).f0))).setCell ⟨gb689, 1, none⟩ (.int .i64 ((rd_T41 l0 x7_1).f1))).setCell ⟨gb689, 2, none⟩ (.int .i64 ((rd_T41 l0 x7_1).f2))).setCell ⟨gb689, 3, none⟩ (.bool ((rd_T41 l0 x7_1).f3))).setCell ⟨gb689, 4, none⟩ (.slice A688_4 ((rd_T41 l0 x7_1).f4).length c688_4)).setCell ⟨gb689, 5, none⟩ (.slice A688_5 ((rd_T41 l0 x7_1).f5).length c688_5)).setCell ⟨gb689, 6, none⟩ (.int .i64 ((rd_T41 l0 x7_1).f6))).setCell ⟨gb689, 7, none⟩ (.int .i64 ((rd_T41 l0 x7_1).f7)))) := ⟨qB HB⟩
    (try clear BK689)
    (try clear HB)
    generalize ((((((((w18.setCell ⟨gb689, 0, none⟩ (.int .i64 ((rd_T41 l0 x7_1).f0))).setCell ⟨gb689, 1, none⟩ (.int .i64 ((rd_T41 l0 x7_1).f1))).setCell ⟨gb689, 2, none⟩ (.int .i64 ((rd_T41 l0 x7_1).f2))).setCell ⟨gb689, 3, none⟩ (.bool ((rd_T41 l0 x7_1).f3))).setCell ⟨gb689, 4, none⟩ (.slice A688_4 ((rd_T41 l0 x7_1).f4).length c688_4)).setCell ⟨gb689, 5, none⟩ (.slice A688_5 ((rd_T41 l0 x7_1).f5).length c688_5)).setCell ⟨gb689, 6, none⟩ (.int .i64 ((rd_T41 l0 x7_1).f6))).setCell ⟨gb689, 7, none⟩ (.int .i64 ((rd_T41 l0 x7_1).f7))) = w20 at n0_ n1_ ⊢
    have BK689 := n0_
    have HB := n1_
    clear n0_ n1_
    replace BK689 := am_ (blk_drew BK689.out)
    replace HB := am_ (below_drew1 HB.out)
    refine start_ (n := 18) (S := fun w' => w'.cell? ⟨gb689, 0, none⟩ = some (.int .i64 ((rd_T41 l0 x7_1).f0)) ∧ w'.cell? ⟨gb689, 1, none⟩ = some (.int .i64 ((rd_T41 l0 x7_1).f1)) ∧ w'.cell? ⟨gb689, 2, none⟩ = some (.int .i64 ((rd_T41 l0 x7_1).f2)) ∧ w'.cell? ⟨gb689, 3, none⟩ = some (.bool ((rd_T41 l0 x7_1).f3)) ∧ w'.cell? ⟨gb689, 4, none⟩ = some (.slice A688_4 ((rd_T41 l0 x7_1).f4).length c688_4) ∧ w'.cell? ⟨gb689, 5, none⟩ = some (.slice A688_5 ((rd_T41 l0 x7_1).f5).length c688_5) ∧ w'.cell? ⟨gb689, 6, none⟩ = some (.int .i64 ((rd_T41 l0 x7_1).f6)) ∧ w'.cell? ⟨gb689, 7, none⟩ = some (.int .i64 ((rd_T41 l0 x7_1).f7))) (ds := []) (rl [0,18]) (by kernel_rfl) rfl rfl (cz8 BK689.out) (fun hHeld => ?_); refine with_tabW impl_SocksOk.tab4 impl_SocksOk.bits4 (fun HT_ HW_ => ?_)
    generalize w20.drew = w21 at BK689 HB hHeld ⊢
    refine tz_ (i := 0) (N := some 12) HT_ HW_ (rl [1,17]) rfl rfl hHeld ?_ (hy := fun w' ⟨s0, s1, s2, s3, s4, s5, s6, s7⟩ => ldr8 s0 s1 s2 s3 s4 s5 s6 s7)
    refine on_ HT_ (i := 1) (N := some 13) (rl [2,16]) (fun K hK => ?_)
    refine goes_ Try.func30 (by kernel_rfl) rfl #[.agg #[.int .i64 ((rd_T41 l0 x7_1).f0), .int .i64 ((rd_T41 l0 x7_1).f1), .int .i64 ((rd_T41 l0 x7_1).f2), .bool ((rd_T41 l0 x7_1).f3), .slice A688_4 ((rd_T41 l0 x7_1).f4).length c688_4, .slice A688_5 ((rd_T41 l0 x7_1).f5).length c688_5, .int .i64 ((rd_T41 l0 x7_1).f6), .int .i64 ((rd_T41 l0 x7_1).f7)]] (by rfl) rfl rfl la_ ?_
    with_reducible refine (impl_SockOk.calls k1 ((rd_T41 l0 x7_1).f0) ((rd_T41 l0 x7_1).f1) ((rd_T41 l0 x7_1).f2) ((rd_T41 l0 x7_1).f3) _ _ ((rd_T41 l0 x7_1).f4) _ _ ((rd_T41 l0 x7_1).f5) ((rd_T41 l0 x7_1).f6) ((rd_T41 l0 x7_1).f7) true _ ?side1 ?side2 ?side3 ?side4 A5.out).mono ?_
    (case side1 => exact qC (Kd.C_below HR688_4.out HB.out))
    (case side2 => exact HC688_4.out)
    (case side3 => exact qC (Kd.C_below HR688_5.out HB.out))
    (case side4 => exact HC688_5.out)
    rintro e w22 ⟨rfl, hb⟩
    refine ⟨_, rfl, ?_⟩
    replace BK689 := bK_ BK689 hb
    replace HB := bS_ HB hb
    (try clear hb)
    refine hK.out _ _ (cz8 BK689.out) (fun hHeld => ?_)
    clear hK K
    refine nm_ (some 13) ?_
    refine pq_ 2 14 HT_ (rl [3,15]) ?_
    refine pq_ 3 15 HT_ (rl [4,14]) ?_
    refine pq_ 4 16 HT_ (rl [5,13]) ?_
    refine pq_ 5 17 HT_ (rl [6,12]) ?_
    refine pq_ 6 18 HT_ (rl [7,11]) ?_
    refine pv_ 7 19 HT_ (rl [8,10]) ?_
    refine pv_ 8 20 HT_ (rl [9,9]) ?_
    refine pv_ 9 21 HT_ (rl [10,8]) ?_
    refine pv_ 10 22 HT_ (rl [11,7]) ?_
    refine pv_ 11 23 HT_ (rl [12,6]) ?_
    refine pv_ 12 24 HT_ (rl [13,5]) ?_
    refine pv_ 13 25 HT_ (rl [14,4]) ?_
    refine pv_ 14 26 HT_ (rl [15,3]) ?_
    refine pv_ 15 27 HT_ (rl [16,2]) ?_
    refine pq_ 16 28 HT_ (rl [17,1]) ?_
    refine pq_ 17 29 HT_ (rl [18]) ?_
    refine done_ (done_of HT_.out (by kernel_rfl)) ?_
    try go_wp2
    go_roundg k1
    case measure => have := HK1.out; omega
    case rel => exact ⟨(wrap64 (x7_1 + 1)), eqq_, H', ⟨by have := HK1.out; omega⟩, ⟨qB HB⟩⟩
   rw [if_pos c7] at H
   have c7b0 : decide (0 < x7_1) = true := decide_eq_true c7
   clear c7
   obtain ⟨ji8, hji8⟩ : ∃ j_ : Int, (wrap64 (x7_1 - 1)) = j_ := ⟨_, rfl⟩
   replace H : (if 0 ≤ (ji8) then (if (ji8) < (l0.length : Int) then (if ((rd_T41 l0 x7_1).f0) ≤ ((rd_T41 l0 (ji8)).f0) then (some false) else (impl_SocksOk.l0 k1 l0 l0 (l0.length : Int) (wrap64 (x7_1 + 1)))) else (none)) else (none)) = some r := by first | (rw [hji8] at H; exact H) | (simp only [hji8] at H ⊢; exact H)
   (try rw [hji8] at A5)
   have hji8w : (IntKind.i64.wrap (x7_1 - 1)) = ji8 := (i64_w _).trans hji8
   by_cases c9 : 0 ≤ (ji8)
   case neg => exact nn_ c9 H
   rw [if_pos c9] at H
   have c9b0 : decide (0 ≤ (ji8)) = true := decide_eq_true c9
   clear c9
   by_cases c10 : (ji8) < (l0.length : Int)
   case neg => exact nn_ c10 H
   rw [if_pos c10] at H
   have c10b0 : decide ((ji8) < (l0.length : Int)) = true := decide_eq_true c10
   clear c10
   have HC11 := Aside0.mk H
   clear H
   have p688 : 0 ≤ (x7_1 : Int) := od_
   have q688 : x7_1 < (l0.length : Int) := od_
   obtain ⟨ad688, A688_4, c688_4, A688_5, c688_5, e688, hx688_0, hx688_1, hx688_2, hx688_3, hx688_4, hx688_5, hx688_6, hx688_7, hl688_4, hi688_4, hl688_5, hi688_5⟩ := at_T41 HR0.out x7_1 p688 q688
   cases e688
   replace hx688_0 := lb_ HB hx688_0
   replace hx688_1 := lb_ HB hx688_1
   replace hx688_2 := lb_ HB hx688_2
   replace hx688_3 := lb_ HB hx688_3
   replace hx688_4 := lb_ HB hx688_4
   replace hx688_5 := lb_ HB hx688_5
   replace hx688_6 := lb_ HB hx688_6
   replace hx688_7 := lb_ HB hx688_7
   have HR688_4 := Aside0.mk hi688_4
   have HC688_4 := Aside0.mk hl688_4
   clear hi688_4 hl688_4
   have HR688_5 := Aside0.mk hi688_5
   have HC688_5 := Aside0.mk hl688_5
   clear hi688_5 hl688_5
   replace p688 := eq_true p688
   replace q688 := eq_true q688
   try go_wp2_with (first | ((with_reducible refine gate_dst (N := 4) rfl ?_); refine bx_ (N := 4) (cs := #[.int .i64 0, .int .i64 0, .int .i64 0, .bool false, .slice none 0 0, .slice none 0 0, .int .i64 0, .int .i64 0]) (t := 41) ?_; intro gb689 hg w12 hbox hb; have BK689 := am_ (hbox); have GW689 := gA_ hg HB; have GE689 := GW689; have IGE689 := gI_ GE689; replace HB := bS_ HB hb; clear hb hbox hg; (try clear zK689); have zK689 := cz8 BK689.out; (try clear fK689); have fK689 := fz8 BK689.out))
   have n0_ : Aside0 (((((((((w12.setCell ⟨gb689, 0, none⟩ (.int .i64 ((rd_T41 l0 x7_1).f0))).setCell ⟨gb689, 1, none⟩ (.int .i64 ((rd_T41 l0 x7_1).f1))).setCell ⟨gb689, 2, none⟩ (.int .i64 ((rd_T41 l0 x7_1).f2))).setCell ⟨gb689, 3, none⟩ (.bool ((rd_T41 l0 x7_1).f3))).setCell ⟨gb689, 4, none⟩ (.slice A688_4 ((rd_T41 l0 x7_1).f4).length c688_4)).setCell ⟨gb689, 5, none⟩ (.slice A688_5 ((rd_T41 l0 x7_1).f5).length c688_5)).setCell ⟨gb689, 6, none⟩ (.int .i64 ((rd_T41 l0 x7_1).f6))).setCell ⟨gb689, 7, none⟩ (.int .i64 ((rd_T41 l0 x7_1).f7))).heap[gb689]? = some (.cells #[.int .i64 ((rd_T41 l0 x7_1).f0), .int .i64 ((rd_T41 l0 x7_1).f1), .int .i64 ((rd_T41 l0 x7_1).f2), .bool ((rd_T41 l0 x7_1).f3), .slice A688_4 ((rd_T41 l0 x7_1).f4).length c688_4, .slice A688_5 ((rd_T41 l0 x7_1).f5).length c688_5, .int .i64 ((rd_T41 l0 x7_1).f6), .int .i64 ((rd_T41 l0 x7_1).f7)] 41 (0, 0))) := ⟨by (with_reducible repeat (first | refine blk_drewN ?_ _ | refine blk_drew ?_ | refine blk_alloc ?_ _)); refine blk_all8 (show _ = some (Go.Obj.cells #[.int .i64 0, .int .i64 0, .int .i64 0, .bool false, .slice none 0 0, .slice none 0 0, .int .i64 0, .int .i64 0] _ (0, 0)) from ?_); exact qK BK689⟩
   have n1_ : Aside0 (Below w.heap.size w ((((((((w12.setCell ⟨gb689, 0, none⟩ (.int .i64 ((rd_T41 l0 x7_1).f0))).setCell ⟨gb689, 1, none⟩ (.int .i64 ((rd_T41 l0 x7_1).f1))).setCell ⟨gb689, 2, none⟩ (.int .i64 ((rd_T41 l0 x7_1).f2))).setCell ⟨gb689, 3, none⟩ (.bool ((rd_T41 l0 x7_1).f3))).setCell ⟨gb689, 4, none⟩ (.slice A688_4 ((rd_T41 l0 x7_1).f4).length c688_4)).setCell ⟨gb689, 5, none⟩ (.slice A688_5 ((rd_T41 l0 x7_1).f5).length c688_5)).setCell ⟨gb689, 6, none⟩ (.int .i64 ((rd_T41 l0 x7_1).f6))).setCell ⟨gb689, 7, none⟩ (.int .i64 ((rd_T41 l0 x7_1).f7)))) := ⟨qB HB⟩
   (try clear BK689)
   (try clear HB)
   generalize ((((((((w12.setCell ⟨gb689, 0, none⟩ (.int .i64 ((rd_T41 l0 x7_1).f0))).setCell ⟨gb689, 1, none⟩ (.int .i64 ((rd_T41 l0 x7_1).f1))).setCell ⟨gb689, 2, none⟩ (.int .i64 ((rd_T41 l0 x7_1).f2))).setCell ⟨gb689, 3, none⟩ (.bool ((rd_T41 l0 x7_1).f3))).setCell ⟨gb689, 4, none⟩ (.slice A688_4 ((rd_T41 l0 x7_1).f4).length c688_4)).setCell ⟨gb689, 5, none⟩ (.slice A688_5 ((rd_T41 l0 x7_1).f5).length c688_5)).setCell ⟨gb689, 6, none⟩ (.int .i64 ((rd_T41 l0 x7_1).f6))).setCell ⟨gb689, 7, none⟩ (.int .i64 ((rd_T41 l0 x7_1).f7))) = w14 at n0_ n1_ ⊢
   have BK689 := n0_
   have HB := n1_
   clear n0_ n1_
   replace BK689 := am_ (blk_drew BK689.out)
   replace HB := am_ (below_drew1 HB.out)
   have p691 : 0 ≤ ((ji8) : Int) := od_
   have q691 : (ji8) < (l0.length : Int) := od_
   obtain ⟨ad691, A691_4, c691_4, A691_5, c691_5, e691, hx691_0, hx691_1, hx691_2, hx691_3, hx691_4, hx691_5, hx691_6, hx691_7, hl691_4, hi691_4, hl691_5, hi691_5⟩ := at_T41 HR0.out (ji8) p691 q691
   have hw691_7 := hx691_7
   have hw691_6 := hx691_6
   have hw691_5 := hx691_5
   have hw691_4 := hx691_4
   have hw691_3 := hx691_3
   have hw691_2 := hx691_2
   have hw691_1 := hx691_1
   have hw691_0 := hx691_0
   obtain rfl : ad688 = ad691 := (by injection e691)
   replace hx691_0 := lb_ HB hx691_0
   replace hx691_1 := lb_ HB hx691_1
   replace hx691_2 := lb_ HB hx691_2
   replace hx691_3 := lb_ HB hx691_3
   replace hx691_4 := lb_ HB hx691_4
   replace hx691_5 := lb_ HB hx691_5
   replace hx691_6 := lb_ HB hx691_6
   replace hx691_7 := lb_ HB hx691_7
   have HR691_4 := Aside0.mk hi691_4
   have HC691_4 := Aside0.mk hl691_4
   clear hi691_4 hl691_4
   have HR691_5 := Aside0.mk hi691_5
   have HC691_5 := Aside0.mk hl691_5
   clear hi691_5 hl691_5
   replace p691 := eq_true p691
   replace q691 := eq_true q691
   refine start_ (n := 18) (S := fun w' => w'.cell? ⟨gb689, 0, none⟩ = some (.int .i64 ((rd_T41 l0 x7_1).f0)) ∧ w'.cell? ⟨gb689, 1, none⟩ = some (.int .i64 ((rd_T41 l0 x7_1).f1)) ∧ w'.cell? ⟨gb689, 2, none⟩ = some (.int .i64 ((rd_T41 l0 x7_1).f2)) ∧ w'.cell? ⟨gb689, 3, none⟩ = some (.bool ((rd_T41 l0 x7_1).f3)) ∧ w'.cell? ⟨gb689, 4, none⟩ = some (.slice A688_4 ((rd_T41 l0 x7_1).f4).length c688_4) ∧ w'.cell? ⟨gb689, 5, none⟩ = some (.slice A688_5 ((rd_T41 l0 x7_1).f5).length c688_5) ∧ w'.cell? ⟨gb689, 6, none⟩ = some (.int .i64 ((rd_T41 l0 x7_1).f6)) ∧ w'.cell? ⟨gb689, 7, none⟩ = some (.int .i64 ((rd_T41 l0 x7_1).f7)) ∧ w'.cell? (ad688.add (((ji8)).toNat * 8)) = some (.int .i64 ((rd_T41 l0 (ji8)).f0)) ∧ w'.cell? ⟨(ad688.add (((ji8)).toNat * 8)).block, (ad688.add (((ji8)).toNat * 8)).off + 1, none⟩ = some (.int .i64 ((rd_T41 l0 (ji8)).f1)) ∧ w'.cell? ⟨(ad688.add (((ji8)).toNat * 8)).block, (ad688.add (((ji8)).toNat * 8)).off + 2, none⟩ = some (.int .i64 ((rd_T41 l0 (ji8)).f2)) ∧ w'.cell? ⟨(ad688.add (((ji8)).toNat * 8)).block, (ad688.add (((ji8)).toNat * 8)).off + 3, none⟩ = some (.bool ((rd_T41 l0 (ji8)).f3)) ∧ w'.cell? ⟨(ad688.add (((ji8)).toNat * 8)).block, (ad688.add (((ji8)).toNat * 8)).off + 4, none⟩ = some (.slice A691_4 ((rd_T41 l0 (ji8)).f4).length c691_4) ∧ w'.cell? ⟨(ad688.add (((ji8)).toNat * 8)).block, (ad688.add (((ji8)).toNat * 8)).off + 5, none⟩ = some (.slice A691_5 ((rd_T41 l0 (ji8)).f5).length c691_5) ∧ w'.cell? ⟨(ad688.add (((ji8)).toNat * 8)).block, (ad688.add (((ji8)).toNat * 8)).off + 6, none⟩ = some (.int .i64 ((rd_T41 l0 (ji8)).f6)) ∧ w'.cell? ⟨(ad688.add (((ji8)).toNat * 8)).block, (ad688.add (((ji8)).toNat * 8)).off + 7, none⟩ = some (.int .i64 ((rd_T41 l0 (ji8)).f7))) (ds := []) (rl [0,18]) (by kernel_rfl) rfl rfl (cw8 BK689.out ⟨(lb_ HB hw691_0 :), (lb_ HB hw691_1 :), (lb_ HB hw691_2 :), (lb_ HB hw691_3 :), (lb_ HB hw691_4 :), (lb_ HB hw691_5 :), (lb_ HB hw691_6 :), (lb_ HB hw691_7 :)⟩) (fun hHeld => ?_); refine with_tabW impl_SocksOk.tab4 impl_SocksOk.bits4 (fun HT_ HW_ => ?_)
   generalize w14.drew = w15 at BK689 HB HR691_4 HR691_5 hx691_0 hx691_1 hx691_2 hx691_3 hx691_4 hx691_5 hx691_6 hx691_7 hHeld ⊢
   refine tz_ (i := 0) (N := some 12) HT_ HW_ (rl [1,17]) rfl rfl hHeld ?_ (hy := fun w' ⟨s0, s1, s2, s3, s4, s5, s6, s7, _, _, _, _, _, _, _, _⟩ => ldr8 s0 s1 s2 s3 s4 s5 s6 s7)
   refine on_ HT_ (i := 1) (N := some 13) (rl [2,16]) (fun K hK => ?_)
   refine goes_ Try.func30 (by kernel_rfl) rfl #[.agg #[.int .i64 ((rd_T41 l0 x7_1).f0), .int .i64 ((rd_T41 l0 x7_1).f1), .int .i64 ((rd_T41 l0 x7_1).f2), .bool ((rd_T41 l0 x7_1).f3), .slice A688_4 ((rd_T41 l0 x7_1).f4).length c688_4, .slice A688_5 ((rd_T41 l0 x7_1).f5).length c688_5, .int .i64 ((rd_T41 l0 x7_1).f6), .int .i64 ((rd_T41 l0 x7_1).f7)]] (by rfl) rfl rfl la_ ?_
   with_reducible refine (impl_SockOk.calls k1 ((rd_T41 l0 x7_1).f0) ((rd_T41 l0 x7_1).f1) ((rd_T41 l0 x7_1).f2) ((rd_T41 l0 x7_1).f3) _ _ ((rd_T41 l0 x7_1).f4) _ _ ((rd_T41 l0 x7_1).f5) ((rd_T41 l0 x7_1).f6) ((rd_T41 l0 x7_1).f7) true _ ?side1 ?side2 ?side3 ?side4 A5.out).mono ?_
   (case side1 => exact qC (Kd.C_below HR688_4.out HB.out))
   (case side2 => exact HC688_4.out)
   (case side3 => exact qC (Kd.C_below HR688_5.out HB.out))
   (case side4 => exact HC688_5.out)
   rintro e w16 ⟨rfl, hb⟩
   refine ⟨_, rfl, ?_⟩
   replace BK689 := bK_ BK689 hb
   replace HB := bS_ HB hb
   (try clear hb)
   refine hK.out _ _ (cw8 BK689.out ⟨(lb_ HB hw691_0 :), (lb_ HB hw691_1 :), (lb_ HB hw691_2 :), (lb_ HB hw691_3 :), (lb_ HB hw691_4 :), (lb_ HB hw691_5 :), (lb_ HB hw691_6 :), (lb_ HB hw691_7 :)⟩) (fun hHeld => ?_)
   clear hK K
   refine nm_ (some 13) ?_
   refine pq_ 2 14 HT_ (rl [3,15]) ?_
   refine pq_ 3 15 HT_ (rl [4,14]) ?_
   refine pq_ 4 16 HT_ (rl [5,13]) ?_
   refine pq_ 5 17 HT_ (rl [6,12]) ?_
   refine pq_ 6 18 HT_ (rl [7,11]) ?_
   refine pq_ 7 19 HT_ (rl [8,10]) ?_
   refine pq_ 9 21 HT_ (rl [8,1,1,8]) ?_
   refine pq_ 10 22 HT_ (rl [8,1,2,7]) ?_
   refine pq_ 11 23 HT_ (rl [8,1,3,6]) ?_
   refine pq_ 12 24 HT_ (rl [8,1,4,5]) ?_
   refine pq_ 13 25 HT_ (rl [8,1,5,4]) ?_
   refine tz_ (i := 8) (N := some 20) HT_ HW_ (rl [14,4]) rfl rfl hHeld ?_
   refine tz_ (i := 14) (N := some 26) HT_ HW_ (rl [15,3]) rfl rfl hHeld ?_
   refine pq_ 15 27 HT_ (rl [16,2]) ?_
   refine pq_ 16 28 HT_ (rl [17,1]) ?_
   refine pq_ 17 29 HT_ (rl [18]) ?_
   refine done_ (done_of HT_.out (by kernel_rfl)) ?_
   go_upto_if 29 with (fail)
   have H := HC11.out
   clear HC11
   by_cases c17 : ((rd_T41 l0 x7_1).f0) ≤ ((rd_T41 l0 (ji8)).f0)
   ·
    rw [if_pos c17] at H
    have c17b0 : decide (((rd_T41 l0 x7_1).f0) ≤ ((rd_T41 l0 (ji8)).f0)) = true := decide_eq_true c17
    clear c17
    (first | rw [c17b0] | (simp only [i64_w, i32_w]; rw [c17b0]) | skip)
    obtain rfl := Option.some.inj H
    go_wp2
    go_ret
    exact ⟨by first | rfl | (simp [errW_none, errW_some] <;> rfl) | (simp only [← hji8]; first | rfl | (simp [errW_none, errW_some] <;> rfl)) | (simp [*, errW_none, errW_some] <;> rfl), qB HB⟩
   rw [if_neg c17] at H
   have c17b0 : decide (((rd_T41 l0 x7_1).f0) ≤ ((rd_T41 l0 (ji8)).f0)) = false := decide_eq_false c17
   clear c17
   (first | rw [c17b0] | (simp only [i64_w, i32_w]; rw [c17b0]) | skip)
   have H' := Aside0.mk H
   clear H
   go_wp2
   go_roundg k1
   case measure => have := HK1.out; omega
   case rel => exact ⟨(wrap64 (x7_1 + 1)), eqq_, H', ⟨by have := HK1.out; omega⟩, ⟨qB HB⟩⟩

end Go.Proofs.Ytiffahfpfgnjnaa.PFnSocks
