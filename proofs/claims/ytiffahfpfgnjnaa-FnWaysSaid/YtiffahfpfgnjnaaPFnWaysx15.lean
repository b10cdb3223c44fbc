-- Written by a program of this session (myprint.py, over the kit's print): contracts of FnWays
import Derived.Test.YtiffahfpfgnjnaaPFnWaysx0
import Derived.Test.YtiffahfpfgnjnaaPFnWaysx3
import Derived.Test.YtiffahfpfgnjnaaPFnWaysx11
import Derived.Test.YtiffahfpfgnjnaaPFnWaysx12
import Derived.Test.YtiffahfpfgnjnaaPFnWaysx13
namespace Go.Proofs.Ytiffahfpfgnjnaa.PFnWays
open Go.RowKit Go.Proofs.YtiffahfpfgnjnaaW.PrintWords Go.Proofs.YtiffahfpfgnjnaaW.PrintLast Go.Proofs.YtiffahfpfgnjnaaW.PrintMore Go.Proofs.YtiffahfpfgnjnaaV
attribute [local go_sem] max2_int min2_int max_two min_two max_three min_three max_four min_four   -- for this text's walks alone
set_option linter.unusedVariables false
set_option linter.unusedSimpArgs false

/-! ### spec_l11Any: function 106 -/
def spec_l11Any.f (k : Nat) (s0_0 : List Int) (s0_1 : Int) (s0_2 : Int) : Option (Int × Int × Int × Int × Int × Bool × Int × (List (S29)) × Int × Int) := (spec_l11Draw.f k s0_0 s0_1 s0_2).bind fun bt636 => ((spec_l1Below.f s0_0 bt636.2.2.2.2.2.2.2.2.1 bt636.2.2.2.2.2.2.2.2.2 16).bind fun bt649 => (if bt649.1 = 0 then ((spec_l1Int.f s0_0 bt649.2.1 bt649.2.2 (([0, 1, 2, 3, 4] : List Int))).bind fun bt655 => (some (bt655.1, bt636.2.1, bt636.2.2.1, bt636.2.2.2.1, bt636.2.2.2.2.1, bt636.2.2.2.2.2.1, bt636.2.2.2.2.2.2.1, bt636.2.2.2.2.2.2.2.1, bt655.2.1, bt655.2.2))) else (if bt649.1 = 1 then ((spec_l1Int.f s0_0 bt649.2.1 bt649.2.2 (([(-1), 2] : List Int))).bind fun bt661 => (some (bt636.1, bt661.1, bt636.2.2.1, bt636.2.2.2.1, bt636.2.2.2.2.1, bt636.2.2.2.2.2.1, bt636.2.2.2.2.2.2.1, bt636.2.2.2.2.2.2.2.1, bt661.2.1, bt661.2.2))) else (if bt649.1 = 2 then ((spec_l1Int.f s0_0 bt649.2.1 bt649.2.2 (([0, 60000, 60001] : List Int))).bind fun bt667 => (some (bt636.1, bt636.2.1, bt667.1, bt636.2.2.2.1, bt636.2.2.2.2.1, bt636.2.2.2.2.2.1, bt636.2.2.2.2.2.2.1, bt636.2.2.2.2.2.2.2.1, bt667.2.1, bt667.2.2))) else (if bt649.1 = 3 then ((spec_l1Int.f s0_0 bt649.2.1 bt649.2.2 (([(-1), 20, 21] : List Int))).bind fun bt673 => (some (bt636.1, bt636.2.1, bt636.2.2.1, bt673.1, bt636.2.2.2.2.1, bt636.2.2.2.2.2.1, bt636.2.2.2.2.2.2.1, bt636.2.2.2.2.2.2.2.1, bt673.2.1, bt673.2.2))) else (if bt649.1 = 4 then ((spec_l1Int.f s0_0 bt649.2.1 bt649.2.2 (([0, 20, 21] : List Int))).bind fun bt679 => (some (bt636.1, bt636.2.1, bt636.2.2.1, bt636.2.2.2.1, bt679.1, bt636.2.2.2.2.2.1, bt636.2.2.2.2.2.2.1, bt636.2.2.2.2.2.2.2.1, bt679.2.1, bt679.2.2))) else (if bt649.1 = 5 then ((spec_l1Int.f s0_0 bt649.2.1 bt649.2.2 (([(-1), 65536] : List Int))).bind fun bt685 => (some (bt636.1, bt636.2.1, bt636.2.2.1, bt636.2.2.2.1, bt636.2.2.2.2.1, bt636.2.2.2.2.2.1, bt685.1, bt636.2.2.2.2.2.2.2.1, bt685.2.1, bt685.2.2))) else (if bt649.1 = 6 then ((spec_l9Item.f k s0_0 bt649.2.1 bt649.2.2).bind fun bt688 => ((some (([(⟨0, (⟨0, (⟨#[]⟩ : ByteArray), 0, 0, 0, (⟨#[]⟩ : ByteArray), 0, 0⟩ : S25), (⟨0, (⟨#[]⟩ : ByteArray), 0, 0, 0, 0, 0⟩ : S27)⟩ : S29), (⟨bt688.1, (⟨bt688.2.1, bt688.2.2.1, bt688.2.2.2.1, bt688.2.2.2.2.1, bt688.2.2.2.2.2.1, bt688.2.2.2.2.2.2.1, bt688.2.2.2.2.2.2.2.1, bt688.2.2.2.2.2.2.2.2.1⟩ : S25), (⟨bt688.2.2.2.2.2.2.2.2.2.1, bt688.2.2.2.2.2.2.2.2.2.2.1, bt688.2.2.2.2.2.2.2.2.2.2.2.1, bt688.2.2.2.2.2.2.2.2.2.2.2.2.1, bt688.2.2.2.2.2.2.2.2.2.2.2.2.2.1, bt688.2.2.2.2.2.2.2.2.2.2.2.2.2.2.1, bt688.2.2.2.2.2.2.2.2.2.2.2.2.2.2.2.1⟩ : S27)⟩ : S29)] : List (S29)) : List (S29))).bind fun y706 => (if bt636.2.2.2.2.2.2.2.1.length + y706.length < 925904528653 then (some (bt636.1, bt636.2.1, bt636.2.2.1, bt636.2.2.2.1, bt636.2.2.2.2.1, bt636.2.2.2.2.2.1, bt636.2.2.2.2.2.2.1, (bt636.2.2.2.2.2.2.2.1 ++ y706), bt688.2.2.2.2.2.2.2.2.2.2.2.2.2.2.2.2.1, bt688.2.2.2.2.2.2.2.2.2.2.2.2.2.2.2.2.2)) else (none)))) else (if bt649.1 = 7 then ((spec_l9Item.f k s0_0 bt649.2.1 bt649.2.2).bind fun bt712 => ((spec_l9Item.f k s0_0 bt712.2.2.2.2.2.2.2.2.2.2.2.2.2.2.2.2.1 bt712.2.2.2.2.2.2.2.2.2.2.2.2.2.2.2.2.2).bind fun bt730 => ((spec_l9Item.f k s0_0 bt730.2.2.2.2.2.2.2.2.2.2.2.2.2.2.2.2.1 bt730.2.2.2.2.2.2.2.2.2.2.2.2.2.2.2.2.2).bind fun bt748 => ((some (([(⟨bt712.1, (⟨bt712.2.1, bt712.2.2.1, bt712.2.2.2.1, bt712.2.2.2.2.1, bt712.2.2.2.2.2.1, bt712.2.2.2.2.2.2.1, bt712.2.2.2.2.2.2.2.1, bt712.2.2.2.2.2.2.2.2.1⟩ : S25), (⟨bt712.2.2.2.2.2.2.2.2.2.1, bt712.2.2.2.2.2.2.2.2.2.2.1, bt712.2.2.2.2.2.2.2.2.2.2.2.1, bt712.2.2.2.2.2.2.2.2.2.2.2.2.1, bt712.2.2.2.2.2.2.2.2.2.2.2.2.2.1, bt712.2.2.2.2.2.2.2.2.2.2.2.2.2.2.1, bt712.2.2.2.2.2.2.2.2.2.2.2.2.2.2.2.1⟩ : S27)⟩ : S29), (⟨bt730.1, (⟨bt730.2.1, bt730.2.2.1, bt730.2.2.2.1, bt730.2.2.2.2.1, bt730.2.2.2.2.2.1, bt730.2.2.2.2.2.2.1, bt730.2.2.2.2.2.2.2.1, bt730.2.2.2.2.2.2.2.2.1⟩ : S25), (⟨bt730.2.2.2.2.2.2.2.2.2.1, bt730.2.2.2.2.2.2.2.2.2.2.1, bt730.2.2.2.2.2.2.2.2.2.2.2.1, bt730.2.2.2.2.2.2.2.2.2.2.2.2.1, bt730.2.2.2.2.2.2.2.2.2.2.2.2.2.1, bt730.2.2.2.2.2.2.2.2.2.2.2.2.2.2.1, bt730.2.2.2.2.2.2.2.2.2.2.2.2.2.2.2.1⟩ : S27)⟩ : S29), (⟨bt748.1, (⟨bt748.2.1, bt748.2.2.1, bt748.2.2.2.1, bt748.2.2.2.2.1, bt748.2.2.2.2.2.1, bt748.2.2.2.2.2.2.1, bt748.2.2.2.2.2.2.2.1, bt748.2.2.2.2.2.2.2.2.1⟩ : S25), (⟨bt748.2.2.2.2.2.2.2.2.2.1, bt748.2.2.2.2.2.2.2.2.2.2.1, bt748.2.2.2.2.2.2.2.2.2.2.2.1, bt748.2.2.2.2.2.2.2.2.2.2.2.2.1, bt748.2.2.2.2.2.2.2.2.2.2.2.2.2.1, bt748.2.2.2.2.2.2.2.2.2.2.2.2.2.2.1, bt748.2.2.2.2.2.2.2.2.2.2.2.2.2.2.2.1⟩ : S27)⟩ : S29)] : List (S29)) : List (S29))).bind fun y766 => (if bt636.2.2.2.2.2.2.2.1.length + y766.length < 925904528653 then (some (bt636.1, bt636.2.1, bt636.2.2.1, bt636.2.2.2.1, bt636.2.2.2.2.1, bt636.2.2.2.2.2.1, bt636.2.2.2.2.2.2.1, (bt636.2.2.2.2.2.2.2.1 ++ y766), bt748.2.2.2.2.2.2.2.2.2.2.2.2.2.2.2.2.1, bt748.2.2.2.2.2.2.2.2.2.2.2.2.2.2.2.2.2)) else (none)))))) else (some (bt636.1, bt636.2.1, bt636.2.2.1, bt636.2.2.2.1, bt636.2.2.2.2.1, bt636.2.2.2.2.2.1, bt636.2.2.2.2.2.2.1, bt636.2.2.2.2.2.2.2.1, bt649.2.1, bt649.2.2)))))))))))
theorem spec_l11Any.mono : ∀ a0 a1 a2 k, LeO (spec_l11Any.f k a0 a1 a2) (spec_l11Any.f (k + 1) a0 a1 a2) := by
 intro a0 a1 a2 k
 unfold spec_l11Any.f
 have m0 := @spec_l11Draw.mono; have m1 := @spec_l9Item.mono; exact mo_
def spec_l11Any.T16 : Bool × List (List Nat × List Nat) := (true, [([], []), ([0], [0]), ([], []), ([], []), ([3], [3]), ([2, 4], [2, 4]), ([1, 5, 4], [1, 5]), ([0, 1, 2, 3, 4, 5, 6], []), ([7, 6, 6, 0, 1, 2, 3, 4, 5, 6], [6, 7])])
def spec_l11Any.B16 : List Nat := [0, 1, 0, 0, 8, 28, 63, 127, 255]
theorem spec_l11Any.tab16 : rtab .any (opsOf Try.f106 16) = spec_l11Any.T16 := by kernel_rfl
theorem spec_l11Any.bits16 : waitsOk spec_l11Any.T16.2 spec_l11Any.B16 = true := by kernel_rfl
def spec_l11Any.T18 : Bool × List (List Nat × List Nat) := (true, [([], []), ([0], [0]), ([], []), ([2], [2]), ([], []), ([4, 3], [4]), ([], []), ([6, 5], [6]), ([3, 5, 7], [3, 5, 7]), ([1, 8, 7], [1, 8]), ([0, 1, 2, 3, 4, 5, 6, 7, 8, 9], []), ([10, 9, 9, 0, 1, 2, 3, 4, 5, 6, 7, 8, 9], [9, 10])])
def spec_l11Any.B18 : List Nat := [0, 1, 0, 4, 0, 28, 0, 124, 252, 511, 1023, 2047]
theorem spec_l11Any.tab18 : rtab .any (opsOf Try.f106 18) = spec_l11Any.T18 := by kernel_rfl
theorem spec_l11Any.bits18 : waitsOk spec_l11Any.T18.2 spec_l11Any.B18 = true := by kernel_rfl
set_option maxHeartbeats 8000000 in
set_option maxRecDepth 100000 in
theorem spec_l11Any.calls (k : Nat) (g : Nat) (s0_0 : List Int) (s0_1 : Int) (s0_2 : Int) (r1 : Int) (r2 : Int) (r3 : Int) (r4 : Int) (r5 : Int) (r6 : Bool) (r7 : Int) (r8 : List (S29)) (r9 : Int) (r10 : Int) (w0 w : World) (hI : IsS128 w0 w g s0_0 s0_1 s0_2) (hB : Below w0.heap.size w0 w) (h : spec_l11Any.f k s0_0 s0_1 s0_2 = some (r1, r2, r3, r4, r5, r6, r7, r8, r9, r10)) :
  Calls Try.prog 106 #[.pointer (some ⟨g, 0, none⟩)] w fun e w' => ∃ v7_ : Value, e = .returned (.agg #[.int .i64 r1, .int .i64 r2, .int .i64 r3, .int .i64 r4, .int .i64 r5, .bool r6, .int .i64 r7, v7_]) ∧ Kd.R k29 29 w' w.heap.size (fun _ => True) v7_ r8 ∧ IsS128 w0 w' g s0_0 r9 r10 ∧ Below w0.heap.size w0 w' ∧ KeepBut w w' g none := by
 have hu75 := Try.underlying75
 have hu29 := Try.underlying29
 have HI0 := Aside0.mk hI
 have IGHI0 := iG_ HI0.out.ge
 have HK := Aside0.mk (KeepBut.refl w g none)
 have HL := Aside0.mk hB.size
 clear hI
 have HW0 := Aside0.mk hB.size
 have HB := Aside0.mk hB
 clear hB
 have H := h
 unfold spec_l11Any.f at H
 clear h
 replace H := bf_ H
 obtain ⟨f_, hf_, ⟨t636, t637, t638, t639, t640, t641, t642, t643, t646, t647⟩, A2, H⟩ := H
 subst hf_
 (try dsimp only at H)
 replace H := bf_ H
 obtain ⟨f_, hf_, ⟨t649, t650, t651⟩, A3, H⟩ := H
 subst hf_
 (try dsimp only at H)
 by_cases c4 : t649 = 0
 ·
  rw [if_pos c4] at H
  have c4b0 : (t649 == 0) = true := beq_iff_eq.mpr c4
  have c4b1 : (t649 != 0) = false := bne_eq_false_iff_eq.mpr c4
  clear c4
  obtain ⟨y652, hy652⟩ : ∃ y_ : List Int, y_ = (([0, 1, 2, 3, 4] : List Int)) := ⟨_, rfl⟩
  rw [← hy652] at H
  have Ny652 := Aside0.mk hy652
  clear hy652
  replace H := bf_ H
  obtain ⟨f_, hf_, ⟨t655, t656, t657⟩, A5, H⟩ := H
  subst hf_
  (try dsimp only at H)
  simp only [Option.some.injEq, Prod.mk.injEq] at H
  obtain ⟨rfl, rfl, rfl, rfl, rfl, rfl, rfl, rfl, rfl, rfl⟩ := H
  go_enter Try.func106, Try.ntmps106
  go_wp2_with (first | ((with_reducible refine gate_dst (N := 2) rfl ?_); refine bx_ (N := 2) (cs := #[.int .i64 0, .int .i64 0, .int .i64 0, .int .i64 0, .int .i64 0, .bool false, .int .i64 0, .slice none 0 0]) (t := 75) ?_; intro gb635 hg w6 hbox hb; replace HB := bS_ HB hb; have BK635 := am_ (hbox); have GW635 := am_ ((gK_ hg (qP HK))); have IGW635 := gI_ GW635; have GE635 := am_ ((Nat.le_trans HW0.out (gK_ hg (qP HK)))); have IGE635 := gI_ GE635; replace HK := kL_ HK hb; have NB0_635 := am_ ((nG_ hg (IsS128.lt (IsS128.q HI0)))); have INB0_635 := nI_ NB0_635; have NB635_0 := am_ (((nG_ hg (IsS128.lt (IsS128.q HI0))).symm)); replace HI0 := am_ (IsS128.below (IsS128.q HI0) hb); clear hb hbox hg) | ((with_reducible refine gate_callee (f := 109) rfl ?_); refine gl_ (some 5) Try.func109 #[.pointer (some ⟨g, 0, none⟩)] ?_; (with_reducible refine (spec_l11Draw.calls k g s0_0 s0_1 s0_2 t636 t637 t638 t639 t640 t641 t642 t643 t646 t647 w0 _ ?side1 ?side2 A2.out).mono ?_); (case side1 => exact IsS128.q HI0); (case side2 => exact qB HB); rintro e w7 ⟨v644, rfl, ho0, hi, hb, hk⟩; refine ⟨_, rfl, ?_⟩; replace BK635 := kB_ BK635 hk NB635_0; have HO645 := am_ (Kd.R_lower ho0 (keep_size (w := w) (g := g) (row := none) (qP HK))); replace HK := kT_ HK hk; replace HB := am_ (hb); replace HI0 := am_ (hi); (try clear hb); (try clear hk); (try clear hi); (try clear ho0)) | ((with_reducible refine gate_dst (N := 3) rfl ?_); refine bx_ (N := 3) (cs := #[.int .i64 0, .int .i64 0, .int .i64 0, .int .i64 0, .int .i64 0, .bool false, .int .i64 0, .slice none 0 0]) (t := 75) ?_; intro gb648 hg w8 hbox hb; replace HO645 := rB_ HO645 hb; replace HB := bS_ HB hb; have BK648 := am_ (hbox); have GW648 := am_ ((gK_ hg (qP HK))); have IGW648 := gI_ GW648; have GE648 := am_ ((Nat.le_trans HW0.out (gK_ hg (qP HK)))); have IGE648 := gI_ GE648; replace HK := kL_ HK hb; have NB635_648 := am_ ((gN_ hg (qK BK635))); have NB648_635 := am_ ((gM_ hg (qK BK635))); replace BK635 := bK_ BK635 hb; have NB0_648 := am_ ((nG_ hg (IsS128.lt (IsS128.q HI0)))); have INB0_648 := nI_ NB0_648; have NB648_0 := am_ (((nG_ hg (IsS128.lt (IsS128.q HI0))).symm)); replace HI0 := am_ (IsS128.below (IsS128.q HI0) hb); clear hb hbox hg; have hnb9 := NB648_635.out; have hnc9 := NB635_648.out; have hnb10 := NB648_0.out; have hnc10 := NB0_648.out; (try clear zK648); have zK648 := cz8 BK648.out; (try clear fK648); have fK648 := fz8 BK648.out; obtain ⟨Ao12, co12, eo12⟩ := Kd.R_slice HO645.out; subst eo12) | ((with_reducible refine gate_callee (f := 61) rfl ?_); refine gl_ (some 7) Try.func61 #[.pointer (some ⟨g, 0, none⟩), .int .i64 16] ?_; (with_reducible refine (spec_l1Below.calls g s0_0 t646 t647 16 t649 t650 t651 w0 _ ?side1 ?side2 A3.out).mono ?_); (case side1 => exact IsS128.q HI0); (case side2 => exact qB HB); rintro e w13 ⟨rfl, hi, hb, hk⟩; refine ⟨_, rfl, ?_⟩; replace BK635 := am_ (KeepBut.blk hk (g' := gb635) (o := .cells #[.int .i64 0, .int .i64 0, .int .i64 0, .int .i64 0, .int .i64 0, .bool false, .int .i64 0, .slice none 0 0] 75 (0, 0)) (by (with_reducible repeat (first | refine blk_drewN ?_ _ | refine blk_drew ?_ | refine blk_alloc ?_ _)); refine blk_far8 ?_ NB635_648.out; exact qK BK635) NB635_0.out (by simp)); replace HO645 := am_ (Kd.R_mono (Kd.R_keep (IsS128.apart (show IsS128 w0 _ g s0_0 t646 t647 from IsS128.q HI0) (by (with_reducible repeat (first | apply Kd.R_alloc | apply Kd.R_drewN | apply Kd.R_drew)); exact (Kd.R_mono (R_far8 (g := gb648) (Kd.R_types HO645.out BK648.out (by decide)) (fun _ hk => hk.2)) (fun _ h_ => h_.1))) (by decide)) hk (fun _ h => h.2)) (fun _ h => h.1)); replace BK648 := am_ (KeepBut.blk hk (g' := gb648) (o := .cells #[.int .i64 t636, .int .i64 t637, .int .i64 t638, .int .i64 t639, .int .i64 t640, .bool t641, .int .i64 t642, .slice Ao12 t643.length co12] 75 (0, 0)) (by exact blk_all8 (qK BK648)) NB648_0.out (by simp)); replace HK := kT_ HK hk; replace HB := am_ (hb); replace HI0 := am_ (hi); (try clear hb); (try clear hk); (try clear hi)) | ((with_reducible refine gate_dst (N := 11) rfl ?_); refine Kd.R_lit (Kd.int .i64) _ 3 ?hg (N := 11) ?hd (xs := ([0, 1, 2, 3, 4] : List Int)) (inner := [.int .i64 0, .int .i64 1, .int .i64 2, .int .i64 3, .int .i64 4]) (ok := fun _ => True) (okp := fun _ => True) ?hr ?hp (fun _ hk => hk) trivial (Below.refl _ _) (Nat.le_refl _) (by simp) ?_; (case hd => rfl); (case hg => rfl); (case hr => first | (go_simp; done) | (go_simp; rfl)); (case hp => exact (Reps.one (show Kd.M (Kd.int .i64) _ _ _ 0 [.int .i64 0] from rfl) (Reps.one (show Kd.M (Kd.int .i64) _ _ _ 1 [.int .i64 1] from rfl) (Reps.one (show Kd.M (Kd.int .i64) _ _ _ 2 [.int .i64 2] from rfl) (Reps.one (show Kd.M (Kd.int .i64) _ _ _ 3 [.int .i64 3] from rfl) (Reps.one (show Kd.M (Kd.int .i64) _ _ _ 4 [.int .i64 4] from rfl) (Reps.none _ _))))))); intro v653 w14 ho15 hb hg_ hnew_; clear hg_ hnew_; (first | rw [← Ny652.out] at ho15 | (simp only [Int.reduceToNat] at ho15; rw [← Ny652.out] at ho15)); replace HO645 := rB_ HO645 hb; have HO654 := am_ (Kd.R_lower ho15 (keep_size (w := w) (g := g) (row := none) (qP HK))); replace BK635 := bK_ BK635 hb; replace BK648 := bK_ BK648 hb; replace HK := kL_ HK hb; replace HB := bS_ HB hb; replace HI0 := am_ (IsS128.below (IsS128.q HI0) hb); clear hb ho15; obtain ⟨Ao16, co16, eo16⟩ := Kd.R_slice HO654.out; subst eo16) | ((with_reducible refine gate_callee (f := 62) rfl ?_); refine gl_ (some 12) Try.func62 #[.pointer (some ⟨g, 0, none⟩), .slice Ao16 y652.length co16] ?_; (with_reducible refine (spec_l1Int.calls g s0_0 t650 t651 _ _ y652 t655 t656 t657 w0 _ ?side1 ?side2 ?side3 ?side4 ?side5 A5.out).mono ?_); (case side1 => exact IsS128.q HI0); (case side2 => exact qB HB); (case side3 => exact qC ((Kd.R_reads' HO654.out).2.2)); (case side4 => exact (Kd.R_reads' HO654.out).2.1); (case side5 => exact far_slice (IsS128.own_ne HI0.out HO654.out (by decide))); rintro e w17 ⟨rfl, hi, hb, hk⟩; refine ⟨_, rfl, ?_⟩; replace BK635 := kB_ BK635 hk NB635_0; replace HO645 := am_ (Kd.R_mono (Kd.R_keep (IsS128.apart (show IsS128 w0 _ g s0_0 t650 t651 from IsS128.q HI0) (qR HO645) (by decide)) hk (fun _ h => h.2)) (fun _ h => h.1)); replace BK648 := kB_ BK648 hk NB648_0; replace HO654 := am_ (Kd.R_mono (Kd.R_keep (IsS128.apart (show IsS128 w0 _ g s0_0 t650 t651 from IsS128.q HI0) (qR HO654) (by decide)) hk (fun _ h => h.2)) (fun _ h => h.1)); replace HK := kT_ HK hk; replace HB := am_ (hb); replace HI0 := am_ (hi); (try clear hb); (try clear hk); (try clear hi); (try clear zK648); have zK648 := cz8 BK648.out; (try clear fK648); have fK648 := fz8 BK648.out; have hnb19 := NB635_0.out; have hnc19 := NB0_635.out; (try clear zK635); have zK635 := cz8 BK635.out; (try clear fK635); have fK635 := fz8 BK635.out))
  refine bodyPost_ret (results_cell_row rfl _ _ gb635 75 #[.int .i64 t655, .int .i64 t637, .int .i64 t638, .int .i64 t639, .int .i64 t640, .bool t641, .int .i64 t642, .slice Ao12 t643.length co12] (0, 0) _ rfl (by exact blk_all8 (blk_far1 (qK BK635) NB635_648.out)) Try.underlying75 rfl (by kernel_rfl)) rfl ?_
  exact ⟨_, er_, by (with_reducible repeat (first | apply Kd.R_alloc | apply Kd.R_drewN | apply Kd.R_drew)); exact Kd.R_mono (R_far8 (g := gb635) (Kd.R_far (p := ⟨gb648, 0, none⟩) (Kd.R_types (Kd.R_types HO645.out BK648.out (by decide)) BK635.out (by decide)) (fun _ hk => hk.1.2) (.int .i64 t655)) (fun _ hk => hk.2)) (fun _ hk => trivial), IsS128.q HI0, qB HB, qP HK⟩
 rw [if_neg c4] at H
 have c4b0 : (t649 == 0) = false := beq_eq_false_iff_ne.mpr c4
 have c4b1 : (t649 != 0) = true := bne_iff_ne.mpr c4
 by_cases c21 : t649 = 1
 ·
  rw [if_pos c21] at H
  have c21b0 : (t649 == 1) = true := beq_iff_eq.mpr c21
  have c21b1 : (t649 != 1) = false := bne_eq_false_iff_eq.mpr c21
  clear c21
  obtain ⟨y658, hy658⟩ : ∃ y_ : List Int, y_ = (([(-1), 2] : List Int)) := ⟨_, rfl⟩
  rw [← hy658] at H
  have Ny658 := Aside0.mk hy658
  clear hy658
  replace H := bf_ H
  obtain ⟨f_, hf_, ⟨t661, t662, t663⟩, A22, H⟩ := H
  subst hf_
  (try dsimp only at H)
  simp only [Option.some.injEq, Prod.mk.injEq] at H
  obtain ⟨rfl, rfl, rfl, rfl, rfl, rfl, rfl, rfl, rfl, rfl⟩ := H
  go_enter Try.func106, Try.ntmps106
  go_wp2_with (first | ((with_reducible refine gate_dst (N := 2) rfl ?_); refine bx_ (N := 2) (cs := #[.int .i64 0, .int .i64 0, .int .i64 0, .int .i64 0, .int .i64 0, .bool false, .int .i64 0, .slice none 0 0]) (t := 75) ?_; intro gb635 hg w23 hbox hb; replace HB := bS_ HB hb; have BK635 := am_ (hbox); have GW635 := am_ ((gK_ hg (qP HK))); have IGW635 := gI_ GW635; have GE635 := am_ ((Nat.le_trans HW0.out (gK_ hg (qP HK)))); have IGE635 := gI_ GE635; replace HK := kL_ HK hb; have NB0_635 := am_ ((nG_ hg (IsS128.lt (IsS128.q HI0)))); have INB0_635 := nI_ NB0_635; have NB635_0 := am_ (((nG_ hg (IsS128.lt (IsS128.q HI0))).symm)); replace HI0 := am_ (IsS128.below (IsS128.q HI0) hb); clear hb hbox hg) | ((with_reducible refine gate_callee (f := 109) rfl ?_); refine gl_ (some 5) Try.func109 #[.pointer (some ⟨g, 0, none⟩)] ?_; (with_reducible refine (spec_l11Draw.calls k g s0_0 s0_1 s0_2 t636 t637 t638 t639 t640 t641 t642 t643 t646 t647 w0 _ ?side1 ?side2 A2.out).mono ?_); (case side1 => exact IsS128.q HI0); (case side2 => exact qB HB); rintro e w24 ⟨v644, rfl, ho0, hi, hb, hk⟩; refine ⟨_, rfl, ?_⟩; replace BK635 := kB_ BK635 hk NB635_0; have HO645 := am_ (Kd.R_lower ho0 (keep_size (w := w) (g := g) (row := none) (qP HK))); replace HK := kT_ HK hk; replace HB := am_ (hb); replace HI0 := am_ (hi); (try clear hb); (try clear hk); (try clear hi); (try clear ho0)) | ((with_reducible refine gate_dst (N := 3) rfl ?_); refine bx_ (N := 3) (cs := #[.int .i64 0, .int .i64 0, .int .i64 0, .int .i64 0, .int .i64 0, .bool false, .int .i64 0, .slice none 0 0]) (t := 75) ?_; intro gb648 hg w25 hbox hb; replace HO645 := rB_ HO645 hb; replace HB := bS_ HB hb; have BK648 := am_ (hbox); have GW648 := am_ ((gK_ hg (qP HK))); have IGW648 := gI_ GW648; have GE648 := am_ ((Nat.le_trans HW0.out (gK_ hg (qP HK)))); have IGE648 := gI_ GE648; replace HK := kL_ HK hb; have NB635_648 := am_ ((gN_ hg (qK BK635))); have NB648_635 := am_ ((gM_ hg (qK BK635))); replace BK635 := bK_ BK635 hb; have NB0_648 := am_ ((nG_ hg (IsS128.lt (IsS128.q HI0)))); have INB0_648 := nI_ NB0_648; have NB648_0 := am_ (((nG_ hg (IsS128.lt (IsS128.q HI0))).symm)); replace HI0 := am_ (IsS128.below (IsS128.q HI0) hb); clear hb hbox hg; have hnb26 := NB648_635.out; have hnc26 := NB635_648.out; have hnb27 := NB648_0.out; have hnc27 := NB0_648.out; (try clear zK648); have zK648 := cz8 BK648.out; (try clear fK648); have fK648 := fz8 BK648.out; obtain ⟨Ao29, co29, eo29⟩ := Kd.R_slice HO645.out; subst eo29) | ((with_reducible refine gate_callee (f := 61) rfl ?_); refine gl_ (some 7) Try.func61 #[.pointer (some ⟨g, 0, none⟩), .int .i64 16] ?_; (with_reducible refine (spec_l1Below.calls g s0_0 t646 t647 16 t649 t650 t651 w0 _ ?side1 ?side2 A3.out).mono ?_); (case side1 => exact IsS128.q HI0); (case side2 => exact qB HB); rintro e w30 ⟨rfl, hi, hb, hk⟩; refine ⟨_, rfl, ?_⟩; replace BK635 := am_ (KeepBut.blk hk (g' := gb635) (o := .cells #[.int .i64 0, .int .i64 0, .int .i64 0, .int .i64 0, .int .i64 0, .bool false, .int .i64 0, .slice none 0 0] 75 (0, 0)) (by (with_reducible repeat (first | refine blk_drewN ?_ _ | refine blk_drew ?_ | refine blk_alloc ?_ _)); refine blk_far8 ?_ NB635_648.out; exact qK BK635) NB635_0.out (by simp)); replace HO645 := am_ (Kd.R_mono (Kd.R_keep (IsS128.apart (show IsS128 w0 _ g s0_0 t646 t647 from IsS128.q HI0) (by (with_reducible repeat (first | apply Kd.R_alloc | apply Kd.R_drewN | apply Kd.R_drew)); exact (Kd.R_mono (R_far8 (g := gb648) (Kd.R_types HO645.out BK648.out (by decide)) (fun _ hk => hk.2)) (fun _ h_ => h_.1))) (by decide)) hk (fun _ h => h.2)) (fun _ h => h.1)); replace BK648 := am_ (KeepBut.blk hk (g' := gb648) (o := .cells #[.int .i64 t636, .int .i64 t637, .int .i64 t638, .int .i64 t639, .int .i64 t640, .bool t641, .int .i64 t642, .slice Ao29 t643.length co29] 75 (0, 0)) (by exact blk_all8 (qK BK648)) NB648_0.out (by simp)); replace HK := kT_ HK hk; replace HB := am_ (hb); replace HI0 := am_ (hi); (try clear hb); (try clear hk); (try clear hi)) | ((with_reducible refine gate_dst (N := 17) rfl ?_); refine Kd.R_lit (Kd.int .i64) _ 3 ?hg (N := 17) ?hd (xs := ([(-1), 2] : List Int)) (inner := [.int .i64 (-1), .int .i64 2]) (ok := fun _ => True) (okp := fun _ => True) ?hr ?hp (fun _ hk => hk) trivial (Below.refl _ _) (Nat.le_refl _) (by simp) ?_; (case hd => rfl); (case hg => rfl); (case hr => first | (go_simp; done) | (go_simp; rfl)); (case hp => exact (Reps.one (show Kd.M (Kd.int .i64) _ _ _ (-1) [.int .i64 (-1)] from rfl) (Reps.one (show Kd.M (Kd.int .i64) _ _ _ 2 [.int .i64 2] from rfl) (Reps.none _ _)))); intro v659 w31 ho32 hb hg_ hnew_; clear hg_ hnew_; (first | rw [← Ny658.out] at ho32 | (simp only [Int.reduceToNat] at ho32; rw [← Ny658.out] at ho32)); replace HO645 := rB_ HO645 hb; have HO660 := am_ (Kd.R_lower ho32 (keep_size (w := w) (g := g) (row := none) (qP HK))); replace BK635 := bK_ BK635 hb; replace BK648 := bK_ BK648 hb; replace HK := kL_ HK hb; replace HB := bS_ HB hb; replace HI0 := am_ (IsS128.below (IsS128.q HI0) hb); clear hb ho32; obtain ⟨Ao33, co33, eo33⟩ := Kd.R_slice HO660.out; subst eo33) | ((with_reducible refine gate_callee (f := 62) rfl ?_); refine gl_ (some 18) Try.func62 #[.pointer (some ⟨g, 0, none⟩), .slice Ao33 y658.length co33] ?_; (with_reducible refine (spec_l1Int.calls g s0_0 t650 t651 _ _ y658 t661 t662 t663 w0 _ ?side1 ?side2 ?side3 ?side4 ?side5 A22.out).mono ?_); (case side1 => exact IsS128.q HI0); (case side2 => exact qB HB); (case side3 => exact qC ((Kd.R_reads' HO660.out).2.2)); (case side4 => exact (Kd.R_reads' HO660.out).2.1); (case side5 => exact far_slice (IsS128.own_ne HI0.out HO660.out (by decide))); rintro e w34 ⟨rfl, hi, hb, hk⟩; refine ⟨_, rfl, ?_⟩; replace BK635 := kB_ BK635 hk NB635_0; replace HO645 := am_ (Kd.R_mono (Kd.R_keep (IsS128.apart (show IsS128 w0 _ g s0_0 t650 t651 from IsS128.q HI0) (qR HO645) (by decide)) hk (fun _ h => h.2)) (fun _ h => h.1)); replace BK648 := kB_ BK648 hk NB648_0; replace HO660 := am_ (Kd.R_mono (Kd.R_keep (IsS128.apart (show IsS128 w0 _ g s0_0 t650 t651 from IsS128.q HI0) (qR HO660) (by decide)) hk (fun _ h => h.2)) (fun _ h => h.1)); replace HK := kT_ HK hk; replace HB := am_ (hb); replace HI0 := am_ (hi); (try clear hb); (try clear hk); (try clear hi); (try clear zK648); have zK648 := cz8 BK648.out; (try clear fK648); have fK648 := fz8 BK648.out; have hnb36 := NB635_0.out; have hnc36 := NB0_635.out; (try clear zK635); have zK635 := cz8 BK635.out; (try clear fK635); have fK635 := fz8 BK635.out))
  refine bodyPost_ret (results_cell_row rfl _ _ gb635 75 #[.int .i64 t636, .int .i64 t661, .int .i64 t638, .int .i64 t639, .int .i64 t640, .bool t641, .int .i64 t642, .slice Ao29 t643.length co29] (0, 0) _ rfl (by exact blk_all8 (blk_far1 (qK BK635) NB635_648.out)) Try.underlying75 rfl (by kernel_rfl)) rfl ?_
  exact ⟨_, er_, by (with_reducible repeat (first | apply Kd.R_alloc | apply Kd.R_drewN | apply Kd.R_drew)); exact Kd.R_mono (R_far8 (g := gb635) (Kd.R_far (p := ⟨gb648, 1, none⟩) (Kd.R_types (Kd.R_types HO645.out BK648.out (by decide)) BK635.out (by decide)) (fun _ hk => hk.1.2) (.int .i64 t661)) (fun _ hk => hk.2)) (fun _ hk => trivial), IsS128.q HI0, qB HB, qP HK⟩
 rw [if_neg c21] at H
 have c21b0 : (t649 == 1) = false := beq_eq_false_iff_ne.mpr c21
 have c21b1 : (t649 != 1) = true := bne_iff_ne.mpr c21
 by_cases c38 : t649 = 2
 ·
  rw [if_pos c38] at H
  have c38b0 : (t649 == 2) = true := beq_iff_eq.mpr c38
  have c38b1 : (t649 != 2) = false := bne_eq_false_iff_eq.mpr c38
  clear c38
  obtain ⟨y664, hy664⟩ : ∃ y_ : List Int, y_ = (([0, 60000, 60001] : List Int)) := ⟨_, rfl⟩
  rw [← hy664] at H
  have Ny664 := Aside0.mk hy664
  clear hy664
  replace H := bf_ H
  obtain ⟨f_, hf_, ⟨t667, t668, t669⟩, A39, H⟩ := H
  subst hf_
  (try dsimp only at H)
  simp only [Option.some.injEq, Prod.mk.injEq] at H
  obtain ⟨rfl, rfl, rfl, rfl, rfl, rfl, rfl, rfl, rfl, rfl⟩ := H
  go_enter Try.func106, Try.ntmps106
  go_wp2_with (first | ((with_reducible refine gate_dst (N := 2) rfl ?_); refine bx_ (N := 2) (cs := #[.int .i64 0, .int .i64 0, .int .i64 0, .int .i64 0, .int .i64 0, .bool false, .int .i64 0, .slice none 0 0]) (t := 75) ?_; intro gb635 hg w40 hbox hb; replace HB := bS_ HB hb; have BK635 := am_ (hbox); have GW635 := am_ ((gK_ hg (qP HK))); have IGW635 := gI_ GW635; have GE635 := am_ ((Nat.le_trans HW0.out (gK_ hg (qP HK)))); have IGE635 := gI_ GE635; replace HK := kL_ HK hb; have NB0_635 := am_ ((nG_ hg (IsS128.lt (IsS128.q HI0)))); have INB0_635 := nI_ NB0_635; have NB635_0 := am_ (((nG_ hg (IsS128.lt (IsS128.q HI0))).symm)); replace HI0 := am_ (IsS128.below (IsS128.q HI0) hb); clear hb hbox hg) | ((with_reducible refine gate_callee (f := 109) rfl ?_); refine gl_ (some 5) Try.func109 #[.pointer (some ⟨g, 0, none⟩)] ?_; (with_reducible refine (spec_l11Draw.calls k g s0_0 s0_1 s0_2 t636 t637 t638 t639 t640 t641 t642 t643 t646 t647 w0 _ ?side1 ?side2 A2.out).mono ?_); (case side1 => exact IsS128.q HI0); (case side2 => exact qB HB); rintro e w41 ⟨v644, rfl, ho0, hi, hb, hk⟩; refine ⟨_, rfl, ?_⟩; replace BK635 := kB_ BK635 hk NB635_0; have HO645 := am_ (Kd.R_lower ho0 (keep_size (w := w) (g := g) (row := none) (qP HK))); replace HK := kT_ HK hk; replace HB := am_ (hb); replace HI0 := am_ (hi); (try clear hb); (try clear hk); (try clear hi); (try clear ho0)) | ((with_reducible refine gate_dst (N := 3) rfl ?_); refine bx_ (N := 3) (cs := #[.int .i64 0, .int .i64 0, .int .i64 0, .int .i64 0, .int .i64 0, .bool false, .int .i64 0, .slice none 0 0]) (t := 75) ?_; intro gb648 hg w42 hbox hb; replace HO645 := rB_ HO645 hb; replace HB := bS_ HB hb; have BK648 := am_ (hbox); have GW648 := am_ ((gK_ hg (qP HK))); have IGW648 := gI_ GW648; have GE648 := am_ ((Nat.le_trans HW0.out (gK_ hg (qP HK)))); have IGE648 := gI_ GE648; replace HK := kL_ HK hb; have NB635_648 := am_ ((gN_ hg (qK BK635))); have NB648_635 := am_ ((gM_ hg (qK BK635))); replace BK635 := bK_ BK635 hb; have NB0_648 := am_ ((nG_ hg (IsS128.lt (IsS128.q HI0)))); have INB0_648 := nI_ NB0_648; have NB648_0 := am_ (((nG_ hg (IsS128.lt (IsS128.q HI0))).symm)); replace HI0 := am_ (IsS128.below (IsS128.q HI0) hb); clear hb hbox hg; have hnb43 := NB648_635.out; have hnc43 := NB635_648.out; have hnb44 := NB648_0.out; have hnc44 := NB0_648.out; (try clear zK648); have zK648 := cz8 BK648.out; (try clear fK648); have fK648 := fz8 BK648.out; obtain ⟨Ao46, co46, eo46⟩ := Kd.R_slice HO645.out; subst eo46) | ((with_reducible refine gate_callee (f := 61) rfl ?_); refine gl_ (some 7) Try.func61 #[.pointer (some ⟨g, 0, none⟩), .int .i64 16] ?_; (with_reducible refine (spec_l1Below.calls g s0_0 t646 t647 16 t649 t650 t651 w0 _ ?side1 ?side2 A3.out).mono ?_); (case side1 => exact IsS128.q HI0); (case side2 => exact qB HB); rintro e w47 ⟨rfl, hi, hb, hk⟩; refine ⟨_, rfl, ?_⟩; replace BK635 := am_ (KeepBut.blk hk (g' := gb635) (o := .cells #[.int .i64 0, .int .i64 0, .int .i64 0, .int .i64 0, .int .i64 0, .bool false, .int .i64 0, .slice none 0 0] 75 (0, 0)) (by (with_reducible repeat (first | refine blk_drewN ?_ _ | refine blk_drew ?_ | refine blk_alloc ?_ _)); refine blk_far8 ?_ NB635_648.out; exact qK BK635) NB635_0.out (by simp)); replace HO645 := am_ (Kd.R_mono (Kd.R_keep (IsS128.apart (show IsS128 w0 _ g s0_0 t646 t647 from IsS128.q HI0) (by (with_reducible repeat (first | apply Kd.R_alloc | apply Kd.R_drewN | apply Kd.R_drew)); exact (Kd.R_mono (R_far8 (g := gb648) (Kd.R_types HO645.out BK648.out (by decide)) (fun _ hk => hk.2)) (fun _ h_ => h_.1))) (by decide)) hk (fun _ h => h.2)) (fun _ h => h.1)); replace BK648 := am_ (KeepBut.blk hk (g' := gb648) (o := .cells #[.int .i64 t636, .int .i64 t637, .int .i64 t638, .int .i64 t639, .int .i64 t640, .bool t641, .int .i64 t642, .slice Ao46 t643.length co46] 75 (0, 0)) (by exact blk_all8 (qK BK648)) NB648_0.out (by simp)); replace HK := kT_ HK hk; replace HB := am_ (hb); replace HI0 := am_ (hi); (try clear hb); (try clear hk); (try clear hi)) | ((with_reducible refine gate_dst (N := 23) rfl ?_); refine Kd.R_lit (Kd.int .i64) _ 3 ?hg (N := 23) ?hd (xs := ([0, 60000, 60001] : List Int)) (inner := [.int .i64 0, .int .i64 60000, .int .i64 60001]) (ok := fun _ => True) (okp := fun _ => True) ?hr ?hp (fun _ hk => hk) trivial (Below.refl _ _) (Nat.le_refl _) (by simp) ?_; (case hd => rfl); (case hg => rfl); (case hr => first | (go_simp; done) | (go_simp; rfl)); (case hp => exact (Reps.one (show Kd.M (Kd.int .i64) _ _ _ 0 [.int .i64 0] from rfl) (Reps.one (show Kd.M (Kd.int .i64) _ _ _ 60000 [.int .i64 60000] from rfl) (Reps.one (show Kd.M (Kd.int .i64) _ _ _ 60001 [.int .i64 60001] from rfl) (Reps.none _ _))))); intro v665 w48 ho49 hb hg_ hnew_; clear hg_ hnew_; (first | rw [← Ny664.out] at ho49 | (simp only [Int.reduceToNat] at ho49; rw [← Ny664.out] at ho49)); replace HO645 := rB_ HO645 hb; have HO666 := am_ (Kd.R_lower ho49 (keep_size (w := w) (g := g) (row := none) (qP HK))); replace BK635 := bK_ BK635 hb; replace BK648 := bK_ BK648 hb; replace HK := kL_ HK hb; replace HB := bS_ HB hb; replace HI0 := am_ (IsS128.below (IsS128.q HI0) hb); clear hb ho49; obtain ⟨Ao50, co50, eo50⟩ := Kd.R_slice HO666.out; subst eo50) | ((with_reducible refine gate_callee (f := 62) rfl ?_); refine gl_ (some 24) Try.func62 #[.pointer (some ⟨g, 0, none⟩), .slice Ao50 y664.length co50] ?_; (with_reducible refine (spec_l1Int.calls g s0_0 t650 t651 _ _ y664 t667 t668 t669 w0 _ ?side1 ?side2 ?side3 ?side4 ?side5 A39.out).mono ?_); (case side1 => exact IsS128.q HI0); (case side2 => exact qB HB); (case side3 => exact qC ((Kd.R_reads' HO666.out).2.2)); (case side4 => exact (Kd.R_reads' HO666.out).2.1); (case side5 => exact far_slice (IsS128.own_ne HI0.out HO666.out (by decide))); rintro e w51 ⟨rfl, hi, hb, hk⟩; refine ⟨_, rfl, ?_⟩; replace BK635 := kB_ BK635 hk NB635_0; replace HO645 := am_ (Kd.R_mono (Kd.R_keep (IsS128.apart (show IsS128 w0 _ g s0_0 t650 t651 from IsS128.q HI0) (qR HO645) (by decide)) hk (fun _ h => h.2)) (fun _ h => h.1)); replace BK648 := kB_ BK648 hk NB648_0; replace HO666 := am_ (Kd.R_mono (Kd.R_keep (IsS128.apart (show IsS128 w0 _ g s0_0 t650 t651 from IsS128.q HI0) (qR HO666) (by decide)) hk (fun _ h => h.2)) (fun _ h => h.1)); replace HK := kT_ HK hk; replace HB := am_ (hb); replace HI0 := am_ (hi); (try clear hb); (try clear hk); (try clear hi); (try clear zK648); have zK648 := cz8 BK648.out; (try clear fK648); have fK648 := fz8 BK648.out; have hnb53 := NB635_0.out; have hnc53 := NB0_635.out; (try clear zK635); have zK635 := cz8 BK635.out; (try clear fK635); have fK635 := fz8 BK635.out))
  refine bodyPost_ret (results_cell_row rfl _ _ gb635 75 #[.int .i64 t636, .int .i64 t637, .int .i64 t667, .int .i64 t639, .int .i64 t640, .bool t641, .int .i64 t642, .slice Ao46 t643.length co46] (0, 0) _ rfl (by exact blk_all8 (blk_far1 (qK BK635) NB635_648.out)) Try.underlying75 rfl (by kernel_rfl)) rfl ?_
  exact ⟨_, er_, by (with_reducible repeat (first | apply Kd.R_alloc | apply Kd.R_drewN | apply Kd.R_drew)); exact Kd.R_mono (R_far8 (g := gb635) (Kd.R_far (p := ⟨gb648, 2, none⟩) (Kd.R_types (Kd.R_types HO645.out BK648.out (by decide)) BK635.out (by decide)) (fun _ hk => hk.1.2) (.int .i64 t667)) (fun _ hk => hk.2)) (fun _ hk => trivial), IsS128.q HI0, qB HB, qP HK⟩
 rw [if_neg c38] at H
 have c38b0 : (t649 == 2) = false := beq_eq_false_iff_ne.mpr c38
 have c38b1 : (t649 != 2) = true := bne_iff_ne.mpr c38
 by_cases c55 : t649 = 3
 ·
  rw [if_pos c55] at H
  have c55b0 : (t649 == 3) = true := beq_iff_eq.mpr c55
  have c55b1 : (t649 != 3) = false := bne_eq_false_iff_eq.mpr c55
  clear c55
  obtain ⟨y670, hy670⟩ : ∃ y_ : List Int, y_ = (([(-1), 20, 21] : List Int)) := ⟨_, rfl⟩
  rw [← hy670] at H
  have Ny670 := Aside0.mk hy670
  clear hy670
  replace H := bf_ H
  obtain ⟨f_, hf_, ⟨t673, t674, t675⟩, A56, H⟩ := H
  subst hf_
  (try dsimp only at H)
  simp only [Option.some.injEq, Prod.mk.injEq] at H
  obtain ⟨rfl, rfl, rfl, rfl, rfl, rfl, rfl, rfl, rfl, rfl⟩ := H
  go_enter Try.func106, Try.ntmps106
  go_wp2_with (first | ((with_reducible refine gate_dst (N := 2) rfl ?_); refine bx_ (N := 2) (cs := #[.int .i64 0, .int .i64 0, .int .i64 0, .int .i64 0, .int .i64 0, .bool false, .int .i64 0, .slice none 0 0]) (t := 75) ?_; intro gb635 hg w57 hbox hb; replace HB := bS_ HB hb; have BK635 := am_ (hbox); have GW635 := am_ ((gK_ hg (qP HK))); have IGW635 := gI_ GW635; have GE635 := am_ ((Nat.le_trans HW0.out (gK_ hg (qP HK)))); have IGE635 := gI_ GE635; replace HK := kL_ HK hb; have NB0_635 := am_ ((nG_ hg (IsS128.lt (IsS128.q HI0)))); have INB0_635 := nI_ NB0_635; have NB635_0 := am_ (((nG_ hg (IsS128.lt (IsS128.q HI0))).symm)); replace HI0 := am_ (IsS128.below (IsS128.q HI0) hb); clear hb hbox hg) | ((with_reducible refine gate_callee (f := 109) rfl ?_); refine gl_ (some 5) Try.func109 #[.pointer (some ⟨g, 0, none⟩)] ?_; (with_reducible refine (spec_l11Draw.calls k g s0_0 s0_1 s0_2 t636 t637 t638 t639 t640 t641 t642 t643 t646 t647 w0 _ ?side1 ?side2 A2.out).mono ?_); (case side1 => exact IsS128.q HI0); (case side2 => exact qB HB); rintro e w58 ⟨v644, rfl, ho0, hi, hb, hk⟩; refine ⟨_, rfl, ?_⟩; replace BK635 := kB_ BK635 hk NB635_0; have HO645 := am_ (Kd.R_lower ho0 (keep_size (w := w) (g := g) (row := none) (qP HK))); replace HK := kT_ HK hk; replace HB := am_ (hb); replace HI0 := am_ (hi); (try clear hb); (try clear hk); (try clear hi); (try clear ho0)) | ((with_reducible refine gate_dst (N := 3) rfl ?_); refine bx_ (N := 3) (cs := #[.int .i64 0, .int .i64 0, .int .i64 0, .int .i64 0, .int .i64 0, .bool false, .int .i64 0, .slice none 0 0]) (t := 75) ?_; intro gb648 hg w59 hbox hb; replace HO645 := rB_ HO645 hb; replace HB := bS_ HB hb; have BK648 := am_ (hbox); have GW648 := am_ ((gK_ hg (qP HK))); have IGW648 := gI_ GW648; have GE648 := am_ ((Nat.le_trans HW0.out (gK_ hg (qP HK)))); have IGE648 := gI_ GE648; replace HK := kL_ HK hb; have NB635_648 := am_ ((gN_ hg (qK BK635))); have NB648_635 := am_ ((gM_ hg (qK BK635))); replace BK635 := bK_ BK635 hb; have NB0_648 := am_ ((nG_ hg (IsS128.lt (IsS128.q HI0)))); have INB0_648 := nI_ NB0_648; have NB648_0 := am_ (((nG_ hg (IsS128.lt (IsS128.q HI0))).symm)); replace HI0 := am_ (IsS128.below (IsS128.q HI0) hb); clear hb hbox hg; have hnb60 := NB648_635.out; have hnc60 := NB635_648.out; have hnb61 := NB648_0.out; have hnc61 := NB0_648.out; (try clear zK648); have zK648 := cz8 BK648.out; (try clear fK648); have fK648 := fz8 BK648.out; obtain ⟨Ao63, co63, eo63⟩ := Kd.R_slice HO645.out; subst eo63) | ((with_reducible refine gate_callee (f := 61) rfl ?_); refine gl_ (some 7) Try.func61 #[.pointer (some ⟨g, 0, none⟩), .int .i64 16] ?_; (with_reducible refine (spec_l1Below.calls g s0_0 t646 t647 16 t649 t650 t651 w0 _ ?side1 ?side2 A3.out).mono ?_); (case side1 => exact IsS128.q HI0); (case side2 => exact qB HB); rintro e w64 ⟨rfl, hi, hb, hk⟩; refine ⟨_, rfl, ?_⟩; replace BK635 := am_ (KeepBut.blk hk (g' := gb635) (o := .cells #[.int .i64 0, .int .i64 0, .int .i64 0, .int .i64 0, .int .i64 0, .bool false, .int .i64 0, .slice none 0 0] 75 (0, 0)) (by (with_reducible repeat (first | refine blk_drewN ?_ _ | refine blk_drew ?_ | refine blk_alloc ?_ _)); refine blk_far8 ?_ NB635_648.out; exact qK BK635) NB635_0.out (by simp)); replace HO645 := am_ (Kd.R_mono (Kd.R_keep (IsS128.apart (show IsS128 w0 _ g s0_0 t646 t647 from IsS128.q HI0) (by (with_reducible repeat (first | apply Kd.R_alloc | apply Kd.R_drewN | apply Kd.R_drew)); exact (Kd.R_mono (R_far8 (g := gb648) (Kd.R_types HO645.out BK648.out (by decide)) (fun _ hk => hk.2)) (fun _ h_ => h_.1))) (by decide)) hk (fun _ h => h.2)) (fun _ h => h.1)); replace BK648 := am_ (KeepBut.blk hk (g' := gb648) (o := .cells #[.int .i64 t636, .int .i64 t637, .int .i64 t638, .int .i64 t639, .int .i64 t640, .bool t641, .int .i64 t642, .slice Ao63 t643.length co63] 75 (0, 0)) (by exact blk_all8 (qK BK648)) NB648_0.out (by simp)); replace HK := kT_ HK hk; replace HB := am_ (hb); replace HI0 := am_ (hi); (try clear hb); (try clear hk); (try clear hi)) | ((with_reducible refine gate_dst (N := 29) rfl ?_); refine Kd.R_lit (Kd.int .i64) _ 3 ?hg (N := 29) ?hd (xs := ([(-1), 20, 21] : List Int)) (inner := [.int .i64 (-1), .int .i64 20, .int .i64 21]) (ok := fun _ => True) (okp := fun _ => True) ?hr ?hp (fun _ hk => hk) trivial (Below.refl _ _) (Nat.le_refl _) (by simp) ?_; (case hd => rfl); (case hg => rfl); (case hr => first | (go_simp; done) | (go_simp; rfl)); (case hp => exact (Reps.one (show Kd.M (Kd.int .i64) _ _ _ (-1) [.int .i64 (-1)] from rfl) (Reps.one (show Kd.M (Kd.int .i64) _ _ _ 20 [.int .i64 20] from rfl) (Reps.one (show Kd.M (Kd.int .i64) _ _ _ 21 [.int .i64 21] from rfl) (Reps.none _ _))))); intro v671 w65 ho66 hb hg_ hnew_; clear hg_ hnew_; (first | rw [← Ny670.out] at ho66 | (simp only [Int.reduceToNat] at ho66; rw [← Ny670.out] at ho66)); replace HO645 := rB_ HO645 hb; have HO672 := am_ (Kd.R_lower ho66 (keep_size (w := w) (g := g) (row := none) (qP HK))); replace BK635 := bK_ BK635 hb; replace BK648 := bK_ BK648 hb; replace HK := kL_ HK hb; replace HB := bS_ HB hb; replace HI0 := am_ (IsS128.below (IsS128.q HI0) hb); clear hb ho66; obtain ⟨Ao67, co67, eo67⟩ := Kd.R_slice HO672.out; subst eo67) | ((with_reducible refine gate_callee (f := 62) rfl ?_); refine gl_ (some 30) Try.func62 #[.pointer (some ⟨g, 0, none⟩), .slice Ao67 y670.length co67] ?_; (with_reducible refine (spec_l1Int.calls g s0_0 t650 t651 _ _ y670 t673 t674 t675 w0 _ ?side1 ?side2 ?side3 ?side4 ?side5 A56.out).mono ?_); (case side1 => exact IsS128.q HI0); (case side2 => exact qB HB); (case side3 => exact qC ((Kd.R_reads' HO672.out).2.2)); (case side4 => exact (Kd.R_reads' HO672.out).2.1); (case side5 => exact far_slice (IsS128.own_ne HI0.out HO672.out (by decide))); rintro e w68 ⟨rfl, hi, hb, hk⟩; refine ⟨_, rfl, ?_⟩; replace BK635 := kB_ BK635 hk NB635_0; replace HO645 := am_ (Kd.R_mono (Kd.R_keep (IsS128.apart (show IsS128 w0 _ g s0_0 t650 t651 from IsS128.q HI0) (qR HO645) (by decide)) hk (fun _ h => h.2)) (fun _ h => h.1)); replace BK648 := kB_ BK648 hk NB648_0; replace HO672 := am_ (Kd.R_mono (Kd.R_keep (IsS128.apart (show IsS128 w0 _ g s0_0 t650 t651 from IsS128.q HI0) (qR HO672) (by decide)) hk (fun _ h => h.2)) (fun _ h => h.1)); replace HK := kT_ HK hk; replace HB := am_ (hb); replace HI0 := am_ (hi); (try clear hb); (try clear hk); (try clear hi); (try clear zK648); have zK648 := cz8 BK648.out; (try clear fK648); have fK648 := fz8 BK648.out; have hnb70 := NB635_0.out; have hnc70 := NB0_635.out; (try clear zK635); have zK635 := cz8 BK635.out; (try clear fK635); have fK635 := fz8 BK635.out))
  refine bodyPost_ret (results_cell_row rfl _ _ gb635 75 #[.int .i64 t636, .int .i64 t637, .int .i64 t638, .int .i64 t673, .int .i64 t640, .bool t641, .int .i64 t642, .slice Ao63 t643.length co63] (0, 0) _ rfl (by exact blk_all8 (blk_far1 (qK BK635) NB635_648.out)) Try.underlying75 rfl (by kernel_rfl)) rfl ?_
  exact ⟨_, er_, by (with_reducible repeat (first | apply Kd.R_alloc | apply Kd.R_drewN | apply Kd.R_drew)); exact Kd.R_mono (R_far8 (g := gb635) (Kd.R_far (p := ⟨gb648, 3, none⟩) (Kd.R_types (Kd.R_types HO645.out BK648.out (by decide)) BK635.out (by decide)) (fun _ hk => hk.1.2) (.int .i64 t673)) (fun _ hk => hk.2)) (fun _ hk => trivial), IsS128.q HI0, qB HB, qP HK⟩
 rw [if_neg c55] at H
 have c55b0 : (t649 == 3) = false := beq_eq_false_iff_ne.mpr c55
 have c55b1 : (t649 != 3) = true := bne_iff_ne.mpr c55
 by_cases c72 : t649 = 4
 ·
  rw [if_pos c72] at H
  have c72b0 : (t649 == 4) = true := beq_iff_eq.mpr c72
  have c72b1 : (t649 != 4) = false := bne_eq_false_iff_eq.mpr c72
  clear c72
  obtain ⟨y676, hy676⟩ : ∃ y_ : List Int, y_ = (([0, 20, 21] : List Int)) := ⟨_, rfl⟩
  rw [← hy676] at H
  have Ny676 := Aside0.mk hy676
  clear hy676
  replace H := bf_ H
  obtain ⟨f_, hf_, ⟨t679, t680, t681⟩, A73, H⟩ := H
  subst hf_
  (try dsimp only at H)
  simp only [Option.some.injEq, Prod.mk.injEq] at H
  obtain ⟨rfl, rfl, rfl, rfl, rfl, rfl, rfl, rfl, rfl, rfl⟩ := H
  go_enter Try.func106, Try.ntmps106
  go_wp2_with (first | ((with_reducible refine gate_dst (N := 2) rfl ?_); refine bx_ (N := 2) (cs := #[.int .i64 0, .int .i64 0, .int .i64 0, .int .i64 0, .int .i64 0, .bool false, .int .i64 0, .slice none 0 0]) (t := 75) ?_; intro gb635 hg w74 hbox hb; replace HB := bS_ HB hb; have BK635 := am_ (hbox); have GW635 := am_ ((gK_ hg (qP HK))); have IGW635 := gI_ GW635; have GE635 := am_ ((Nat.le_trans HW0.out (gK_ hg (qP HK)))); have IGE635 := gI_ GE635; replace HK := kL_ HK hb; have NB0_635 := am_ ((nG_ hg (IsS128.lt (IsS128.q HI0)))); have INB0_635 := nI_ NB0_635; have NB635_0 := am_ (((nG_ hg (IsS128.lt (IsS128.q HI0))).symm)); replace HI0 := am_ (IsS128.below (IsS128.q HI0) hb); clear hb hbox hg) | ((with_reducible refine gate_callee (f := 109) rfl ?_); refine gl_ (some 5) Try.func109 #[.pointer (some ⟨g, 0, none⟩)] ?_; (with_reducible refine (spec_l11Draw.calls k g s0_0 s0_1 s0_2 t636 t637 t638 t639 t640 t641 t642 t643 t646 t647 w0 _ ?side1 ?side2 A2.out).mono ?_); (case side1 => exact IsS128.q HI0); (case side2 => exact qB HB); rintro e w75 ⟨v644, rfl, ho0, hi, hb, hk⟩; refine ⟨_, rfl, ?_⟩; replace BK635 := kB_ BK635 hk NB635_0; have HO645 := am_ (Kd.R_lower ho0 (keep_size (w := w) (g := g) (row := none) (qP HK))); replace HK := kT_ HK hk; replace HB := am_ (hb); replace HI0 := am_ (hi); (try clear hb); (try clear hk); (try clear hi); (try clear ho0)) | ((with_reducible refine gate_dst (N := 3) rfl ?_); refine bx_ (N := 3) (cs := #[.int .i64 0, .int .i64 0, .int .i64 0, .int .i64 0, .int .i64 0, .bool false, .int .i64 0, .slice none 0 0]) (t := 75) ?_; intro gb648 hg w76 hbox hb; replace HO645 := rB_ HO645 hb; replace HB := bS_ HB hb; have BK648 := am_ (hbox); have GW648 := am_ ((gK_ hg (qP HK))); have IGW648 := gI_ GW648; have GE648 := am_ ((Nat.le_trans HW0.out (gK_ hg (qP HK)))); have IGE648 := gI_ GE648; replace HK := kL_ HK hb; have NB635_648 := am_ ((gN_ hg (qK BK635))); have NB648_635 := am_ ((gM_ hg (qK BK635))); replace BK635 := bK_ BK635 hb; have NB0_648 := am_ ((nG_ hg (IsS128.lt (IsS128.q HI0)))); have INB0_648 := nI_ NB0_648; have NB648_0 := am_ (((nG_ hg (IsS128.lt (IsS128.q HI0))).symm)); replace HI0 := am_ (IsS128.below (IsS128.q HI0) hb); clear hb hbox hg; have hnb77 := NB648_635.out; have hnc77 := NB635_648.out; have hnb78 := NB648_0.out; have hnc78 := NB0_648.out; (try clear zK648); have zK648 := cz8 BK648.out; (try clear fK648); have fK648 := fz8 BK648.out; obtain ⟨Ao80, co80, eo80⟩ := Kd.R_slice HO645.out; subst eo80) | ((with_reducible refine gate_callee (f := 61) rfl ?_); refine gl_ (some 7) Try.func61 #[.pointer (some ⟨g, 0, none⟩), .int .i64 16] ?_; (with_reducible refine (spec_l1Below.calls g s0_0 t646 t647 16 t649 t650 t651 w0 _ ?side1 ?side2 A3.out).mono ?_); (case side1 => exact IsS128.q HI0); (case side2 => exact qB HB); rintro e w81 ⟨rfl, hi, hb, hk⟩; refine ⟨_, rfl, ?_⟩; replace BK635 := am_ (KeepBut.blk hk (g' := gb635) (o := .cells #[.int .i64 0, .int .i64 0, .int .i64 0, .int .i64 0, .int .i64 0, .bool false, .int .i64 0, .slice none 0 0] 75 (0, 0)) (by (with_reducible repeat (first | refine blk_drewN ?_ _ | refine blk_drew ?_ | refine blk_alloc ?_ _)); refine blk_far8 ?_ NB635_648.out; exact qK BK635) NB635_0.out (by simp)); replace HO645 := am_ (Kd.R_mono (Kd.R_keep (IsS128.apart (show IsS128 w0 _ g s0_0 t646 t647 from IsS128.q HI0) (by (with_reducible repeat (first | apply Kd.R_alloc | apply Kd.R_drewN | apply Kd.R_drew)); exact (Kd.R_mono (R_far8 (g := gb648) (Kd.R_types HO645.out BK648.out (by decide)) (fun _ hk => hk.2)) (fun _ h_ => h_.1))) (by decide)) hk (fun _ h => h.2)) (fun _ h => h.1)); replace BK648 := am_ (KeepBut.blk hk (g' := gb648) (o := .cells #[.int .i64 t636, .int .i64 t637, .int .i64 t638, .int .i64 t639, .int .i64 t640, .bool t641, .int .i64 t642, .slice Ao80 t643.length co80] 75 (0, 0)) (by exact blk_all8 (qK BK648)) NB648_0.out (by simp)); replace HK := kT_ HK hk; replace HB := am_ (hb); replace HI0 := am_ (hi); (try clear hb); (try clear hk); (try clear hi)) | ((with_reducible refine gate_dst (N := 35) rfl ?_); refine Kd.R_lit (Kd.int .i64) _ 3 ?hg (N := 35) ?hd (xs := ([0, 20, 21] : List Int)) (inner := [.int .i64 0, .int .i64 20, .int .i64 21]) (ok := fun _ => True) (okp := fun _ => True) ?hr ?hp (fun _ hk => hk) trivial (Below.refl _ _) (Nat.le_refl _) (by simp) ?_; (case hd => rfl); (case hg => rfl); (case hr => first | (go_simp; done) | (go_simp; rfl)); (case hp => exact (Reps.one (show Kd.M (Kd.int .i64) _ _ _ 0 [.int .i64 0] from rfl) (Reps.one (show Kd.M (Kd.int .i64) _ _ _ 20 [.int .i64 20] from rfl) (Reps.one (show Kd.M (Kd.int .i64) _ _ _ 21 [.int .i64 21] from rfl) (Reps.none _ _))))); intro v677 w82 ho83 hb hg_ hnew_; clear hg_ hnew_; (first | rw [← Ny676.out] at ho83 | (simp only [Int.reduceToNat] at ho83; rw [← Ny676.out] at ho83)); replace HO645 := rB_ HO645 hb; have HO678 := am_ (Kd.R_lower ho83 (keep_size (w := w) (g := g) (row := none) (qP HK))); replace BK635 := bK_ BK635 hb; replace BK648 := bK_ BK648 hb; replace HK := kL_ HK hb; replace HB := bS_ HB hb; replace HI0 := am_ (IsS128.below (IsS128.q HI0) hb); clear hb ho83; obtain ⟨Ao84, co84, eo84⟩ := Kd.R_slice HO678.out; subst eo84) | ((with_reducible refine gate_callee (f := 62) rfl ?_); refine gl_ (some 36) Try.func62 #[.pointer (some ⟨g, 0, none⟩), .slice Ao84 y676.length co84] ?_; (with_reducible refine (spec_l1Int.calls g s0_0 t650 t651 _ _ y676 t679 t680 t681 w0 _ ?side1 ?side2 ?side3 ?side4 ?side5 A73.out).mono ?_); (case side1 => exact IsS128.q HI0); (case side2 => exact qB HB); (case side3 => exact qC ((Kd.R_reads' HO678.out).2.2)); (case side4 => exact (Kd.R_reads' HO678.out).2.1); (case side5 => exact far_slice (IsS128.own_ne HI0.out HO678.out (by decide))); rintro e w85 ⟨rfl, hi, hb, hk⟩; refine ⟨_, rfl, ?_⟩; replace BK635 := kB_ BK635 hk NB635_0; replace HO645 := am_ (Kd.R_mono (Kd.R_keep (IsS128.apart (show IsS128 w0 _ g s0_0 t650 t651 from IsS128.q HI0) (qR HO645) (by decide)) hk (fun _ h => h.2)) (fun _ h => h.1)); replace BK648 := kB_ BK648 hk NB648_0; replace HO678 := am_ (Kd.R_mono (Kd.R_keep (IsS128.apart (show IsS128 w0 _ g s0_0 t650 t651 from IsS128.q HI0) (qR HO678) (by decide)) hk (fun _ h => h.2)) (fun _ h => h.1)); replace HK := kT_ HK hk; replace HB := am_ (hb); replace HI0 := am_ (hi); (try clear hb); (try clear hk); (try clear hi); (try clear zK648); have zK648 := cz8 BK648.out; (try clear fK648); have fK648 := fz8 BK648.out; have hnb87 := NB635_0.out; have hnc87 := NB0_635.out; (try clear zK635); have zK635 := cz8 BK635.out; (try clear fK635); have fK635 := fz8 BK635.out))
  refine bodyPost_ret (results_cell_row rfl _ _ gb635 75 #[.int .i64 t636, .int .i64 t637, .int .i64 t638, .int .i64 t639, .int .i64 t679, .bool t641, .int .i64 t642, .slice Ao80 t643.length co80] (0, 0) _ rfl (by exact blk_all8 (blk_far1 (qK BK635) NB635_648.out)) Try.underlying75 rfl (by kernel_rfl)) rfl ?_
  exact ⟨_, er_, by (with_reducible repeat (first | apply Kd.R_alloc | apply Kd.R_drewN | apply Kd.R_drew)); exact Kd.R_mono (R_far8 (g := gb635) (Kd.R_far (p := ⟨gb648, 4, none⟩) (Kd.R_types (Kd.R_types HO645.out BK648.out (by decide)) BK635.out (by decide)) (fun _ hk => hk.1.2) (.int .i64 t679)) (fun _ hk => hk.2)) (fun _ hk => trivial), IsS128.q HI0, qB HB, qP HK⟩
 rw [if_neg c72] at H
 have c72b0 : (t649 == 4) = false := beq_eq_false_iff_ne.mpr c72
 have c72b1 : (t649 != 4) = true := bne_iff_ne.mpr c72
 by_cases c89 : t649 = 5
 ·
  rw [if_pos c89] at H
  have c89b0 : (t649 == 5) = true := beq_iff_eq.mpr c89
  have c89b1 : (t649 != 5) = false := bne_eq_false_iff_eq.mpr c89
  clear c89
  obtain ⟨y682, hy682⟩ : ∃ y_ : List Int, y_ = (([(-1), 65536] : List Int)) := ⟨_, rfl⟩
  rw [← hy682] at H
  have Ny682 := Aside0.mk hy682
  clear hy682
  replace H := bf_ H
  obtain ⟨f_, hf_, ⟨t685, t686, t687⟩, A90, H⟩ := H
  subst hf_
  (try dsimp only at H)
  simp only [Option.some.injEq, Prod.mk.injEq] at H
  obtain ⟨rfl, rfl, rfl, rfl, rfl, rfl, rfl, rfl, rfl, rfl⟩ := H
  go_enter Try.func106, Try.ntmps106
  go_wp2_with (first | ((with_reducible refine gate_dst (N := 2) rfl ?_); refine bx_ (N := 2) (cs := #[.int .i64 0, .int .i64 0, .int .i64 0, .int .i64 0, .int .i64 0, .bool false, .int .i64 0, .slice none 0 0]) (t := 75) ?_; intro gb635 hg w91 hbox hb; replace HB := bS_ HB hb; have BK635 := am_ (hbox); have GW635 := am_ ((gK_ hg (qP HK))); have IGW635 := gI_ GW635; have GE635 := am_ ((Nat.le_trans HW0.out (gK_ hg (qP HK)))); have IGE635 := gI_ GE635; replace HK := kL_ HK hb; have NB0_635 := am_ ((nG_ hg (IsS128.lt (IsS128.q HI0)))); have INB0_635 := nI_ NB0_635; have NB635_0 := am_ (((nG_ hg (IsS128.lt (IsS128.q HI0))).symm)); replace HI0 := am_ (IsS128.below (IsS128.q HI0) hb); clear hb hbox hg) | ((with_reducible refine gate_callee (f := 109) rfl ?_); refine gl_ (some 5) Try.func109 #[.pointer (some ⟨g, 0, none⟩)] ?_; (with_reducible refine (spec_l11Draw.calls k g s0_0 s0_1 s0_2 t636 t637 t638 t639 t640 t641 t642 t643 t646 t647 w0 _ ?side1 ?side2 A2.out).mono ?_); (case side1 => exact IsS128.q HI0); (case side2 => exact qB HB); rintro e w92 ⟨v644, rfl, ho0, hi, hb, hk⟩; refine ⟨_, rfl, ?_⟩; replace BK635 := kB_ BK635 hk NB635_0; have HO645 := am_ (Kd.R_lower ho0 (keep_size (w := w) (g := g) (row := none) (qP HK))); replace HK := kT_ HK hk; replace HB := am_ (hb); replace HI0 := am_ (hi); (try clear hb); (try clear hk); (try clear hi); (try clear ho0)) | ((with_reducible refine gate_dst (N := 3) rfl ?_); refine bx_ (N := 3) (cs := #[.int .i64 0, .int .i64 0, .int .i64 0, .int .i64 0, .int .i64 0, .bool false, .int .i64 0, .slice none 0 0]) (t := 75) ?_; intro gb648 hg w93 hbox hb; replace HO645 := rB_ HO645 hb; replace HB := bS_ HB hb; have BK648 := am_ (hbox); have GW648 := am_ ((gK_ hg (qP HK))); have IGW648 := gI_ GW648; have GE648 := am_ ((Nat.le_trans HW0.out (gK_ hg (qP HK)))); have IGE648 := gI_ GE648; replace HK := kL_ HK hb; have NB635_648 := am_ ((gN_ hg (qK BK635))); have NB648_635 := am_ ((gM_ hg (qK BK635))); replace BK635 := bK_ BK635 hb; have NB0_648 := am_ ((nG_ hg (IsS128.lt (IsS128.q HI0)))); have INB0_648 := nI_ NB0_648; have NB648_0 := am_ (((nG_ hg (IsS128.lt (IsS128.q HI0))).symm)); replace HI0 := am_ (IsS128.below (IsS128.q HI0) hb); clear hb hbox hg; have hnb94 := NB648_635.out; have hnc94 := NB635_648.out; have hnb95 := NB648_0.out; have hnc95 := NB0_648.out; (try clear zK648); have zK648 := cz8 BK648.out; (try clear fK648); have fK648 := fz8 BK648.out; obtain ⟨Ao97, co97, eo97⟩ := Kd.R_slice HO645.out; subst eo97) | ((with_reducible refine gate_callee (f := 61) rfl ?_); refine gl_ (some 7) Try.func61 #[.pointer (some ⟨g, 0, none⟩), .int .i64 16] ?_; (with_reducible refine (spec_l1Below.calls g s0_0 t646 t647 16 t649 t650 t651 w0 _ ?side1 ?side2 A3.out).mono ?_); (case side1 => exact IsS128.q HI0); (case side2 => exact qB HB); rintro e w98 ⟨rfl, hi, hb, hk⟩; refine ⟨_, rfl, ?_⟩; replace BK635 := am_ (KeepBut.blk hk (g' := gb635) (o := .cells #[.int .i64 0, .int .i64 0, .int .i64 0, .int .i64 0, .int .i64 0, .bool false, .int .i64 0, .slice none 0 0] 75 (0, 0)) (by (with_reducible repeat (first | refine blk_drewN ?_ _ | refine blk_drew ?_ | refine blk_alloc ?_ _)); refine blk_far8 ?_ NB635_648.out; exact qK BK635) NB635_0.out (by simp)); replace HO645 := am_ (Kd.R_mono (Kd.R_keep (IsS128.apart (show IsS128 w0 _ g s0_0 t646 t647 from IsS128.q HI0) (by (with_reducible repeat (first | apply Kd.R_alloc | apply Kd.R_drewN | apply Kd.R_drew)); exact (Kd.R_mono (R_far8 (g := gb648) (Kd.R_types HO645.out BK648.out (by decide)) (fun _ hk => hk.2)) (fun _ h_ => h_.1))) (by decide)) hk (fun _ h => h.2)) (fun _ h => h.1)); replace BK648 := am_ (KeepBut.blk hk (g' := gb648) (o := .cells #[.int .i64 t636, .int .i64 t637, .int .i64 t638, .int .i64 t639, .int .i64 t640, .bool t641, .int .i64 t642, .slice Ao97 t643.length co97] 75 (0, 0)) (by exact blk_all8 (qK BK648)) NB648_0.out (by simp)); replace HK := kT_ HK hk; replace HB := am_ (hb); replace HI0 := am_ (hi); (try clear hb); (try clear hk); (try clear hi)) | ((with_reducible refine gate_dst (N := 41) rfl ?_); refine Kd.R_lit (Kd.int .i64) _ 3 ?hg (N := 41) ?hd (xs := ([(-1), 65536] : List Int)) (inner := [.int .i64 (-1), .int .i64 65536]) (ok := fun _ => True) (okp := fun _ => True) ?hr ?hp (fun _ hk => hk) trivial (Below.refl _ _) (Nat.le_refl _) (by simp) ?_; (case hd => rfl); (case hg => rfl); (case hr => first | (go_simp; done) | (go_simp; rfl)); (case hp => exact (Reps.one (show Kd.M (Kd.int .i64) _ _ _ (-1) [.int .i64 (-1)] from rfl) (Reps.one (show Kd.M (Kd.int .i64) _ _ _ 65536 [.int .i64 65536] from rfl) (Reps.none _ _)))); intro v683 w99 ho100 hb hg_ hnew_; clear hg_ hnew_; (first | rw [← Ny682.out] at ho100 | (simp only [Int.reduceToNat] at ho100; rw [← Ny682.out] at ho100)); replace HO645 := rB_ HO645 hb; have HO684 := am_ (Kd.R_lower ho100 (keep_size (w := w) (g := g) (row := none) (qP HK))); replace BK635 := bK_ BK635 hb; replace BK648 := bK_ BK648 hb; replace HK := kL_ HK hb; replace HB := bS_ HB hb; replace HI0 := am_ (IsS128.below (IsS128.q HI0) hb); clear hb ho100; obtain ⟨Ao101, co101, eo101⟩ := Kd.R_slice HO684.out; subst eo101) | ((with_reducible refine gate_callee (f := 62) rfl ?_); refine gl_ (some 42) Try.func62 #[.pointer (some ⟨g, 0, none⟩), .slice Ao101 y682.length co101] ?_; (with_reducible refine (spec_l1Int.calls g s0_0 t650 t651 _ _ y682 t685 t686 t687 w0 _ ?side1 ?side2 ?side3 ?side4 ?side5 A90.out).mono ?_); (case side1 => exact IsS128.q HI0); (case side2 => exact qB HB); (case side3 => exact qC ((Kd.R_reads' HO684.out).2.2)); (case side4 => exact (Kd.R_reads' HO684.out).2.1); (case side5 => exact far_slice (IsS128.own_ne HI0.out HO684.out (by decide))); rintro e w102 ⟨rfl, hi, hb, hk⟩; refine ⟨_, rfl, ?_⟩; replace BK635 := kB_ BK635 hk NB635_0; replace HO645 := am_ (Kd.R_mono (Kd.R_keep (IsS128.apart (show IsS128 w0 _ g s0_0 t650 t651 from IsS128.q HI0) (qR HO645) (by decide)) hk (fun _ h => h.2)) (fun _ h => h.1)); replace BK648 := kB_ BK648 hk NB648_0; replace HO684 := am_ (Kd.R_mono (Kd.R_keep (IsS128.apart (show IsS128 w0 _ g s0_0 t650 t651 from IsS128.q HI0) (qR HO684) (by decide)) hk (fun _ h => h.2)) (fun _ h => h.1)); replace HK := kT_ HK hk; replace HB := am_ (hb); replace HI0 := am_ (hi); (try clear hb); (try clear hk); (try clear hi); (try clear zK648); have zK648 := cz8 BK648.out; (try clear fK648); have fK648 := fz8 BK648.out; have hnb104 := NB635_0.out; have hnc104 := NB0_635.out; (try clear zK635); have zK635 := cz8 BK635.out; (try clear fK635); have fK635 := fz8 BK635.out))
  refine bodyPost_ret (results_cell_row rfl _ _ gb635 75 #[.int .i64 t636, .int .i64 t637, .int .i64 t638, .int .i64 t639, .int .i64 t640, .bool t641, .int .i64 t685, .slice Ao97 t643.length co97] (0, 0) _ rfl (by exact blk_all8 (blk_far1 (qK BK635) NB635_648.out)) Try.underlying75 rfl (by kernel_rfl)) rfl ?_
  exact ⟨_, er_, by (with_reducible repeat (first | apply Kd.R_alloc | apply Kd.R_drewN | apply Kd.R_drew)); exact Kd.R_mono (R_far8 (g := gb635) (Kd.R_far (p := ⟨gb648, 6, none⟩) (Kd.R_types (Kd.R_types HO645.out BK648.out (by decide)) BK635.out (by decide)) (fun _ hk => hk.1.2) (.int .i64 t685)) (fun _ hk => hk.2)) (fun _ hk => trivial), IsS128.q HI0, qB HB, qP HK⟩
 rw [if_neg c89] at H
 have c89b0 : (t649 == 5) = false := beq_eq_false_iff_ne.mpr c89
 have c89b1 : (t649 != 5) = true := bne_iff_ne.mpr c89
 by_cases c106 : t649 = 6
 ·
  rw [if_pos c106] at H
  have c106b0 : (t649 == 6) = true := beq_iff_eq.mpr c106
  have c106b1 : (t649 != 6) = false := bne_eq_false_iff_eq.mpr c106
  clear c106
  replace H := bf_ H
  obtain ⟨f_, hf_, ⟨t688, t689, t690, t691, t692, t693, t694, t695, t696, t697, t698, t699, t700, t701, t702, t703, t704, t705⟩, A107, H⟩ := H
  subst hf_
  (try dsimp only at H)
  obtain ⟨y706, hy706⟩ : ∃ y_ : List (S29), y_ = (([(⟨0, (⟨0, (⟨#[]⟩ : ByteArray), 0, 0, 0, (⟨#[]⟩ : ByteArray), 0, 0⟩ : S25), (⟨0, (⟨#[]⟩ : ByteArray), 0, 0, 0, 0, 0⟩ : S27)⟩ : S29), (⟨t688, (⟨t689, t690, t691, t692, t693, t694, t695, t696⟩ : S25), (⟨t697, t698, t699, t700, t701, t702, t703⟩ : S27)⟩ : S29)] : List (S29))) := ⟨_, rfl⟩
  replace H := mk_ H hy706
  (try dsimp only at H)
  have Ny706 := Aside0.mk hy706
  clear hy706
  by_cases c108 : t643.length + y706.length < 925904528653
  case neg => exact nn_ c108 H
  rw [if_pos c108] at H
  have LMc108 := Aside0.mk c108
  clear c108
  obtain ⟨y709, hy709⟩ : ∃ y_ : List (S29), y_ = (t643 ++ y706) := ⟨_, rfl⟩
  replace H : (some (t636, t637, t638, t639, t640, t641, t642, y709, t704, t705)) = some (r1, r2, r3, r4, r5, r6, r7, r8, r9, r10) := by first | (rw [hy709]; with_reducible exact H) | (have H2_ := (Option.bind_some _ _).symm.trans H; rw [hy709]; with_reducible exact H2_) | (have H2_ := (Option.bind_some _ _).symm.trans H; with_reducible exact H2_) | with_reducible exact H | (rw [hy709]; exact H) | exact H
  have Ny709 := Aside0.mk hy709
  clear hy709
  simp only [Option.some.injEq, Prod.mk.injEq] at H
  obtain ⟨rfl, rfl, rfl, rfl, rfl, rfl, rfl, rfl, rfl, rfl⟩ := H
  go_enter Try.func106, Try.ntmps106
  try go_wp2_with (first | ((with_reducible refine gate_dst (N := 2) rfl ?_); refine bx_ (N := 2) (cs := #[.int .i64 0, .int .i64 0, .int .i64 0, .int .i64 0, .int .i64 0, .bool false, .int .i64 0, .slice none 0 0]) (t := 75) ?_; intro gb635 hg w109 hbox hb; replace HB := bS_ HB hb; have BK635 := am_ (hbox); have GW635 := am_ ((gK_ hg (qP HK))); have IGW635 := gI_ GW635; have GE635 := am_ ((Nat.le_trans HW0.out (gK_ hg (qP HK)))); have IGE635 := gI_ GE635; replace HK := kL_ HK hb; have NB0_635 := am_ ((nG_ hg (IsS128.lt (IsS128.q HI0)))); have INB0_635 := nI_ NB0_635; have NB635_0 := am_ (((nG_ hg (IsS128.lt (IsS128.q HI0))).symm)); replace HI0 := am_ (IsS128.below (IsS128.q HI0) hb); clear hb hbox hg) | ((with_reducible refine gate_callee (f := 109) rfl ?_); refine gl_ (some 5) Try.func109 #[.pointer (some ⟨g, 0, none⟩)] ?_; (with_reducible refine (spec_l11Draw.calls k g s0_0 s0_1 s0_2 t636 t637 t638 t639 t640 t641 t642 t643 t646 t647 w0 _ ?side1 ?side2 A2.out).mono ?_); (case side1 => exact IsS128.q HI0); (case side2 => exact qB HB); rintro e w110 ⟨v644, rfl, ho0, hi, hb, hk⟩; refine ⟨_, rfl, ?_⟩; replace BK635 := kB_ BK635 hk NB635_0; have HO645 := am_ (Kd.R_lower ho0 (keep_size (w := w) (g := g) (row := none) (qP HK))); replace HK := kT_ HK hk; replace HB := am_ (hb); replace HI0 := am_ (hi); (try clear hb); (try clear hk); (try clear hi); (try clear ho0)) | ((with_reducible refine gate_dst (N := 3) rfl ?_); refine bx_ (N := 3) (cs := #[.int .i64 0, .int .i64 0, .int .i64 0, .int .i64 0, .int .i64 0, .bool false, .int .i64 0, .slice none 0 0]) (t := 75) ?_; intro gb648 hg w111 hbox hb; replace HO645 := rB_ HO645 hb; replace HB := bS_ HB hb; have BK648 := am_ (hbox); have GW648 := am_ ((gK_ hg (qP HK))); have IGW648 := gI_ GW648; have GE648 := am_ ((Nat.le_trans HW0.out (gK_ hg (qP HK)))); have IGE648 := gI_ GE648; replace HK := kL_ HK hb; have NB635_648 := am_ ((gN_ hg (qK BK635))); have NB648_635 := am_ ((gM_ hg (qK BK635))); replace BK635 := bK_ BK635 hb; have NB0_648 := am_ ((nG_ hg (IsS128.lt (IsS128.q HI0)))); have INB0_648 := nI_ NB0_648; have NB648_0 := am_ (((nG_ hg (IsS128.lt (IsS128.q HI0))).symm)); replace HI0 := am_ (IsS128.below (IsS128.q HI0) hb); clear hb hbox hg; have hnb112 := NB648_635.out; have hnc112 := NB635_648.out; have hnb113 := NB648_0.out; have hnc113 := NB0_648.out; (try clear zK648); have zK648 := cz8 BK648.out; (try clear fK648); have fK648 := fz8 BK648.out; obtain ⟨Ao115, co115, eo115⟩ := Kd.R_slice HO645.out; subst eo115) | ((with_reducible refine gate_callee (f := 61) rfl ?_); refine gl_ (some 7) Try.func61 #[.pointer (some ⟨g, 0, none⟩), .int .i64 16] ?_; (with_reducible refine (spec_l1Below.calls g s0_0 t646 t647 16 t649 t650 t651 w0 _ ?side1 ?side2 A3.out).mono ?_); (case side1 => exact IsS128.q HI0); (case side2 => exact qB HB); rintro e w116 ⟨rfl, hi, hb, hk⟩; refine ⟨_, rfl, ?_⟩; replace BK635 := am_ (KeepBut.blk hk (g' := gb635) (o := .cells #[.int .i64 0, .int .i64 0, .int .i64 0, .int .i64 0, .int .i64 0, .bool false, .int .i64 0, .slice none 0 0] 75 (0, 0)) (by (with_reducible repeat (first | refine blk_drewN ?_ _ | refine blk_drew ?_ | refine blk_alloc ?_ _)); refine blk_far8 ?_ NB635_648.out; exact qK BK635) NB635_0.out (by simp)); replace HO645 := am_ (Kd.R_mono (Kd.R_keep (IsS128.apart (show IsS128 w0 _ g s0_0 t646 t647 from IsS128.q HI0) (by (with_reducible repeat (first | apply Kd.R_alloc | apply Kd.R_drewN | apply Kd.R_drew)); exact (Kd.R_mono (R_far8 (g := gb648) (Kd.R_types HO645.out BK648.out (by decide)) (fun _ hk => hk.2)) (fun _ h_ => h_.1))) (by decide)) hk (fun _ h => h.2)) (fun _ h => h.1)); replace BK648 := am_ (KeepBut.blk hk (g' := gb648) (o := .cells #[.int .i64 t636, .int .i64 t637, .int .i64 t638, .int .i64 t639, .int .i64 t640, .bool t641, .int .i64 t642, .slice Ao115 t643.length co115] 75 (0, 0)) (by exact blk_all8 (qK BK648)) NB648_0.out (by simp)); replace HK := kT_ HK hk; replace HB := am_ (hb); replace HI0 := am_ (hi); (try clear hb); (try clear hk); (try clear hi)))
  replace HO645 := am_ (Kd.R_drew HO645.out)
  replace BK635 := am_ (blk_drew BK635.out)
  replace BK648 := am_ (blk_drew BK648.out)
  replace HI0 := am_ (IsS128.drew HI0.out)
  replace HK := am_ (keep_drew HK.out)
  replace HB := am_ (below_drew1 HB.out)
  refine start_ (n := 9) (S := fun w' => w'.cell? ⟨gb648, 0, none⟩ = some (.int .i64 t636) ∧ w'.cell? ⟨gb648, 1, none⟩ = some (.int .i64 t637) ∧ w'.cell? ⟨gb648, 2, none⟩ = some (.int .i64 t638) ∧ w'.cell? ⟨gb648, 3, none⟩ = some (.int .i64 t639) ∧ w'.cell? ⟨gb648, 4, none⟩ = some (.int .i64 t640) ∧ w'.cell? ⟨gb648, 5, none⟩ = some (.bool t641) ∧ w'.cell? ⟨gb648, 6, none⟩ = some (.int .i64 t642) ∧ w'.cell? ⟨gb648, 7, none⟩ = some (.slice Ao115 t643.length co115)) (ds := [8]) #[oo,oo,oo,oo,oo,oo,oo,oo,oo] (by kernel_rfl) rfl rfl (cz8 BK648.out) (fun hHeld => ?_); refine with_tabW spec_l11Any.tab16 spec_l11Any.bits16 (fun HT_ HW_ => ?_)
  generalize w116.drew = w117 at HO645 BK635 BK648 HI0 HK HB hHeld ⊢
  refine pz_ (i := 0) (N := some 46) HT_ #[ii,oo,oo,oo,oo,oo,oo,oo,oo] rfl rfl ?_
  refine pz_ (i := 2) (N := some 48) HT_ #[ii,oo,ii,oo,oo,oo,oo,oo,oo] rfl rfl ?_
  refine pz_ (i := 3) (N := some 49) HT_ #[ii,oo,ii,ii,oo,oo,oo,oo,oo] rfl rfl ?_
  refine tz_ (i := 1) (N := some 47) HT_ HW_ #[ii,ii,ii,ii,oo,oo,oo,oo,oo] rfl rfl hHeld ?_
  refine one_ (i := 4) (N := some 50) #[ii,ii,ii,ii,ii,oo,oo,oo,oo] rfl rfl (one_of HT_.out (by kernel_rfl)) (by decide) (fun K hK => ?_)
  refine goes_ Try.func60 (by kernel_rfl) rfl #[.pointer (some ⟨g, 0, none⟩)] (by rfl) rfl rfl la_ ?_
  with_reducible refine (spec_l9Item.calls k g s0_0 t650 t651 t688 t689 t690 t691 t692 t693 t694 t695 t696 t697 t698 t699 t700 t701 t702 t703 t704 t705 w0 _ ?side1 ?side2 A107.out).mono ?_
  (case side1 => exact IsS128.q HI0)
  (case side2 => exact qB HB)
  rintro e w118 ⟨rfl, hi, hb, hk⟩
  refine ⟨_, rfl, ?_⟩
  replace BK635 := kB_ BK635 hk NB635_0
  replace HO645 := am_ (Kd.R_mono (Kd.R_keep (IsS128.apart (show IsS128 w0 _ g s0_0 t650 t651 from IsS128.q HI0) (qR HO645) (by decide)) hk (fun _ h => h.2)) (fun _ h => h.1))
  replace BK648 := kB_ BK648 hk NB648_0
  replace HK := kT_ HK hk
  replace HB := am_ (hb)
  replace HI0 := am_ (hi)
  (try clear hb hk hi)
  refine hK.out _ _ (cz8 BK648.out) (fun hHeld => ?_)
  clear hK K
  refine norm_ (a' := ?_) ?_ ?_
  rotate_left
  ·
   show Act.put _ (some 50) _ = _
   exact ap_
  refine one_ (i := 5) (N := some 51) #[ii,ii,ii,ii,ii,ii,oo,oo,oo] rfl rfl (one_of HT_.out (by kernel_rfl)) (by decide) (fun K hK => ?_)
  refine Kd.R_lit_step k29 _ 29 ?hg (N := 51) ?hd (xs := ([(⟨0, (⟨0, (⟨#[]⟩ : ByteArray), 0, 0, 0, (⟨#[]⟩ : ByteArray), 0, 0⟩ : S25), (⟨0, (⟨#[]⟩ : ByteArray), 0, 0, 0, 0, 0⟩ : S27)⟩ : S29), (⟨t688, (⟨t689, t690, t691, t692, t693, t694, t695, t696⟩ : S25), (⟨t697, t698, t699, t700, t701, t702, t703⟩ : S27)⟩ : S29)] : List (S29))) (inner := [.int .i64 0, .int .i64 0, .string (⟨#[]⟩ : ByteArray), .int .i64 0, .int .i64 0, .int .i64 0, .string (⟨#[]⟩ : ByteArray), .int .i64 0, .int .i64 0, .int .i64 0, .string (⟨#[]⟩ : ByteArray), .int .i64 0, .int .i64 0, .int .i64 0, .int .i64 0, .int .i64 0, .int .i64 t688, .int .i64 t689, .string t690, .int .i64 t691, .int .i64 t692, .int .i64 t693, .string t694, .int .i64 t695, .int .i64 t696, .int .i64 t697, .string t698, .int .i64 t699, .int .i64 t700, .int .i64 t701, .int .i64 t702, .int .i64 t703]) (ok := fun _ => True) (okp := fun _ => True) ?hr ?hp (fun _ hk => hk) trivial (Below.refl _ _) (Nat.le_refl _) (by simp) ?_; (case hd => rfl); (case hg => rfl); (case hr => first | (go_simp; done) | (go_simp; rfl)); (case hp => exact (Reps.front (show Kd.M k29 _ _ _ (⟨0, (⟨0, (⟨#[]⟩ : ByteArray), 0, 0, 0, (⟨#[]⟩ : ByteArray), 0, 0⟩ : S25), (⟨0, (⟨#[]⟩ : ByteArray), 0, 0, 0, 0, 0⟩ : S27)⟩ : S29) [.int .i64 0, .int .i64 0, .string (⟨#[]⟩ : ByteArray), .int .i64 0, .int .i64 0, .int .i64 0, .string (⟨#[]⟩ : ByteArray), .int .i64 0, .int .i64 0, .int .i64 0, .string (⟨#[]⟩ : ByteArray), .int .i64 0, .int .i64 0, .int .i64 0, .int .i64 0, .int .i64 0] from (k29_mkM _ _ _ (⟨0, (⟨0, (⟨#[]⟩ : ByteArray), 0, 0, 0, (⟨#[]⟩ : ByteArray), 0, 0⟩ : S25), (⟨0, (⟨#[]⟩ : ByteArray), 0, 0, 0, 0, 0⟩ : S27)⟩ : S29) )) rfl (Reps.front (show Kd.M k29 _ _ _ (⟨t688, (⟨t689, t690, t691, t692, t693, t694, t695, t696⟩ : S25), (⟨t697, t698, t699, t700, t701, t702, t703⟩ : S27)⟩ : S29) [.int .i64 t688, .int .i64 t689, .string t690, .int .i64 t691, .int .i64 t692, .int .i64 t693, .string t694, .int .i64 t695, .int .i64 t696, .int .i64 t697, .string t698, .int .i64 t699, .int .i64 t700, .int .i64 t701, .int .i64 t702, .int .i64 t703] from (k29_mkM _ _ _ (⟨t688, (⟨t689, t690, t691, t692, t693, t694, t695, t696⟩ : S25), (⟨t697, t698, t699, t700, t701, t702, t703⟩ : S27)⟩ : S29) )) rfl (Reps.none _ _) rfl) rfl))
  intro v707 w119 ho120 hb hg_ hnew_
  clear hg_ hnew_
  (first | rw [← Ny706.out] at ho120 | (simp only [Int.reduceToNat] at ho120; rw [← Ny706.out] at ho120))
  have HO708 := am_ (Kd.R_lower (Kd.R_new' ho120 (Kd.R_lt (qR HO645))) (keep_size (w := w) (g := g) (row := none) (qP HK)))
  replace HO645 := eA_ HO645 ho120 hb
  replace BK635 := bK_ BK635 hb
  replace BK648 := bK_ BK648 hb
  replace HK := kL_ HK hb
  replace HB := bS_ HB hb
  replace HI0 := am_ (IsS128.below (IsS128.q HI0) hb)
  clear hb ho120
  obtain ⟨Ao122, co122, eo122⟩ := Kd.R_slice HO708.out
  (first | subst eo122 | (injection eo122 with f1_ f2_ f3_; have f4_ := f1_.symm; have f5_ := f3_.symm; clear f1_ f2_ f3_; subst f4_; subst f5_))
  refine hK.out _ _ (cz8 BK648.out) (fun hHeld => ?_)
  clear hK K
  refine norm_ (a' := ?_) ?_ ?_
  rotate_left
  ·
   show Act.put _ (some 51) _ = _
   exact ap_
  refine one_ (i := 6) (N := some 52) #[ii,ii,ii,ii,ii,ii,ii,oo,oo] rfl rfl (one_of HT_.out (by kernel_rfl)) (by decide) (fun K hK => ?_)
  refine Kd.R_append_rows_step k29 w.heap.size (by rfl) (.tmp 47) (.tmp 51) 73 29 (.agg #[(.int .i64 0), (.int .i64 0), (.string ⟨#[]⟩), (.int .i64 0), (.int .i64 0), (.int .i64 0), (.string ⟨#[]⟩), (.int .i64 0), (.int .i64 0), (.int .i64 0), (.string ⟨#[]⟩), (.int .i64 0), (.int .i64 0), (.int .i64 0), (.int .i64 0), (.int .i64 0)]) 152 rfl Try.underlying73 info29 rfl (by decide) (by omega) (.slice Ao115 t643.length co115) t643 y706 _ _ _ (fun k_ => some k_ ≠ (.slice Ao122 y706.length co122 : Value).ownBlock) (fun _ => False) rfl rfl ?aO ?aR (fun _ _ h => h) (fun _ h => h.elim) ?aF (Below.refl _ _) ?aS ?aL ?_
  (case aR => exact qC ((Kd.R_reads' HO708.out).2.2))
  (case aF => exact (fun k_ hk => Kd.fresh' (Kd.R_lt (qR HO708)) k_ hk))
  (case aO => exact (tR (Kd.R_mono HO645.out (fun _ hk => hk.2))))
  (case aS => exact (keep_size (w := w) (g := g) (row := none) (qP HK)))
  (case aL => have := LMc108.out; omega)
  intro v710 w121 ho hb hg hat
  rw [← Ny709.out] at ho
  replace BK635 := am_ (blk_grown (qK BK635) hg (Kd.R_ne HO645.out BK635.out (by decide)))
  replace BK648 := am_ (blk_grown (qK BK648) hg (Kd.R_ne HO645.out BK648.out (by decide)))
  replace HO708 := am_ (Kd.R_after (ok := (fun _ => True)) (qR HO708) hg hat)
  replace HB := am_ (below_weaken (qB HB) HL.out hb)
  replace HI0 := am_ (IsS128.grown (IsS128.q HI0) hg (IsS128.own_ne HI0.out HO645.out (by decide)))
  replace HK := am_ (KeepBut.trans (qP HK) (KeepBut.of_grown hg g) (Kd.R_base2 HO645.out))
  have HO711 := am_ (ho)
  clear HO645
  clear ho hb hg hat
  obtain ⟨Ao123, co123, eo123⟩ := Kd.R_slice HO711.out
  (first | subst eo123 | (injection eo123 with f1_ f2_ f3_; have f4_ := f1_.symm; have f5_ := f3_.symm; clear f1_ f2_ f3_; subst f4_; subst f5_))
  refine hK.out _ _ (cz8 BK648.out) (fun hHeld => ?_)
  clear hK K
  refine norm_ (a' := ?_) ?_ ?_
  rotate_left
  ·
   show Act.put _ (some 52) _ = _
   exact ap_
  refine pz_ (i := 7) (N := some 53) HT_ #[ii,ii,ii,ii,ii,ii,ii,ii,oo] rfl rfl ?_
  refine last_ (i := 8) (N := none) #[ii,ii,ii,ii,ii,ii,ii,ii,ii] rfl rfl (one_of HT_.out (by kernel_rfl)) (by decide) (fun K hK => ?_)
  have hs124 : w121.cell? ⟨gb648, 7, none⟩ = some (.slice Ao115 t643.length co115) := (blk_cell BK648.out 7).trans rfl
  have hfs124 := blk_frozen BK648.out 7
  have hns124_0 := NB635_648.out
  have hms124_0 := NB648_635.out
  refine skip_ (w1 := ?_) (by rfl) rfl ?_ ?_
  rotate_left
  ·
   go_simp
   rfl
  refine hK.out _ _ ?_
  clear hK K
  refine done_ (done_of HT_.out (by kernel_rfl)) ?_
  (try clear zK648)
  have zK648 := cz8 BK648.out
  (try clear fK648)
  have fK648 := fz8 BK648.out
  have hnb126 := NB635_0.out
  have hnc126 := NB0_635.out
  (try clear zK635)
  have zK635 := cz8 BK635.out
  (try clear fK635)
  have fK635 := fz8 BK635.out
  try go_wp2
  refine bodyPost_ret (results_cell_row rfl _ _ gb635 75 #[.int .i64 t636, .int .i64 t637, .int .i64 t638, .int .i64 t639, .int .i64 t640, .bool t641, .int .i64 t642, .slice Ao123 y709.length co123] (0, 0) _ rfl (by exact blk_all8 (blk_far1 (qK BK635) NB635_648.out)) Try.underlying75 rfl (by kernel_rfl)) rfl ?_
  exact ⟨_, er_, by (with_reducible repeat (first | apply Kd.R_alloc | apply Kd.R_drewN | apply Kd.R_drew)); exact Kd.R_mono (R_far8 (g := gb635) (Kd.R_far (p := ⟨gb648, 7, none⟩) (Kd.R_types (Kd.R_types HO711.out BK648.out (by decide)) BK635.out (by decide)) (fun _ hk => hk.1.2) (.slice Ao123 y709.length co123)) (fun _ hk => hk.2)) (fun _ hk => trivial), IsS128.q HI0, qB HB, qP HK⟩
 rw [if_neg c106] at H
 have c106b0 : (t649 == 6) = false := beq_eq_false_iff_ne.mpr c106
 have c106b1 : (t649 != 6) = true := bne_iff_ne.mpr c106
 by_cases c128 : t649 = 7
 rotate_left
 ·
  rw [if_neg c128] at H
  have c128b0 : (t649 == 7) = false := beq_eq_false_iff_ne.mpr c128
  have c128b1 : (t649 != 7) = true := bne_iff_ne.mpr c128
  simp only [Option.some.injEq, Prod.mk.injEq] at H
  obtain ⟨rfl, rfl, rfl, rfl, rfl, rfl, rfl, rfl, rfl, rfl⟩ := H
  go_enter Try.func106, Try.ntmps106
  go_wp2_with (first | ((with_reducible refine gate_dst (N := 2) rfl ?_); refine bx_ (N := 2) (cs := #[.int .i64 0, .int .i64 0, .int .i64 0, .int .i64 0, .int .i64 0, .bool false, .int .i64 0, .slice none 0 0]) (t := 75) ?_; intro gb635 hg w154 hbox hb; replace HB := bS_ HB hb; have BK635 := am_ (hbox); have GW635 := am_ ((gK_ hg (qP HK))); have IGW635 := gI_ GW635; have GE635 := am_ ((Nat.le_trans HW0.out (gK_ hg (qP HK)))); have IGE635 := gI_ GE635; replace HK := kL_ HK hb; have NB0_635 := am_ ((nG_ hg (IsS128.lt (IsS128.q HI0)))); have INB0_635 := nI_ NB0_635; have NB635_0 := am_ (((nG_ hg (IsS128.lt (IsS128.q HI0))).symm)); replace HI0 := am_ (IsS128.below (IsS128.q HI0) hb); clear hb hbox hg) | ((with_reducible refine gate_callee (f := 109) rfl ?_); refine gl_ (some 5) Try.func109 #[.pointer (some ⟨g, 0, none⟩)] ?_; (with_reducible refine (spec_l11Draw.calls k g s0_0 s0_1 s0_2 t636 t637 t638 t639 t640 t641 t642 t643 t646 t647 w0 _ ?side1 ?side2 A2.out).mono ?_); (case side1 => exact IsS128.q HI0); (case side2 => exact qB HB); rintro e w155 ⟨v644, rfl, ho0, hi, hb, hk⟩; refine ⟨_, rfl, ?_⟩; replace BK635 := kB_ BK635 hk NB635_0; have HO645 := am_ (Kd.R_lower ho0 (keep_size (w := w) (g := g) (row := none) (qP HK))); replace HK := kT_ HK hk; replace HB := am_ (hb); replace HI0 := am_ (hi); (try clear hb); (try clear hk); (try clear hi); (try clear ho0)) | ((with_reducible refine gate_dst (N := 3) rfl ?_); refine bx_ (N := 3) (cs := #[.int .i64 0, .int .i64 0, .int .i64 0, .int .i64 0, .int .i64 0, .bool false, .int .i64 0, .slice none 0 0]) (t := 75) ?_; intro gb648 hg w156 hbox hb; replace HO645 := rB_ HO645 hb; replace HB := bS_ HB hb; have BK648 := am_ (hbox); have GW648 := am_ ((gK_ hg (qP HK))); have IGW648 := gI_ GW648; have GE648 := am_ ((Nat.le_trans HW0.out (gK_ hg (qP HK)))); have IGE648 := gI_ GE648; replace HK := kL_ HK hb; have NB635_648 := am_ ((gN_ hg (qK BK635))); have NB648_635 := am_ ((gM_ hg (qK BK635))); replace BK635 := bK_ BK635 hb; have NB0_648 := am_ ((nG_ hg (IsS128.lt (IsS128.q HI0)))); have INB0_648 := nI_ NB0_648; have NB648_0 := am_ (((nG_ hg (IsS128.lt (IsS128.q HI0))).symm)); replace HI0 := am_ (IsS128.below (IsS128.q HI0) hb); clear hb hbox hg; have hnb157 := NB648_635.out; have hnc157 := NB635_648.out; have hnb158 := NB648_0.out; have hnc158 := NB0_648.out; (try clear zK648); have zK648 := cz8 BK648.out; (try clear fK648); have fK648 := fz8 BK648.out; obtain ⟨Ao160, co160, eo160⟩ := Kd.R_slice HO645.out; subst eo160) | ((with_reducible refine gate_callee (f := 61) rfl ?_); refine gl_ (some 7) Try.func61 #[.pointer (some ⟨g, 0, none⟩), .int .i64 16] ?_; (with_reducible refine (spec_l1Below.calls g s0_0 t646 t647 16 t649 t650 t651 w0 _ ?side1 ?side2 A3.out).mono ?_); (case side1 => exact IsS128.q HI0); (case side2 => exact qB HB); rintro e w161 ⟨rfl, hi, hb, hk⟩; refine ⟨_, rfl, ?_⟩; replace BK635 := am_ (KeepBut.blk hk (g' := gb635) (o := .cells #[.int .i64 0, .int .i64 0, .int .i64 0, .int .i64 0, .int .i64 0, .bool false, .int .i64 0, .slice none 0 0] 75 (0, 0)) (by (with_reducible repeat (first | refine blk_drewN ?_ _ | refine blk_drew ?_ | refine blk_alloc ?_ _)); refine blk_far8 ?_ NB635_648.out; exact qK BK635) NB635_0.out (by simp)); replace HO645 := am_ (Kd.R_mono (Kd.R_keep (IsS128.apart (show IsS128 w0 _ g s0_0 t646 t647 from IsS128.q HI0) (by (with_reducible repeat (first | apply Kd.R_alloc | apply Kd.R_drewN | apply Kd.R_drew)); exact (Kd.R_mono (R_far8 (g := gb648) (Kd.R_types HO645.out BK648.out (by decide)) (fun _ hk => hk.2)) (fun _ h_ => h_.1))) (by decide)) hk (fun _ h => h.2)) (fun _ h => h.1)); replace BK648 := am_ (KeepBut.blk hk (g' := gb648) (o := .cells #[.int .i64 t636, .int .i64 t637, .int .i64 t638, .int .i64 t639, .int .i64 t640, .bool t641, .int .i64 t642, .slice Ao160 t643.length co160] 75 (0, 0)) (by exact blk_all8 (qK BK648)) NB648_0.out (by simp)); replace HK := kT_ HK hk; replace HB := am_ (hb); replace HI0 := am_ (hi); (try clear hb); (try clear hk); (try clear hi); (try clear zK648); have zK648 := cz8 BK648.out; (try clear fK648); have fK648 := fz8 BK648.out; have hnb163 := NB635_0.out; have hnc163 := NB0_635.out; (try clear zK635); have zK635 := cz8 BK635.out; (try clear fK635); have fK635 := fz8 BK635.out))
  refine bodyPost_ret (results_cell_row rfl _ _ gb635 75 #[.int .i64 t636, .int .i64 t637, .int .i64 t638, .int .i64 t639, .int .i64 t640, .bool t641, .int .i64 t642, .slice Ao160 t643.length co160] (0, 0) _ rfl (by exact blk_all8 (qK BK635)) Try.underlying75 rfl (by kernel_rfl)) rfl ?_
  exact ⟨_, er_, by (with_reducible repeat (first | apply Kd.R_alloc | apply Kd.R_drewN | apply Kd.R_drew)); exact Kd.R_mono (R_far8 (g := gb635) (Kd.R_types HO645.out BK635.out (by decide)) (fun _ hk => hk.2)) (fun _ hk => trivial), IsS128.q HI0, qB HB, qP HK⟩
 rw [if_pos c128] at H
 have c128b0 : (t649 == 7) = true := beq_iff_eq.mpr c128
 have c128b1 : (t649 != 7) = false := bne_eq_false_iff_eq.mpr c128
 clear c128
 replace H := bf_ H
 obtain ⟨f_, hf_, ⟨t712, t713, t714, t715, t716, t717, t718, t719, t720, t721, t722, t723, t724, t725, t726, t727, t728, t729⟩, A129, H⟩ := H
 subst hf_
 (try dsimp only at H)
 replace H := bf_ H
 obtain ⟨f_, hf_, ⟨t730, t731, t732, t733, t734, t735, t736, t737, t738, t739, t740, t741, t742, t743, t744, t745, t746, t747⟩, A130, H⟩ := H
 subst hf_
 (try dsimp only at H)
 replace H := bf_ H
 obtain ⟨f_, hf_, ⟨t748, t749, t750, t751, t752, t753, t754, t755, t756, t757, t758, t759, t760, t761, t762, t763, t764, t765⟩, A131, H⟩ := H
 subst hf_
 (try dsimp only at H)
 obtain ⟨y766, hy766⟩ : ∃ y_ : List (S29), y_ = (([(⟨t712, (⟨t713, t714, t715, t716, t717, t718, t719, t720⟩ : S25), (⟨t721, t722, t723, t724, t725, t726, t727⟩ : S27)⟩ : S29), (⟨t730, (⟨t731, t732, t733, t734, t735, t736, t737, t738⟩ : S25), (⟨t739, t740, t741, t742, t743, t744, t745⟩ : S27)⟩ : S29), (⟨t748, (⟨t749, t750, t751, t752, t753, t754, t755, t756⟩ : S25), (⟨t757, t758, t759, t760, t761, t762, t763⟩ : S27)⟩ : S29)] : List (S29))) := ⟨_, rfl⟩
 replace H := mk_ H hy766
 (try dsimp only at H)
 have Ny766 := Aside0.mk hy766
 clear hy766
 by_cases c132 : t643.length + y766.length < 925904528653
 case neg => exact nn_ c132 H
 rw [if_pos c132] at H
 have LMc132 := Aside0.mk c132
 clear c132
 obtain ⟨y769, hy769⟩ : ∃ y_ : List (S29), y_ = (t643 ++ y766) := ⟨_, rfl⟩
 replace H : (some (t636, t637, t638, t639, t640, t641, t642, y769, t764, t765)) = some (r1, r2, r3, r4, r5, r6, r7, r8, r9, r10) := by first | (rw [hy769]; with_reducible exact H) | (have H2_ := (Option.bind_some _ _).symm.trans H; rw [hy769]; with_reducible exact H2_) | (have H2_ := (Option.bind_some _ _).symm.trans H; with_reducible exact H2_) | with_reducible exact H | (rw [hy769]; exact H) | exact H
 have Ny769 := Aside0.mk hy769
 clear hy769
 simp only [Option.some.injEq, Prod.mk.injEq] at H
 obtain ⟨rfl, rfl, rfl, rfl, rfl, rfl, rfl, rfl, rfl, rfl⟩ := H
 go_enter Try.func106, Try.ntmps106
 try go_wp2_with (first | ((with_reducible refine gate_dst (N := 2) rfl ?_); refine bx_ (N := 2) (cs := #[.int .i64 0, .int .i64 0, .int .i64 0, .int .i64 0, .int .i64 0, .bool false, .int .i64 0, .slice none 0 0]) (t := 75) ?_; intro gb635 hg w133 hbox hb; replace HB := bS_ HB hb; have BK635 := am_ (hbox); have GW635 := am_ ((gK_ hg (qP HK))); have IGW635 := gI_ GW635; have GE635 := am_ ((Nat.le_trans HW0.out (gK_ hg (qP HK)))); have IGE635 := gI_ GE635; replace HK := kL_ HK hb; have NB0_635 := am_ ((nG_ hg (IsS128.lt (IsS128.q HI0)))); have INB0_635 := nI_ NB0_635; have NB635_0 := am_ (((nG_ hg (IsS128.lt (IsS128.q HI0))).symm)); replace HI0 := am_ (IsS128.below (IsS128.q HI0) hb); clear hb hbox hg) | ((with_reducible refine gate_callee (f := 109) rfl ?_); refine gl_ (some 5) Try.func109 #[.pointer (some ⟨g, 0, none⟩)] ?_; (with_reducible refine (spec_l11Draw.calls k g s0_0 s0_1 s0_2 t636 t637 t638 t639 t640 t641 t642 t643 t646 t647 w0 _ ?side1 ?side2 A2.out).mono ?_); (case side1 => exact IsS128.q HI0); (case side2 => exact qB HB); rintro e w134 ⟨v644, rfl, ho0, hi, hb, hk⟩; refine ⟨_, rfl, ?_⟩; replace BK635 := kB_ BK635 hk NB635_0; have HO645 := am_ (Kd.R_lower ho0 (keep_size (w := w) (g := g) (row := none) (qP HK))); replace HK := kT_ HK hk; replace HB := am_ (hb); replace HI0 := am_ (hi); (try clear hb); (try clear hk); (try clear hi); (try clear ho0)) | ((with_reducible refine gate_dst (N := 3) rfl ?_); refine bx_ (N := 3) (cs := #[.int .i64 0, .int .i64 0, .int .i64 0, .int .i64 0, .int .i64 0, .bool false, .int .i64 0, .slice none 0 0]) (t := 75) ?_; intro gb648 hg w135 hbox hb; replace HO645 := rB_ HO645 hb; replace HB := bS_ HB hb; have BK648 := am_ (hbox); have GW648 := am_ ((gK_ hg (qP HK))); have IGW648 := gI_ GW648; have GE648 := am_ ((Nat.le_trans HW0.out (gK_ hg (qP HK)))); have IGE648 := gI_ GE648; replace HK := kL_ HK hb; have NB635_648 := am_ ((gN_ hg (qK BK635))); have NB648_635 := am_ ((gM_ hg (qK BK635))); replace BK635 := bK_ BK635 hb; have NB0_648 := am_ ((nG_ hg (IsS128.lt (IsS128.q HI0)))); have INB0_648 := nI_ NB0_648; have NB648_0 := am_ (((nG_ hg (IsS128.lt (IsS128.q HI0))).symm)); replace HI0 := am_ (IsS128.below (IsS128.q HI0) hb); clear hb hbox hg; have hnb136 := NB648_635.out; have hnc136 := NB635_648.out; have hnb137 := NB648_0.out; have hnc137 := NB0_648.out; (try clear zK648); have zK648 := cz8 BK648.out; (try clear fK648); have fK648 := fz8 BK648.out; obtain ⟨Ao139, co139, eo139⟩ := Kd.R_slice HO645.out; subst eo139) | ((with_reducible refine gate_callee (f := 61) rfl ?_); refine gl_ (some 7) Try.func61 #[.pointer (some ⟨g, 0, none⟩), .int .i64 16] ?_; (with_reducible refine (spec_l1Below.calls g s0_0 t646 t647 16 t649 t650 t651 w0 _ ?side1 ?side2 A3.out).mono ?_); (case side1 => exact IsS128.q HI0); (case side2 => exact qB HB); rintro e w140 ⟨rfl, hi, hb, hk⟩; refine ⟨_, rfl, ?_⟩; replace BK635 := am_ (KeepBut.blk hk (g' := gb635) (o := .cells #[.int .i64 0, .int .i64 0, .int .i64 0, .int .i64 0, .int .i64 0, .bool false, .int .i64 0, .slice none 0 0] 75 (0, 0)) (by (with_reducible repeat (first | refine blk_drewN ?_ _ | refine blk_drew ?_ | refine blk_alloc ?_ _)); refine blk_far8 ?_ NB635_648.out; exact qK BK635) NB635_0.out (by simp)); replace HO645 := am_ (Kd.R_mono (Kd.R_keep (IsS128.apart (show IsS128 w0 _ g s0_0 t646 t647 from IsS128.q HI0) (by (with_reducible repeat (first | apply Kd.R_alloc | apply Kd.R_drewN | apply Kd.R_drew)); exact (Kd.R_mono (R_far8 (g := gb648) (Kd.R_types HO645.out BK648.out (by decide)) (fun _ hk => hk.2)) (fun _ h_ => h_.1))) (by decide)) hk (fun _ h => h.2)) (fun _ h => h.1)); replace BK648 := am_ (KeepBut.blk hk (g' := gb648) (o := .cells #[.int .i64 t636, .int .i64 t637, .int .i64 t638, .int .i64 t639, .int .i64 t640, .bool t641, .int .i64 t642, .slice Ao139 t643.length co139] 75 (0, 0)) (by exact blk_all8 (qK BK648)) NB648_0.out (by simp)); replace HK := kT_ HK hk; replace HB := am_ (hb); replace HI0 := am_ (hi); (try clear hb); (try clear hk); (try clear hi)))
 replace HO645 := am_ (Kd.R_drew HO645.out)
 replace BK635 := am_ (blk_drew BK635.out)
 replace BK648 := am_ (blk_drew BK648.out)
 replace HI0 := am_ (IsS128.drew HI0.out)
 replace HK := am_ (keep_drew HK.out)
 replace HB := am_ (below_drew1 HB.out)
 refine start_ (n := 12) (S := fun w' => w'.cell? ⟨gb648, 0, none⟩ = some (.int .i64 t636) ∧ w'.cell? ⟨gb648, 1, none⟩ = some (.int .i64 t637) ∧ w'.cell? ⟨gb648, 2, none⟩ = some (.int .i64 t638) ∧ w'.cell? ⟨gb648, 3, none⟩ = some (.int .i64 t639) ∧ w'.cell? ⟨gb648, 4, none⟩ = some (.int .i64 t640) ∧ w'.cell? ⟨gb648, 5, none⟩ = some (.bool t641) ∧ w'.cell? ⟨gb648, 6, none⟩ = some (.int .i64 t642) ∧ w'.cell? ⟨gb648, 7, none⟩ = some (.slice Ao139 t643.length co139)) (ds := [11]) (rl [0,12]) (by kernel_rfl) rfl rfl (cz8 BK648.out) (fun hHeld => ?_); refine with_tabW spec_l11Any.tab18 spec_l11Any.bits18 (fun HT_ HW_ => ?_)
 generalize w140.drew = w141 at HO645 BK635 BK648 HI0 HK HB hHeld ⊢
 refine pz_ (i := 0) (N := some 56) HT_ (rl [1,11]) rfl rfl ?_
 refine pz_ (i := 2) (N := some 58) HT_ (rl [1,1,1,9]) rfl rfl ?_
 refine pz_ (i := 4) (N := some 60) HT_ (rl [1,1,1,1,1,7]) rfl rfl ?_
 refine pz_ (i := 6) (N := some 62) HT_ (rl [1,1,1,1,1,1,1,5]) rfl rfl ?_
 refine tz_ (i := 1) (N := some 57) HT_ HW_ (rl [3,1,1,1,1,5]) rfl rfl hHeld ?_
 refine one_ (i := 3) (N := some 59) (rl [5,1,1,5]) rfl rfl (one_of HT_.out (by kernel_rfl)) (by decide) (fun K hK => ?_)
 refine goes_ Try.func60 (by kernel_rfl) rfl #[.pointer (some ⟨g, 0, none⟩)] (by rfl) rfl rfl la_ ?_
 with_reducible refine (spec_l9Item.calls k g s0_0 t650 t651 t712 t713 t714 t715 t716 t717 t718 t719 t720 t721 t722 t723 t724 t725 t726 t727 t728 t729 w0 _ ?side1 ?side2 A129.out).mono ?_
 (case side1 => exact IsS128.q HI0)
 (case side2 => exact qB HB)
 rintro e w142 ⟨rfl, hi, hb, hk⟩
 refine ⟨_, rfl, ?_⟩
 replace BK635 := kB_ BK635 hk NB635_0
 replace HO645 := am_ (Kd.R_mono (Kd.R_keep (IsS128.apart (show IsS128 w0 _ g s0_0 t650 t651 from IsS128.q HI0) (qR HO645) (by decide)) hk (fun _ h => h.2)) (fun _ h => h.1))
 replace BK648 := kB_ BK648 hk NB648_0
 replace HK := kT_ HK hk
 replace HB := am_ (hb)
 replace HI0 := am_ (hi)
 (try clear hb hk hi)
 refine hK.out _ _ (cz8 BK648.out) (fun hHeld => ?_)
 clear hK K
 refine norm_ (a' := ?_) ?_ ?_
 rotate_left
 ·
  show Act.put _ (some 59) _ = _
  exact ap_
 refine one_ (i := 5) (N := some 61) (rl [7,5]) rfl rfl (one_of HT_.out (by kernel_rfl)) (by decide) (fun K hK => ?_)
 refine goes_ Try.func60 (by kernel_rfl) rfl #[.pointer (some ⟨g, 0, none⟩)] (by rfl) rfl rfl la_ ?_
 with_reducible refine (spec_l9Item.calls k g s0_0 t728 t729 t730 t731 t732 t733 t734 t735 t736 t737 t738 t739 t740 t741 t742 t743 t744 t745 t746 t747 w0 _ ?side1 ?side2 A130.out).mono ?_
 (case side1 => exact IsS128.q HI0)
 (case side2 => exact qB HB)
 rintro e w143 ⟨rfl, hi, hb, hk⟩
 refine ⟨_, rfl, ?_⟩
 replace BK635 := kB_ BK635 hk NB635_0
 replace HO645 := am_ (Kd.R_mono (Kd.R_keep (IsS128.apart (show IsS128 w0 _ g s0_0 t728 t729 from IsS128.q HI0) (qR HO645) (by decide)) hk (fun _ h => h.2)) (fun _ h => h.1))
 replace BK648 := kB_ BK648 hk NB648_0
 replace HK := kT_ HK hk
 replace HB := am_ (hb)
 replace HI0 := am_ (hi)
 (try clear hb hk hi)
 refine hK.out _ _ (cz8 BK648.out) (fun hHeld => ?_)
 clear hK K
 refine norm_ (a' := ?_) ?_ ?_
 rotate_left
 ·
  show Act.put _ (some 61) _ = _
  exact ap_
 refine one_ (i := 7) (N := some 63) (rl [8,4]) rfl rfl (one_of HT_.out (by kernel_rfl)) (by decide) (fun K hK => ?_)
 refine goes_ Try.func60 (by kernel_rfl) rfl #[.pointer (some ⟨g, 0, none⟩)] (by rfl) rfl rfl la_ ?_
 with_reducible refine (spec_l9Item.calls k g s0_0 t746 t747 t748 t749 t750 t751 t752 t753 t754 t755 t756 t757 t758 t759 t760 t761 t762 t763 t764 t765 w0 _ ?side1 ?side2 A131.out).mono ?_
 (case side1 => exact IsS128.q HI0)
 (case side2 => exact qB HB)
 rintro e w144 ⟨rfl, hi, hb, hk⟩
 refine ⟨_, rfl, ?_⟩
 replace BK635 := kB_ BK635 hk NB635_0
 replace HO645 := am_ (Kd.R_mono (Kd.R_keep (IsS128.apart (show IsS128 w0 _ g s0_0 t746 t747 from IsS128.q HI0) (qR HO645) (by decide)) hk (fun _ h => h.2)) (fun _ h => h.1))
 replace BK648 := kB_ BK648 hk NB648_0
 replace HK := kT_ HK hk
 replace HB := am_ (hb)
 replace HI0 := am_ (hi)
 (try clear hb hk hi)
 refine hK.out _ _ (cz8 BK648.out) (fun hHeld => ?_)
 clear hK K
 refine norm_ (a' := ?_) ?_ ?_
 rotate_left
 ·
  show Act.put _ (some 63) _ = _
  exact ap_
 refine one_ (i := 8) (N := some 64) (rl [9,3]) rfl rfl (one_of HT_.out (by kernel_rfl)) (by decide) (fun K hK => ?_)
 refine Kd.R_lit_step k29 _ 29 ?hg (N := 64) ?hd (xs := ([(⟨t712, (⟨t713, t714, t715, t716, t717, t718, t719, t720⟩ : S25), (⟨t721, t722, t723, t724, t725, t726, t727⟩ : S27)⟩ : S29), (⟨t730, (⟨t731, t732, t733, t734, t735, t736, t737, t738⟩ : S25), (⟨t739, t740, t741, t742, t743, t744, t745⟩ : S27)⟩ : S29), (⟨t748, (⟨t749, t750, t751, t752, t753, t754, t755, t756⟩ : S25), (⟨t757, t758, t759, t760, t761, t762, t763⟩ : S27)⟩ : S29)] : List (S29))) (inner := [.int .i64 t712, .int .i64 t713, .string t714, .int .i64 t715, .int .i64 t716, .int .i64 t717, .string t718, .int .i64 t719, .int .i64 t720, .int .i64 t721, .string t722, .int .i64 t723, .int .i64 t724, .int .i64 t725, .int .i64 t726, .int .i64 t727, .int .i64 t730, .int .i64 t731, .string t732, .int .i64 t733, .int .i64 t734, .int .i64 t735, .string t736, .int .i64 t737, .int .i64 t738, .int .i64 t739, .string t740, .int .i64 t741, .int .i64 t742, .int .i64 t743, .int .i64 t744, .int .i64 t745, .int .i64 t748, .int .i64 t749, .string t750, .int .i64 t751, .int .i64 t752, .int .i64 t753, .string t754, .int .i64 t755, .int .i64 t756, .int .i64 t757, .string t758, .int .i64 t759, .int .i64 t760, .int .i64 t761, .int .i64 t762, .int .i64 t763]) (ok := fun _ => True) (okp := fun _ => True) ?hr ?hp (fun _ hk => hk) trivial (Below.refl _ _) (Nat.le_refl _) (by simp) ?_; (case hd => rfl); (case hg => rfl); (case hr => first | (go_simp; done) | (go_simp; rfl)); (case hp => exact (Reps.front (show Kd.M k29 _ _ _ (⟨t712, (⟨t713, t714, t715, t716, t717, t718, t719, t720⟩ : S25), (⟨t721, t722, t723, t724, t725, t726, t727⟩ : S27)⟩ : S29) [.int .i64 t712, .int .i64 t713, .string t714, .int .i64 t715, .int .i64 t716, .int .i64 t717, .string t718, .int .i64 t719, .int .i64 t720, .int .i64 t721, .string t722, .int .i64 t723, .int .i64 t724, .int .i64 t725, .int .i64 t726, .int .i64 t727] from (k29_mkM _ _ _ (⟨t712, (⟨t713, t714, t715, t716, t717, t718, t719, t720⟩ : S25), (⟨t721, t722, t723, t724, t725, t726, t727⟩ : S27)⟩ : S29) )) rfl (Reps.front (show Kd.M k29 _ _ _ (⟨t730, (⟨t731, t732, t733, t734, t735, t736, t737, t738⟩ : S25), (⟨t739, t740, t741, t742, t743, t744, t745⟩ : S27)⟩ : S29) [.int .i64 t730, .int .i64 t731, .string t732, .int .i64 t733, .int .i64 t734, .int .i64 t735, .string t736, .int .i64 t737, .int .i64 t738, .int .i64 t739, .string t740, .int .i64 t741, .int .i64 t742, .int .i64 t743, .int .i64 t744, .int .i64 t745] from (k29_mkM _ _ _ (⟨t730, (⟨t731, t732, t733, t734, t735, t736, t737, t738⟩ : S25), (⟨t739, t740, t741, t742, t743, t744, t745⟩ : S27)⟩ : S29) )) rfl (Reps.front (show Kd.M k29 _ _ _ (⟨t748, (⟨t749, t750, t751, t752, t753, t754, t755, t756⟩ : S25), (⟨t757, t758, t759, t760, t761, t762, t763⟩ : S27)⟩ : S29) [.int .i64 t748, .int .i64 t749, .string t750, .int .i64 t751, .int .i64 t752, .int .i64 t753, .string t754, .int .i64 t755, .int .i64 t756, .int .i64 t757, .string t758, .int .i64 t759, .int .i64 t760, .int .i64 t761, .int .i64 t762, .int .i64 t763] from (k29_mkM _ _ _ (⟨t748, (⟨t749, t750, t751, t752, t753, t754, t755, t756⟩ : S25), (⟨t757, t758, t759, t760, t761, t762, t763⟩ : S27)⟩ : S29) )) rfl (Reps.none _ _) rfl) rfl) rfl))
 intro v767 w145 ho146 hb hg_ hnew_
 clear hg_ hnew_
 (first | rw [← Ny766.out] at ho146 | (simp only [Int.reduceToNat] at ho146; rw [← Ny766.out] at ho146))
 have HO768 := am_ (Kd.R_lower (Kd.R_new' ho146 (Kd.R_lt (qR HO645))) (keep_size (w := w) (g := g) (row := none) (qP HK)))
 replace HO645 := eA_ HO645 ho146 hb
 replace BK635 := bK_ BK635 hb
 replace BK648 := bK_ BK648 hb
 replace HK := kL_ HK hb
 replace HB := bS_ HB hb
 replace HI0 := am_ (IsS128.below (IsS128.q HI0) hb)
 clear hb ho146
 obtain ⟨Ao148, co148, eo148⟩ := Kd.R_slice HO768.out
 (first | subst eo148 | (injection eo148 with f1_ f2_ f3_; have f4_ := f1_.symm; have f5_ := f3_.symm; clear f1_ f2_ f3_; subst f4_; subst f5_))
 refine hK.out _ _ (cz8 BK648.out) (fun hHeld => ?_)
 clear hK K
 refine norm_ (a' := ?_) ?_ ?_
 rotate_left
 ·
  show Act.put _ (some 64) _ = _
  exact ap_
 refine one_ (i := 9) (N := some 65) (rl [10,2]) rfl rfl (one_of HT_.out (by kernel_rfl)) (by decide) (fun K hK => ?_)
 refine Kd.R_append_rows_step k29 w.heap.size (by rfl) (.tmp 57) (.tmp 64) 73 29 (.agg #[(.int .i64 0), (.int .i64 0), (.string ⟨#[]⟩), (.int .i64 0), (.int .i64 0), (.int .i64 0), (.string ⟨#[]⟩), (.int .i64 0), (.int .i64 0), (.int .i64 0), (.string ⟨#[]⟩), (.int .i64 0), (.int .i64 0), (.int .i64 0), (.int .i64 0), (.int .i64 0)]) 152 rfl Try.underlying73 info29 rfl (by decide) (by omega) (.slice Ao139 t643.length co139) t643 y766 _ _ _ (fun k_ => some k_ ≠ (.slice Ao148 y766.length co148 : Value).ownBlock) (fun _ => False) rfl rfl ?aO ?aR (fun _ _ h => h) (fun _ h => h.elim) ?aF (Below.refl _ _) ?aS ?aL ?_
 (case aR => exact qC ((Kd.R_reads' HO768.out).2.2))
 (case aF => exact (fun k_ hk => Kd.fresh' (Kd.R_lt (qR HO768)) k_ hk))
 (case aO => exact (tR (Kd.R_mono HO645.out (fun _ hk => hk.2))))
 (case aS => exact (keep_size (w := w) (g := g) (row := none) (qP HK)))
 (case aL => have := LMc132.out; omega)
 intro v770 w147 ho hb hg hat
 rw [← Ny769.out] at ho
 replace BK635 := am_ (blk_grown (qK BK635) hg (Kd.R_ne HO645.out BK635.out (by decide)))
 replace BK648 := am_ (blk_grown (qK BK648) hg (Kd.R_ne HO645.out BK648.out (by decide)))
 replace HO768 := am_ (Kd.R_after (ok := (fun _ => True)) (qR HO768) hg hat)
 replace HB := am_ (below_weaken (qB HB) HL.out hb)
 replace HI0 := am_ (IsS128.grown (IsS128.q HI0) hg (IsS128.own_ne HI0.out HO645.out (by decide)))
 replace HK := am_ (KeepBut.trans (qP HK) (KeepBut.of_grown hg g) (Kd.R_base2 HO645.out))
 have HO771 := am_ (ho)
 clear HO645
 clear ho hb hg hat
 obtain ⟨Ao149, co149, eo149⟩ := Kd.R_slice HO771.out
 (first | subst eo149 | (injection eo149 with f1_ f2_ f3_; have f4_ := f1_.symm; have f5_ := f3_.symm; clear f1_ f2_ f3_; subst f4_; subst f5_))
 refine hK.out _ _ (cz8 BK648.out) (fun hHeld => ?_)
 clear hK K
 refine norm_ (a' := ?_) ?_ ?_
 rotate_left
 ·
  show Act.put _ (some 65) _ = _
  exact ap_
 refine pz_ (i := 10) (N := some 66) HT_ (rl [11,1]) rfl rfl ?_
 refine last_ (i := 11) (N := none) (rl [12]) rfl rfl (one_of HT_.out (by kernel_rfl)) (by decide) (fun K hK => ?_)
 have hs150 : w147.cell? ⟨gb648, 7, none⟩ = some (.slice Ao139 t643.length co139) := (blk_cell BK648.out 7).trans rfl
 have hfs150 := blk_frozen BK648.out 7
 have hns150_0 := NB635_648.out
 have hms150_0 := NB648_635.out
 refine skip_ (w1 := ?_) (by rfl) rfl ?_ ?_
 rotate_left
 ·
  go_simp
  rfl
 refine hK.out _ _ ?_
 clear hK K
 refine done_ (done_of HT_.out (by kernel_rfl)) ?_
 (try clear zK648)
 have zK648 := cz8 BK648.out
 (try clear fK648)
 have fK648 := fz8 BK648.out
 have hnb152 := NB635_0.out
 have hnc152 := NB0_635.out
 (try clear zK635)
 have zK635 := cz8 BK635.out
 (try clear fK635)
 have fK635 := fz8 BK635.out
 try go_wp2
 refine bodyPost_ret (results_cell_row rfl _ _ gb635 75 #[.int .i64 t636, .int .i64 t637, .int .i64 t638, .int .i64 t639, .int .i64 t640, .bool t641, .int .i64 t642, .slice Ao149 y769.length co149] (0, 0) _ rfl (by exact blk_all8 (blk_far1 (qK BK635) NB635_648.out)) Try.underlying75 rfl (by kernel_rfl)) rfl ?_
 exact ⟨_, er_, by (with_reducible repeat (first | apply Kd.R_alloc | apply Kd.R_drewN | apply Kd.R_drew)); exact Kd.R_mono (R_far8 (g := gb635) (Kd.R_far (p := ⟨gb648, 7, none⟩) (Kd.R_types (Kd.R_types HO771.out BK648.out (by decide)) BK635.out (by decide)) (fun _ hk => hk.1.2) (.slice Ao149 y769.length co149)) (fun _ hk => hk.2)) (fun _ hk => trivial), IsS128.q HI0, qB HB, qP HK⟩

/-! ### spec_DrawSend: function 45 -/
def spec_DrawSend.f (k : Nat) (l0 : List Int) : Option ((List (S68)) × Int × Int × Int × Int × Int × Bool × Int × (List (S29))) := (spec_l1New.f k l0).bind fun bt773 => ((spec_l12Draw.f k bt773.1 bt773.2.1 bt773.2.2).bind fun bt777 => ((spec_l11Any.f k bt773.1 bt777.2.1 bt777.2.2).bind fun bt782 => (some (bt777.1, bt782.1, bt782.2.1, bt782.2.2.1, bt782.2.2.2.1, bt782.2.2.2.2.1, bt782.2.2.2.2.2.1, bt782.2.2.2.2.2.2.1, bt782.2.2.2.2.2.2.2.1))))
theorem spec_DrawSend.mono : ∀ a0 k, LeO (spec_DrawSend.f k a0) (spec_DrawSend.f (k + 1) a0) := by
 intro a0 k
 unfold spec_DrawSend.f
 have m0 := @spec_l11Any.mono; have m1 := @spec_l12Draw.mono; have m2 := @spec_l1New.mono; exact mo_
set_option maxHeartbeats 8000000 in
set_option maxRecDepth 100000 in
theorem spec_DrawSend.calls (k : Nat) (A0 : Option Addr) (c0 : Nat) (l0 : List Int) (r1 : List (S68)) (r2 : Int) (r3 : Int) (r4 : Int) (r5 : Int) (r6 : Int) (r7 : Bool) (r8 : Int) (r9 : List (S29)) (w : World) (hr0 : Kd.C (Kd.int .u8) w A0 l0.length l0) (hc0 : l0.length ≤ c0) (h : spec_DrawSend.f k l0 = some (r1, r2, r3, r4, r5, r6, r7, r8, r9)) :
  Calls Try.prog 45 #[.slice A0 l0.length c0] w fun e w' => ∃ v0_ v8_ : Value, e = .returned (.tuple #[v0_, .agg #[.int .i64 r2, .int .i64 r3, .int .i64 r4, .int .i64 r5, .int .i64 r6, .bool r7, .int .i64 r8, v8_]]) ∧ Kd.S k68 68 w' w.heap.size (fun _ => True) v0_ r1 ∧ Kd.R k29 29 w' w.heap.size (fun _ => True) v8_ r9 ∧ Below w.heap.size w w' := by
 have hu75 := Try.underlying75
 have HR0 := Aside0.mk hr0
 have HC0 := Aside0.mk hc0
 clear hr0 hc0
 have HB := Aside0.mk (Below.refl w.heap.size w)
 have H := h
 unfold spec_DrawSend.f at H
 clear h
 replace H := bf_ H
 obtain ⟨f_, hf_, ⟨t773, t774, t775⟩, A2, H⟩ := H
 subst hf_
 (try dsimp only at H)
 replace H := bf_ H
 obtain ⟨f_, hf_, ⟨t777, t780, t781⟩, A3, H⟩ := H
 subst hf_
 (try dsimp only at H)
 replace H := bf_ H
 obtain ⟨f_, hf_, ⟨t782, t783, t784, t785, t786, t787, t788, t789, t792, t793⟩, A4, H⟩ := H
 subst hf_
 (try dsimp only at H)
 simp only [Option.some.injEq, Prod.mk.injEq] at H
 obtain ⟨rfl, rfl, rfl, rfl, rfl, rfl, rfl, rfl, rfl⟩ := H
 go_enter Try.func45, Try.ntmps45
 go_wp2_with (first | ((with_reducible refine gate_dst (N := 3) rfl ?_); refine bx_ (N := 3) (cs := #[.int .i64 0, .int .i64 0, .int .i64 0, .int .i64 0, .int .i64 0, .bool false, .int .i64 0, .slice none 0 0]) (t := 75) ?_; intro gb772 hg w5 hbox hb; have BK772 := am_ (hbox); have GW772 := gA_ hg HB; have GE772 := GW772; have IGE772 := gI_ GE772; replace HB := bS_ HB hb; clear hb hbox hg) | ((with_reducible refine gate_callee (f := 59) rfl ?_); refine gl_ (some 7) Try.func59 #[.slice A0 l0.length c0] ?_; (with_reducible refine (spec_l1New.calls k _ _ l0 t773 t774 t775 w _ ?side1 ?side2 ?side3 A2.out).mono ?_); (case side1 => exact qB HB); (case side2 => exact HR0.out); (case side3 => exact HC0.out); rintro e w6 ⟨g776, rfl, hi, hb, hb2⟩; refine ⟨_, rfl, ?_⟩; replace HB := am_ (hb); have HI776 := am_ (hi); have IGHI776 := iG_ HI776.out.ge; have NB776_772 := am_ (IsS128.ne_blk hi (blk_below (qK BK772) hb2) (by decide)); have NB772_776 := am_ (Ne.symm (IsS128.ne_blk hi (blk_below (qK BK772) hb2) (by decide))); replace BK772 := am_ (blk_below (qK BK772) hb2); (try clear hb); (try clear hb2); (try clear hi)) | ((with_reducible refine gate_callee (f := 100) rfl ?_); refine gl_ (some 9) Try.func100 #[.pointer (some ⟨g776, 0, none⟩)] ?_; (with_reducible refine (spec_l12Draw.calls k g776 t773 t774 t775 t777 t780 t781 w _ ?side1 ?side2 A3.out).mono ?_); (case side1 => repeat (first | (with_reducible first | exact HI776.out | apply IsS128.alloc | apply IsS128.drewN | apply IsS128.drew | apply IsS128.set_1 | apply IsS128.set_2 | refine IsS128.far ?_ NB776_772.out _) | exact HI776.out)); (case side2 => exact qB HB); rintro e w7 ⟨v778, rfl, ho0, hi, hb, hk⟩; refine ⟨_, rfl, ?_⟩; replace BK772 := kB_ BK772 hk NB772_776; have HO779 := am_ (Kd.S_lower ho0 (below_size (qB HB))); replace HB := am_ (hb); replace HI776 := am_ (hi); (try clear hb); (try clear hk); (try clear hi); (try clear ho0)) | ((with_reducible refine gate_callee (f := 106) rfl ?_); refine gl_ (some 12) Try.func106 #[.pointer (some ⟨g776, 0, none⟩)] ?_; (with_reducible refine (spec_l11Any.calls k g776 t773 t780 t781 t782 t783 t784 t785 t786 t787 t788 t789 t792 t793 w _ ?side1 ?side2 A4.out).mono ?_); (case side1 => repeat (first | (with_reducible first | exact HI776.out | apply IsS128.alloc | apply IsS128.drewN | apply IsS128.drew | apply IsS128.set_1 | apply IsS128.set_2 | refine IsS128.far ?_ NB776_772.out _) | exact HI776.out)); (case side2 => exact qB HB); rintro e w8 ⟨v790, rfl, ho0, hi, hb, hk⟩; refine ⟨_, rfl, ?_⟩; replace BK772 := kB_ BK772 hk NB772_776; replace HO779 := am_ (Kd.S_mono (Kd.S_keep (IsS128.apartS (show IsS128 w _ g776 t773 t780 t781 from by repeat (first | (with_reducible first | exact HI776.out | apply IsS128.alloc | apply IsS128.drewN | apply IsS128.drew | apply IsS128.set_1 | apply IsS128.set_2 | refine IsS128.far ?_ NB776_772.out _) | exact HI776.out)) (qS HO779) (by decide)) hk (fun _ h => h.2)) (fun _ h => h.1)); have HO791 := am_ (Kd.R_lower ho0 (below_size (qB HB))); replace HB := am_ (hb); replace HI776 := am_ (hi); (try clear hb); (try clear hk); (try clear hi); (try clear ho0); have hnb9 := NB772_776.out; have hnc9 := NB776_772.out; (try clear zK772); have zK772 := cz8 BK772.out; (try clear fK772); have fK772 := fz8 BK772.out; obtain ⟨Ao11, co11, eo11⟩ := Kd.R_slice HO791.out; subst eo11))
 refine bodyPost_ret (results_tc rfl _ _ gb772 75 #[.int .i64 t782, .int .i64 t783, .int .i64 t784, .int .i64 t785, .int .i64 t786, .bool t787, .int .i64 t788, .slice Ao11 t789.length co11] (0, 0) _ rfl (by exact blk_all8 (qK BK772)) Try.underlying75 rfl (by kernel_rfl)) rfl ?_
 exact ⟨_, _, er_, by (with_reducible repeat (first | apply Kd.S_alloc | apply Kd.S_drewN | apply Kd.S_drew)); exact Kd.S_mono (Kd.S_far (p := ⟨gb772, 7, none⟩) (Kd.S_far (p := ⟨gb772, 6, none⟩) (Kd.S_far (p := ⟨gb772, 5, none⟩) (Kd.S_far (p := ⟨gb772, 4, none⟩) (Kd.S_far (p := ⟨gb772, 3, none⟩) (Kd.S_far (p := ⟨gb772, 2, none⟩) (Kd.S_far (p := ⟨gb772, 1, none⟩) (Kd.S_far (p := ⟨gb772, 0, none⟩) (Kd.S_types HO779.out BK772.out (by decide)) (fun _ hk => hk.2) (.int .i64 t782)) (fun _ hk => hk.2) (.int .i64 t783)) (fun _ hk => hk.2) (.int .i64 t784)) (fun _ hk => hk.2) (.int .i64 t785)) (fun _ hk => hk.2) (.int .i64 t786)) (fun _ hk => hk.2) (.bool t787)) (fun _ hk => hk.2) (.int .i64 t788)) (fun _ hk => hk.2) (.slice Ao11 t789.length co11)) (fun _ hk => trivial), by (with_reducible repeat (first | apply Kd.R_alloc | apply Kd.R_drewN | apply Kd.R_drew)); exact Kd.R_mono (R_far8 (g := gb772) (Kd.R_types HO791.out BK772.out (by decide)) (fun _ hk => hk.2)) (fun _ hk => trivial), qB HB⟩

/-! ### impl_wordOk: function 65 -/
def impl_wordOk.f (a0 : Int) : Option (Bool) := (impl_isIn.f a0 0 65535).bind fun t794 => (some t794)
set_option maxHeartbeats 8000000 in
set_option maxRecDepth 100000 in
theorem impl_wordOk.calls (a0 : Int) (r : Bool) (w : World) (h : impl_wordOk.f a0 = some r) :
  Calls Try.prog 65 #[.int .i64 a0] w fun e w' => e = .returned (.bool r) ∧ Drawn0 w w' := by
 have H : ((impl_isIn.f a0 0 65535).bind fun t794 => (some t794)) = some r := h
 clear h
 replace H := bd_ H
 obtain ⟨t794, A2, H⟩ := H
 obtain rfl := Option.some.inj H
 go_enter Try.func65, Try.ntmps65
 go_wp2_with (first | ((with_reducible refine gate_callee (f := 87) rfl ?_); refine gl_ (some 4) Try.func87 #[.int .i64 a0, .int .i64 0, .int .i64 65535] ?_; (with_reducible refine (impl_isIn.calls a0 0 65535 t794 _ A2.out).mono ?_); rintro e w' ⟨rfl, ⟨nd, rfl⟩⟩; refine ⟨_, rfl, ?_⟩))
 go_ret
 exact ⟨by first | rfl | (simp; done) | (simp [*]; done), by repeat (first | exact Drawn0.refl _ | apply Drawn0.step)⟩

/-! ### impl_sockIdOk: function 79 -/
def impl_sockIdOk.f (a0 : Int) : Option (Bool) := (impl_isIn.f a0 1 9999).bind fun t795 => (some t795)
set_option maxHeartbeats 8000000 in
set_option maxRecDepth 100000 in
theorem impl_sockIdOk.calls (a0 : Int) (r : Bool) (w : World) (h : impl_sockIdOk.f a0 = some r) :
  Calls Try.prog 79 #[.int .i64 a0] w fun e w' => e = .returned (.bool r) ∧ Drawn0 w w' := by
 have H : ((impl_isIn.f a0 1 9999).bind fun t795 => (some t795)) = some r := h
 clear h
 replace H := bd_ H
 obtain ⟨t795, A2, H⟩ := H
 obtain rfl := Option.some.inj H
 go_enter Try.func79, Try.ntmps79
 go_wp2_with (first | ((with_reducible refine gate_callee (f := 87) rfl ?_); refine gl_ (some 4) Try.func87 #[.int .i64 a0, .int .i64 1, .int .i64 9999] ?_; (with_reducible refine (impl_isIn.calls a0 1 9999 t795 _ A2.out).mono ?_); rintro e w' ⟨rfl, ⟨nd, rfl⟩⟩; refine ⟨_, rfl, ?_⟩))
 go_ret
 exact ⟨by first | rfl | (simp; done) | (simp [*]; done), by repeat (first | exact Drawn0.refl _ | apply Drawn0.step)⟩

end Go.Proofs.Ytiffahfpfgnjnaa.PFnWays
