-- Written by a program of this session (myprint.py, over the kit's print): contracts of FnExactGetCtl
import Derived.Test.YtiffahfpfgnjnabPFnExactGetCtlx0
import Derived.Test.YtiffahfpfgnjnabPFnExactGetCtlx8
import Derived.Test.YtiffahfpfgnjnabPFnExactGetCtlx9
import Derived.Test.YtiffahfpfgnjnabPFnExactGetCtlx10
import Derived.Test.YtiffahfpfgnjnabPFnExactGetCtlx11
namespace Go.Proofs.Ytiffahfpfgnjnab.PFnExactGetCtl
open Go.RowKit Go.Proofs.YtiffahfpfgnjnabW.PrintWords Go.Proofs.YtiffahfpfgnjnabW.PrintLast Go.Proofs.YtiffahfpfgnjnabW.PrintMore Go.Proofs.YtiffahfpfgnjnabV
attribute [local go_sem] max2_int min2_int max_two min_two max_three min_three max_four min_four   -- for this text's walks alone
set_option linter.unusedVariables false
set_option linter.unusedSimpArgs false

/-! ### spec_GetCtl: function 34 -/
mutual
def spec_GetCtl.l0 : Nat → List Int → Int → List Int → Int → Bool → Int → Int → Int → Int → Int → Bool → Int → List (S126) → Option (Int × Int × Int × Int × Int × Bool × Int × (List (S126)) × Bool)
 | 0, _, _, _, _, _, _, _, _, _, _, _, _, _ => none
 | k + 1, x0, x6, x375000, x375001, x375002, x382000, x382001, x382002, x382003, x382004, x382005, x382006, x382007 => if x6 > 0 then (spec_GetCtl.j1 k x0 x6 (!x375002) x375000 x375001 x375002 x382000 x382001 x382002 x382003 x382004 x382005 x382006 x382007) else (spec_GetCtl.j1 k x0 x6 false x375000 x375001 x375002 x382000 x382001 x382002 x382003 x382004 x382005 x382006 x382007)
def spec_GetCtl.j1 : Nat → List Int → Int → Bool → List Int → Int → Bool → Int → Int → Int → Int → Int → Bool → Int → List (S126) → Option (Int × Int × Int × Int × Int × Bool × Int × (List (S126)) × Bool)
 | 0, _, _, _, _, _, _, _, _, _, _, _, _, _, _ => none
 | k + 1, x0, x6, x44, x375000, x375001, x375002, x382000, x382001, x382002, x382003, x382004, x382005, x382006, x382007 => if x44 = true then ((spec_l9Byte.f x375000 x375001 x375002).bind fun bt400 => (if bt400.2.2 = true then (spec_GetCtl.j2 k x0 x6 bt400.1 true x375000 bt400.2.1 bt400.2.2 x382000 x382001 x382002 x382003 x382004 x382005 x382006 x382007) else (spec_GetCtl.j2 k x0 x6 bt400.1 (decide (bt400.1 > (wrap64 ((x0.length : Int) - bt400.2.1)))) x375000 bt400.2.1 bt400.2.2 x382000 x382001 x382002 x382003 x382004 x382005 x382006 x382007))) else (if x375002 = true then (some (0, 0, 0, 0, 0, false, 0, ([] : List (S126)), false)) else ((spec_CtlOk.f k x382000 x382001 x382002 x382003 x382004 x382005 x382006 x382007).bind fun t425 => (if t425 = true then ((spec_PutCtl.f k x382000 x382001 x382002 x382003 x382004 x382005 x382006 x382007).bind fun t426 => ((spec_l1Same.f t426 x0).bind fun t429 => (if t429 = true then (some (x382000, x382001, x382002, x382003, x382004, x382005, x382006, x382007, true)) else (some (0, 0, 0, 0, 0, false, 0, ([] : List (S126)), false))))) else (some (0, 0, 0, 0, 0, false, 0, ([] : List (S126)), false)))))
def spec_GetCtl.j2 : Nat → List Int → Int → Int → Bool → List Int → Int → Bool → Int → Int → Int → Int → Int → Bool → Int → List (S126) → Option (Int × Int × Int × Int × Int × Bool × Int × (List (S126)) × Bool)
 | 0, _, _, _, _, _, _, _, _, _, _, _, _, _, _, _ => none
 | k + 1, x0, x6, x7, x63, x375000, x375001, x375002, x382000, x382001, x382002, x382003, x382004, x382005, x382006, x382007 => if x63 = true then (some (0, 0, 0, 0, 0, false, 0, ([] : List (S126)), false)) else (if 0 ≤ x375001 then (if x375001 ≤ (wrap64 (x375001 + x7)) then (if (wrap64 (x375001 + x7)) ≤ (x0.length : Int) then ((spec_GetItem.f k ((x0.take ((wrap64 (x375001 + x7)) : Int).toNat).drop (x375001 : Int).toNat)).bind fun bt404 => (if bt404.2.2.2.2.2.2.2.2.2.2.2.2.2.2.2.2 = true then (if x382007.length < 925904528653 then (spec_GetCtl.l0 k x0 (wrap64 (x6 - 1)) x375000 (wrap64 (x375001 + x7)) x375002 x382000 x382001 x382002 x382003 x382004 x382005 x382006 (x382007 ++ [(⟨bt404.1, (⟨bt404.2.1, bt404.2.2.1, bt404.2.2.2.1, bt404.2.2.2.2.1, bt404.2.2.2.2.2.1, bt404.2.2.2.2.2.2.1, bt404.2.2.2.2.2.2.2.1, bt404.2.2.2.2.2.2.2.2.1⟩ : S90), (⟨bt404.2.2.2.2.2.2.2.2.2.1, bt404.2.2.2.2.2.2.2.2.2.2.1, bt404.2.2.2.2.2.2.2.2.2.2.2.1, bt404.2.2.2.2.2.2.2.2.2.2.2.2.1, bt404.2.2.2.2.2.2.2.2.2.2.2.2.2.1, bt404.2.2.2.2.2.2.2.2.2.2.2.2.2.2.1, bt404.2.2.2.2.2.2.2.2.2.2.2.2.2.2.2.1⟩ : S124)⟩ : S126)])) else (none)) else (some (0, 0, 0, 0, 0, false, 0, ([] : List (S126)), false)))) else (none)) else (none)) else (none))
end
def spec_GetCtl.f (k : Nat) (l0 : List Int) : Option (Int × Int × Int × Int × Int × Bool × Int × (List (S126)) × Bool) := (spec_l9Byte.f l0 0 false).bind fun bt375 => ((spec_l9Byte.f l0 bt375.2.1 bt375.2.2).bind fun bt378 => ((spec_l9Word.f l0 bt378.2.1 bt378.2.2).bind fun bt382 => ((spec_l9Byte.f l0 bt382.2.1 bt382.2.2).bind fun bt385 => ((spec_l9Byte.f l0 bt385.2.1 bt385.2.2).bind fun bt388 => ((spec_l9Byte.f l0 bt388.2.1 bt388.2.2).bind fun bt391 => ((spec_l9Word.f l0 bt391.2.1 bt391.2.2).bind fun bt394 => ((spec_l9Byte.f l0 bt394.2.1 bt394.2.2).bind fun bt397 => (spec_GetCtl.l0 k l0 bt397.1 l0 bt397.2.1 bt397.2.2 bt375.1 bt378.1 bt382.1 bt385.1 bt388.1 (bt391.1 == 1) bt394.1 ([] : List (S126))))))))))
theorem spec_GetCtl.mono_l : ∀ k, (∀ y0 y1 y2 y3 y4 y5 y6 y7 y8 y9 y10 y11 y12, LeO (spec_GetCtl.l0 k y0 y1 y2 y3 y4 y5 y6 y7 y8 y9 y10 y11 y12) (spec_GetCtl.l0 (k + 1) y0 y1 y2 y3 y4 y5 y6 y7 y8 y9 y10 y11 y12)) ∧ (∀ y0 y1 y2 y3 y4 y5 y6 y7 y8 y9 y10 y11 y12 y13, LeO (spec_GetCtl.j1 k y0 y1 y2 y3 y4 y5 y6 y7 y8 y9 y10 y11 y12 y13) (spec_GetCtl.j1 (k + 1) y0 y1 y2 y3 y4 y5 y6 y7 y8 y9 y10 y11 y12 y13)) ∧ (∀ y0 y1 y2 y3 y4 y5 y6 y7 y8 y9 y10 y11 y12 y13 y14, LeO (spec_GetCtl.j2 k y0 y1 y2 y3 y4 y5 y6 y7 y8 y9 y10 y11 y12 y13 y14) (spec_GetCtl.j2 (k + 1) y0 y1 y2 y3 y4 y5 y6 y7 y8 y9 y10 y11 y12 y13 y14))
 | 0 => ⟨fun _ _ _ _ _ _ _ _ _ _ _ _ _ r h => by simp [spec_GetCtl.l0] at h, fun _ _ _ _ _ _ _ _ _ _ _ _ _ _ r h => by simp [spec_GetCtl.j1] at h, fun _ _ _ _ _ _ _ _ _ _ _ _ _ _ _ r h => by simp [spec_GetCtl.j2] at h⟩
 | k + 1 => by
  obtain ⟨ih0, ih1, ih2⟩ := spec_GetCtl.mono_l k
  refine ⟨?_, ?_, ?_⟩
  ·
   intro y0 y1 y2 y3 y4 y5 y6 y7 y8 y9 y10 y11 y12
   unfold spec_GetCtl.l0
   have m0 := @spec_CtlOk.mono; have m1 := @spec_GetItem.mono; have m2 := @spec_PutCtl.mono; exact mo_
  ·
   intro y0 y1 y2 y3 y4 y5 y6 y7 y8 y9 y10 y11 y12 y13
   unfold spec_GetCtl.j1
   have m0 := @spec_CtlOk.mono; have m1 := @spec_GetItem.mono; have m2 := @spec_PutCtl.mono; exact mo_
  ·
   intro y0 y1 y2 y3 y4 y5 y6 y7 y8 y9 y10 y11 y12 y13 y14
   unfold spec_GetCtl.j2
   have m0 := @spec_CtlOk.mono; have m1 := @spec_GetItem.mono; have m2 := @spec_PutCtl.mono; exact mo_
theorem spec_GetCtl.mono : ∀ a0 k, LeO (spec_GetCtl.f k a0) (spec_GetCtl.f (k + 1) a0) := by
 intro a0 k
 obtain ⟨ih0, ih1, ih2⟩ := spec_GetCtl.mono_l k
 unfold spec_GetCtl.f
 have m0 := @spec_CtlOk.mono; have m1 := @spec_GetItem.mono; have m2 := @spec_PutCtl.mono; exact mo_
def spec_GetCtl.T14 : Bool × List (List Nat × List Nat) := (true, [([], []), ([], []), ([1], [1]), ([2], [2]), ([3], [3]), ([], []), ([5], [5]), ([6], [6]), ([7], [7]), ([], []), ([8, 9], [8, 9]), ([0, 4, 10], [0, 4, 10]), ([11], [11]), ([12], [12]), ([13], [13]), ([13], [13]), ([], []), ([16, 14, 12, 0, 1, 2, 3, 4, 5, 6, 7, 8, 9, 10, 11, 12, 13, 14, 16], [14, 16]), ([15, 17, 0, 1, 2, 3, 4, 5, 6, 7, 8, 9, 10, 11, 12, 13, 14, 15, 16, 17], [15])])
def spec_GetCtl.B14 : List Nat := [0, 0, 2, 6, 14, 0, 32, 96, 224, 0, 992, 2047, 4095, 8191, 16383, 16383, 0, 98303, 262143]
theorem spec_GetCtl.tab14 : rtab .any (opsOf Try.f34 14) = spec_GetCtl.T14 := by kernel_rfl
theorem spec_GetCtl.bits14 : waitsOk spec_GetCtl.T14.2 spec_GetCtl.B14 = true := by kernel_rfl
set_option maxHeartbeats 8000000 in
set_option maxRecDepth 100000 in
theorem spec_GetCtl.calls (k : Nat) (A0 : Option Addr) (c0 : Nat) (l0 : List Int) (r1 : Int) (r2 : Int) (r3 : Int) (r4 : Int) (r5 : Int) (r6 : Bool) (r7 : Int) (r8 : List (S126)) (r9 : Bool) (w : World) (hr0 : Kd.C (Kd.int .u8) w A0 l0.length l0) (hc0 : l0.length ≤ c0) (h : spec_GetCtl.f k l0 = some (r1, r2, r3, r4, r5, r6, r7, r8, r9)) :
  Calls Try.prog 34 #[.slice A0 l0.length c0] w fun e w' => ∃ v7_ : Value, e = .returned (.tuple #[.agg #[.int .i64 r1, .int .i64 r2, .int .i64 r3, .int .i64 r4, .int .i64 r5, .bool r6, .int .i64 r7, v7_], .bool r9]) ∧ Kd.R k126 126 w' w.heap.size (fun _ => True) v7_ r8 ∧ Below w.heap.size w w' := by
 have hu63 := Try.underlying63
 have hu121 := Try.underlying121
 have hu126 := Try.underlying126
 have HR0 := Aside0.mk hr0
 have HC0 := Aside0.mk hc0
 clear hr0 hc0
 have HB := Aside0.mk (Below.refl w.heap.size w)
 have H := h
 unfold spec_GetCtl.f at H
 clear h
 replace H := bf_ H
 obtain ⟨f_, hf_, ⟨t375, t376, t377⟩, A2, H⟩ := H
 subst hf_
 (try dsimp only at H)
 replace H := bf_ H
 obtain ⟨f_, hf_, ⟨t378, t379, t380⟩, A3, H⟩ := H
 subst hf_
 (try dsimp only at H)
 replace H := bf_ H
 obtain ⟨f_, hf_, ⟨t382, t383, t384⟩, A4, H⟩ := H
 subst hf_
 (try dsimp only at H)
 replace H := bf_ H
 obtain ⟨f_, hf_, ⟨t385, t386, t387⟩, A5, H⟩ := H
 subst hf_
 (try dsimp only at H)
 replace H := bf_ H
 obtain ⟨f_, hf_, ⟨t388, t389, t390⟩, A6, H⟩ := H
 subst hf_
 (try dsimp only at H)
 replace H := bf_ H
 obtain ⟨f_, hf_, ⟨t391, t392, t393⟩, A7, H⟩ := H
 subst hf_
 (try dsimp only at H)
 replace H := bf_ H
 obtain ⟨f_, hf_, ⟨t394, t395, t396⟩, A8, H⟩ := H
 subst hf_
 (try dsimp only at H)
 replace H := bf_ H
 obtain ⟨f_, hf_, ⟨t397, t398, t399⟩, A9, H⟩ := H
 subst hf_
 (try dsimp only at H)
 have H' := Aside0.mk H
 clear H
 go_enter Try.func34, Try.ntmps34
 go_wp2_with (first | ((with_reducible refine gate_dst (N := 2) rfl ?_); (try (refine gate_guard (by rfl) ?_; dsimp only)); refine bx_ (N := 2) (cs := #[.int .i64 0, .int .i64 0, .int .i64 0, .int .i64 0, .int .i64 0, .bool false, .int .i64 0, .slice none 0 0]) (t := 63) ?_; intro gb373 hg w10 hbox hb; have BK373 := am_ (hbox); have GW373 := gA_ hg HB; have GE373 := GW373; have IGE373 := gI_ GE373; replace HB := bS_ HB hb; clear hb hbox hg) | ((with_reducible refine gate_dst (N := 12) rfl ?_); (try (refine gate_guard (by rfl) ?_; dsimp only)); refine bx_ (N := 12) (cs := #[.slice A0 l0.length c0, .int .i64 0, .bool false]) (t := 121) ?_; intro gb374 hg w11 hbox hb; have BK374 := am_ (hbox); have GW374 := gA_ hg HB; have GE374 := GW374; have IGE374 := gI_ GE374; replace HB := bS_ HB hb; have NB373_374 := am_ ((gN_ hg (qK BK373))); have NB374_373 := am_ ((gM_ hg (qK BK373))); replace BK373 := bK_ BK373 hb; clear hb hbox hg; have HI374 := Aside0.mk (show IsS121 w _ gb374 l0 0 false from ⟨_, _, BK374.out, GE374.out, ⟨HR0.out, HC0.out⟩⟩); have IGHI374 := iG_ HI374.out.ge) | ((with_reducible refine gate_callee (f := 80) rfl ?_); refine gl_ (some 14) Try.func80 #[.pointer (some ⟨gb374, 0, none⟩)] ?_; (with_reducible refine (spec_l9Byte.calls gb374 l0 0 false t375 t376 t377 w _ ?side1 ?side2 A2.out).mono ?_); (case side1 => exact IsS121.qz HI374); (case side2 => exact qB HB); rintro e w12 ⟨rfl, hi, hb, hk⟩; refine ⟨_, rfl, ?_⟩; replace BK373 := kB_ BK373 hk NB373_374; replace HB := am_ (hb); replace HI374 := am_ (hi); (try clear hb); (try clear hk); (try clear hi)) | ((with_reducible refine gate_callee (f := 80) rfl ?_); refine gl_ (some 16) Try.func80 #[.pointer (some ⟨gb374, 0, none⟩)] ?_; (with_reducible refine (spec_l9Byte.calls gb374 l0 t376 t377 t378 t379 t380 w _ ?side1 ?side2 A3.out).mono ?_); (case side1 => exact IsS121.qz HI374); (case side2 => exact qB HB); rintro e w13 ⟨rfl, hi, hb, hk⟩; refine ⟨_, rfl, ?_⟩; replace BK373 := kB_ BK373 hk NB373_374; replace HB := am_ (hb); replace HI374 := am_ (hi); (try clear hb); (try clear hk); (try clear hi)) | ((with_reducible refine gate_dst (N := 5) rfl ?_); (try (refine gate_guard (by rfl) ?_; dsimp only)); refine bx_ (N := 5) (cs := #[.int .i64 0, .int .i64 0, .int .i64 0, .int .i64 0, .int .i64 0, .bool false, .int .i64 0, .slice none 0 0]) (t := 63) ?_; intro gb381 hg w14 hbox hb; have BK381 := am_ (hbox); have GW381 := am_ ((by rw [hg]; exact (below_size (qB HB)) : w.heap.size ≤ gb381)); have IGW381 := gI_ GW381; have GE381 := am_ ((by rw [hg]; exact (below_size (qB HB)) : w.heap.size ≤ gb381)); have IGE381 := gI_ GE381; replace HB := bS_ HB hb; have NB373_381 := am_ ((gN_ hg (qK BK373))); have NB381_373 := am_ ((gM_ hg (qK BK373))); replace BK373 := bK_ BK373 hb; have NB374_381 := am_ ((by rw [hg]; exact Nat.ne_of_lt (IsS121.lt (show IsS121 w _ gb374 l0 t379 t380 from IsS121.qz HI374)) : gb374 ≠ gb381)); have NB381_374 := am_ ((by rw [hg]; exact Nat.ne_of_gt (IsS121.lt (show IsS121 w _ gb374 l0 t379 t380 from IsS121.qz HI374)) : gb381 ≠ gb374)); replace HI374 := am_ (IsS121.below (IsS121.qz HI374) hb); clear hb hbox hg; have hnb15 := NB381_373.out; have hnc15 := NB373_381.out; have hnb16 := NB381_374.out; have hnc16 := NB374_381.out; (try clear zK381); have zK381 := cz8 BK381.out; (try clear fK381); have fK381 := fz8 BK381.out) | ((with_reducible refine gate_callee (f := 81) rfl ?_); refine gl_ (some 19) Try.func81 #[.pointer (some ⟨gb374, 0, none⟩)] ?_; (with_reducible refine (spec_l9Word.calls gb374 l0 t379 t380 t382 t383 t384 w _ ?side1 ?side2 A4.out).mono ?_); (case side1 => exact IsS121.qz HI374); (case side2 => exact qB HB); rintro e w18 ⟨rfl, hi, hb, hk⟩; refine ⟨_, rfl, ?_⟩; replace BK373 := am_ (KeepBut.blk hk (g' := gb373) (o := .cells #[.int .i64 0, .int .i64 0, .int .i64 0, .int .i64 0, .int .i64 0, .bool false, .int .i64 0, .slice none 0 0] 63 (0, 0)) (by (with_reducible repeat (first | refine blk_drewN ?_ _ | refine blk_drew ?_ | refine blk_alloc ?_ _)); refine blk_far8 ?_ NB373_381.out; exact qK BK373) NB373_374.out (by simp)); replace BK381 := am_ (KeepBut.blk hk (g' := gb381) (o := .cells #[.int .i64 t375, .int .i64 t378, .int .i64 0, .int .i64 0, .int .i64 0, .bool false, .int .i64 0, .slice none 0 0] 63 (0, 0)) (by exact blk_all8 (qK BK381)) NB381_374.out (by simp)); replace HB := am_ (hb); replace HI374 := am_ (hi); (try clear hb); (try clear hk); (try clear hi); (try clear zK381); have zK381 := cz8 BK381.out; (try clear fK381); have fK381 := fz8 BK381.out) | ((with_reducible refine gate_callee (f := 80) rfl ?_); refine gl_ (some 22) Try.func80 #[.pointer (some ⟨gb374, 0, none⟩)] ?_; (with_reducible refine (spec_l9Byte.calls gb374 l0 t383 t384 t385 t386 t387 w _ ?side1 ?side2 A5.out).mono ?_); (case side1 => exact IsS121.qz HI374); (case side2 => exact qB HB); rintro e w20 ⟨rfl, hi, hb, hk⟩; refine ⟨_, rfl, ?_⟩; replace BK373 := am_ (KeepBut.blk hk (g' := gb373) (o := .cells #[.int .i64 0, .int .i64 0, .int .i64 0, .int .i64 0, .int .i64 0, .bool false, .int .i64 0, .slice none 0 0] 63 (0, 0)) (by (with_reducible repeat (first | refine blk_drewN ?_ _ | refine blk_drew ?_ | refine blk_alloc ?_ _)); refine blk_far ?_ NB373_381.out _; exact qK BK373) NB373_374.out (by simp)); replace BK381 := am_ (KeepBut.blk hk (g' := gb381) (o := .cells #[.int .i64 t375, .int .i64 t378, .int .i64 t382, .int .i64 0, .int .i64 0, .bool false, .int .i64 0, .slice none 0 0] 63 (0, 0)) (by (with_reducible repeat (first | refine blk_drewN ?_ _ | refine blk_drew ?_ | refine blk_alloc ?_ _)); refine blk_put (cs := #[.int .i64 t375, .int .i64 t378, .int .i64 0, .int .i64 0, .int .i64 0, .bool false, .int .i64 0, .slice none 0 0]) ?_ 2 _ rfl; exact qK BK381) NB381_374.out (by simp)); replace HB := am_ (hb); replace HI374 := am_ (hi); (try clear hb); (try clear hk); (try clear hi); (try clear zK381); have zK381 := cz8 BK381.out; (try clear fK381); have fK381 := fz8 BK381.out) | ((with_reducible refine gate_callee (f := 80) rfl ?_); refine gl_ (some 25) Try.func80 #[.pointer (some ⟨gb374, 0, none⟩)] ?_; (with_reducible refine (spec_l9Byte.calls gb374 l0 t386 t387 t388 t389 t390 w _ ?side1 ?side2 A6.out).mono ?_); (case side1 => exact IsS121.qz HI374); (case side2 => exact qB HB); rintro e w22 ⟨rfl, hi, hb, hk⟩; refine ⟨_, rfl, ?_⟩; replace BK373 := am_ (KeepBut.blk hk (g' := gb373) (o := .cells #[.int .i64 0, .int .i64 0, .int .i64 0, .int .i64 0, .int .i64 0, .bool false, .int .i64 0, .slice none 0 0] 63 (0, 0)) (by (with_reducible repeat (first | refine blk_drewN ?_ _ | refine blk_drew ?_ | refine blk_alloc ?_ _)); refine blk_far ?_ NB373_381.out _; exact qK BK373) NB373_374.out (by simp)); replace BK381 := am_ (KeepBut.blk hk (g' := gb381) (o := .cells #[.int .i64 t375, .int .i64 t378, .int .i64 t382, .int .i64 t385, .int .i64 0, .bool false, .int .i64 0, .slice none 0 0] 63 (0, 0)) (by (with_reducible repeat (first | refine blk_drewN ?_ _ | refine blk_drew ?_ | refine blk_alloc ?_ _)); refine blk_put (cs := #[.int .i64 t375, .int .i64 t378, .int .i64 t382, .int .i64 0, .int .i64 0, .bool false, .int .i64 0, .slice none 0 0]) ?_ 3 _ rfl; exact qK BK381) NB381_374.out (by simp)); replace HB := am_ (hb); replace HI374 := am_ (hi); (try clear hb); (try clear hk); (try clear hi); (try clear zK381); have zK381 := cz8 BK381.out; (try clear fK381); have fK381 := fz8 BK381.out) | ((with_reducible refine gate_callee (f := 80) rfl ?_); refine gl_ (some 28) Try.func80 #[.pointer (some ⟨gb374, 0, none⟩)] ?_; (with_reducible refine (spec_l9Byte.calls gb374 l0 t389 t390 t391 t392 t393 w _ ?side1 ?side2 A7.out).mono ?_); (case side1 => exact IsS121.qz HI374); (case side2 => exact qB HB); rintro e w24 ⟨rfl, hi, hb, hk⟩; refine ⟨_, rfl, ?_⟩; replace BK373 := am_ (KeepBut.blk hk (g' := gb373) (o := .cells #[.int .i64 0, .int .i64 0, .int .i64 0, .int .i64 0, .int .i64 0, .bool false, .int .i64 0, .slice none 0 0] 63 (0, 0)) (by (with_reducible repeat (first | refine blk_drewN ?_ _ | refine blk_drew ?_ | refine blk_alloc ?_ _)); refine blk_far ?_ NB373_381.out _; exact qK BK373) NB373_374.out (by simp)); replace BK381 := am_ (KeepBut.blk hk (g' := gb381) (o := .cells #[.int .i64 t375, .int .i64 t378, .int .i64 t382, .int .i64 t385, .int .i64 t388, .bool false, .int .i64 0, .slice none 0 0] 63 (0, 0)) (by (with_reducible repeat (first | refine blk_drewN ?_ _ | refine blk_drew ?_ | refine blk_alloc ?_ _)); refine blk_put (cs := #[.int .i64 t375, .int .i64 t378, .int .i64 t382, .int .i64 t385, .int .i64 0, .bool false, .int .i64 0, .slice none 0 0]) ?_ 4 _ rfl; exact qK BK381) NB381_374.out (by simp)); replace HB := am_ (hb); replace HI374 := am_ (hi); (try clear hb); (try clear hk); (try clear hi); (try clear zK381); have zK381 := cz8 BK381.out; (try clear fK381); have fK381 := fz8 BK381.out) | ((with_reducible refine gate_callee (f := 81) rfl ?_); refine gl_ (some 32) Try.func81 #[.pointer (some ⟨gb374, 0, none⟩)] ?_; (with_reducible refine (spec_l9Word.calls gb374 l0 t392 t393 t394 t395 t396 w _ ?side1 ?side2 A8.out).mono ?_); (case side1 => exact IsS121.qz HI374); (case side2 => exact qB HB); rintro e w26 ⟨rfl, hi, hb, hk⟩; refine ⟨_, rfl, ?_⟩; replace BK373 := am_ (KeepBut.blk hk (g' := gb373) (o := .cells #[.int .i64 0, .int .i64 0, .int .i64 0, .int .i64 0, .int .i64 0, .bool false, .int .i64 0, .slice none 0 0] 63 (0, 0)) (by (with_reducible repeat (first | refine blk_drewN ?_ _ | refine blk_drew ?_ | refine blk_alloc ?_ _)); refine blk_far ?_ NB373_381.out _; exact qK BK373) NB373_374.out (by simp)); replace BK381 := am_ (KeepBut.blk hk (g' := gb381) (o := .cells #[.int .i64 t375, .int .i64 t378, .int .i64 t382, .int .i64 t385, .int .i64 t388, .bool (t391 == 1), .int .i64 0, .slice none 0 0] 63 (0, 0)) (by (with_reducible repeat (first | refine blk_drewN ?_ _ | refine blk_drew ?_ | refine blk_alloc ?_ _)); refine blk_put (cs := #[.int .i64 t375, .int .i64 t378, .int .i64 t382, .int .i64 t385, .int .i64 t388, .bool false, .int .i64 0, .slice none 0 0]) ?_ 5 _ rfl; exact qK BK381) NB381_374.out (by simp)); replace HB := am_ (hb); replace HI374 := am_ (hi); (try clear hb); (try clear hk); (try clear hi); (try clear zK381); have zK381 := cz8 BK381.out; (try clear fK381); have fK381 := fz8 BK381.out) | ((with_reducible refine gate_callee (f := 80) rfl ?_); refine gl_ (some 35) Try.func80 #[.pointer (some ⟨gb374, 0, none⟩)] ?_; (with_reducible refine (spec_l9Byte.calls gb374 l0 t395 t396 t397 t398 t399 w _ ?side1 ?side2 A9.out).mono ?_); (case side1 => exact IsS121.qz HI374); (case side2 => exact qB HB); rintro e w28 ⟨rfl, hi, hb, hk⟩; refine ⟨_, rfl, ?_⟩; replace BK373 := am_ (KeepBut.blk hk (g' := gb373) (o := .cells #[.int .i64 0, .int .i64 0, .int .i64 0, .int .i64 0, .int .i64 0, .bool false, .int .i64 0, .slice none 0 0] 63 (0, 0)) (by (with_reducible repeat (first | refine blk_drewN ?_ _ | refine blk_drew ?_ | refine blk_alloc ?_ _)); refine blk_far ?_ NB373_381.out _; exact qK BK373) NB373_374.out (by simp)); replace BK381 := am_ (KeepBut.blk hk (g' := gb381) (o := .cells #[.int .i64 t375, .int .i64 t378, .int .i64 t382, .int .i64 t385, .int .i64 t388, .bool (t391 == 1), .int .i64 t394, .slice none 0 0] 63 (0, 0)) (by (with_reducible repeat (first | refine blk_drewN ?_ _ | refine blk_drew ?_ | refine blk_alloc ?_ _)); refine blk_put (cs := #[.int .i64 t375, .int .i64 t378, .int .i64 t382, .int .i64 t385, .int .i64 t388, .bool (t391 == 1), .int .i64 0, .slice none 0 0]) ?_ 6 _ rfl; exact qK BK381) NB381_374.out (by simp)); replace HB := am_ (hb); replace HI374 := am_ (hi); (try clear hb); (try clear hk); (try clear hi)))
 go_loopg [6] k (fun kq v6 w' => ∃ (x6_1 : Int) (x374000_1 : Int) (x374001_1 : Int) (x374002_1 : Int) (x374003_1 : Int) (x374004_1 : Int) (x374005_1 : Bool) (x374006_1 : Int) (x375001_1 : Int) (x375002_1 : Bool) (x382007_1 : List (S126)) (u382007 : Value), v6 = .int .i64 x6_1 ∧ Aside0 (spec_GetCtl.l0 kq l0 x6_1 l0 x375001_1 x375002_1 t375 t378 t382 t385 t388 (t391 == 1) t394 x382007_1 = some (r1, r2, r3, r4, r5, r6, r7, r8, r9)) ∧ Aside0 (kq ≤ k) ∧ Aside0 (Kd.R k126 126 w' w.heap.size (fun _ => True) u382007 x382007_1) ∧ Aside0 (w'.heap[gb373]? = some (.cells #[.int .i64 x374000_1, .int .i64 x374001_1, .int .i64 x374002_1, .int .i64 x374003_1, .int .i64 x374004_1, .bool x374005_1, .int .i64 x374006_1, (.slice none 0 0)] 63 (0, 0))) ∧ Aside0 (w'.heap[gb381]? = some (.cells #[.int .i64 t375, .int .i64 t378, .int .i64 t382, .int .i64 t385, .int .i64 t388, .bool (t391 == 1), .int .i64 t394, u382007] 63 (0, 0))) ∧ Aside0 (IsS121 w w' gb374 l0 x375001_1 x375002_1) ∧ Aside0 (Below w.heap.size w w'))
 case atStart => exact ⟨(t397), (0), (0), (0), (0), (0), (false), (0), (t398), (t399), (([] : List (S126))), (.slice none 0 0), eqq_, H', ⟨Nat.le_refl _⟩, ⟨by first | exact Kd.R_nil _ _ _ _ _ | exact Kd.N_nil _ _ _ _ _ | exact Kd.V_nil _ _ _ _ _ | exact Kd.Q_nil _ _ _ _ _ | exact Kd.S_nil _ _ _ _ _⟩, ⟨qK BK373⟩, ⟨qK BK381⟩, ⟨IsS121.qz HI374⟩, ⟨qB HB⟩⟩
 case round =>
  clear H'
  try clear c1
  try clear p2
  try clear c3
  try clear c8
  try clear c15
  try clear c16
  (try clear zK381)
  (try clear zK381)
  (try clear zK381)
  (try clear zK381)
  (try clear zK381)
  (try clear zK381)
  (try clear fK381)
  (try clear fK381)
  (try clear fK381)
  (try clear fK381)
  (try clear fK381)
  (try clear fK381)
  obtain ⟨x6_1, x374000_1, x374001_1, x374002_1, x374003_1, x374004_1, x374005_1, x374006_1, x375001_1, x375002_1, x382007_1, u382007, rfl, HA, HK1, HO_382007, BK373, BK381, HI374, HB⟩ := hrel
  cases gk with
  | zero => exact absurd HA.out (by simp [spec_GetCtl.l0])
  | succ k1 =>
   have H := HA.out
   clear HA
   simp only [spec_GetCtl.l0] at H
   have HC29 := Aside0.mk H
   clear H
   go_upto_region 9 with (fail)
   go_cut [44] (fun v44 wc => ∃ (kq : Nat) (x44_28 : Bool), v44 = .bool x44_28 ∧ Aside0 (spec_GetCtl.j1 kq l0 x6_1 x44_28 l0 x375001_1 x375002_1 t375 t378 t382 t385 t388 (t391 == 1) t394 x382007_1 = some (r1, r2, r3, r4, r5, r6, r7, r8, r9)) ∧ Aside0 (kq ≤ k1) ∧ Aside0 (Kd.R k126 126 wc w.heap.size (fun _ => True) u382007 x382007_1) ∧ Aside0 (wc.heap[gb373]? = some (.cells #[.int .i64 x374000_1, .int .i64 x374001_1, .int .i64 x374002_1, .int .i64 x374003_1, .int .i64 x374004_1, .bool x374005_1, .int .i64 x374006_1, (.slice none 0 0)] 63 (0, 0))) ∧ Aside0 (wc.heap[gb381]? = some (.cells #[.int .i64 t375, .int .i64 t378, .int .i64 t382, .int .i64 t385, .int .i64 t388, .bool (t391 == 1), .int .i64 t394, u382007] 63 (0, 0))) ∧ Aside0 (IsS121 w wc gb374 l0 x375001_1 x375002_1) ∧ Aside0 (Below w.heap.size w wc))
   case first =>
    have H := HC29.out
    clear HC29
    replace H := id_ H
    obtain ⟨-, H, c30b0⟩ | ⟨-, H, c30b0⟩ := H
    rotate_left
    ·
     (first | rw [c30b0] | (simp only [i64_w, i32_w]; rw [c30b0]) | skip)
     have H' := Aside0.mk H
     clear H
     go_wp2
     go_meet
     case rel => exact ⟨_, (false), eqq_, H', ⟨by have := HK1.out; first | omega | exact Nat.le_refl _⟩, ⟨qR HO_382007⟩, ⟨qK BK373⟩, ⟨qK BK381⟩, ⟨IsS121.qz HI374⟩, ⟨qB HB⟩⟩
    (first | rw [c30b0] | (simp only [i64_w, i32_w]; rw [c30b0]) | skip)
    have H' := Aside0.mk H
    clear H
    obtain ⟨ASz31_0, cSz31_0, HGz31, hgz31, HSz31_0⟩ := HI374.out
    obtain ⟨HSz31_0, HQz31_0⟩ := HSz31_0
    have z31_0 := cellS121_0 HGz31
    have z31_1 := cellS121_1 HGz31
    have z31_2 := cellS121_2 HGz31
    have f31_1 := blk_frozen HGz31 1
    have f31_2 := blk_frozen HGz31 2
    clear HGz31 hgz31
    go_wp2
    go_meet
    case rel => exact ⟨_, (!x375002_1), eqq_, H', ⟨by have := HK1.out; first | omega | exact Nat.le_refl _⟩, ⟨qR HO_382007⟩, ⟨qK BK373⟩, ⟨qK BK381⟩, ⟨IsS121.qz HI374⟩, ⟨qB HB⟩⟩
   case rest =>
    clear HC29
    try clear c1
    try clear p2
    try clear c3
    try clear c8
    try clear c15
    try clear c16
    try clear c30
    try clear c30b0
    (try clear zK381)
    (try clear zK381)
    (try clear zK381)
    (try clear zK381)
    (try clear zK381)
    (try clear zK381)
    (try clear z31)
    (try clear fK381)
    (try clear fK381)
    (try clear fK381)
    (try clear fK381)
    (try clear fK381)
    (try clear fK381)
    (try clear f31)
    try clear p2
    obtain ⟨kq, x44_28, rfl, HA, HJ28, HO_382007, BK373, BK381, HI374, HB⟩ := hcut
    cases kq with
    | zero => exact absurd HA.out (by simp [spec_GetCtl.j1])
    | succ kj28 =>
     have H := HA.out
     clear HA
     simp only [spec_GetCtl.j1] at H
     by_cases c32 : x44_28 = true
     rotate_left
     ·
      replace c32 := Bool.eq_false_iff.mpr c32
      subst c32
      rw [if_neg (show ¬ (false = true) by decide)] at H
      by_cases c87 : x375002_1 = true
      ·
       subst c87
       rw [if_pos rfl] at H
       simp only [Option.some.injEq, Prod.mk.injEq] at H
       obtain ⟨rfl, rfl, rfl, rfl, rfl, rfl, rfl, rfl, rfl⟩ := H
       obtain ⟨ASz88_0, cSz88_0, HGz88, hgz88, HSz88_0⟩ := HI374.out
       obtain ⟨HSz88_0, HQz88_0⟩ := HSz88_0
       have z88_0 := cellS121_0 HGz88
       have z88_1 := cellS121_1 HGz88
       have z88_2 := cellS121_2 HGz88
       have f88_1 := blk_frozen HGz88 1
       have f88_2 := blk_frozen HGz88 2
       clear HGz88 hgz88
       have hnb89 := NB373_381.out
       have hnc89 := NB381_373.out
       have hnb90 := NB373_374.out
       have hnc90 := NB374_373.out
       (try clear zK373)
       have zK373 := cz8 BK373.out
       (try clear fK373)
       have fK373 := fz8 BK373.out
       go_wp2
       refine bodyPost_ret (results_ct rfl _ _ gb373 63 #[.int .i64 0, .int .i64 0, .int .i64 0, .int .i64 0, .int .i64 0, .bool false, .int .i64 0, .slice none 0 0] (0, 0) _ rfl (by exact blk_all8 (qK BK373)) Try.underlying63 rfl (by kernel_rfl)) rfl ?_
       exact ⟨_, er_, by first | exact Kd.R_nil _ _ _ _ _ | exact Kd.N_nil _ _ _ _ _ | exact Kd.V_nil _ _ _ _ _ | exact Kd.Q_nil _ _ _ _ _ | exact Kd.S_nil _ _ _ _ _, qB HB⟩
      replace c87 := Bool.eq_false_iff.mpr c87
      subst c87
      rw [if_neg (show ¬ (false = true) by decide)] at H
      replace H := bd_ H
      obtain ⟨t425, A92, H⟩ := H
      by_cases c93 : t425 = true
      rotate_left
      ·
       replace c93 := Bool.eq_false_iff.mpr c93
       subst c93
       rw [if_neg (show ¬ (false = true) by decide)] at H
       simp only [Option.some.injEq, Prod.mk.injEq] at H
       obtain ⟨rfl, rfl, rfl, rfl, rfl, rfl, rfl, rfl, rfl⟩ := H
       obtain ⟨ASz115_0, cSz115_0, HGz115, hgz115, HSz115_0⟩ := HI374.out
       obtain ⟨HSz115_0, HQz115_0⟩ := HSz115_0
       have z115_0 := cellS121_0 HGz115
       have z115_1 := cellS121_1 HGz115
       have z115_2 := cellS121_2 HGz115
       have f115_1 := blk_frozen HGz115 1
       have f115_2 := blk_frozen HGz115 2
       clear HGz115 hgz115
       have hnb116 := NB381_373.out
       have hnc116 := NB373_381.out
       have hnb117 := NB381_374.out
       have hnc117 := NB374_381.out
       (try clear zK381)
       have zK381 := cz8 BK381.out
       (try clear fK381)
       have fK381 := fz8 BK381.out
       obtain ⟨Ao119, co119, eo119⟩ := Kd.R_slice HO_382007.out
       subst eo119
       go_wp2_with (first | (go_at_call 69; (with_reducible refine (spec_CtlOk.calls kj28 t375 t378 t382 t385 t388 (t391 == 1) t394 _ _ x382007_1 false _ ?side1 ?side2 A92.out).mono ?_); (case side1 => exact qC ((Kd.R_reads' HO_382007.out).2.2)); (case side2 => exact (Kd.R_reads' HO_382007.out).2.1); rintro e w120 ⟨rfl, hb⟩; replace HO_382007 := rB_ HO_382007 hb; replace BK373 := bK_ BK373 hb; replace BK381 := bK_ BK381 hb; replace HB := bS_ HB hb; replace HI374 := am_ (IsS121.below (IsS121.qz HI374) hb); (try clear hb); have hnb121 := NB373_374.out; have hnc121 := NB374_373.out; (try clear zK373); have zK373 := cz8 BK373.out; (try clear fK373); have fK373 := fz8 BK373.out))
       refine bodyPost_ret (results_ct rfl _ _ gb373 63 #[.int .i64 0, .int .i64 0, .int .i64 0, .int .i64 0, .int .i64 0, .bool false, .int .i64 0, .slice none 0 0] (0, 0) _ rfl (by exact blk_all8 (qK BK373)) Try.underlying63 rfl (by kernel_rfl)) rfl ?_
       exact ⟨_, er_, by first | exact Kd.R_nil _ _ _ _ _ | exact Kd.N_nil _ _ _ _ _ | exact Kd.V_nil _ _ _ _ _ | exact Kd.Q_nil _ _ _ _ _ | exact Kd.S_nil _ _ _ _ _, qB HB⟩
      subst c93
      rw [if_pos rfl] at H
      replace H := bd_ H
      obtain ⟨t426, A94, H⟩ := H
      replace H := bd_ H
      obtain ⟨t429, A95, H⟩ := H
      have HC96 := Aside0.mk H
      clear H
      obtain ⟨ASz97_0, cSz97_0, HGz97, hgz97, HSz97_0⟩ := HI374.out
      obtain ⟨HSz97_0, HQz97_0⟩ := HSz97_0
      have z97_0 := cellS121_0 HGz97
      have z97_1 := cellS121_1 HGz97
      have z97_2 := cellS121_2 HGz97
      have f97_1 := blk_frozen HGz97 1
      have f97_2 := blk_frozen HGz97 2
      clear HGz97 hgz97
      have hnb98 := NB381_373.out
      have hnc98 := NB373_381.out
      have hnb99 := NB381_374.out
      have hnc99 := NB374_381.out
      (try clear zK381)
      have zK381 := cz8 BK381.out
      (try clear fK381)
      have fK381 := fz8 BK381.out
      obtain ⟨Ao101, co101, eo101⟩ := Kd.R_slice HO_382007.out
      subst eo101
      go_upto_if 114 with (first | (go_at_call 69; (with_reducible refine (spec_CtlOk.calls kj28 t375 t378 t382 t385 t388 (t391 == 1) t394 _ _ x382007_1 true _ ?side1 ?side2 A92.out).mono ?_); (case side1 => exact qC ((Kd.R_reads' HO_382007.out).2.2)); (case side2 => exact (Kd.R_reads' HO_382007.out).2.1); rintro e w102 ⟨rfl, hb⟩; replace HO_382007 := rB_ HO_382007 hb; replace BK373 := bK_ BK373 hb; replace BK381 := bK_ BK381 hb; replace HB := bS_ HB hb; replace HI374 := am_ (IsS121.below (IsS121.qz HI374) hb); (try clear hb); (try clear zK381); have zK381 := cz8 BK381.out; (try clear fK381); have fK381 := fz8 BK381.out) | (go_at_call 70; (with_reducible refine (spec_PutCtl.calls kj28 t375 t378 t382 t385 t388 (t391 == 1) t394 _ _ x382007_1 t426 _ ?side1 ?side2 A94.out).mono ?_); (case side1 => exact qC ((Kd.R_reads' HO_382007.out).2.2)); (case side2 => exact (Kd.R_reads' HO_382007.out).2.1); rintro e w104 ⟨v427, rfl, ho0, hb⟩; replace HO_382007 := rB_ HO_382007 hb; have HO428 := am_ (Kd.R_lower ho0 (below_size (qB HB))); replace BK373 := bK_ BK373 hb; replace BK381 := bK_ BK381 hb; replace HB := bS_ HB hb; replace HI374 := am_ (IsS121.below (IsS121.qz HI374) hb); (try clear hb); (try clear ho0); obtain ⟨Ao105, co105, eo105⟩ := Kd.R_slice HO428.out; subst eo105) | (go_at_call 83; (with_reducible refine (spec_l1Same.calls _ _ t426 _ _ l0 t429 _ ?side1 ?side2 ?side3 ?side4 A95.out).mono ?_); (case side1 => exact qC ((Kd.R_reads' HO428.out).2.2)); (case side2 => exact (Kd.R_reads' HO428.out).2.1); (case side3 => exact qC (Kd.C_below HR0.out HB.out)); (case side4 => exact HC0.out); rintro e w' ⟨rfl, ⟨nd, rfl⟩⟩))
      (try simp only [Act.put, List.setIfInBounds_toArray, List.set_cons_zero, List.set_cons_succ])
      (try (rw [drewN_self w104]; generalize hq_ : World.drewN w104 _ = w104; have n0_ : Aside0 (Kd.R (Kd.int .u8) 5 w104 w.heap.size (fun _ => True) (.slice Ao105 t426.length co105) t426) := ⟨by rw [← hq_]; exact (qR HO428)⟩; have n1_ : Aside0 (Kd.R k126 126 w104 w.heap.size (fun _ => True) (.slice Ao101 x382007_1.length co101) x382007_1) := ⟨by rw [← hq_]; exact (qR HO_382007)⟩; have n2_ : Aside0 (w104.heap[gb373]? = some (.cells #[.int .i64 x374000_1, .int .i64 x374001_1, .int .i64 x374002_1, .int .i64 x374003_1, .int .i64 x374004_1, .bool x374005_1, .int .i64 x374006_1, .slice none 0 0] 63 (0, 0))) := ⟨by rw [← hq_]; exact (qK BK373)⟩; have n3_ : Aside0 (w104.heap[gb381]? = some (.cells #[.int .i64 t375, .int .i64 t378, .int .i64 t382, .int .i64 t385, .int .i64 t388, .bool (t391 == 1), .int .i64 t394, .slice Ao101 x382007_1.length co101] 63 (0, 0))) := ⟨by rw [← hq_]; exact (qK BK381)⟩; have n4_ : Aside0 (IsS121 w w104 gb374 l0 x375001_1 false) := ⟨by rw [← hq_]; exact (IsS121.qz HI374)⟩; have n5_ : Aside0 (Below w.heap.size w w104) := ⟨by rw [← hq_]; exact (qB HB)⟩; clear HO428 HO_382007 BK373 BK381 HI374 HB hq_; have HO428 := n0_; have HO_382007 := n1_; have BK373 := n2_; have BK381 := n3_; have HI374 := n4_; have HB := n5_; clear n0_ n1_ n2_ n3_ n4_ n5_))
      have H := HC96.out
      clear HC96
      by_cases c106 : t429 = true
      rotate_left
      ·
       replace c106 := Bool.eq_false_iff.mpr c106
       subst c106
       rw [if_neg (show ¬ (false = true) by decide)] at H
       simp only [Option.some.injEq, Prod.mk.injEq] at H
       obtain ⟨rfl, rfl, rfl, rfl, rfl, rfl, rfl, rfl, rfl⟩ := H
       have hnb112 := NB373_381.out
       have hnc112 := NB381_373.out
       have hnb113 := NB373_374.out
       have hnc113 := NB374_373.out
       (try clear zK373)
       have zK373 := cz8 BK373.out
       (try clear fK373)
       have fK373 := fz8 BK373.out
       go_wp2
       refine bodyPost_ret (results_ct rfl _ _ gb373 63 #[.int .i64 0, .int .i64 0, .int .i64 0, .int .i64 0, .int .i64 0, .bool false, .int .i64 0, .slice none 0 0] (0, 0) _ rfl (by exact blk_all8 (qK BK373)) Try.underlying63 rfl (by kernel_rfl)) rfl ?_
       exact ⟨_, er_, by first | exact Kd.R_nil _ _ _ _ _ | exact Kd.N_nil _ _ _ _ _ | exact Kd.V_nil _ _ _ _ _ | exact Kd.Q_nil _ _ _ _ _ | exact Kd.S_nil _ _ _ _ _, qB HB⟩
      subst c106
      rw [if_pos rfl] at H
      simp only [Option.some.injEq, Prod.mk.injEq] at H
      obtain ⟨rfl, rfl, rfl, rfl, rfl, rfl, rfl, rfl, rfl⟩ := H
      have hnb107 := NB381_373.out
      have hnc107 := NB373_381.out
      have hnb108 := NB381_374.out
      have hnc108 := NB374_381.out
      (try clear zK381)
      have zK381 := cz8 BK381.out
      (try clear fK381)
      have fK381 := fz8 BK381.out
      have hnb110 := NB373_374.out
      have hnc110 := NB374_373.out
      (try clear zK373)
      have zK373 := cz8 BK373.out
      (try clear fK373)
      have fK373 := fz8 BK373.out
      go_wp2
      refine bodyPost_ret (results_ct rfl _ _ gb373 63 #[.int .i64 t375, .int .i64 t378, .int .i64 t382, .int .i64 t385, .int .i64 t388, .bool (t391 == 1), .int .i64 t394, .slice Ao101 x382007_1.length co101] (0, 0) _ rfl (by exact blk_all8 (qK BK373)) Try.underlying63 rfl (by kernel_rfl)) rfl ?_
      exact ⟨_, er_, (fR1_ HO_382007 BK373), qB HB⟩
     subst c32
     rw [if_pos rfl] at H
     replace H := bf_ H
     obtain ⟨f_, hf_, ⟨t400, t401, t402⟩, A33, H⟩ := H
     subst hf_
     (try dsimp only at H)
     have HC34 := Aside0.mk H
     clear H
     go_upto_region 12 with (first | ((with_reducible refine gate_callee (f := 80) rfl ?_); refine gl_ (some 48) Try.func80 #[.pointer (some ⟨gb374, 0, none⟩)] ?_; (with_reducible refine (spec_l9Byte.calls gb374 l0 x375001_1 x375002_1 t400 t401 t402 w _ ?side1 ?side2 A33.out).mono ?_); (case side1 => exact IsS121.qz HI374); (case side2 => exact qB HB); rintro e w35 ⟨rfl, hi, hb, hk⟩; refine ⟨_, rfl, ?_⟩; replace HO_382007 := am_ (Kd.R_mono (Kd.R_keep (IsS121.apart (show IsS121 w _ gb374 l0 x375001_1 x375002_1 from IsS121.qz HI374) (qR HO_382007) (by decide)) hk (fun _ h => h.2)) (fun _ h => h.1)); replace BK373 := kB_ BK373 hk NB373_374; replace BK381 := kB_ BK381 hk NB381_374; replace HB := am_ (hb); replace HI374 := am_ (hi); (try clear hb); (try clear hk); (try clear hi)))
     (try simp only [Act.put, List.setIfInBounds_toArray, List.set_cons_zero, List.set_cons_succ])
     go_cut [63] (fun v63 wc => ∃ (kq : Nat) (x63_33 : Bool), v63 = .bool x63_33 ∧ Aside0 (spec_GetCtl.j2 kq l0 x6_1 t400 x63_33 l0 t401 t402 t375 t378 t382 t385 t388 (t391 == 1) t394 x382007_1 = some (r1, r2, r3, r4, r5, r6, r7, r8, r9)) ∧ Aside0 (kq ≤ kj28) ∧ Aside0 (Kd.R k126 126 wc w.heap.size (fun _ => True) u382007 x382007_1) ∧ Aside0 (wc.heap[gb373]? = some (.cells #[.int .i64 x374000_1, .int .i64 x374001_1, .int .i64 x374002_1, .int .i64 x374003_1, .int .i64 x374004_1, .bool x374005_1, .int .i64 x374006_1, (.slice none 0 0)] 63 (0, 0))) ∧ Aside0 (wc.heap[gb381]? = some (.cells #[.int .i64 t375, .int .i64 t378, .int .i64 t382, .int .i64 t385, .int .i64 t388, .bool (t391 == 1), .int .i64 t394, u382007] 63 (0, 0))) ∧ Aside0 (IsS121 w wc gb374 l0 t401 t402) ∧ Aside0 (Below w.heap.size w wc))
     case first =>
      have H := HC34.out
      clear HC34
      by_cases c36 : t402 = true
      ·
       subst c36
       rw [if_pos rfl] at H
       have H' := Aside0.mk H
       clear H
       obtain ⟨ASz37_0, cSz37_0, HGz37, hgz37, HSz37_0⟩ := HI374.out
       obtain ⟨HSz37_0, HQz37_0⟩ := HSz37_0
       have z37_0 := cellS121_0 HGz37
       have z37_1 := cellS121_1 HGz37
       have z37_2 := cellS121_2 HGz37
       have f37_1 := blk_frozen HGz37 1
       have f37_2 := blk_frozen HGz37 2
       clear HGz37 hgz37
       go_wp2
       go_meet
       case rel => exact ⟨_, (true), eqq_, H', ⟨by have := HK1.out; have := HJ28.out; first | omega | exact Nat.le_refl _⟩, ⟨qR HO_382007⟩, ⟨qK BK373⟩, ⟨qK BK381⟩, ⟨IsS121.qz HI374⟩, ⟨qB HB⟩⟩
      replace c36 := Bool.eq_false_iff.mpr c36
      subst c36
      rw [if_neg (show ¬ (false = true) by decide)] at H
      have H' := Aside0.mk H
      clear H
      obtain ⟨ASz38_0, cSz38_0, HGz38, hgz38, HSz38_0⟩ := HI374.out
      obtain ⟨HSz38_0, HQz38_0⟩ := HSz38_0
      have z38_0 := cellS121_0 HGz38
      have z38_1 := cellS121_1 HGz38
      have z38_2 := cellS121_2 HGz38
      have f38_1 := blk_frozen HGz38 1
      have f38_2 := blk_frozen HGz38 2
      clear HGz38 hgz38
      go_wp2
      go_meet
      case rel => exact ⟨_, (decide (t400 > (wrap64 ((l0.length : Int) - t401)))), eqq_, H', ⟨by have := HK1.out; have := HJ28.out; first | omega | exact Nat.le_refl _⟩, ⟨qR HO_382007⟩, ⟨qK BK373⟩, ⟨qK BK381⟩, ⟨IsS121.qz HI374⟩, ⟨qB HB⟩⟩
     case rest =>
      clear HC34
      try clear c1
      try clear p2
      try clear c3
      try clear p6
      try clear c8
      try clear c15
      try clear c16
      try clear c30
      try clear c30b0
      try clear c32
      try clear c34
      try clear c36
      (try clear zK381)
      (try clear zK381)
      (try clear zK381)
      (try clear zK381)
      (try clear zK381)
      (try clear zK381)
      (try clear z31)
      (try clear z37)
      (try clear z38)
      (try clear fK381)
      (try clear fK381)
      (try clear fK381)
      (try clear fK381)
      (try clear fK381)
      (try clear fK381)
      (try clear f31)
      (try clear f37)
      (try clear f38)
      try clear p2
      obtain ⟨kq, x63_33, rfl, HA, HJ33, HO_382007, BK373, BK381, HI374, HB⟩ := hcut
      cases kq with
      | zero => exact absurd HA.out (by simp [spec_GetCtl.j2])
      | succ kj33 =>
       have H := HA.out
       clear HA
       simp only [spec_GetCtl.j2] at H
       by_cases c39 : x63_33 = true
       ·
        subst c39
        rw [if_pos rfl] at H
        simp only [Option.some.injEq, Prod.mk.injEq] at H
        obtain ⟨rfl, rfl, rfl, rfl, rfl, rfl, rfl, rfl, rfl⟩ := H
        have hnb40 := NB373_381.out
        have hnc40 := NB381_373.out
        have hnb41 := NB373_374.out
        have hnc41 := NB374_373.out
        (try clear zK373)
        have zK373 := cz8 BK373.out
        (try clear fK373)
        have fK373 := fz8 BK373.out
        go_wp2
        refine bodyPost_ret (results_ct rfl _ _ gb373 63 #[.int .i64 0, .int .i64 0, .int .i64 0, .int .i64 0, .int .i64 0, .bool false, .int .i64 0, .slice none 0 0] (0, 0) _ rfl (by exact blk_all8 (qK BK373)) Try.underlying63 rfl (by kernel_rfl)) rfl ?_
        exact ⟨_, er_, by first | exact Kd.R_nil _ _ _ _ _ | exact Kd.N_nil _ _ _ _ _ | exact Kd.V_nil _ _ _ _ _ | exact Kd.Q_nil _ _ _ _ _ | exact Kd.S_nil _ _ _ _ _, qB HB⟩
       replace c39 := Bool.eq_false_iff.mpr c39
       subst c39
       rw [if_neg (show ¬ (false = true) by decide)] at H
       replace H := ip_ H
       obtain ⟨c43, H, -⟩ := H
       have c43b0 := eq_true c43
       have c43b1 : decide (0 ≤ t401) = true := decide_eq_true c43
       clear c43
       replace H := ip_ H
       obtain ⟨c44, H, -⟩ := H
       have c44b0 := eq_true c44
       have c44b1 : decide (t401 ≤ (wrap64 (t401 + t400))) = true := decide_eq_true c44
       replace H := ip_ H
       obtain ⟨c45, H, -⟩ := H
       have c45b0 := eq_true c45
       have c45b1 : decide ((wrap64 (t401 + t400)) ≤ (l0.length : Int)) = true := decide_eq_true c45
       replace H := bf_ H
       obtain ⟨f_, hf_, ⟨t404, t405, t406, t407, t408, t409, t410, t411, t412, t413, t414, t415, t416, t417, t418, t419, t420⟩, A46, H⟩ := H
       subst hf_
       (try dsimp only at H)
       have HC47 := Aside0.mk H
       clear H
       try go_wp2
       replace HO_382007 := am_ (Kd.R_drew HO_382007.out)
       replace BK373 := am_ (blk_drew BK373.out)
       replace BK381 := am_ (blk_drew BK381.out)
       replace HI374 := am_ (IsS121.drew HI374.out)
       replace HB := am_ (below_drew1 HB.out)
       obtain ⟨i049, hi049, _, hsz49, _⟩ := info_parts info5
       obtain ⟨A49, hcut49, hA49, hC49⟩ := print_mid_of (P := Try.prog) (Value.int .u8) 0 70 5 .i64 .i64 Try.underlying70 hi049 hsz49 A0 c0 l0 t401 (wrap64 (t401 + t400)) od_ (by first | omega | exact od_) od_ HC0.out
       have HR403 := Aside0.mk (Kd.C_of_reads (h1 := fun _ => rfl) (hA49 _ (Kd.reads_of_C HR0.out)))
       have HC403 := Aside0.mk hC49
       clear hA49 hC49 hi049 hsz49
       refine start_ (n := 19) (S := fun w' => w'.cell? ⟨gb374, 1, none⟩ = some (.int .i64 t401) ∧ w'.cell? ⟨gb374, 2, none⟩ = some (.bool t402)) (ds := []) (rl [0,19]) (by kernel_rfl) rfl rfl ⟨(by obtain ⟨_, _, h_, _⟩ := HI374.out; exact cellS121_1 h_), (by obtain ⟨_, _, h_, _⟩ := HI374.out; exact cellS121_2 h_)⟩ (fun hHeld => ?_); refine with_tabW spec_GetCtl.tab14 spec_GetCtl.bits14 (fun HT_ HW_ => ?_)
       generalize wc.drew = w48 at HO_382007 BK373 BK381 HI374 HB HR403 hHeld ⊢
       refine pq_ 0 66 HT_ (rl [1,18]) ?_
       refine pq_ 1 67 HT_ (rl [2,17]) ?_
       refine pq_ 2 68 HT_ (rl [3,16]) ?_
       refine pq_ 3 69 HT_ (rl [4,15]) ?_
       refine pq_ 5 71 HT_ (rl [4,1,1,13]) ?_
       refine pq_ 6 72 HT_ (rl [4,1,2,12]) ?_
       refine pq_ 7 73 HT_ (rl [4,1,3,11]) ?_
       refine pq_ 9 75 HT_ (rl [4,1,3,1,1,9]) ?_
       refine tz_ (i := 4) (N := some 70) HT_ HW_ (rl [8,1,1,9]) rfl rfl hHeld ?_
       refine tz_ (i := 8) (N := some 74) HT_ HW_ (rl [10,9]) rfl rfl hHeld ?_
       refine pq_ 10 76 HT_ (rl [11,8]) ?_
       refine pq_ 11 77 HT_ (rl [12,7]) ?_
       refine join_ (σ := Nat) 2 (rl [17,2]) (fun s_ => [(78, .tuple #[.agg #[.int .i64 t404, .int .i64 t405, .string t406, .int .i64 t407, .int .i64 t408, .int .i64 t409, .string t410, .int .i64 t411, .int .i64 t412, .int .i64 t413, .string t414, .int .i64 t415, .int .i64 t416, .int .i64 t417, .int .i64 t418, .int .i64 t419], .bool t420]), (8, .pointer (some ⟨s_, 0, none⟩)), (65, .tuple #[.agg #[.int .i64 t404, .int .i64 t405, .string t406, .int .i64 t407, .int .i64 t408, .int .i64 t409, .string t410, .int .i64 t411, .int .i64 t412, .int .i64 t413, .string t414, .int .i64 t415, .int .i64 t416, .int .i64 t417, .int .i64 t418, .int .i64 t419], .bool t420]), (79, .agg #[.int .i64 t404, .int .i64 t405, .string t406, .int .i64 t407, .int .i64 t408, .int .i64 t409, .string t410, .int .i64 t411, .int .i64 t412, .int .i64 t413, .string t414, .int .i64 t415, .int .i64 t416, .int .i64 t417, .int .i64 t418, .int .i64 t419]), (80, .bool t420)]) (fun s_ w' => (w'.cell? ⟨gb374, 1, none⟩ = some (.int .i64 t401) ∧ w'.cell? ⟨gb374, 2, none⟩ = some (.bool t402)) ∧ (Kd.R k126 126 w' w.heap.size (fun k_ => k_ ≠ s_) u382007 x382007_1) ∧ (w'.heap[gb373]? = some (.cells #[.int .i64 x374000_1, .int .i64 x374001_1, .int .i64 x374002_1, .int .i64 x374003_1, .int .i64 x374004_1, .bool x374005_1, .int .i64 x374006_1, .slice none 0 0] 63 (0, 0))) ∧ (w'.heap[gb381]? = some (.cells #[.int .i64 t375, .int .i64 t378, .int .i64 t382, .int .i64 t385, .int .i64 t388, .bool (t391 == 1), .int .i64 t394, u382007] 63 (0, 0))) ∧ (w'.heap[s_]? = some (.cells #[.int .i64 0, .int .i64 0, .string (⟨#[]⟩ : ByteArray), .int .i64 0, .int .i64 0, .int .i64 0, .string (⟨#[]⟩ : ByteArray), .int .i64 0, .int .i64 0, .int .i64 0, .string (⟨#[]⟩ : ByteArray), .int .i64 0, .int .i64 0, .int .i64 0, .int .i64 0, .int .i64 0] 126 (0, 0))) ∧ (w.heap.size ≤ s_) ∧ (w.heap.size ≤ s_) ∧ (gb374 ≠ s_) ∧ (s_ ≠ gb374) ∧ (gb373 ≠ s_) ∧ (s_ ≠ gb373) ∧ (gb381 ≠ s_) ∧ (s_ ≠ gb381) ∧ (IsS121 w w' gb374 l0 t401 t402) ∧ (Below w.heap.size w w')) ?_ ?_
       rotate_left
       ·
        intro hCont
        refine two_ (i := 12) (j := 16) (Ni := some 78) (Nj := some 8) (rl [13,6]) (rl [12,4,1,2]) rfl rfl rfl rfl (two_of HT_.out (by kernel_rfl)) (by decide) (by decide) (fun K hK => ?_) (fun K hK => ?_)
        ·
         skip
         refine goes_ Try.func82 (by kernel_rfl) rfl #[.slice A49 ((l0.take ((wrap64 (t401 + t400)) : Int).toNat).drop (t401 : Int).toNat).length (c0 - t401.toNat)] (by rfl) rfl rfl (by (try simp only [List.map_toArray, List.map_cons, List.map_nil]); first | done | (rw [show ((l0.take ((wrap64 (t401 + t400)) : Int).toNat).drop (t401 : Int).toNat).length = ((wrap64 (t401 + t400)).toNat - t401.toNat) from (by rw [List.length_drop, List.length_take]; have h_ : ((wrap64 (t401 + t400)) : Int) ≤ (l0.length : Int) := od_; omega)] <;> rfl) | rfl | (simp only [List.length_drop, List.length_take]; rfl)) ?_
         with_reducible refine (spec_GetItem.calls kj33 _ _ ((l0.take ((wrap64 (t401 + t400)) : Int).toNat).drop (t401 : Int).toNat) t404 t405 t406 t407 t408 t409 t410 t411 t412 t413 t414 t415 t416 t417 t418 t419 t420 _ ?side1 ?side2 A46.out).mono ?_
         (case side1 => exact qC (Kd.C_below HR403.out HB.out))
         (case side2 => exact HC403.out)
         rintro e w50 ⟨rfl, hb⟩
         refine ⟨_, rfl, ?_⟩
         replace HO_382007 := rB_ HO_382007 hb
         replace BK373 := bK_ BK373 hb
         replace BK381 := bK_ BK381 hb
         replace HB := bS_ HB hb
         replace HI374 := am_ (IsS121.below (IsS121.qz HI374) hb)
         (try clear hb)
         refine hK.out _ _ ⟨(by obtain ⟨_, _, h_, _⟩ := HI374.out; exact cellS121_1 h_), (by obtain ⟨_, _, h_, _⟩ := HI374.out; exact cellS121_2 h_)⟩ (fun hHeld => ?_)
         clear hK K
         refine nm_ (some 78) ?_
         refine pq_ 13 65 HT_ (rl [14,5]) ?_
         refine pq_ 14 79 HT_ (rl [15,4]) ?_
         refine pq_ 15 80 HT_ (rl [16,3]) ?_
         refine on_ HT_ (i := 16) (N := some 8) (rl [17,2]) (fun K hK => ?_)
         refine box_step ?hg (N := 8) ?hd (cs := #[.int .i64 0, .int .i64 0, .string (⟨#[]⟩ : ByteArray), .int .i64 0, .int .i64 0, .int .i64 0, .string (⟨#[]⟩ : ByteArray), .int .i64 0, .int .i64 0, .int .i64 0, .string (⟨#[]⟩ : ByteArray), .int .i64 0, .int .i64 0, .int .i64 0, .int .i64 0, .int .i64 0]) (t := 126) ?hr ?_; (case hd => rfl); (case hg => rfl); (case hr => first | (go_simp; done) | (go_simp; rfl))
         intro gb421 hg w51 hbox hb
         replace HO_382007 := am_ (Kd.R_below (Kd.R_elderB (qR HO_382007) gb421 (Nat.le_of_eq hg.symm)) hb)
         have BK421 := am_ (hbox)
         have GW421 := am_ ((by rw [hg]; exact (below_size (qB HB)) : w.heap.size ≤ gb421))
         have IGW421 := gI_ GW421
         have GE421 := am_ ((by rw [hg]; exact (below_size (qB HB)) : w.heap.size ≤ gb421))
         have IGE421 := gI_ GE421
         replace HB := bS_ HB hb
         have NB373_421 := am_ ((gN_ hg (qK BK373)))
         have NB421_373 := am_ ((gM_ hg (qK BK373)))
         replace BK373 := bK_ BK373 hb
         have NB381_421 := am_ ((gN_ hg (qK BK381)))
         have NB421_381 := am_ ((gM_ hg (qK BK381)))
         replace BK381 := bK_ BK381 hb
         have NB374_421 := am_ ((by rw [hg]; exact Nat.ne_of_lt (IsS121.lt (show IsS121 w _ gb374 l0 t401 t402 from IsS121.qz HI374)) : gb374 ≠ gb421))
         have NB421_374 := am_ ((by rw [hg]; exact Nat.ne_of_gt (IsS121.lt (show IsS121 w _ gb374 l0 t401 t402 from IsS121.qz HI374)) : gb421 ≠ gb374))
         replace HI374 := am_ (IsS121.below (IsS121.qz HI374) hb)
         clear hb hbox hg
         refine hK.out _ _ ⟨(by obtain ⟨_, _, h_, _⟩ := HI374.out; exact cellS121_1 h_), (by obtain ⟨_, _, h_, _⟩ := HI374.out; exact cellS121_2 h_)⟩ (fun hHeld => ?_)
         clear hK K
         refine nm_ (some 8) ?_
         exact norm_ (by simp only [putAll, Act.put, List.setIfInBounds_toArray, List.set_cons_zero, List.set_cons_succ]) (hCont (gb421) _ ⟨hHeld, (xR1_ HO_382007), (qK BK373), (qK BK381), (qK BK421), GW421.out, GE421.out, NB374_421.out, NB421_374.out, NB373_421.out, NB421_373.out, NB381_421.out, NB421_381.out, (IsS121.qz HI374), (qB HB)⟩)
        ·
         skip
         refine box_step ?hg (N := 8) ?hd (cs := #[.int .i64 0, .int .i64 0, .string (⟨#[]⟩ : ByteArray), .int .i64 0, .int .i64 0, .int .i64 0, .string (⟨#[]⟩ : ByteArray), .int .i64 0, .int .i64 0, .int .i64 0, .string (⟨#[]⟩ : ByteArray), .int .i64 0, .int .i64 0, .int .i64 0, .int .i64 0, .int .i64 0]) (t := 126) ?hr ?_; (case hd => rfl); (case hg => rfl); (case hr => first | (go_simp; done) | (go_simp; rfl))
         intro gb421 hg w50 hbox hb
         replace HO_382007 := am_ (Kd.R_below (Kd.R_elderB (qR HO_382007) gb421 (Nat.le_of_eq hg.symm)) hb)
         have BK421 := am_ (hbox)
         have GW421 := am_ ((by rw [hg]; exact (below_size (qB HB)) : w.heap.size ≤ gb421))
         have IGW421 := gI_ GW421
         have GE421 := am_ ((by rw [hg]; exact (below_size (qB HB)) : w.heap.size ≤ gb421))
         have IGE421 := gI_ GE421
         replace HB := bS_ HB hb
         have NB373_421 := am_ ((gN_ hg (qK BK373)))
         have NB421_373 := am_ ((gM_ hg (qK BK373)))
         replace BK373 := bK_ BK373 hb
         have NB381_421 := am_ ((gN_ hg (qK BK381)))
         have NB421_381 := am_ ((gM_ hg (qK BK381)))
         replace BK381 := bK_ BK381 hb
         have NB374_421 := am_ ((by rw [hg]; exact Nat.ne_of_lt (IsS121.lt (show IsS121 w _ gb374 l0 t401 t402 from IsS121.qz HI374)) : gb374 ≠ gb421))
         have NB421_374 := am_ ((by rw [hg]; exact Nat.ne_of_gt (IsS121.lt (show IsS121 w _ gb374 l0 t401 t402 from IsS121.qz HI374)) : gb421 ≠ gb374))
         replace HI374 := am_ (IsS121.below (IsS121.qz HI374) hb)
         clear hb hbox hg
         refine hK.out _ _ ⟨(by obtain ⟨_, _, h_, _⟩ := HI374.out; exact cellS121_1 h_), (by obtain ⟨_, _, h_, _⟩ := HI374.out; exact cellS121_2 h_)⟩ (fun hHeld => ?_)
         clear hK K
         refine nm_ (some 8) ?_
         refine on_ HT_ (i := 12) (N := some 78) (rl [13,3,1,2]) (fun K hK => ?_)
         refine goes_ Try.func82 (by kernel_rfl) rfl #[.slice A49 ((l0.take ((wrap64 (t401 + t400)) : Int).toNat).drop (t401 : Int).toNat).length (c0 - t401.toNat)] (by rfl) rfl rfl (by (try simp only [List.map_toArray, List.map_cons, List.map_nil]); first | done | (rw [show ((l0.take ((wrap64 (t401 + t400)) : Int).toNat).drop (t401 : Int).toNat).length = ((wrap64 (t401 + t400)).toNat - t401.toNat) from (by rw [List.length_drop, List.length_take]; have h_ : ((wrap64 (t401 + t400)) : Int) ≤ (l0.length : Int) := od_; omega)] <;> rfl) | rfl | (simp only [List.length_drop, List.length_take]; rfl)) ?_
         with_reducible refine (spec_GetItem.calls kj33 _ _ ((l0.take ((wrap64 (t401 + t400)) : Int).toNat).drop (t401 : Int).toNat) t404 t405 t406 t407 t408 t409 t410 t411 t412 t413 t414 t415 t416 t417 t418 t419 t420 _ ?side1 ?side2 A46.out).mono ?_
         (case side1 => exact qC (Kd.C_below HR403.out HB.out))
         (case side2 => exact HC403.out)
         rintro e w51 ⟨rfl, hb⟩
         refine ⟨_, rfl, ?_⟩
         replace HO_382007 := rB_ HO_382007 hb
         replace BK373 := bK_ BK373 hb
         replace BK381 := bK_ BK381 hb
         replace BK421 := bK_ BK421 hb
         replace HB := bS_ HB hb
         replace HI374 := am_ (IsS121.below (IsS121.qz HI374) hb)
         (try clear hb)
         refine hK.out _ _ ⟨(by obtain ⟨_, _, h_, _⟩ := HI374.out; exact cellS121_1 h_), (by obtain ⟨_, _, h_, _⟩ := HI374.out; exact cellS121_2 h_)⟩ (fun hHeld => ?_)
         clear hK K
         refine nm_ (some 78) ?_
         refine pq_ 13 65 HT_ (rl [14,2,1,2]) ?_
         refine pq_ 14 79 HT_ (rl [15,1,1,2]) ?_
         refine pq_ 15 80 HT_ (rl [17,2]) ?_
         exact norm_ (by simp only [putAll, Act.put, List.setIfInBounds_toArray, List.set_cons_zero, List.set_cons_succ]) (hCont (gb421) _ ⟨hHeld, (xR1_ HO_382007), (qK BK373), (qK BK381), (qK BK421), GW421.out, GE421.out, NB374_421.out, NB421_374.out, NB373_421.out, NB421_373.out, NB381_421.out, NB421_381.out, (IsS121.qz HI374), (qB HB)⟩)
       rintro gb421 w52 ⟨hS_, h0_, h1_, h2_, h3_, h4_, h5_, h6_, h7_, h8_, h9_, h10_, h11_, h12_, h13_⟩
       have n0_ : Aside0 (Kd.R k126 126 w52 w.heap.size (fun k_ => k_ ≠ gb421) u382007 x382007_1) := ⟨h0_⟩
       have n1_ : Aside0 (w52.heap[gb373]? = some (.cells #[.int .i64 x374000_1, .int .i64 x374001_1, .int .i64 x374002_1, .int .i64 x374003_1, .int .i64 x374004_1, .bool x374005_1, .int .i64 x374006_1, .slice none 0 0] 63 (0, 0))) := ⟨h1_⟩
       have n2_ : Aside0 (w52.heap[gb381]? = some (.cells #[.int .i64 t375, .int .i64 t378, .int .i64 t382, .int .i64 t385, .int .i64 t388, .bool (t391 == 1), .int .i64 t394, u382007] 63 (0, 0))) := ⟨h2_⟩
       have n3_ : Aside0 (w52.heap[gb421]? = some (.cells #[.int .i64 0, .int .i64 0, .string (⟨#[]⟩ : ByteArray), .int .i64 0, .int .i64 0, .int .i64 0, .string (⟨#[]⟩ : ByteArray), .int .i64 0, .int .i64 0, .int .i64 0, .string (⟨#[]⟩ : ByteArray), .int .i64 0, .int .i64 0, .int .i64 0, .int .i64 0, .int .i64 0] 126 (0, 0))) := ⟨h3_⟩
       have n4_ : Aside0 (w.heap.size ≤ gb421) := ⟨h4_⟩
       have n5_ : Aside0 (w.heap.size ≤ gb421) := ⟨h5_⟩
       have n6_ : Aside0 (gb374 ≠ gb421) := ⟨h6_⟩
       have n7_ : Aside0 (gb421 ≠ gb374) := ⟨h7_⟩
       have n8_ : Aside0 (gb373 ≠ gb421) := ⟨h8_⟩
       have n9_ : Aside0 (gb421 ≠ gb373) := ⟨h9_⟩
       have n10_ : Aside0 (gb381 ≠ gb421) := ⟨h10_⟩
       have n11_ : Aside0 (gb421 ≠ gb381) := ⟨h11_⟩
       have n12_ : Aside0 (IsS121 w w52 gb374 l0 t401 t402) := ⟨h12_⟩
       have n13_ : Aside0 (Below w.heap.size w w52) := ⟨h13_⟩
       clear HO_382007
       clear BK373
       clear BK381
       clear HI374
       clear HB
       clear h0_ h1_ h2_ h3_ h4_ h5_ h6_ h7_ h8_ h9_ h10_ h11_ h12_ h13_
       have HO_382007 := n0_
       have BK373 := n1_
       have BK381 := n2_
       have BK421 := n3_
       have GW421 := n4_
       have IGW421 := gI_ GW421
       have GE421 := n5_
       have IGE421 := gI_ GE421
       have NB374_421 := n6_
       have NB421_374 := n7_
       have NB373_421 := n8_
       have NB421_373 := n9_
       have NB381_421 := n10_
       have NB421_381 := n11_
       have HI374 := n12_
       have HB := n13_
       clear n0_ n1_ n2_ n3_ n4_ n5_ n6_ n7_ n8_ n9_ n10_ n11_ n12_ n13_
       have hHeld : w52.cell? ⟨gb374, 1, none⟩ = some (.int .i64 t401) ∧ w52.cell? ⟨gb374, 2, none⟩ = some (.bool t402) := hS_
       refine norm_ (a' := ?_) ?_ ?_
       rotate_left
       ·
        simp only [putAll, Act.put, List.setIfInBounds_toArray, List.set_cons_zero, List.set_cons_succ]
        rfl
       refine on_ HT_ (i := 17) (N := none) (rl [18,1]) (fun K hK => ?_)
       have hs53 : w52.cell? ⟨gb421, 0, none⟩ = some (.int .i64 0) := (blk_cell BK421.out 0).trans rfl
       have hfs53 := blk_frozen BK421.out 0
       have hns53_0 := NB373_421.out
       have hns53_1 := NB381_421.out
       have hms53_0 := NB421_373.out
       have hms53_1 := NB421_381.out
       have hs54 : w52.cell? ⟨gb421, 1, none⟩ = some (.int .i64 0) := (blk_cell BK421.out 1).trans rfl
       have hfs54 := blk_frozen BK421.out 1
       have hns54_0 := NB373_421.out
       have hns54_1 := NB381_421.out
       have hms54_0 := NB421_373.out
       have hms54_1 := NB421_381.out
       have hs55 : w52.cell? ⟨gb421, 2, none⟩ = some (.string (⟨#[]⟩ : ByteArray)) := (blk_cell BK421.out 2).trans rfl
       have hfs55 := blk_frozen BK421.out 2
       have hns55_0 := NB373_421.out
       have hns55_1 := NB381_421.out
       have hms55_0 := NB421_373.out
       have hms55_1 := NB421_381.out
       have hs56 : w52.cell? ⟨gb421, 3, none⟩ = some (.int .i64 0) := (blk_cell BK421.out 3).trans rfl
       have hfs56 := blk_frozen BK421.out 3
       have hns56_0 := NB373_421.out
       have hns56_1 := NB381_421.out
       have hms56_0 := NB421_373.out
       have hms56_1 := NB421_381.out
       have hs57 : w52.cell? ⟨gb421, 4, none⟩ = some (.int .i64 0) := (blk_cell BK421.out 4).trans rfl
       have hfs57 := blk_frozen BK421.out 4
       have hns57_0 := NB373_421.out
       have hns57_1 := NB381_421.out
       have hms57_0 := NB421_373.out
       have hms57_1 := NB421_381.out
       have hs58 : w52.cell? ⟨gb421, 5, none⟩ = some (.int .i64 0) := (blk_cell BK421.out 5).trans rfl
       have hfs58 := blk_frozen BK421.out 5
       have hns58_0 := NB373_421.out
       have hns58_1 := NB381_421.out
       have hms58_0 := NB421_373.out
       have hms58_1 := NB421_381.out
       have hs59 : w52.cell? ⟨gb421, 6, none⟩ = some (.string (⟨#[]⟩ : ByteArray)) := (blk_cell BK421.out 6).trans rfl
       have hfs59 := blk_frozen BK421.out 6
       have hns59_0 := NB373_421.out
       have hns59_1 := NB381_421.out
       have hms59_0 := NB421_373.out
       have hms59_1 := NB421_381.out
       have hs60 : w52.cell? ⟨gb421, 7, none⟩ = some (.int .i64 0) := (blk_cell BK421.out 7).trans rfl
       have hfs60 := blk_frozen BK421.out 7
       have hns60_0 := NB373_421.out
       have hns60_1 := NB381_421.out
       have hms60_0 := NB421_373.out
       have hms60_1 := NB421_381.out
       have hs61 : w52.cell? ⟨gb421, 8, none⟩ = some (.int .i64 0) := (blk_cell BK421.out 8).trans rfl
       have hfs61 := blk_frozen BK421.out 8
       have hns61_0 := NB373_421.out
       have hns61_1 := NB381_421.out
       have hms61_0 := NB421_373.out
       have hms61_1 := NB421_381.out
       have hs62 : w52.cell? ⟨gb421, 9, none⟩ = some (.int .i64 0) := (blk_cell BK421.out 9).trans rfl
       have hfs62 := blk_frozen BK421.out 9
       have hns62_0 := NB373_421.out
       have hns62_1 := NB381_421.out
       have hms62_0 := NB421_373.out
       have hms62_1 := NB421_381.out
       have hs63 : w52.cell? ⟨gb421, 10, none⟩ = some (.string (⟨#[]⟩ : ByteArray)) := (blk_cell BK421.out 10).trans rfl
       have hfs63 := blk_frozen BK421.out 10
       have hns63_0 := NB373_421.out
       have hns63_1 := NB381_421.out
       have hms63_0 := NB421_373.out
       have hms63_1 := NB421_381.out
       have hs64 : w52.cell? ⟨gb421, 11, none⟩ = some (.int .i64 0) := (blk_cell BK421.out 11).trans rfl
       have hfs64 := blk_frozen BK421.out 11
       have hns64_0 := NB373_421.out
       have hns64_1 := NB381_421.out
       have hms64_0 := NB421_373.out
       have hms64_1 := NB421_381.out
       have hs65 : w52.cell? ⟨gb421, 12, none⟩ = some (.int .i64 0) := (blk_cell BK421.out 12).trans rfl
       have hfs65 := blk_frozen BK421.out 12
       have hns65_0 := NB373_421.out
       have hns65_1 := NB381_421.out
       have hms65_0 := NB421_373.out
       have hms65_1 := NB421_381.out
       have hs66 : w52.cell? ⟨gb421, 13, none⟩ = some (.int .i64 0) := (blk_cell BK421.out 13).trans rfl
       have hfs66 := blk_frozen BK421.out 13
       have hns66_0 := NB373_421.out
       have hns66_1 := NB381_421.out
       have hms66_0 := NB421_373.out
       have hms66_1 := NB421_381.out
       have hs67 : w52.cell? ⟨gb421, 14, none⟩ = some (.int .i64 0) := (blk_cell BK421.out 14).trans rfl
       have hfs67 := blk_frozen BK421.out 14
       have hns67_0 := NB373_421.out
       have hns67_1 := NB381_421.out
       have hms67_0 := NB421_373.out
       have hms67_1 := NB421_381.out
       have hs68 : w52.cell? ⟨gb421, 15, none⟩ = some (.int .i64 0) := (blk_cell BK421.out 15).trans rfl
       have hfs68 := blk_frozen BK421.out 15
       have hns68_0 := NB373_421.out
       have hns68_1 := NB381_421.out
       have hms68_0 := NB421_373.out
       have hms68_1 := NB421_381.out
       refine skip_ (w1 := ?_) (by rfl) rfl ?_ ?_
       rotate_left
       ·
        go_simp
        rfl
       refine hK.out _ _ ⟨((cell_far (p := ⟨gb421, _, none⟩) (by first | exact NB374_421.out | (rw [add_block]; exact NB374_421.out) | (show (Addr.add _ _).block ≠ _; rw [add_block]; exact NB374_421.out) | (dsimp only; exact NB374_421.out)) _).trans (((cell_far (p := ⟨gb421, _, none⟩) (by first | exact NB374_421.out | (rw [add_block]; exact NB374_421.out) | (show (Addr.add _ _).block ≠ _; rw [add_block]; exact NB374_421.out) | (dsimp only; exact NB374_421.out)) _).trans (((cell_far (p := ⟨gb421, _, none⟩) (by first | exact NB374_421.out | (rw [add_block]; exact NB374_421.out) | (show (Addr.add _ _).block ≠ _; rw [add_block]; exact NB374_421.out) | (dsimp only; exact NB374_421.out)) _).trans (((cell_far (p := ⟨gb421, _, none⟩) (by first | exact NB374_421.out | (rw [add_block]; exact NB374_421.out) | (show (Addr.add _ _).block ≠ _; rw [add_block]; exact NB374_421.out) | (dsimp only; exact NB374_421.out)) _).trans (((cell_far (p := ⟨gb421, _, none⟩) (by first | exact NB374_421.out | (rw [add_block]; exact NB374_421.out) | (show (Addr.add _ _).block ≠ _; rw [add_block]; exact NB374_421.out) | (dsimp only; exact NB374_421.out)) _).trans (((cell_far (p := ⟨gb421, _, none⟩) (by first | exact NB374_421.out | (rw [add_block]; exact NB374_421.out) | (show (Addr.add _ _).block ≠ _; rw [add_block]; exact NB374_421.out) | (dsimp only; exact NB374_421.out)) _).trans (((cell_far (p := ⟨gb421, _, none⟩) (by first | exact NB374_421.out | (rw [add_block]; exact NB374_421.out) | (show (Addr.add _ _).block ≠ _; rw [add_block]; exact NB374_421.out) | (dsimp only; exact NB374_421.out)) _).trans (((cell_far (p := ⟨gb421, _, none⟩) (by first | exact NB374_421.out | (rw [add_block]; exact NB374_421.out) | (show (Addr.add _ _).block ≠ _; rw [add_block]; exact NB374_421.out) | (dsimp only; exact NB374_421.out)) _).trans (((cell_far (p := ⟨gb421, _, none⟩) (by first | exact NB374_421.out | (rw [add_block]; exact NB374_421.out) | (show (Addr.add _ _).block ≠ _; rw [add_block]; exact NB374_421.out) | (dsimp only; exact NB374_421.out)) _).trans (((cell_far (p := ⟨gb421, _, none⟩) (by first | exact NB374_421.out | (rw [add_block]; exact NB374_421.out) | (show (Addr.add _ _).block ≠ _; rw [add_block]; exact NB374_421.out) | (dsimp only; exact NB374_421.out)) _).trans (((cell_far (p := ⟨gb421, _, none⟩) (by first | exact NB374_421.out | (rw [add_block]; exact NB374_421.out) | (show (Addr.add _ _).block ≠ _; rw [add_block]; exact NB374_421.out) | (dsimp only; exact NB374_421.out)) _).trans (((cell_far (p := ⟨gb421, _, none⟩) (by first | exact NB374_421.out | (rw [add_block]; exact NB374_421.out) | (show (Addr.add _ _).block ≠ _; rw [add_block]; exact NB374_421.out) | (dsimp only; exact NB374_421.out)) _).trans (((cell_far (p := ⟨gb421, _, none⟩) (by first | exact NB374_421.out | (rw [add_block]; exact NB374_421.out) | (show (Addr.add _ _).block ≠ _; rw [add_block]; exact NB374_421.out) | (dsimp only; exact NB374_421.out)) _).trans (((cell_far (p := ⟨gb421, _, none⟩) (by first | exact NB374_421.out | (rw [add_block]; exact NB374_421.out) | (show (Addr.add _ _).block ≠ _; rw [add_block]; exact NB374_421.out) | (dsimp only; exact NB374_421.out)) _).trans (((cell_far (p := ⟨gb421, _, none⟩) (by first | exact NB374_421.out | (rw [add_block]; exact NB374_421.out) | (show (Addr.add _ _).block ≠ _; rw [add_block]; exact NB374_421.out) | (dsimp only; exact NB374_421.out)) _).trans (((cell_far (p := ⟨gb421, _, none⟩) (by first | exact NB374_421.out | (rw [add_block]; exact NB374_421.out) | (show (Addr.add _ _).block ≠ _; rw [add_block]; exact NB374_421.out) | (dsimp only; exact NB374_421.out)) _).trans (hHeld.1)))))))))))))))))))))))))))))))), ((cell_far (p := ⟨gb421, _, none⟩) (by first | exact NB374_421.out | (rw [add_block]; exact NB374_421.out) | (show (Addr.add _ _).block ≠ _; rw [add_block]; exact NB374_421.out) | (dsimp only; exact NB374_421.out)) _).trans (((cell_far (p := ⟨gb421, _, none⟩) (by first | exact NB374_421.out | (rw [add_block]; exact NB374_421.out) | (show (Addr.add _ _).block ≠ _; rw [add_block]; exact NB374_421.out) | (dsimp only; exact NB374_421.out)) _).trans (((cell_far (p := ⟨gb421, _, none⟩) (by first | exact NB374_421.out | (rw [add_block]; exact NB374_421.out) | (show (Addr.add _ _).block ≠ _; rw [add_block]; exact NB374_421.out) | (dsimp only; exact NB374_421.out)) _).trans (((cell_far (p := ⟨gb421, _, none⟩) (by first | exact NB374_421.out | (rw [add_block]; exact NB374_421.out) | (show (Addr.add _ _).block ≠ _; rw [add_block]; exact NB374_421.out) | (dsimp only; exact NB374_421.out)) _).trans (((cell_far (p := ⟨gb421, _, none⟩) (by first | exact NB374_421.out | (rw [add_block]; exact NB374_421.out) | (show (Addr.add _ _).block ≠ _; rw [add_block]; exact NB374_421.out) | (dsimp only; exact NB374_421.out)) _).trans (((cell_far (p := ⟨gb421, _, none⟩) (by first | exact NB374_421.out | (rw [add_block]; exact NB374_421.out) | (show (Addr.add _ _).block ≠ _; rw [add_block]; exact NB374_421.out) | (dsimp only; exact NB374_421.out)) _).trans (((cell_far (p := ⟨gb421, _, none⟩) (by first | exact NB374_421.out | (rw [add_block]; exact NB374_421.out) | (show (Addr.add _ _).block ≠ _; rw [add_block]; exact NB374_421.out) | (dsimp only; exact NB374_421.out)) _).trans (((cell_far (p := ⟨gb421, _, none⟩) (by first | exact NB374_421.out | (rw [add_block]; exact NB374_421.out) | (show (Addr.add _ _).block ≠ _; rw [add_block]; exact NB374_421.out) | (dsimp only; exact NB374_421.out)) _).trans (((cell_far (p := ⟨gb421, _, none⟩) (by first | exact NB374_421.out | (rw [add_block]; exact NB374_421.out) | (show (Addr.add _ _).block ≠ _; rw [add_block]; exact NB374_421.out) | (dsimp only; exact NB374_421.out)) _).trans (((cell_far (p := ⟨gb421, _, none⟩) (by first | exact NB374_421.out | (rw [add_block]; exact NB374_421.out) | (show (Addr.add _ _).block ≠ _; rw [add_block]; exact NB374_421.out) | (dsimp only; exact NB374_421.out)) _).trans (((cell_far (p := ⟨gb421, _, none⟩) (by first | exact NB374_421.out | (rw [add_block]; exact NB374_421.out) | (show (Addr.add _ _).block ≠ _; rw [add_block]; exact NB374_421.out) | (dsimp only; exact NB374_421.out)) _).trans (((cell_far (p := ⟨gb421, _, none⟩) (by first | exact NB374_421.out | (rw [add_block]; exact NB374_421.out) | (show (Addr.add _ _).block ≠ _; rw [add_block]; exact NB374_421.out) | (dsimp only; exact NB374_421.out)) _).trans (((cell_far (p := ⟨gb421, _, none⟩) (by first | exact NB374_421.out | (rw [add_block]; exact NB374_421.out) | (show (Addr.add _ _).block ≠ _; rw [add_block]; exact NB374_421.out) | (dsimp only; exact NB374_421.out)) _).trans (((cell_far (p := ⟨gb421, _, none⟩) (by first | exact NB374_421.out | (rw [add_block]; exact NB374_421.out) | (show (Addr.add _ _).block ≠ _; rw [add_block]; exact NB374_421.out) | (dsimp only; exact NB374_421.out)) _).trans (((cell_far (p := ⟨gb421, _, none⟩) (by first | exact NB374_421.out | (rw [add_block]; exact NB374_421.out) | (show (Addr.add _ _).block ≠ _; rw [add_block]; exact NB374_421.out) | (dsimp only; exact NB374_421.out)) _).trans (((cell_far (p := ⟨gb421, _, none⟩) (by first | exact NB374_421.out | (rw [add_block]; exact NB374_421.out) | (show (Addr.add _ _).block ≠ _; rw [add_block]; exact NB374_421.out) | (dsimp only; exact NB374_421.out)) _).trans (hHeld.2))))))))))))))))))))))))))))))))⟩ (fun hHeld => ?_)
       clear hK K
       refine pq_ 18 9 HT_ (rl [19]) ?_
       refine done_ (done_of HT_.out (by kernel_rfl)) ?_
       go_upto_if 82 with (fail)
       have H := HC47.out
       clear HC47
       by_cases c69 : t420 = true
       rotate_left
       ·
        replace c69 := Bool.eq_false_iff.mpr c69
        subst c69
        rw [if_neg (show ¬ (false = true) by decide)] at H
        simp only [Option.some.injEq, Prod.mk.injEq] at H
        obtain ⟨rfl, rfl, rfl, rfl, rfl, rfl, rfl, rfl, rfl⟩ := H
        have hnb82 := NB373_381.out
        have hnc82 := NB381_373.out
        have hnb83 := NB373_421.out
        have hnc83 := NB421_373.out
        have hnb84 := NB373_374.out
        have hnc84 := NB374_373.out
        (try clear zK373)
        have zK373 := cz8 BK373.out
        (try clear fK373)
        have fK373 := fz8 BK373.out
        go_wp2_with (first | ((with_reducible refine gate_store (t := 63) (p := 2) rfl ?_); refine store_event (t := 63) (p := 2) (v := ?vo_w86) (w1 := ((((((((((((((((((((((((w52.setCell ⟨gb421, 0, none⟩ (.int .i64 t404)).setCell ⟨gb421, 1, none⟩ (.int .i64 t405)).setCell ⟨gb421, 2, none⟩ (.string t406)).setCell ⟨gb421, 3, none⟩ (.int .i64 t407)).setCell ⟨gb421, 4, none⟩ (.int .i64 t408)).setCell ⟨gb421, 5, none⟩ (.int .i64 t409)).setCell ⟨gb421, 6, none⟩ (.string t410)).setCell ⟨gb421, 7, none⟩ (.int .i64 t411)).setCell ⟨gb421, 8, none⟩ (.int .i64 t412)).setCell ⟨gb421, 9, none⟩ (.int .i64 t413)).setCell ⟨gb421, 10, none⟩ (.string t414)).setCell ⟨gb421, 11, none⟩ (.int .i64 t415)).setCell ⟨gb421, 12, none⟩ (.int .i64 t416)).setCell ⟨gb421, 13, none⟩ (.int .i64 t417)).setCell ⟨gb421, 14, none⟩ (.int .i64 t418)).setCell ⟨gb421, 15, none⟩ (.int .i64 t419)).setCell ⟨gb373, 0, none⟩ (.int .i64 0)).setCell ⟨gb373, 1, none⟩ (.int .i64 0)).setCell ⟨gb373, 2, none⟩ (.int .i64 0)).setCell ⟨gb373, 3, none⟩ (.int .i64 0)).setCell ⟨gb373, 4, none⟩ (.int .i64 0)).setCell ⟨gb373, 5, none⟩ (.bool false)).setCell ⟨gb373, 6, none⟩ (.int .i64 0)).setCell ⟨gb373, 7, none⟩ (.slice none 0 0))) ?hg ?ho ?hn ?hr ?_; (case ho => rfl); (case hg => rfl); (case hn => rfl); (case hr => first | (go_simp; done) | (go_simp; rfl)); intro w86 hw; have n0_ : Aside0 (Kd.R k126 126 w86 w.heap.size (fun k_ => k_ ≠ gb421) u382007 x382007_1) := ⟨(by rw [hw]; exact (by (with_reducible repeat (first | apply Kd.R_alloc | apply Kd.R_drewN | apply Kd.R_drew)); exact Kd.R_mono (R_far8 (g := gb373) (R_far16 (g := gb421) (Kd.R_types (Kd.R_mono HO_382007.out (fun k_ hk => (⟨hk, hk⟩ : _ ∧ k_ ≠ gb421))) BK373.out (by decide)) (fun _ hk => hk.1.2)) (fun _ hk => hk.2)) (fun _ hk => hk.1.1)))⟩; have n1_ : Aside0 (w86.heap[gb373]? = some (.cells #[.int .i64 0, .int .i64 0, .int .i64 0, .int .i64 0, .int .i64 0, .bool false, .int .i64 0, .slice none 0 0] 63 (0, 0))) := ⟨(by rw [hw]; exact (by exact blk_all8 (blk_far16 (qK BK373) NB373_421.out)))⟩; have n2_ : Aside0 (w86.heap[gb381]? = some (.cells #[.int .i64 t375, .int .i64 t378, .int .i64 t382, .int .i64 t385, .int .i64 t388, .bool (t391 == 1), .int .i64 t394, u382007] 63 (0, 0))) := ⟨(by rw [hw]; exact (by (with_reducible repeat (first | refine blk_drewN ?_ _ | refine blk_drew ?_ | refine blk_alloc ?_ _)); refine blk_far8 ?_ NB381_373.out; (with_reducible repeat (first | refine blk_drewN ?_ _ | refine blk_drew ?_ | refine blk_alloc ?_ _)); refine blk_far16 ?_ NB381_421.out; exact qK BK381))⟩; have n3_ : Aside0 (w86.heap[gb421]? = some (.cells #[.int .i64 t404, .int .i64 t405, .string t406, .int .i64 t407, .int .i64 t408, .int .i64 t409, .string t410, .int .i64 t411, .int .i64 t412, .int .i64 t413, .string t414, .int .i64 t415, .int .i64 t416, .int .i64 t417, .int .i64 t418, .int .i64 t419] 126 (0, 0))) := ⟨(by rw [hw]; exact (by (with_reducible repeat (first | refine blk_drewN ?_ _ | refine blk_drew ?_ | refine blk_alloc ?_ _)); refine blk_far8 ?_ NB421_373.out; (with_reducible repeat (first | refine blk_drewN ?_ _ | refine blk_drew ?_ | refine blk_alloc ?_ _)); refine blk_all16 (show _ = some (Go.Obj.cells #[.int .i64 0, .int .i64 0, .string (⟨#[]⟩ : ByteArray), .int .i64 0, .int .i64 0, .int .i64 0, .string (⟨#[]⟩ : ByteArray), .int .i64 0, .int .i64 0, .int .i64 0, .string (⟨#[]⟩ : ByteArray), .int .i64 0, .int .i64 0, .int .i64 0, .int .i64 0, .int .i64 0] _ (0, 0)) from ?_); exact qK BK421))⟩; have n4_ : Aside0 (IsS121 w w86 gb374 l0 t401 t402) := ⟨(by rw [hw]; exact (IsS121.qz HI374))⟩; have n5_ : Aside0 (Below w.heap.size w w86) := ⟨(by rw [hw]; exact (qB HB))⟩; clear hw; clear HO_382007; clear BK373; clear BK381; clear BK421; clear HI374; clear HB; have HO_382007 := n0_; have BK373 := n1_; have BK381 := n2_; have BK421 := n3_; have HI374 := n4_; have HB := n5_; clear n0_ n1_ n2_ n3_ n4_ n5_))
        refine bodyPost_ret (results_ct rfl _ _ gb373 63 #[.int .i64 0, .int .i64 0, .int .i64 0, .int .i64 0, .int .i64 0, .bool false, .int .i64 0, .slice none 0 0] (0, 0) _ rfl (qK BK373) Try.underlying63 rfl (by kernel_rfl)) rfl ?_
        exact ⟨_, er_, by first | exact Kd.R_nil _ _ _ _ _ | exact Kd.N_nil _ _ _ _ _ | exact Kd.V_nil _ _ _ _ _ | exact Kd.Q_nil _ _ _ _ _ | exact Kd.S_nil _ _ _ _ _, qB HB⟩
       subst c69
       rw [if_pos rfl] at H
       replace H := ip_ H
       obtain ⟨c70, H, -⟩ := H
       have LMc70 := Aside0.mk c70
       clear c70
       obtain ⟨y422, hy422⟩ : ∃ y_ : List (S126), y_ = (x382007_1 ++ [(⟨t404, (⟨t405, t406, t407, t408, t409, t410, t411, t412⟩ : S90), (⟨t413, t414, t415, t416, t417, t418, t419⟩ : S124)⟩ : S126)]) := ⟨_, rfl⟩
       rw [← hy422] at H
       have Ny422 := Aside0.mk hy422
       clear hy422
       have H' := Aside0.mk H
       clear H
       have hnb71 := NB381_373.out
       have hnc71 := NB373_381.out
       have hnb72 := NB381_421.out
       have hnc72 := NB421_381.out
       have hnb73 := NB381_374.out
       have hnc73 := NB374_381.out
       (try clear zK381)
       have zK381 := cz8 BK381.out
       (try clear fK381)
       have fK381 := fz8 BK381.out
       have hnb75 := NB421_373.out
       have hnc75 := NB373_421.out
       have hnb76 := NB421_374.out
       have hnc76 := NB374_421.out
       (try clear zK421)
       have zK421 := cz16 BK421.out
       (try clear fK421)
       have fK421 := fz16 BK421.out
       go_wp2_with (first | ((with_reducible refine gate_builtin (b := .append) (xs := #[.tmp 85, .tmp 87]) rfl ?_); (try (refine gate_guard (by rfl) ?_; dsimp only)); at_builtin; refine Kd.R_append k126 (w0 := w) w.heap.size rfl (.tmp 85) (.tmp 87) 61 126 (.agg #[(.int .i64 0), (.int .i64 0), (.string ⟨#[]⟩), (.int .i64 0), (.int .i64 0), (.int .i64 0), (.string ⟨#[]⟩), (.int .i64 0), (.int .i64 0), (.int .i64 0), (.string ⟨#[]⟩), (.int .i64 0), (.int .i64 0), (.int .i64 0), (.int .i64 0), (.int .i64 0)]) 152 rfl Try.underlying61 info126 rfl (by decide) (by omega) u382007 x382007_1 (⟨t404, (⟨t405, t406, t407, t408, t409, t410, t411, t412⟩ : S90), (⟨t413, t414, t415, t416, t417, t418, t419⟩ : S124)⟩ : S126) [.int .i64 t404, .int .i64 t405, .string t406, .int .i64 t407, .int .i64 t408, .int .i64 t409, .string t410, .int .i64 t411, .int .i64 t412, .int .i64 t413, .string t414, .int .i64 t415, .int .i64 t416, .int .i64 t417, .int .i64 t418, .int .i64 t419] (fun k_ => k_ ≠ gb421) (fun _ => False) rfl (by first | (go_simp; done) | (go_simp; rfl)) ?aP (fun _ hk => hk.elim) ?aF ?aO ?aB ?aS ?aL ?_; (case aP => exact k126_mkM _ _ _ (⟨t404, (⟨t405, t406, t407, t408, t409, t410, t411, t412⟩ : S90), (⟨t413, t414, t415, t416, t417, t418, t419⟩ : S124)⟩ : S126)); (case aB => exact (qB HB)); (case aF => exact (fun k_ hk => Kd.freshB (g := gb421) (o := .cells #[.int .i64 t404, .int .i64 t405, .string t406, .int .i64 t407, .int .i64 t408, .int .i64 t409, .string t410, .int .i64 t411, .int .i64 t412, .int .i64 t413, .string t414, .int .i64 t415, .int .i64 t416, .int .i64 t417, .int .i64 t418, .int .i64 t419] 126 (0, 0)) (by exact blk_all16 (qK BK421)) k_ hk)); (case aO => exact (gR1_ (g := gb421) HO_382007)); (case aS => exact (below_size (qB HB))); (case aL => have := LMc70.out; omega); intro v423 w78 ho hb hg hat; rw [← Ny422.out] at ho; replace BK373 := am_ (blk_grown (g := gb373) (o := .cells #[.int .i64 x374000_1, .int .i64 x374001_1, .int .i64 x374002_1, .int .i64 x374003_1, .int .i64 x374004_1, .bool x374005_1, .int .i64 x374006_1, .slice none 0 0] 63 (0, 0)) (by (with_reducible repeat (first | refine blk_drewN ?_ _ | refine blk_drew ?_ | refine blk_alloc ?_ _)); refine blk_far16 ?_ NB373_421.out; exact qK BK373) hg (Kd.R_ne HO_382007.out BK373.out (by decide))); replace BK381 := am_ (blk_grown (g := gb381) (o := .cells #[.int .i64 t375, .int .i64 t378, .int .i64 t382, .int .i64 t385, .int .i64 t388, .bool (t391 == 1), .int .i64 t394, u382007] 63 (0, 0)) (by (with_reducible repeat (first | refine blk_drewN ?_ _ | refine blk_drew ?_ | refine blk_alloc ?_ _)); refine blk_far16 ?_ NB381_421.out; exact qK BK381) hg (Kd.R_ne HO_382007.out BK381.out (by decide))); replace HI374 := am_ (IsS121.grown (IsS121.qz HI374) hg (IsS121.own_ne HI374.out HO_382007.out (by decide))); replace BK421 := am_ (blk_grown (g := gb421) (o := .cells #[.int .i64 t404, .int .i64 t405, .string t406, .int .i64 t407, .int .i64 t408, .int .i64 t409, .string t410, .int .i64 t411, .int .i64 t412, .int .i64 t413, .string t414, .int .i64 t415, .int .i64 t416, .int .i64 t417, .int .i64 t418, .int .i64 t419] 126 (0, 0)) (by exact blk_all16 (qK BK421)) hg (Kd.R_away HO_382007.out (fun _ hk => hk))); replace HB := am_ (hb); have HO424 := am_ (ho); clear HO_382007; clear ho hb hg hat; obtain ⟨Ao79, co79, eo79⟩ := Kd.R_slice HO424.out; subst eo79; (try clear zK381); have zK381 := cz8 BK381.out; (try clear fK381); have fK381 := fz8 BK381.out; obtain ⟨ASz81_0, cSz81_0, HGz81, hgz81, HSz81_0⟩ := HI374.out; obtain ⟨HSz81_0, HQz81_0⟩ := HSz81_0; have z81_0 := cellS121_0 HGz81; have z81_1 := cellS121_1 HGz81; have z81_2 := cellS121_2 HGz81; have f81_1 := blk_frozen HGz81 1; have f81_2 := blk_frozen HGz81 2; clear HGz81 hgz81))
       go_roundg kj33
       case measure => have := HK1.out; have := HJ28.out; have := HJ33.out; omega
       case rel => exact ⟨(wrap64 (x6_1 - 1)), (x374000_1), (x374001_1), (x374002_1), (x374003_1), (x374004_1), (x374005_1), (x374006_1), (wrap64 (t401 + t400)), (t402), (y422), (.slice Ao79 y422.length co79), eqq_, H', ⟨by have := HK1.out; have := HJ28.out; have := HJ33.out; omega⟩, ⟨by (with_reducible repeat (first | apply Kd.R_alloc | apply Kd.R_drewN | apply Kd.R_drew)); exact Kd.R_mono (Kd.R_far (p := ⟨gb374, 1, none⟩) (Kd.R_far (p := ⟨gb381, 7, none⟩) (IsS121.apart HI374.out (Kd.R_types HO424.out BK381.out (by decide)) (by decide)) (fun _ hk => hk.1.2) (.slice Ao79 y422.length co79)) (fun _ hk => hk.2) (.int .i64 (wrap64 (t401 + t400)))) (fun _ hk => trivial)⟩, ⟨by (with_reducible repeat (first | refine blk_drewN ?_ _ | refine blk_drew ?_ | refine blk_alloc ?_ _)); refine blk_far ?_ NB373_374.out _; (with_reducible repeat (first | refine blk_drewN ?_ _ | refine blk_drew ?_ | refine blk_alloc ?_ _)); refine blk_far ?_ NB373_381.out _; exact qK BK373⟩, ⟨by (with_reducible repeat (first | refine blk_drewN ?_ _ | refine blk_drew ?_ | refine blk_alloc ?_ _)); refine blk_far ?_ NB381_374.out _; (with_reducible repeat (first | refine blk_drewN ?_ _ | refine blk_drew ?_ | refine blk_alloc ?_ _)); refine blk_put (cs := #[.int .i64 t375, .int .i64 t378, .int .i64 t382, .int .i64 t385, .int .i64 t388, .bool (t391 == 1), .int .i64 t394, u382007]) ?_ 7 _ rfl; exact qK BK381⟩, ⟨IsS121.qz HI374⟩, ⟨qB HB⟩⟩

end Go.Proofs.Ytiffahfpfgnjnab.PFnExactGetCtl
