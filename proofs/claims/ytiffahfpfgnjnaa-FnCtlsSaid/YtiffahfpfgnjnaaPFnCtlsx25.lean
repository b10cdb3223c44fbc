-- Written by a program of this session (myprint.py, over the kit's print): contracts of FnCtls
import Derived.Test.YtiffahfpfgnjnaaPFnCtlsx19
import Derived.Test.YtiffahfpfgnjnaaPFnCtlsx24
namespace Go.Proofs.Ytiffahfpfgnjnaa.PFnCtls
open Go.RowKit Go.Proofs.YtiffahfpfgnjnaaW.PrintWords Go.Proofs.YtiffahfpfgnjnaaW.PrintLast Go.Proofs.YtiffahfpfgnjnaaW.PrintMore Go.Proofs.YtiffahfpfgnjnaaV
attribute [local go_sem] max2_int min2_int max_two min_two max_three min_three max_four min_four
set_option linter.unusedVariables false
set_option linter.unusedSimpArgs false

/-! ### spec_GetCtl: function 55 -/
mutual
def spec_GetCtl.l0 : Nat → List Int → Int → List Int → Int → Bool → Int → Int → Int → Int → Int → Bool → Int → List (S29) → Option (Int × Int × Int × Int × Int × Bool × Int × (List (S29)) × Bool)
 | 0, _, _, _, _, _, _, _, _, _, _, _, _, _ => none
 | k + 1, x0, x6, x1017000, x1017001, x1017002, x1024000, x1024001, x1024002, x1024003, x1024004, x1024005, x1024006, x1024007 => if x6 > 0 then (spec_GetCtl.j1 k x0 x6 (!x1017002) x1017000 x1017001 x1017002 x1024000 x1024001 x1024002 x1024003 x1024004 x1024005 x1024006 x1024007) else (spec_GetCtl.j1 k x0 x6 false x1017000 x1017001 x1017002 x1024000 x1024001 x1024002 x1024003 x1024004 x1024005 x1024006 x1024007)
def spec_GetCtl.j1 : Nat → List Int → Int → Bool → List Int → Int → Bool → Int → Int → Int → Int → Int → Bool → Int → List (S29) → Option (Int × Int × Int × Int × Int × Bool × Int × (List (S29)) × Bool)
 | 0, _, _, _, _, _, _, _, _, _, _, _, _, _, _ => none
 | k + 1, x0, x6, x44, x1017000, x1017001, x1017002, x1024000, x1024001, x1024002, x1024003, x1024004, x1024005, x1024006, x1024007 => if x44 = true then ((spec_l9Byte.f x1017000 x1017001 x1017002).bind fun bt1042 => (if bt1042.2.2 = true then (spec_GetCtl.j2 k x0 x6 bt1042.1 true x1017000 bt1042.2.1 bt1042.2.2 x1024000 x1024001 x1024002 x1024003 x1024004 x1024005 x1024006 x1024007) else (spec_GetCtl.j2 k x0 x6 bt1042.1 (decide (bt1042.1 > (wrap64 ((x0.length : Int) - bt1042.2.1)))) x1017000 bt1042.2.1 bt1042.2.2 x1024000 x1024001 x1024002 x1024003 x1024004 x1024005 x1024006 x1024007))) else (if x1017002 = true then (some (0, 0, 0, 0, 0, false, 0, ([] : List (S29)), false)) else ((spec_CtlOk.f k x1024000 x1024001 x1024002 x1024003 x1024004 x1024005 x1024006 x1024007).bind fun t1067 => (if t1067 = true then ((spec_PutCtl.f k x1024000 x1024001 x1024002 x1024003 x1024004 x1024005 x1024006 x1024007).bind fun t1068 => ((spec_l1Same.f t1068 x0).bind fun t1071 => (if t1071 = true then (some (x1024000, x1024001, x1024002, x1024003, x1024004, x1024005, x1024006, x1024007, true)) else (some (0, 0, 0, 0, 0, false, 0, ([] : List (S29)), false))))) else (some (0, 0, 0, 0, 0, false, 0, ([] : List (S29)), false)))))
def spec_GetCtl.j2 : Nat → List Int → Int → Int → Bool → List Int → Int → Bool → Int → Int → Int → Int → Int → Bool → Int → List (S29) → Option (Int × Int × Int × Int × Int × Bool × Int × (List (S29)) × Bool)
 | 0, _, _, _, _, _, _, _, _, _, _, _, _, _, _, _ => none
 | k + 1, x0, x6, x7, x63, x1017000, x1017001, x1017002, x1024000, x1024001, x1024002, x1024003, x1024004, x1024005, x1024006, x1024007 => if x63 = true then (some (0, 0, 0, 0, 0, false, 0, ([] : List (S29)), false)) else (if 0 ≤ x1017001 then (if x1017001 ≤ (wrap64 (x1017001 + x7)) then (if (wrap64 (x1017001 + x7)) ≤ (x0.length : Int) then ((spec_GetItem.f k ((x0.take ((wrap64 (x1017001 + x7)) : Int).toNat).drop (x1017001 : Int).toNat)).bind fun bt1046 => (if bt1046.2.2.2.2.2.2.2.2.2.2.2.2.2.2.2.2 = true then (if x1024007.length < 925904528653 then (spec_GetCtl.l0 k x0 (wrap64 (x6 - 1)) x1017000 (wrap64 (x1017001 + x7)) x1017002 x1024000 x1024001 x1024002 x1024003 x1024004 x1024005 x1024006 (x1024007 ++ [(⟨bt1046.1, (⟨bt1046.2.1, bt1046.2.2.1, bt1046.2.2.2.1, bt1046.2.2.2.2.1, bt1046.2.2.2.2.2.1, bt1046.2.2.2.2.2.2.1, bt1046.2.2.2.2.2.2.2.1, bt1046.2.2.2.2.2.2.2.2.1⟩ : S25), (⟨bt1046.2.2.2.2.2.2.2.2.2.1, bt1046.2.2.2.2.2.2.2.2.2.2.1, bt1046.2.2.2.2.2.2.2.2.2.2.2.1, bt1046.2.2.2.2.2.2.2.2.2.2.2.2.1, bt1046.2.2.2.2.2.2.2.2.2.2.2.2.2.1, bt1046.2.2.2.2.2.2.2.2.2.2.2.2.2.2.1, bt1046.2.2.2.2.2.2.2.2.2.2.2.2.2.2.2.1⟩ : S27)⟩ : S29)])) else (none)) else (some (0, 0, 0, 0, 0, false, 0, ([] : List (S29)), false)))) else (none)) else (none)) else (none))
end
def spec_GetCtl.f (k : Nat) (l0 : List Int) : Option (Int × Int × Int × Int × Int × Bool × Int × (List (S29)) × Bool) := (spec_l9Byte.f l0 0 false).bind fun bt1017 => ((spec_l9Byte.f l0 bt1017.2.1 bt1017.2.2).bind fun bt1020 => ((spec_l9Word.f l0 bt1020.2.1 bt1020.2.2).bind fun bt1024 => ((spec_l9Byte.f l0 bt1024.2.1 bt1024.2.2).bind fun bt1027 => ((spec_l9Byte.f l0 bt1027.2.1 bt1027.2.2).bind fun bt1030 => ((spec_l9Byte.f l0 bt1030.2.1 bt1030.2.2).bind fun bt1033 => ((spec_l9Word.f l0 bt1033.2.1 bt1033.2.2).bind fun bt1036 => ((spec_l9Byte.f l0 bt1036.2.1 bt1036.2.2).bind fun bt1039 => (spec_GetCtl.l0 k l0 bt1039.1 l0 bt1039.2.1 bt1039.2.2 bt1017.1 bt1020.1 bt1024.1 bt1027.1 bt1030.1 (bt1033.1 == 1) bt1036.1 ([] : List (S29))))))))))
theorem spec_GetCtl.mono_l : ∀ k, (∀ y0 y1 y2 y3 y4 y5 y6 y7 y8 y9 y10 y11 y12, LeO (spec_GetCtl.l0 k y0 y1 y2 y3 y4 y5 y6 y7 y8 y9 y10 y11 y12) (spec_GetCtl.l0 (k + 1) y0 y1 y2 y3 y4 y5 y6 y7 y8 y9 y10 y11 y12)) ∧ (∀ y0 y1 y2 y3 y4 y5 y6 y7 y8 y9 y10 y11 y12 y13, LeO (spec_GetCtl.j1 k y0 y1 y2 y3 y4 y5 y6 y7 y8 y9 y10 y11 y12 y13) (spec_GetCtl.j1 (k + 1) y0 y1 y2 y3 y4 y5 y6 y7 y8 y9 y10 y11 y12 y13)) ∧ (∀ y0 y1 y2 y3 y4 y5 y6 y7 y8 y9 y10 y11 y12 y13 y14, LeO (spec_GetCtl.j2 k y0 y1 y2 y3 y4 y5 y6 y7 y8 y9 y10 y11 y12 y13 y14) (spec_GetCtl.j2 (k + 1) y0 y1 y2 y3 y4 y5 y6 y7 y8 y9 y10 y11 y12 y13 y14))
 | 0 => ⟨fun _ _ _ _ _ _ _ _ _ _ _ _ _ r h => by simp [spec_GetCtl.l0] at h, fun _ _ _ _ _ _ _ _ _ _ _ _ _ _ r h => by simp [spec_GetCtl.j1] at h, fun _ _ _ _ _ _ _ _ _ _ _ _ _ _ _ r h => by simp [spec_GetCtl.j2] at h⟩
 | k + 1 => by
  obtain ⟨ih0, ih1, ih2⟩ := spec_GetCtl.mono_l k
  refine ⟨?_, ?_, ?_⟩
  ·
   intro y0 y1 y2 y3 y4 y5 y6 y7 y8 y9 y10 y11 y12
   unfold spec_GetCtl.l0
   have m0 := @spec_CtlOk.mono; have m1 := @spec_GetItem.mono; have m2 := @spec_PutCtl.mono; exact mo_
  ·
   intro y0 y1 y2 y3 y4 y5 y6 y7 y8 y9 y10 y11 y12 y13
   unfold spec_GetCtl.j1
   have m0 := @spec_CtlOk.mono; have m1 := @spec_GetItem.mono; have m2 := @spec_PutCtl.mono; exact mo_
  ·
   intro y0 y1 y2 y3 y4 y5 y6 y7 y8 y9 y10 y11 y12 y13 y14
   unfold spec_GetCtl.j2
   have m0 := @spec_CtlOk.mono; have m1 := @spec_GetItem.mono; have m2 := @spec_PutCtl.mono; exact mo_
theorem spec_GetCtl.mono : ∀ a0 k, LeO (spec_GetCtl.f k a0) (spec_GetCtl.f (k + 1) a0) := by
 intro a0 k
 obtain ⟨ih0, ih1, ih2⟩ := spec_GetCtl.mono_l k
 unfold spec_GetCtl.f
 have m0 := @spec_CtlOk.mono; have m1 := @spec_GetItem.mono; have m2 := @spec_PutCtl.mono; exact mo_
def spec_GetCtl.T14 : Bool × List (List Nat × List Nat) := (true, [([], []), ([], []), ([1], [1]), ([2], [2]), ([3], [3]), ([], []), ([5], [5]), ([6], [6]), ([7], [7]), ([], []), ([8, 9], [8, 9]), ([0, 4, 10], [0, 4, 10]), ([11], [11]), ([12], [12]), ([13], [13]), ([13], [13]), ([], []), ([16, 14, 12, 0, 1, 2, 3, 4, 5, 6, 7, 8, 9, 10, 11, 12, 13, 14, 16], [14, 16]), ([15, 17, 0, 1, 2, 3, 4, 5, 6, 7, 8, 9, 10, 11, 12, 13, 14, 15, 16, 17], [15])])
def spec_GetCtl.B14 : List Nat := [0, 0, 2, 6, 14, 0, 32, 96, 224, 0, 992, 2047, 4095, 8191, 16383, 16383, 0, 98303, 262143]
theorem spec_GetCtl.tab14 : rtab .any (opsOf Try.f55 14) = spec_GetCtl.T14 := by kernel_rfl
theorem spec_GetCtl.bits14 : waitsOk spec_GetCtl.T14.2 spec_GetCtl.B14 = true := by kernel_rfl
set_option maxHeartbeats 8000000 in
set_option maxRecDepth 100000 in
theorem spec_GetCtl.calls (k : Nat) (A0 : Option Addr) (c0 : Nat) (l0 : List Int) (r1 : Int) (r2 : Int) (r3 : Int) (r4 : Int) (r5 : Int) (r6 : Bool) (r7 : Int) (r8 : List (S29)) (r9 : Bool) (w : World) (hr0 : Kd.C (Kd.int .u8) w A0 l0.length l0) (hc0 : l0.length ≤ c0) (h : spec_GetCtl.f k l0 = some (r1, r2, r3, r4, r5, r6, r7, r8, r9)) :
  Calls Try.prog 55 #[.slice A0 l0.length c0] w fun e w' => ∃ v7_ : Value, e = .returned (.tuple #[.agg #[.int .i64 r1, .int .i64 r2, .int .i64 r3, .int .i64 r4, .int .i64 r5, .bool r6, .int .i64 r7, v7_], .bool r9]) ∧ Kd.R k29 29 w' w.heap.size (fun _ => True) v7_ r8 ∧ Below w.heap.size w w' := by
 have hu75 := Try.underlying75
 have hu106 := Try.underlying106
 have hu29 := Try.underlying29
 have HR0 := am_ hr0
 have HC0 := am_ hc0
 clear hr0 hc0
 have HB := Aside0.mk (Below.refl w.heap.size w)
 have H := h
 unfold spec_GetCtl.f at H
 clear h
 replace H := bf_ H
 obtain ⟨f_, hf_, ⟨t1017, t1018, t1019⟩, A2, H⟩ := H
 subst hf_
 (try dsimp only at H)
 replace H := bf_ H
 obtain ⟨f_, hf_, ⟨t1020, t1021, t1022⟩, A3, H⟩ := H
 subst hf_
 (try dsimp only at H)
 replace H := bf_ H
 obtain ⟨f_, hf_, ⟨t1024, t1025, t1026⟩, A4, H⟩ := H
 subst hf_
 (try dsimp only at H)
 replace H := bf_ H
 obtain ⟨f_, hf_, ⟨t1027, t1028, t1029⟩, A5, H⟩ := H
 subst hf_
 (try dsimp only at H)
 replace H := bf_ H
 obtain ⟨f_, hf_, ⟨t1030, t1031, t1032⟩, A6, H⟩ := H
 subst hf_
 (try dsimp only at H)
 replace H := bf_ H
 obtain ⟨f_, hf_, ⟨t1033, t1034, t1035⟩, A7, H⟩ := H
 subst hf_
 (try dsimp only at H)
 replace H := bf_ H
 obtain ⟨f_, hf_, ⟨t1036, t1037, t1038⟩, A8, H⟩ := H
 subst hf_
 (try dsimp only at H)
 replace H := bf_ H
 obtain ⟨f_, hf_, ⟨t1039, t1040, t1041⟩, A9, H⟩ := H
 subst hf_
 (try dsimp only at H)
 have H' := Aside0.mk H
 clear H
 go_enter Try.func55, Try.ntmps55
 go_wp2_with (first | (refine gd_ 2 rfl ?_; (try (refine gate_guard (by rfl) ?_; dsimp only)); refine bx_ (N := 2) (cs := #[.int .i64 0, .int .i64 0, .int .i64 0, .int .i64 0, .int .i64 0, .bool false, .int .i64 0, .slice none 0 0]) (t := 75) ?_; intro gb1015 hg w10 hbox hb; have BK1015 := am_ (hbox); have GW1015 := gA_ hg HB; have GE1015 := GW1015; have IGE1015 := gI_ GE1015; replace HB := bS_ HB hb; clear hb hbox hg) | (refine gd_ 12 rfl ?_; (try (refine gate_guard (by rfl) ?_; dsimp only)); refine bx_ (N := 12) (cs := #[.slice A0 l0.length c0, .int .i64 0, .bool false]) (t := 106) ?_; intro gb1016 hg w11 hbox hb; have BK1016 := am_ (hbox); have GW1016 := gA_ hg HB; have GE1016 := GW1016; have IGE1016 := gI_ GE1016; replace HB := bS_ HB hb; have NB1015_1016 := am_ ((gN_ hg (qK BK1015))); have NB1016_1015 := am_ ((gM_ hg (qK BK1015))); replace BK1015 := bK_ BK1015 hb; clear hb hbox hg; have HI1016 := Aside0.mk (show IsS106 w _ gb1016 l0 0 false from ⟨_, _, BK1016.out, GE1016.out, ⟨HR0.out, HC0.out⟩⟩); have IGHI1016 := iG_ HI1016.out.ge) | (refine gc_ 75 rfl ?_; refine gl_ (some 14) Try.func75 #[.pointer (some ⟨gb1016, 0, none⟩)] ?_; (with_reducible refine (spec_l9Byte.calls gb1016 l0 0 false t1017 t1018 t1019 w _ (IsS106.qz HI1016) (qB HB) A2.out).mono ?_); rintro e w12 ⟨rfl, hi, hb, hk⟩; refine ⟨_, rfl, ?_⟩; replace BK1015 := kB_ BK1015 hk NB1015_1016; replace HB := am_ (hb); replace HI1016 := am_ (hi); (try clear hb); (try clear hk); (try clear hi)) | (refine gc_ 75 rfl ?_; refine gl_ (some 16) Try.func75 #[.pointer (some ⟨gb1016, 0, none⟩)] ?_; (with_reducible refine (spec_l9Byte.calls gb1016 l0 t1018 t1019 t1020 t1021 t1022 w _ (IsS106.qz HI1016) (qB HB) A3.out).mono ?_); rintro e w13 ⟨rfl, hi, hb, hk⟩; refine ⟨_, rfl, ?_⟩; replace BK1015 := kB_ BK1015 hk NB1015_1016; replace HB := am_ (hb); replace HI1016 := am_ (hi); (try clear hb); (try clear hk); (try clear hi)) | (refine gd_ 5 rfl ?_; (try (refine gate_guard (by rfl) ?_; dsimp only)); refine bx_ (N := 5) (cs := #[.int .i64 0, .int .i64 0, .int .i64 0, .int .i64 0, .int .i64 0, .bool false, .int .i64 0, .slice none 0 0]) (t := 75) ?_; intro gb1023 hg w14 hbox hb; have BK1023 := am_ (hbox); have GW1023 := am_ ((by rw [hg]; exact (below_size (qB HB)) : w.heap.size ≤ gb1023)); have IGW1023 := gI_ GW1023; have GE1023 := am_ ((by rw [hg]; exact (below_size (qB HB)) : w.heap.size ≤ gb1023)); have IGE1023 := gI_ GE1023; replace HB := bS_ HB hb; have NB1015_1023 := am_ ((gN_ hg (qK BK1015))); have NB1023_1015 := am_ ((gM_ hg (qK BK1015))); replace BK1015 := bK_ BK1015 hb; have NB1016_1023 := am_ ((by rw [hg]; exact Nat.ne_of_lt (IsS106.lt (show IsS106 w _ gb1016 l0 t1021 t1022 from IsS106.qz HI1016)) : gb1016 ≠ gb1023)); have NB1023_1016 := am_ ((by rw [hg]; exact Nat.ne_of_gt (IsS106.lt (show IsS106 w _ gb1016 l0 t1021 t1022 from IsS106.qz HI1016)) : gb1023 ≠ gb1016)); replace HI1016 := am_ (IsS106.below (IsS106.qz HI1016) hb); clear hb hbox hg; have hnb15 := nx_ NB1023_1015; have hnb16 := nx_ NB1023_1016; (try clear zK1023); have zK1023 := cf8 BK1023.out) | (refine gc_ 76 rfl ?_; refine gl_ (some 19) Try.func76 #[.pointer (some ⟨gb1016, 0, none⟩)] ?_; (with_reducible refine (spec_l9Word.calls gb1016 l0 t1021 t1022 t1024 t1025 t1026 w _ (IsS106.qz HI1016) (qB HB) A4.out).mono ?_); rintro e w18 ⟨rfl, hi, hb, hk⟩; refine ⟨_, rfl, ?_⟩; replace BK1015 := fk_ BK1015 hk NB1015_1016; replace BK1023 := am_ (KeepBut.blk hk (blk_all8 (qK BK1023)) NB1023_1016.out (by simp)); replace HB := am_ (hb); replace HI1016 := am_ (hi); (try clear hb); (try clear hk); (try clear hi); (try clear zK1023); have zK1023 := cf8 BK1023.out) | (refine gc_ 75 rfl ?_; refine gl_ (some 22) Try.func75 #[.pointer (some ⟨gb1016, 0, none⟩)] ?_; (with_reducible refine (spec_l9Byte.calls gb1016 l0 t1025 t1026 t1027 t1028 t1029 w _ (IsS106.qz HI1016) (qB HB) A5.out).mono ?_); rintro e w20 ⟨rfl, hi, hb, hk⟩; refine ⟨_, rfl, ?_⟩; replace BK1015 := fk_ BK1015 hk NB1015_1016; replace BK1023 := am_ (KeepBut.blk hk (g' := gb1023) (o := .cells #[.int .i64 t1017, .int .i64 t1020, .int .i64 t1024, .int .i64 0, .int .i64 0, .bool false, .int .i64 0, .slice none 0 0] 75 (0, 0)) (by (with_reducible repeat (first | refine blk_drewN ?_ _ | refine blk_drew ?_ | refine blk_alloc ?_ _)); refine blk_put (cs := #[.int .i64 t1017, .int .i64 t1020, .int .i64 0, .int .i64 0, .int .i64 0, .bool false, .int .i64 0, .slice none 0 0]) ?_ 2 _ rfl; exact qK BK1023) NB1023_1016.out (by simp)); replace HB := am_ (hb); replace HI1016 := am_ (hi); (try clear hb); (try clear hk); (try clear hi); (try clear zK1023); have zK1023 := cf8 BK1023.out) | (refine gc_ 75 rfl ?_; refine gl_ (some 25) Try.func75 #[.pointer (some ⟨gb1016, 0, none⟩)] ?_; (with_reducible refine (spec_l9Byte.calls gb1016 l0 t1028 t1029 t1030 t1031 t1032 w _ (IsS106.qz HI1016) (qB HB) A6.out).mono ?_); rintro e w22 ⟨rfl, hi, hb, hk⟩; refine ⟨_, rfl, ?_⟩; replace BK1015 := fk_ BK1015 hk NB1015_1016; replace BK1023 := am_ (KeepBut.blk hk (g' := gb1023) (o := .cells #[.int .i64 t1017, .int .i64 t1020, .int .i64 t1024, .int .i64 t1027, .int .i64 0, .bool false, .int .i64 0, .slice none 0 0] 75 (0, 0)) (by (with_reducible repeat (first | refine blk_drewN ?_ _ | refine blk_drew ?_ | refine blk_alloc ?_ _)); refine blk_put (cs := #[.int .i64 t1017, .int .i64 t1020, .int .i64 t1024, .int .i64 0, .int .i64 0, .bool false, .int .i64 0, .slice none 0 0]) ?_ 3 _ rfl; exact qK BK1023) NB1023_1016.out (by simp)); replace HB := am_ (hb); replace HI1016 := am_ (hi); (try clear hb); (try clear hk); (try clear hi); (try clear zK1023); have zK1023 := cf8 BK1023.out) | (refine gc_ 75 rfl ?_; refine gl_ (some 28) Try.func75 #[.pointer (some ⟨gb1016, 0, none⟩)] ?_; (with_reducible refine (spec_l9Byte.calls gb1016 l0 t1031 t1032 t1033 t1034 t1035 w _ (IsS106.qz HI1016) (qB HB) A7.out).mono ?_); rintro e w24 ⟨rfl, hi, hb, hk⟩; refine ⟨_, rfl, ?_⟩; replace BK1015 := fk_ BK1015 hk NB1015_1016; replace BK1023 := am_ (KeepBut.blk hk (g' := gb1023) (o := .cells #[.int .i64 t1017, .int .i64 t1020, .int .i64 t1024, .int .i64 t1027, .int .i64 t1030, .bool false, .int .i64 0, .slice none 0 0] 75 (0, 0)) (by (with_reducible repeat (first | refine blk_drewN ?_ _ | refine blk_drew ?_ | refine blk_alloc ?_ _)); refine blk_put (cs := #[.int .i64 t1017, .int .i64 t1020, .int .i64 t1024, .int .i64 t1027, .int .i64 0, .bool false, .int .i64 0, .slice none 0 0]) ?_ 4 _ rfl; exact qK BK1023) NB1023_1016.out (by simp)); replace HB := am_ (hb); replace HI1016 := am_ (hi); (try clear hb); (try clear hk); (try clear hi); (try clear zK1023); have zK1023 := cf8 BK1023.out) | (refine gc_ 76 rfl ?_; refine gl_ (some 32) Try.func76 #[.pointer (some ⟨gb1016, 0, none⟩)] ?_; (with_reducible refine (spec_l9Word.calls gb1016 l0 t1034 t1035 t1036 t1037 t1038 w _ (IsS106.qz HI1016) (qB HB) A8.out).mono ?_); rintro e w26 ⟨rfl, hi, hb, hk⟩; refine ⟨_, rfl, ?_⟩; replace BK1015 := fk_ BK1015 hk NB1015_1016; replace BK1023 := am_ (KeepBut.blk hk (g' := gb1023) (o := .cells #[.int .i64 t1017, .int .i64 t1020, .int .i64 t1024, .int .i64 t1027, .int .i64 t1030, .bool (t1033 == 1), .int .i64 0, .slice none 0 0] 75 (0, 0)) (by (with_reducible repeat (first | refine blk_drewN ?_ _ | refine blk_drew ?_ | refine blk_alloc ?_ _)); refine blk_put (cs := #[.int .i64 t1017, .int .i64 t1020, .int .i64 t1024, .int .i64 t1027, .int .i64 t1030, .bool false, .int .i64 0, .slice none 0 0]) ?_ 5 _ rfl; exact qK BK1023) NB1023_1016.out (by simp)); replace HB := am_ (hb); replace HI1016 := am_ (hi); (try clear hb); (try clear hk); (try clear hi); (try clear zK1023); have zK1023 := cf8 BK1023.out) | (refine gc_ 75 rfl ?_; refine gl_ (some 35) Try.func75 #[.pointer (some ⟨gb1016, 0, none⟩)] ?_; (with_reducible refine (spec_l9Byte.calls gb1016 l0 t1037 t1038 t1039 t1040 t1041 w _ (IsS106.qz HI1016) (qB HB) A9.out).mono ?_); rintro e w28 ⟨rfl, hi, hb, hk⟩; refine ⟨_, rfl, ?_⟩; replace BK1015 := fk_ BK1015 hk NB1015_1016; replace BK1023 := am_ (KeepBut.blk hk (g' := gb1023) (o := .cells #[.int .i64 t1017, .int .i64 t1020, .int .i64 t1024, .int .i64 t1027, .int .i64 t1030, .bool (t1033 == 1), .int .i64 t1036, .slice none 0 0] 75 (0, 0)) (by (with_reducible repeat (first | refine blk_drewN ?_ _ | refine blk_drew ?_ | refine blk_alloc ?_ _)); refine blk_put (cs := #[.int .i64 t1017, .int .i64 t1020, .int .i64 t1024, .int .i64 t1027, .int .i64 t1030, .bool (t1033 == 1), .int .i64 0, .slice none 0 0]) ?_ 6 _ rfl; exact qK BK1023) NB1023_1016.out (by simp)); replace HB := am_ (hb); replace HI1016 := am_ (hi); (try clear hb); (try clear hk); (try clear hi)))
 go_loopg [6] k (fun kq v6 w' => ∃ (x6_1 : Int) (x1016000_1 : Int) (x1016001_1 : Int) (x1016002_1 : Int) (x1016003_1 : Int) (x1016004_1 : Int) (x1016005_1 : Bool) (x1016006_1 : Int) (x1017001_1 : Int) (x1017002_1 : Bool) (x1024007_1 : List (S29)) (u1024007 : Value), v6 = .int .i64 x6_1 ∧ Aside0 (spec_GetCtl.l0 kq l0 x6_1 l0 x1017001_1 x1017002_1 t1017 t1020 t1024 t1027 t1030 (t1033 == 1) t1036 x1024007_1 = some (r1, r2, r3, r4, r5, r6, r7, r8, r9)) ∧ Aside0 (kq ≤ k) ∧ Aside0 (Kd.R k29 29 w' w.heap.size (fun _ => True) u1024007 x1024007_1) ∧ Aside0 (w'.heap[gb1015]? = some (.cells #[.int .i64 x1016000_1, .int .i64 x1016001_1, .int .i64 x1016002_1, .int .i64 x1016003_1, .int .i64 x1016004_1, .bool x1016005_1, .int .i64 x1016006_1, (.slice none 0 0)] 75 (0, 0))) ∧ Aside0 (w'.heap[gb1023]? = some (.cells #[.int .i64 t1017, .int .i64 t1020, .int .i64 t1024, .int .i64 t1027, .int .i64 t1030, .bool (t1033 == 1), .int .i64 t1036, u1024007] 75 (0, 0))) ∧ Aside0 (IsS106 w w' gb1016 l0 x1017001_1 x1017002_1) ∧ Aside0 (Below w.heap.size w w'))
 case atStart => exact ⟨(t1039), (0), (0), (0), (0), (0), (false), (0), (t1040), (t1041), (([] : List (S29))), (.slice none 0 0), eqq_, H', ⟨Nat.le_refl _⟩, ⟨by first | exact Kd.R_nil _ _ _ _ _ | exact Kd.N_nil _ _ _ _ _ | exact Kd.V_nil _ _ _ _ _ | exact Kd.Q_nil _ _ _ _ _ | exact Kd.S_nil _ _ _ _ _⟩, ⟨qK BK1015⟩, ⟨qK BK1023⟩, ⟨IsS106.qz HI1016⟩, ⟨qB HB⟩⟩
 case round =>
  clear H'
  try clear c1
  try clear p2
  try clear c5
  try clear c7
  try clear c15
  try clear c16
  (try clear zK1023)
  (try clear zK1023)
  (try clear zK1023)
  (try clear zK1023)
  (try clear zK1023)
  (try clear zK1023)
  (try clear fK1023)
  (try clear fK1023)
  (try clear fK1023)
  (try clear fK1023)
  (try clear fK1023)
  (try clear fK1023)
  obtain ⟨x6_1, x1016000_1, x1016001_1, x1016002_1, x1016003_1, x1016004_1, x1016005_1, x1016006_1, x1017001_1, x1017002_1, x1024007_1, u1024007, rfl, HA, HK1, HO_1024007, BK1015, BK1023, HI1016, HB⟩ := hrel
  cases gk with
  | zero => exact absurd HA.out (by simp [spec_GetCtl.l0])
  | succ k1 =>
   have H := HA.out
   clear HA
   simp only [spec_GetCtl.l0] at H
   have HC29 := am_ H
   clear H
   go_upto_region 9 with (fail)
   go_cut [44] (fun v44 wc => ∃ (kq : Nat) (x44_28 : Bool), v44 = .bool x44_28 ∧ Aside0 (spec_GetCtl.j1 kq l0 x6_1 x44_28 l0 x1017001_1 x1017002_1 t1017 t1020 t1024 t1027 t1030 (t1033 == 1) t1036 x1024007_1 = some (r1, r2, r3, r4, r5, r6, r7, r8, r9)) ∧ Aside0 (kq ≤ k1) ∧ Aside0 (Kd.R k29 29 wc w.heap.size (fun _ => True) u1024007 x1024007_1) ∧ Aside0 (wc.heap[gb1015]? = some (.cells #[.int .i64 x1016000_1, .int .i64 x1016001_1, .int .i64 x1016002_1, .int .i64 x1016003_1, .int .i64 x1016004_1, .bool x1016005_1, .int .i64 x1016006_1, (.slice none 0 0)] 75 (0, 0))) ∧ Aside0 (wc.heap[gb1023]? = some (.cells #[.int .i64 t1017, .int .i64 t1020, .int .i64 t1024, .int .i64 t1027, .int .i64 t1030, .bool (t1033 == 1), .int .i64 t1036, u1024007] 75 (0, 0))) ∧ Aside0 (IsS106 w wc gb1016 l0 x1017001_1 x1017002_1) ∧ Aside0 (Below w.heap.size w wc))
   case first =>
    have H := HC29.out
    clear HC29
    replace H := id_ H
    obtain ⟨-, H, c30b0⟩ | ⟨-, H, c30b0⟩ := H
    rotate_left
    ·
     (first | rw [c30b0] | (simp only [i64_w, i32_w]; rw [c30b0]) | skip)
     have H' := Aside0.mk H
     clear H
     go_wp2
     go_meet
     case rel => exact ⟨_, (false), eqq_, H', ⟨by have := HK1.out; first | omega | exact Nat.le_refl _⟩, ⟨qR HO_1024007⟩, ⟨qK BK1015⟩, ⟨qK BK1023⟩, ⟨IsS106.qz HI1016⟩, ⟨qB HB⟩⟩
    (first | rw [c30b0] | (simp only [i64_w, i32_w]; rw [c30b0]) | skip)
    have H' := Aside0.mk H
    clear H
    obtain ⟨ASz31_0, cSz31_0, HGz31, hgz31, HSz31_0⟩ := HI1016.out
    obtain ⟨HSz31_0, HQz31_0⟩ := HSz31_0
    have z31_0 := cellS106_0 HGz31
    have z31_1 := cellS106_1 HGz31
    have z31_2 := cellS106_2 HGz31
    have f31_1 := blk_frozen HGz31 1
    have f31_2 := blk_frozen HGz31 2
    clear HGz31 hgz31
    go_wp2
    go_meet
    case rel => exact ⟨_, (!x1017002_1), eqq_, H', ⟨by have := HK1.out; first | omega | exact Nat.le_refl _⟩, ⟨qR HO_1024007⟩, ⟨qK BK1015⟩, ⟨qK BK1023⟩, ⟨IsS106.qz HI1016⟩, ⟨qB HB⟩⟩
   case rest =>
    clear HC29
    try clear c1
    try clear p2
    try clear c3
    try clear c5
    try clear c7
    try clear c15
    try clear c16
    try clear c30
    try clear c30b0
    (try clear zK1023)
    (try clear zK1023)
    (try clear zK1023)
    (try clear zK1023)
    (try clear zK1023)
    (try clear zK1023)
    (try clear z31)
    (try clear fK1023)
    (try clear fK1023)
    (try clear fK1023)
    (try clear fK1023)
    (try clear fK1023)
    (try clear fK1023)
    (try clear f31)
    try clear p2
    obtain ⟨kq, x44_28, rfl, HA, HJ28, HO_1024007, BK1015, BK1023, HI1016, HB⟩ := hcut
    cases kq with
    | zero => exact absurd HA.out (by simp [spec_GetCtl.j1])
    | succ kj28 =>
     have H := HA.out
     clear HA
     simp only [spec_GetCtl.j1] at H
     by_cases c32 : x44_28 = true
     rotate_left
     ·
      replace c32 := nf_ c32
      subst c32
      rw [if_neg (show ¬ (false = true) by decide)] at H
      by_cases c87 : x1017002_1 = true
      ·
       subst c87
       rw [if_pos rfl] at H
       simp only [Option.some.injEq, Prod.mk.injEq] at H
       obtain ⟨rfl, rfl, rfl, rfl, rfl, rfl, rfl, rfl, rfl⟩ := H
       obtain ⟨ASz88_0, cSz88_0, HGz88, hgz88, HSz88_0⟩ := HI1016.out
       obtain ⟨HSz88_0, HQz88_0⟩ := HSz88_0
       have z88_0 := cellS106_0 HGz88
       have z88_1 := cellS106_1 HGz88
       have z88_2 := cellS106_2 HGz88
       have f88_1 := blk_frozen HGz88 1
       have f88_2 := blk_frozen HGz88 2
       clear HGz88 hgz88
       have hnb89 := nx_ NB1015_1023
       have hnb90 := nx_ NB1015_1016
       (try clear zK1015)
       have zK1015 := cf8 BK1015.out
       go_wp2
       refine bodyPost_ret (results_ct rfl _ _ gb1015 75 #[.int .i64 0, .int .i64 0, .int .i64 0, .int .i64 0, .int .i64 0, .bool false, .int .i64 0, .slice none 0 0] (0, 0) _ rfl (by exact blk_all8 (qK BK1015)) Try.underlying75 rfl (by kernel_rfl)) rfl ?_
       exact ⟨_, er_, by first | exact Kd.R_nil _ _ _ _ _ | exact Kd.N_nil _ _ _ _ _ | exact Kd.V_nil _ _ _ _ _ | exact Kd.Q_nil _ _ _ _ _ | exact Kd.S_nil _ _ _ _ _, qB HB⟩
      replace c87 := nf_ c87
      subst c87
      rw [if_neg (show ¬ (false = true) by decide)] at H
      replace H := bd_ H
      obtain ⟨t1067, A92, H⟩ := H
      by_cases c93 : t1067 = true
      rotate_left
      ·
       replace c93 := nf_ c93
       subst c93
       rw [if_neg (show ¬ (false = true) by decide)] at H
       simp only [Option.some.injEq, Prod.mk.injEq] at H
       obtain ⟨rfl, rfl, rfl, rfl, rfl, rfl, rfl, rfl, rfl⟩ := H
       obtain ⟨ASz115_0, cSz115_0, HGz115, hgz115, HSz115_0⟩ := HI1016.out
       obtain ⟨HSz115_0, HQz115_0⟩ := HSz115_0
       have z115_0 := cellS106_0 HGz115
       have z115_1 := cellS106_1 HGz115
       have z115_2 := cellS106_2 HGz115
       have f115_1 := blk_frozen HGz115 1
       have f115_2 := blk_frozen HGz115 2
       clear HGz115 hgz115
       have hnb116 := nx_ NB1023_1015
       have hnb117 := nx_ NB1023_1016
       (try clear zK1023)
       have zK1023 := cf8 BK1023.out
       obtain ⟨Ao119, co119, eo119⟩ := Kd.R_slice HO_1024007.out
       subst eo119
       go_wp2_with (first | (go_at_call 57; (with_reducible refine (spec_CtlOk.calls kj28 t1017 t1020 t1024 t1027 t1030 (t1033 == 1) t1036 _ _ x1024007_1 false _ (rC_ HO_1024007) ?side2 A92.out).mono ?_); (case side2 => exact (rL_ HO_1024007)); rintro e w120 ⟨rfl, hb⟩; replace HO_1024007 := rB_ HO_1024007 hb; replace BK1015 := bK_ BK1015 hb; replace BK1023 := bK_ BK1023 hb; replace HB := bS_ HB hb; replace HI1016 := am_ (IsS106.below (IsS106.qz HI1016) hb); (try clear hb); have hnb121 := nx_ NB1015_1016; (try clear zK1015); have zK1015 := cf8 BK1015.out))
       refine bodyPost_ret (results_ct rfl _ _ gb1015 75 #[.int .i64 0, .int .i64 0, .int .i64 0, .int .i64 0, .int .i64 0, .bool false, .int .i64 0, .slice none 0 0] (0, 0) _ rfl (by exact blk_all8 (qK BK1015)) Try.underlying75 rfl (by kernel_rfl)) rfl ?_
       exact ⟨_, er_, by first | exact Kd.R_nil _ _ _ _ _ | exact Kd.N_nil _ _ _ _ _ | exact Kd.V_nil _ _ _ _ _ | exact Kd.Q_nil _ _ _ _ _ | exact Kd.S_nil _ _ _ _ _, qB HB⟩
      subst c93
      rw [if_pos rfl] at H
      replace H := bd_ H
      obtain ⟨t1068, A94, H⟩ := H
      replace H := bd_ H
      obtain ⟨t1071, A95, H⟩ := H
      have HC96 := am_ H
      clear H
      obtain ⟨ASz97_0, cSz97_0, HGz97, hgz97, HSz97_0⟩ := HI1016.out
      obtain ⟨HSz97_0, HQz97_0⟩ := HSz97_0
      have z97_0 := cellS106_0 HGz97
      have z97_1 := cellS106_1 HGz97
      have z97_2 := cellS106_2 HGz97
      have f97_1 := blk_frozen HGz97 1
      have f97_2 := blk_frozen HGz97 2
      clear HGz97 hgz97
      have hnb98 := nx_ NB1023_1015
      have hnb99 := nx_ NB1023_1016
      (try clear zK1023)
      have zK1023 := cf8 BK1023.out
      obtain ⟨Ao101, co101, eo101⟩ := Kd.R_slice HO_1024007.out
      subst eo101
      go_upto_if 114 with (first | (go_at_call 57; (with_reducible refine (spec_CtlOk.calls kj28 t1017 t1020 t1024 t1027 t1030 (t1033 == 1) t1036 _ _ x1024007_1 true _ (rC_ HO_1024007) ?side2 A92.out).mono ?_); (case side2 => exact (rL_ HO_1024007)); rintro e w102 ⟨rfl, hb⟩; replace HO_1024007 := rB_ HO_1024007 hb; replace BK1015 := bK_ BK1015 hb; replace BK1023 := bK_ BK1023 hb; replace HB := bS_ HB hb; replace HI1016 := am_ (IsS106.below (IsS106.qz HI1016) hb); (try clear hb); (try clear zK1023); have zK1023 := cf8 BK1023.out) | (go_at_call 107; (with_reducible refine (spec_PutCtl.calls kj28 t1017 t1020 t1024 t1027 t1030 (t1033 == 1) t1036 _ _ x1024007_1 t1068 _ (rC_ HO_1024007) ?side2 A94.out).mono ?_); (case side2 => exact (rL_ HO_1024007)); rintro e w104 ⟨v1069, rfl, ho0, hb⟩; replace HO_1024007 := rB_ HO_1024007 hb; have HO1070 := am_ (Kd.R_lower ho0 (below_size (qB HB))); replace BK1015 := bK_ BK1015 hb; replace BK1023 := bK_ BK1023 hb; replace HB := bS_ HB hb; replace HI1016 := am_ (IsS106.below (IsS106.qz HI1016) hb); (try clear hb); (try clear ho0); obtain ⟨Ao105, co105, eo105⟩ := Kd.R_slice HO1070.out; subst eo105) | (go_at_call 78; (with_reducible refine (spec_l1Same.calls _ _ t1068 _ _ l0 t1071 _ (rC_ HO1070) ((rL_ HO1070)) ?side3 ?side4 A95.out).mono ?_); (case side3 => exact qC (Kd.C_below HR0.out HB.out)); (case side4 => exact HC0.out); rintro e w' ⟨rfl, ⟨nd, rfl⟩⟩))
      (try simp only [Act.put, List.setIfInBounds_toArray, List.set_cons_zero, List.set_cons_succ])
      (try (rw [drewN_self w104]; generalize hq_ : World.drewN w104 _ = w104; have n0_ : Aside0 (Kd.R (Kd.int .u8) 5 w104 w.heap.size (fun _ => True) (.slice Ao105 t1068.length co105) t1068) := ⟨by rw [← hq_]; exact (qR HO1070)⟩; have n1_ : Aside0 (Kd.R k29 29 w104 w.heap.size (fun _ => True) (.slice Ao101 x1024007_1.length co101) x1024007_1) := ⟨by rw [← hq_]; exact (qR HO_1024007)⟩; have n2_ : Aside0 (w104.heap[gb1015]? = some (.cells #[.int .i64 x1016000_1, .int .i64 x1016001_1, .int .i64 x1016002_1, .int .i64 x1016003_1, .int .i64 x1016004_1, .bool x1016005_1, .int .i64 x1016006_1, .slice none 0 0] 75 (0, 0))) := ⟨by rw [← hq_]; exact (qK BK1015)⟩; have n3_ : Aside0 (w104.heap[gb1023]? = some (.cells #[.int .i64 t1017, .int .i64 t1020, .int .i64 t1024, .int .i64 t1027, .int .i64 t1030, .bool (t1033 == 1), .int .i64 t1036, .slice Ao101 x1024007_1.length co101] 75 (0, 0))) := ⟨by rw [← hq_]; exact (qK BK1023)⟩; have n4_ : Aside0 (IsS106 w w104 gb1016 l0 x1017001_1 false) := ⟨by rw [← hq_]; exact (IsS106.qz HI1016)⟩; have n5_ : Aside0 (Below w.heap.size w w104) := ⟨by rw [← hq_]; exact (qB HB)⟩; clear HO1070 HO_1024007 BK1015 BK1023 HI1016 HB hq_; have HO1070 := n0_; have HO_1024007 := n1_; have BK1015 := n2_; have BK1023 := n3_; have HI1016 := n4_; have HB := n5_; clear n0_ n1_ n2_ n3_ n4_ n5_))
      have H := HC96.out
      clear HC96
      by_cases c106 : t1071 = true
      rotate_left
      ·
       replace c106 := nf_ c106
       subst c106
       rw [if_neg (show ¬ (false = true) by decide)] at H
       simp only [Option.some.injEq, Prod.mk.injEq] at H
       obtain ⟨rfl, rfl, rfl, rfl, rfl, rfl, rfl, rfl, rfl⟩ := H
       have hnb112 := nx_ NB1015_1023
       have hnb113 := nx_ NB1015_1016
       (try clear zK1015)
       have zK1015 := cf8 BK1015.out
       go_wp2
       refine bodyPost_ret (results_ct rfl _ _ gb1015 75 #[.int .i64 0, .int .i64 0, .int .i64 0, .int .i64 0, .int .i64 0, .bool false, .int .i64 0, .slice none 0 0] (0, 0) _ rfl (by exact blk_all8 (qK BK1015)) Try.underlying75 rfl (by kernel_rfl)) rfl ?_
       exact ⟨_, er_, by first | exact Kd.R_nil _ _ _ _ _ | exact Kd.N_nil _ _ _ _ _ | exact Kd.V_nil _ _ _ _ _ | exact Kd.Q_nil _ _ _ _ _ | exact Kd.S_nil _ _ _ _ _, qB HB⟩
      subst c106
      rw [if_pos rfl] at H
      simp only [Option.some.injEq, Prod.mk.injEq] at H
      obtain ⟨rfl, rfl, rfl, rfl, rfl, rfl, rfl, rfl, rfl⟩ := H
      have hnb107 := nx_ NB1023_1015
      have hnb108 := nx_ NB1023_1016
      (try clear zK1023)
      have zK1023 := cf8 BK1023.out
      have hnb110 := nx_ NB1015_1016
      (try clear zK1015)
      have zK1015 := cf8 BK1015.out
      go_wp2
      refine bodyPost_ret (results_ct rfl _ _ gb1015 75 #[.int .i64 t1017, .int .i64 t1020, .int .i64 t1024, .int .i64 t1027, .int .i64 t1030, .bool (t1033 == 1), .int .i64 t1036, .slice Ao101 x1024007_1.length co101] (0, 0) _ rfl (by exact blk_all8 (qK BK1015)) Try.underlying75 rfl (by kernel_rfl)) rfl ?_
      exact ⟨_, er_, (fR1_ HO_1024007 BK1015), qB HB⟩
     subst c32
     rw [if_pos rfl] at H
     replace H := bf_ H
     obtain ⟨f_, hf_, ⟨t1042, t1043, t1044⟩, A33, H⟩ := H
     subst hf_
     (try dsimp only at H)
     have HC34 := am_ H
     clear H
     go_upto_region 12 with (first | (refine gc_ 75 rfl ?_; refine gl_ (some 48) Try.func75 #[.pointer (some ⟨gb1016, 0, none⟩)] ?_; (with_reducible refine (spec_l9Byte.calls gb1016 l0 x1017001_1 x1017002_1 t1042 t1043 t1044 w _ (IsS106.qz HI1016) (qB HB) A33.out).mono ?_); rintro e w35 ⟨rfl, hi, hb, hk⟩; refine ⟨_, rfl, ?_⟩; replace HO_1024007 := am_ (Kd.R_mono (Kd.R_keep (IsS106.apart (show IsS106 w _ gb1016 l0 x1017001_1 x1017002_1 from IsS106.qz HI1016) (qR HO_1024007) (by decide)) hk (fun _ h => h.2)) (fun _ h => h.1)); replace BK1015 := kB_ BK1015 hk NB1015_1016; replace BK1023 := kB_ BK1023 hk NB1023_1016; replace HB := am_ (hb); replace HI1016 := am_ (hi); (try clear hb); (try clear hk); (try clear hi)))
     (try simp only [Act.put, List.setIfInBounds_toArray, List.set_cons_zero, List.set_cons_succ])
     go_cut [63] (fun v63 wc => ∃ (kq : Nat) (x63_33 : Bool), v63 = .bool x63_33 ∧ Aside0 (spec_GetCtl.j2 kq l0 x6_1 t1042 x63_33 l0 t1043 t1044 t1017 t1020 t1024 t1027 t1030 (t1033 == 1) t1036 x1024007_1 = some (r1, r2, r3, r4, r5, r6, r7, r8, r9)) ∧ Aside0 (kq ≤ kj28) ∧ Aside0 (Kd.R k29 29 wc w.heap.size (fun _ => True) u1024007 x1024007_1) ∧ Aside0 (wc.heap[gb1015]? = some (.cells #[.int .i64 x1016000_1, .int .i64 x1016001_1, .int .i64 x1016002_1, .int .i64 x1016003_1, .int .i64 x1016004_1, .bool x1016005_1, .int .i64 x1016006_1, (.slice none 0 0)] 75 (0, 0))) ∧ Aside0 (wc.heap[gb1023]? = some (.cells #[.int .i64 t1017, .int .i64 t1020, .int .i64 t1024, .int .i64 t1027, .int .i64 t1030, .bool (t1033 == 1), .int .i64 t1036, u1024007] 75 (0, 0))) ∧ Aside0 (IsS106 w wc gb1016 l0 t1043 t1044) ∧ Aside0 (Below w.heap.size w wc))
     case first =>
      have H := HC34.out
      clear HC34
      by_cases c36 : t1044 = true
      ·
       subst c36
       rw [if_pos rfl] at H
       have H' := Aside0.mk H
       clear H
       obtain ⟨ASz37_0, cSz37_0, HGz37, hgz37, HSz37_0⟩ := HI1016.out
       obtain ⟨HSz37_0, HQz37_0⟩ := HSz37_0
       have z37_0 := cellS106_0 HGz37
       have z37_1 := cellS106_1 HGz37
       have z37_2 := cellS106_2 HGz37
       have f37_1 := blk_frozen HGz37 1
       have f37_2 := blk_frozen HGz37 2
       clear HGz37 hgz37
       go_wp2
       go_meet
       case rel => exact ⟨_, (true), eqq_, H', ⟨by have := HK1.out; have := HJ28.out; first | omega | exact Nat.le_refl _⟩, ⟨qR HO_1024007⟩, ⟨qK BK1015⟩, ⟨qK BK1023⟩, ⟨IsS106.qz HI1016⟩, ⟨qB HB⟩⟩
      replace c36 := nf_ c36
      subst c36
      rw [if_neg (show ¬ (false = true) by decide)] at H
      have H' := Aside0.mk H
      clear H
      obtain ⟨ASz38_0, cSz38_0, HGz38, hgz38, HSz38_0⟩ := HI1016.out
      obtain ⟨HSz38_0, HQz38_0⟩ := HSz38_0
      have z38_0 := cellS106_0 HGz38
      have z38_1 := cellS106_1 HGz38
      have z38_2 := cellS106_2 HGz38
      have f38_1 := blk_frozen HGz38 1
      have f38_2 := blk_frozen HGz38 2
      clear HGz38 hgz38
      go_wp2
      go_meet
      case rel => exact ⟨_, (decide (t1042 > (wrap64 ((l0.length : Int) - t1043)))), eqq_, H', ⟨by have := HK1.out; have := HJ28.out; first | omega | exact Nat.le_refl _⟩, ⟨qR HO_1024007⟩, ⟨qK BK1015⟩, ⟨qK BK1023⟩, ⟨IsS106.qz HI1016⟩, ⟨qB HB⟩⟩
     case rest =>
      clear HC34
      try clear c1
      try clear p2
      try clear c3
      try clear c5
      try clear p6
      try clear c7
      try clear c15
      try clear c16
      try clear c30
      try clear c30b0
      try clear c32
      try clear c36
      (try clear zK1023)
      (try clear zK1023)
      (try clear zK1023)
      (try clear zK1023)
      (try clear zK1023)
      (try clear zK1023)
      (try clear z31)
      (try clear z37)
      (try clear z38)
      (try clear fK1023)
      (try clear fK1023)
      (try clear fK1023)
      (try clear fK1023)
      (try clear fK1023)
      (try clear fK1023)
      (try clear f31)
      (try clear f37)
      (try clear f38)
      try clear p2
      obtain ⟨kq, x63_33, rfl, HA, HJ33, HO_1024007, BK1015, BK1023, HI1016, HB⟩ := hcut
      cases kq with
      | zero => exact absurd HA.out (by simp [spec_GetCtl.j2])
      | succ kj33 =>
       have H := HA.out
       clear HA
       simp only [spec_GetCtl.j2] at H
       by_cases c39 : x63_33 = true
       ·
        subst c39
        rw [if_pos rfl] at H
        simp only [Option.some.injEq, Prod.mk.injEq] at H
        obtain ⟨rfl, rfl, rfl, rfl, rfl, rfl, rfl, rfl, rfl⟩ := H
        have hnb40 := nx_ NB1015_1023
        have hnb41 := nx_ NB1015_1016
        (try clear zK1015)
        have zK1015 := cf8 BK1015.out
        go_wp2
        refine bodyPost_ret (results_ct rfl _ _ gb1015 75 #[.int .i64 0, .int .i64 0, .int .i64 0, .int .i64 0, .int .i64 0, .bool false, .int .i64 0, .slice none 0 0] (0, 0) _ rfl (by exact blk_all8 (qK BK1015)) Try.underlying75 rfl (by kernel_rfl)) rfl ?_
        exact ⟨_, er_, by first | exact Kd.R_nil _ _ _ _ _ | exact Kd.N_nil _ _ _ _ _ | exact Kd.V_nil _ _ _ _ _ | exact Kd.Q_nil _ _ _ _ _ | exact Kd.S_nil _ _ _ _ _, qB HB⟩
       replace c39 := nf_ c39
       subst c39
       rw [if_neg (show ¬ (false = true) by decide)] at H
       replace H := ip_ H
       obtain ⟨c43, H, -⟩ := H
       have c43b0 := eq_true c43
       have c43b1 : decide (0 ≤ t1043) = true := decide_eq_true c43
       clear c43
       replace H := ip_ H
       obtain ⟨c44, H, -⟩ := H
       have c44b0 := eq_true c44
       have c44b1 : decide (t1043 ≤ (wrap64 (t1043 + t1042))) = true := decide_eq_true c44
       replace H := ip_ H
       obtain ⟨c45, H, -⟩ := H
       have c45b0 := eq_true c45
       have c45b1 : decide ((wrap64 (t1043 + t1042)) ≤ (l0.length : Int)) = true := decide_eq_true c45
       replace H := bf_ H
       obtain ⟨f_, hf_, ⟨t1046, t1047, t1048, t1049, t1050, t1051, t1052, t1053, t1054, t1055, t1056, t1057, t1058, t1059, t1060, t1061, t1062⟩, A46, H⟩ := H
       subst hf_
       (try dsimp only at H)
       have HC47 := am_ H
       clear H
       try go_wp2
       replace HO_1024007 := am_ (Kd.R_drew HO_1024007.out)
       replace BK1015 := am_ (blk_drew BK1015.out)
       replace BK1023 := am_ (blk_drew BK1023.out)
       replace HI1016 := am_ (IsS106.drew HI1016.out)
       replace HB := am_ (below_drew1 HB.out)
       obtain ⟨i049, hi049, _, hsz49, _⟩ := info_parts info5
       obtain ⟨A49, hcut49, hA49, hC49⟩ := print_mid_of (P := Try.prog) (Value.int .u8) 0 22 5 .i64 .i64 Try.underlying22 hi049 hsz49 A0 c0 l0 t1043 (wrap64 (t1043 + t1042)) od_ (by first | omega | exact od_) od_ HC0.out
       have HR1045 := Aside0.mk (Kd.C_of_reads (h1 := fun _ => rfl) (hA49 _ (Kd.reads_of_C HR0.out)))
       have HC1045 := am_ hC49
       clear hA49 hC49 hi049 hsz49
       refine start_ (n := 19) (S := fun w' => w'.cell? ⟨gb1016, 1, none⟩ = some (.int .i64 t1043) ∧ w'.cell? ⟨gb1016, 2, none⟩ = some (.bool t1044)) (ds := []) (rl [0,19]) (by kernel_rfl) rfl rfl ⟨(by obtain ⟨_, _, h_, _⟩ := HI1016.out; exact cellS106_1 h_), (by obtain ⟨_, _, h_, _⟩ := HI1016.out; exact cellS106_2 h_)⟩ (fun hHeld => ?_); refine with_tabW spec_GetCtl.tab14 spec_GetCtl.bits14 (fun HT_ HW_ => ?_)
       generalize wc.drew = w48 at HO_1024007 BK1015 BK1023 HI1016 HB HR1045 hHeld ⊢
       refine pq_ 0 66 HT_ (rl [1,18]) ?_
       refine pq_ 1 67 HT_ (rl [2,17]) ?_
       refine pq_ 2 68 HT_ (rl [3,16]) ?_
       refine pq_ 3 69 HT_ (rl [4,15]) ?_
       refine pq_ 5 71 HT_ (rl [4,1,1,13]) ?_
       refine pq_ 6 72 HT_ (rl [4,1,2,12]) ?_
       refine pq_ 7 73 HT_ (rl [4,1,3,11]) ?_
       refine pq_ 9 75 HT_ (rl [4,1,3,1,1,9]) ?_
       refine tz_ (i := 4) (N := some 70) HT_ HW_ (rl [8,1,1,9]) rfl rfl hHeld ?_
       refine tz_ (i := 8) (N := some 74) HT_ HW_ (rl [10,9]) rfl rfl hHeld ?_
       refine pq_ 10 76 HT_ (rl [11,8]) ?_
       refine pq_ 11 77 HT_ (rl [12,7]) ?_
       refine join_ (σ := Nat) 2 (rl [17,2]) (fun s_ => [(78, .tuple #[.agg #[.int .i64 t1046, .int .i64 t1047, .string t1048, .int .i64 t1049, .int .i64 t1050, .int .i64 t1051, .string t1052, .int .i64 t1053, .int .i64 t1054, .int .i64 t1055, .string t1056, .int .i64 t1057, .int .i64 t1058, .int .i64 t1059, .int .i64 t1060, .int .i64 t1061], .bool t1062]), (8, .pointer (some ⟨s_, 0, none⟩)), (65, .tuple #[.agg #[.int .i64 t1046, .int .i64 t1047, .string t1048, .int .i64 t1049, .int .i64 t1050, .int .i64 t1051, .string t1052, .int .i64 t1053, .int .i64 t1054, .int .i64 t1055, .string t1056, .int .i64 t1057, .int .i64 t1058, .int .i64 t1059, .int .i64 t1060, .int .i64 t1061], .bool t1062]), (79, .agg #[.int .i64 t1046, .int .i64 t1047, .string t1048, .int .i64 t1049, .int .i64 t1050, .int .i64 t1051, .string t1052, .int .i64 t1053, .int .i64 t1054, .int .i64 t1055, .string t1056, .int .i64 t1057, .int .i64 t1058, .int .i64 t1059, .int .i64 t1060, .int .i64 t1061]), (80, .bool t1062)]) (fun s_ w' => (w'.cell? ⟨gb1016, 1, none⟩ = some (.int .i64 t1043) ∧ w'.cell? ⟨gb1016, 2, none⟩ = some (.bool t1044)) ∧ (Kd.R k29 29 w' w.heap.size (fun k_ => k_ ≠ s_) u1024007 x1024007_1) ∧ (w'.heap[gb1015]? = some (.cells #[.int .i64 x1016000_1, .int .i64 x1016001_1, .int .i64 x1016002_1, .int .i64 x1016003_1, .int .i64 x1016004_1, .bool x1016005_1, .int .i64 x1016006_1, .slice none 0 0] 75 (0, 0))) ∧ (w'.heap[gb1023]? = some (.cells #[.int .i64 t1017, .int .i64 t1020, .int .i64 t1024, .int .i64 t1027, .int .i64 t1030, .bool (t1033 == 1), .int .i64 t1036, u1024007] 75 (0, 0))) ∧ (w'.heap[s_]? = some (.cells #[.int .i64 0, .int .i64 0, .string (⟨#[]⟩ : ByteArray), .int .i64 0, .int .i64 0, .int .i64 0, .string (⟨#[]⟩ : ByteArray), .int .i64 0, .int .i64 0, .int .i64 0, .string (⟨#[]⟩ : ByteArray), .int .i64 0, .int .i64 0, .int .i64 0, .int .i64 0, .int .i64 0] 29 (0, 0))) ∧ (w.heap.size ≤ s_) ∧ (w.heap.size ≤ s_) ∧ (gb1016 ≠ s_) ∧ (s_ ≠ gb1016) ∧ (gb1015 ≠ s_) ∧ (s_ ≠ gb1015) ∧ (gb1023 ≠ s_) ∧ (s_ ≠ gb1023) ∧ (IsS106 w w' gb1016 l0 t1043 t1044) ∧ (Below w.heap.size w w')) ?_ ?_
       rotate_left
       ·
        intro hCont
        refine two_ (i := 12) (j := 16) (Ni := some 78) (Nj := some 8) (rl [13,6]) (rl [12,4,1,2]) rfl rfl rfl rfl (two_of HT_.out (by kernel_rfl)) (by decide) (by decide) (fun K hK => ?_) (fun K hK => ?_)
        ·
         skip
         refine goes_ Try.func12 (by kernel_rfl) rfl #[.slice A49 ((l0.take ((wrap64 (t1043 + t1042)) : Int).toNat).drop (t1043 : Int).toNat).length (c0 - t1043.toNat)] (by rfl) rfl rfl (by (try simp only [List.map_toArray, List.map_cons, List.map_nil]); first | done | (rw [show ((l0.take ((wrap64 (t1043 + t1042)) : Int).toNat).drop (t1043 : Int).toNat).length = ((wrap64 (t1043 + t1042)).toNat - t1043.toNat) from (by rw [List.length_drop, List.length_take]; have h_ : ((wrap64 (t1043 + t1042)) : Int) ≤ (l0.length : Int) := od_; omega)] <;> rfl) | rfl | (simp only [List.length_drop, List.length_take]; rfl)) ?_
         with_reducible refine (spec_GetItem.calls kj33 _ _ ((l0.take ((wrap64 (t1043 + t1042)) : Int).toNat).drop (t1043 : Int).toNat) t1046 t1047 t1048 t1049 t1050 t1051 t1052 t1053 t1054 t1055 t1056 t1057 t1058 t1059 t1060 t1061 t1062 _ ?side1 ?side2 A46.out).mono ?_
         (case side1 => exact qC (Kd.C_below HR1045.out HB.out))
         (case side2 => exact HC1045.out)
         rintro e w50 ⟨rfl, hb⟩
         refine ⟨_, rfl, ?_⟩
         replace HO_1024007 := rB_ HO_1024007 hb
         replace BK1015 := bK_ BK1015 hb
         replace BK1023 := bK_ BK1023 hb
         replace HB := bS_ HB hb
         replace HI1016 := am_ (IsS106.below (IsS106.qz HI1016) hb)
         (try clear hb)
         refine hK.out _ _ ⟨(by obtain ⟨_, _, h_, _⟩ := HI1016.out; exact cellS106_1 h_), (by obtain ⟨_, _, h_, _⟩ := HI1016.out; exact cellS106_2 h_)⟩ (fun hHeld => ?_)
         clear hK K
         refine nm_ (some 78) ?_
         refine pq_ 13 65 HT_ (rl [14,5]) ?_
         refine pq_ 14 79 HT_ (rl [15,4]) ?_
         refine pq_ 15 80 HT_ (rl [16,3]) ?_
         refine on_ HT_ (i := 16) (N := some 8) (rl [17,2]) (fun K hK => ?_)
         refine box_step ?hg (N := 8) ?hd (cs := #[.int .i64 0, .int .i64 0, .string (⟨#[]⟩ : ByteArray), .int .i64 0, .int .i64 0, .int .i64 0, .string (⟨#[]⟩ : ByteArray), .int .i64 0, .int .i64 0, .int .i64 0, .string (⟨#[]⟩ : ByteArray), .int .i64 0, .int .i64 0, .int .i64 0, .int .i64 0, .int .i64 0]) (t := 29) ?hr ?_; (case hd => rfl); (case hg => rfl); (case hr => first | (go_simp; done) | (go_simp; rfl))
         intro gb1063 hg w51 hbox hb
         replace HO_1024007 := am_ (Kd.R_below (Kd.R_elderB (qR HO_1024007) gb1063 (Nat.le_of_eq hg.symm)) hb)
         have BK1063 := am_ (hbox)
         have GW1063 := am_ ((by rw [hg]; exact (below_size (qB HB)) : w.heap.size ≤ gb1063))
         have IGW1063 := gI_ GW1063
         have GE1063 := am_ ((by rw [hg]; exact (below_size (qB HB)) : w.heap.size ≤ gb1063))
         have IGE1063 := gI_ GE1063
         replace HB := bS_ HB hb
         have NB1015_1063 := am_ ((gN_ hg (qK BK1015)))
         have NB1063_1015 := am_ ((gM_ hg (qK BK1015)))
         replace BK1015 := bK_ BK1015 hb
         have NB1023_1063 := am_ ((gN_ hg (qK BK1023)))
         have NB1063_1023 := am_ ((gM_ hg (qK BK1023)))
         replace BK1023 := bK_ BK1023 hb
         have NB1016_1063 := am_ ((by rw [hg]; exact Nat.ne_of_lt (IsS106.lt (show IsS106 w _ gb1016 l0 t1043 t1044 from IsS106.qz HI1016)) : gb1016 ≠ gb1063))
         have NB1063_1016 := am_ ((by rw [hg]; exact Nat.ne_of_gt (IsS106.lt (show IsS106 w _ gb1016 l0 t1043 t1044 from IsS106.qz HI1016)) : gb1063 ≠ gb1016))
         replace HI1016 := am_ (IsS106.below (IsS106.qz HI1016) hb)
         clear hb hbox hg
         refine hK.out _ _ ⟨(by obtain ⟨_, _, h_, _⟩ := HI1016.out; exact cellS106_1 h_), (by obtain ⟨_, _, h_, _⟩ := HI1016.out; exact cellS106_2 h_)⟩ (fun hHeld => ?_)
         clear hK K
         refine nm_ (some 8) ?_
         exact nr_ (hCont (gb1063) _ ⟨hHeld, (xR1_ HO_1024007), (qK BK1015), (qK BK1023), (qK BK1063), GW1063.out, GE1063.out, NB1016_1063.out, NB1063_1016.out, NB1015_1063.out, NB1063_1015.out, NB1023_1063.out, NB1063_1023.out, (IsS106.qz HI1016), (qB HB)⟩)
        ·
         skip
         refine box_step ?hg (N := 8) ?hd (cs := #[.int .i64 0, .int .i64 0, .string (⟨#[]⟩ : ByteArray), .int .i64 0, .int .i64 0, .int .i64 0, .string (⟨#[]⟩ : ByteArray), .int .i64 0, .int .i64 0, .int .i64 0, .string (⟨#[]⟩ : ByteArray), .int .i64 0, .int .i64 0, .int .i64 0, .int .i64 0, .int .i64 0]) (t := 29) ?hr ?_; (case hd => rfl); (case hg => rfl); (case hr => first | (go_simp; done) | (go_simp; rfl))
         intro gb1063 hg w50 hbox hb
         replace HO_1024007 := am_ (Kd.R_below (Kd.R_elderB (qR HO_1024007) gb1063 (Nat.le_of_eq hg.symm)) hb)
         have BK1063 := am_ (hbox)
         have GW1063 := am_ ((by rw [hg]; exact (below_size (qB HB)) : w.heap.size ≤ gb1063))
         have IGW1063 := gI_ GW1063
         have GE1063 := am_ ((by rw [hg]; exact (below_size (qB HB)) : w.heap.size ≤ gb1063))
         have IGE1063 := gI_ GE1063
         replace HB := bS_ HB hb
         have NB1015_1063 := am_ ((gN_ hg (qK BK1015)))
         have NB1063_1015 := am_ ((gM_ hg (qK BK1015)))
         replace BK1015 := bK_ BK1015 hb
         have NB1023_1063 := am_ ((gN_ hg (qK BK1023)))
         have NB1063_1023 := am_ ((gM_ hg (qK BK1023)))
         replace BK1023 := bK_ BK1023 hb
         have NB1016_1063 := am_ ((by rw [hg]; exact Nat.ne_of_lt (IsS106.lt (show IsS106 w _ gb1016 l0 t1043 t1044 from IsS106.qz HI1016)) : gb1016 ≠ gb1063))
         have NB1063_1016 := am_ ((by rw [hg]; exact Nat.ne_of_gt (IsS106.lt (show IsS106 w _ gb1016 l0 t1043 t1044 from IsS106.qz HI1016)) : gb1063 ≠ gb1016))
         replace HI1016 := am_ (IsS106.below (IsS106.qz HI1016) hb)
         clear hb hbox hg
         refine hK.out _ _ ⟨(by obtain ⟨_, _, h_, _⟩ := HI1016.out; exact cellS106_1 h_), (by obtain ⟨_, _, h_, _⟩ := HI1016.out; exact cellS106_2 h_)⟩ (fun hHeld => ?_)
         clear hK K
         refine nm_ (some 8) ?_
         refine on_ HT_ (i := 12) (N := some 78) (rl [13,3,1,2]) (fun K hK => ?_)
         refine goes_ Try.func12 (by kernel_rfl) rfl #[.slice A49 ((l0.take ((wrap64 (t1043 + t1042)) : Int).toNat).drop (t1043 : Int).toNat).length (c0 - t1043.toNat)] (by rfl) rfl rfl (by (try simp only [List.map_toArray, List.map_cons, List.map_nil]); first | done | (rw [show ((l0.take ((wrap64 (t1043 + t1042)) : Int).toNat).drop (t1043 : Int).toNat).length = ((wrap64 (t1043 + t1042)).toNat - t1043.toNat) from (by rw [List.length_drop, List.length_take]; have h_ : ((wrap64 (t1043 + t1042)) : Int) ≤ (l0.length : Int) := od_; omega)] <;> rfl) | rfl | (simp only [List.length_drop, List.length_take]; rfl)) ?_
         with_reducible refine (spec_GetItem.calls kj33 _ _ ((l0.take ((wrap64 (t1043 + t1042)) : Int).toNat).drop (t1043 : Int).toNat) t1046 t1047 t1048 t1049 t1050 t1051 t1052 t1053 t1054 t1055 t1056 t1057 t1058 t1059 t1060 t1061 t1062 _ ?side1 ?side2 A46.out).mono ?_
         (case side1 => exact qC (Kd.C_below HR1045.out HB.out))
         (case side2 => exact HC1045.out)
         rintro e w51 ⟨rfl, hb⟩
         refine ⟨_, rfl, ?_⟩
         replace HO_1024007 := rB_ HO_1024007 hb
         replace BK1015 := bK_ BK1015 hb
         replace BK1023 := bK_ BK1023 hb
         replace BK1063 := bK_ BK1063 hb
         replace HB := bS_ HB hb
         replace HI1016 := am_ (IsS106.below (IsS106.qz HI1016) hb)
         (try clear hb)
         refine hK.out _ _ ⟨(by obtain ⟨_, _, h_, _⟩ := HI1016.out; exact cellS106_1 h_), (by obtain ⟨_, _, h_, _⟩ := HI1016.out; exact cellS106_2 h_)⟩ (fun hHeld => ?_)
         clear hK K
         refine nm_ (some 78) ?_
         refine pq_ 13 65 HT_ (rl [14,2,1,2]) ?_
         refine pq_ 14 79 HT_ (rl [15,1,1,2]) ?_
         refine pq_ 15 80 HT_ (rl [17,2]) ?_
         exact nr_ (hCont (gb1063) _ ⟨hHeld, (xR1_ HO_1024007), (qK BK1015), (qK BK1023), (qK BK1063), GW1063.out, GE1063.out, NB1016_1063.out, NB1063_1016.out, NB1015_1063.out, NB1063_1015.out, NB1023_1063.out, NB1063_1023.out, (IsS106.qz HI1016), (qB HB)⟩)
       rintro gb1063 w52 ⟨hS_, h0_, h1_, h2_, h3_, h4_, h5_, h6_, h7_, h8_, h9_, h10_, h11_, h12_, h13_⟩
       (try dsimp only at h0_ h1_ h2_ h3_ h4_ h5_ h6_ h7_ h8_ h9_ h10_ h11_ h12_ h13_)
       have n0_ := am_ h0_
       have n1_ := am_ h1_
       have n2_ := am_ h2_
       have n3_ := am_ h3_
       have n4_ := am_ h4_
       have n5_ := am_ h5_
       have n6_ := am_ h6_
       have n7_ := am_ h7_
       have n8_ := am_ h8_
       have n9_ := am_ h9_
       have n10_ := am_ h10_
       have n11_ := am_ h11_
       have n12_ := am_ h12_
       have n13_ := am_ h13_
       clear HO_1024007
       clear BK1015
       clear BK1023
       clear HI1016
       clear HB
       clear h0_ h1_ h2_ h3_ h4_ h5_ h6_ h7_ h8_ h9_ h10_ h11_ h12_ h13_
       have HO_1024007 := n0_
       have BK1015 := n1_
       have BK1023 := n2_
       have BK1063 := n3_
       have GW1063 := n4_
       have IGW1063 := gI_ GW1063
       have GE1063 := n5_
       have IGE1063 := gI_ GE1063
       have NB1016_1063 := n6_
       have NB1063_1016 := n7_
       have NB1015_1063 := n8_
       have NB1063_1015 := n9_
       have NB1023_1063 := n10_
       have NB1063_1023 := n11_
       have HI1016 := n12_
       have HB := n13_
       clear n0_ n1_ n2_ n3_ n4_ n5_ n6_ n7_ n8_ n9_ n10_ n11_ n12_ n13_
       have hHeld : w52.cell? ⟨gb1016, 1, none⟩ = some (.int .i64 t1043) ∧ w52.cell? ⟨gb1016, 2, none⟩ = some (.bool t1044) := hS_
       refine norm_ (a' := ?_) ?_ ?_
       rotate_left
       ·
        simp only [putAll, Act.put, List.setIfInBounds_toArray, List.set_cons_zero, List.set_cons_succ]
        rfl
       refine on_ HT_ (i := 17) (N := none) (rl [18,1]) (fun K hK => ?_)
       have hs53 : w52.cell? ⟨gb1063, 0, none⟩ = some (.int .i64 0) := (blk_cell BK1063.out 0).trans rfl
       have hfs53 := blk_frozen BK1063.out 0
       have hns53_0 := NB1015_1063.out
       have hns53_1 := NB1023_1063.out
       have hms53_0 := NB1063_1015.out
       have hms53_1 := NB1063_1023.out
       have hs54 : w52.cell? ⟨gb1063, 1, none⟩ = some (.int .i64 0) := (blk_cell BK1063.out 1).trans rfl
       have hfs54 := blk_frozen BK1063.out 1
       have hns54_0 := NB1015_1063.out
       have hns54_1 := NB1023_1063.out
       have hms54_0 := NB1063_1015.out
       have hms54_1 := NB1063_1023.out
       have hs55 : w52.cell? ⟨gb1063, 2, none⟩ = some (.string (⟨#[]⟩ : ByteArray)) := (blk_cell BK1063.out 2).trans rfl
       have hfs55 := blk_frozen BK1063.out 2
       have hns55_0 := NB1015_1063.out
       have hns55_1 := NB1023_1063.out
       have hms55_0 := NB1063_1015.out
       have hms55_1 := NB1063_1023.out
       have hs56 : w52.cell? ⟨gb1063, 3, none⟩ = some (.int .i64 0) := (blk_cell BK1063.out 3).trans rfl
       have hfs56 := blk_frozen BK1063.out 3
       have hns56_0 := NB1015_1063.out
       have hns56_1 := NB1023_1063.out
       have hms56_0 := NB1063_1015.out
       have hms56_1 := NB1063_1023.out
       have hs57 : w52.cell? ⟨gb1063, 4, none⟩ = some (.int .i64 0) := (blk_cell BK1063.out 4).trans rfl
       have hfs57 := blk_frozen BK1063.out 4
       have hns57_0 := NB1015_1063.out
       have hns57_1 := NB1023_1063.out
       have hms57_0 := NB1063_1015.out
       have hms57_1 := NB1063_1023.out
       have hs58 : w52.cell? ⟨gb1063, 5, none⟩ = some (.int .i64 0) := (blk_cell BK1063.out 5).trans rfl
       have hfs58 := blk_frozen BK1063.out 5
       have hns58_0 := NB1015_1063.out
       have hns58_1 := NB1023_1063.out
       have hms58_0 := NB1063_1015.out
       have hms58_1 := NB1063_1023.out
       have hs59 : w52.cell? ⟨gb1063, 6, none⟩ = some (.string (⟨#[]⟩ : ByteArray)) := (blk_cell BK1063.out 6).trans rfl
       have hfs59 := blk_frozen BK1063.out 6
       have hns59_0 := NB1015_1063.out
       have hns59_1 := NB1023_1063.out
       have hms59_0 := NB1063_1015.out
       have hms59_1 := NB1063_1023.out
       have hs60 : w52.cell? ⟨gb1063, 7, none⟩ = some (.int .i64 0) := (blk_cell BK1063.out 7).trans rfl
       have hfs60 := blk_frozen BK1063.out 7
       have hns60_0 := NB1015_1063.out
       have hns60_1 := NB1023_1063.out
       have hms60_0 := NB1063_1015.out
       have hms60_1 := NB1063_1023.out
       have hs61 : w52.cell? ⟨gb1063, 8, none⟩ = some (.int .i64 0) := (blk_cell BK1063.out 8).trans rfl
       have hfs61 := blk_frozen BK1063.out 8
       have hns61_0 := NB1015_1063.out
       have hns61_1 := NB1023_1063.out
       have hms61_0 := NB1063_1015.out
       have hms61_1 := NB1063_1023.out
       have hs62 : w52.cell? ⟨gb1063, 9, none⟩ = some (.int .i64 0) := (blk_cell BK1063.out 9).trans rfl
       have hfs62 := blk_frozen BK1063.out 9
       have hns62_0 := NB1015_1063.out
       have hns62_1 := NB1023_1063.out
       have hms62_0 := NB1063_1015.out
       have hms62_1 := NB1063_1023.out
       have hs63 : w52.cell? ⟨gb1063, 10, none⟩ = some (.string (⟨#[]⟩ : ByteArray)) := (blk_cell BK1063.out 10).trans rfl
       have hfs63 := blk_frozen BK1063.out 10
       have hns63_0 := NB1015_1063.out
       have hns63_1 := NB1023_1063.out
       have hms63_0 := NB1063_1015.out
       have hms63_1 := NB1063_1023.out
       have hs64 : w52.cell? ⟨gb1063, 11, none⟩ = some (.int .i64 0) := (blk_cell BK1063.out 11).trans rfl
       have hfs64 := blk_frozen BK1063.out 11
       have hns64_0 := NB1015_1063.out
       have hns64_1 := NB1023_1063.out
       have hms64_0 := NB1063_1015.out
       have hms64_1 := NB1063_1023.out
       have hs65 : w52.cell? ⟨gb1063, 12, none⟩ = some (.int .i64 0) := (blk_cell BK1063.out 12).trans rfl
       have hfs65 := blk_frozen BK1063.out 12
       have hns65_0 := NB1015_1063.out
       have hns65_1 := NB1023_1063.out
       have hms65_0 := NB1063_1015.out
       have hms65_1 := NB1063_1023.out
       have hs66 : w52.cell? ⟨gb1063, 13, none⟩ = some (.int .i64 0) := (blk_cell BK1063.out 13).trans rfl
       have hfs66 := blk_frozen BK1063.out 13
       have hns66_0 := NB1015_1063.out
       have hns66_1 := NB1023_1063.out
       have hms66_0 := NB1063_1015.out
       have hms66_1 := NB1063_1023.out
       have hs67 : w52.cell? ⟨gb1063, 14, none⟩ = some (.int .i64 0) := (blk_cell BK1063.out 14).trans rfl
       have hfs67 := blk_frozen BK1063.out 14
       have hns67_0 := NB1015_1063.out
       have hns67_1 := NB1023_1063.out
       have hms67_0 := NB1063_1015.out
       have hms67_1 := NB1063_1023.out
       have hs68 : w52.cell? ⟨gb1063, 15, none⟩ = some (.int .i64 0) := (blk_cell BK1063.out 15).trans rfl
       have hfs68 := blk_frozen BK1063.out 15
       have hns68_0 := NB1015_1063.out
       have hns68_1 := NB1023_1063.out
       have hms68_0 := NB1063_1015.out
       have hms68_1 := NB1063_1023.out
       refine skip_ (w1 := ?_) (by rfl) rfl ?_ ?_
       rotate_left
       ·
        go_simp
        rfl
       refine hK.out _ _ ⟨((cell_far (p := ⟨gb1063, _, none⟩) (by first | exact NB1016_1063.out | (rw [add_block]; exact NB1016_1063.out) | (show (Addr.add _ _).block ≠ _; rw [add_block]; exact NB1016_1063.out) | (dsimp only; exact NB1016_1063.out)) _).trans (((cell_far (p := ⟨gb1063, _, none⟩) (by first | exact NB1016_1063.out | (rw [add_block]; exact NB1016_1063.out) | (show (Addr.add _ _).block ≠ _; rw [add_block]; exact NB1016_1063.out) | (dsimp only; exact NB1016_1063.out)) _).trans (((cell_far (p := ⟨gb1063, _, none⟩) (by first | exact NB1016_1063.out | (rw [add_block]; exact NB1016_1063.out) | (show (Addr.add _ _).block ≠ _; rw [add_block]; exact NB1016_1063.out) | (dsimp only; exact NB1016_1063.out)) _).trans (((cell_far (p := ⟨gb1063, _, none⟩) (by first | exact NB1016_1063.out | (rw [add_block]; exact NB1016_1063.out) | (show (Addr.add _ _).block ≠ _; rw [add_block]; exact NB1016_1063.out) | (dsimp only; exact NB1016_1063.out)) _).trans (((cell_far (p := ⟨gb1063, _, none⟩) (by first | exact NB1016_1063.out | (rw [add_block]; exact NB1016_1063.out) | (show (Addr.add _ _).block ≠ _; rw [add_block]; exact NB1016_1063.out) | (dsimp only; exact NB1016_1063.out)) _).trans (((cell_far (p := ⟨gb1063, _, none⟩) (by first | exact NB1016_1063.out | (rw [add_block]; exact NB1016_1063.out) | (show (Addr.add _ _).block ≠ _; rw [add_block]; exact NB1016_1063.out) | (dsimp only; exact NB1016_1063.out)) _).trans (((cell_far (p := ⟨gb1063, _, none⟩) (by first | exact NB1016_1063.out | (rw [add_block]; exact NB1016_1063.out) | (show (Addr.add _ _).block ≠ _; rw [add_block]; exact NB1016_1063.out) | (dsimp only; exact NB1016_1063.out)) _).trans (((cell_far (p := ⟨gb1063, _, none⟩) (by first | exact NB1016_1063.out | (rw [add_block]; exact NB1016_1063.out) | (show (Addr.add _ _).block ≠ _; rw [add_block]; exact NB1016_1063.out) | (dsimp only; exact NB1016_1063.out)) _).trans (((cell_far (p := ⟨gb1063, _, none⟩) (by first | exact NB1016_1063.out | (rw [add_block]; exact NB1016_1063.out) | (show (Addr.add _ _).block ≠ _; rw [add_block]; exact NB1016_1063.out) | (dsimp only; exact NB1016_1063.out)) _).trans (((cell_far (p := ⟨gb1063, _, none⟩) (by first | exact NB1016_1063.out | (rw [add_block]; exact NB1016_1063.out) | (show (Addr.add _ _).block ≠ _; rw [add_block]; exact NB1016_1063.out) | (dsimp only; exact NB1016_1063.out)) _).trans (((cell_far (p := ⟨gb1063, _, none⟩) (by first | exact NB1016_1063.out | (rw [add_block]; exact NB1016_1063.out) | (show (Addr.add _ _).block ≠ _; rw [add_block]; exact NB1016_1063.out) | (dsimp only; exact NB1016_1063.out)) _).trans (((cell_far (p := ⟨gb1063, _, none⟩) (by first | exact NB1016_1063.out | (rw [add_block]; exact NB1016_1063.out) | (show (Addr.add _ _).block ≠ _; rw [add_block]; exact NB1016_1063.out) | (dsimp only; exact NB1016_1063.out)) _).trans (((cell_far (p := ⟨gb1063, _, none⟩) (by first | exact NB1016_1063.out | (rw [add_block]; exact NB1016_1063.out) | (show (Addr.add _ _).block ≠ _; rw [add_block]; exact NB1016_1063.out) | (dsimp only; exact NB1016_1063.out)) _).trans (((cell_far (p := ⟨gb1063, _, none⟩) (by first | exact NB1016_1063.out | (rw [add_block]; exact NB1016_1063.out) | (show (Addr.add _ _).block ≠ _; rw [add_block]; exact NB1016_1063.out) | (dsimp only; exact NB1016_1063.out)) _).trans (((cell_far (p := ⟨gb1063, _, none⟩) (by first | exact NB1016_1063.out | (rw [add_block]; exact NB1016_1063.out) | (show (Addr.add _ _).block ≠ _; rw [add_block]; exact NB1016_1063.out) | (dsimp only; exact NB1016_1063.out)) _).trans (((cell_far (p := ⟨gb1063, _, none⟩) (by first | exact NB1016_1063.out | (rw [add_block]; exact NB1016_1063.out) | (show (Addr.add _ _).block ≠ _; rw [add_block]; exact NB1016_1063.out) | (dsimp only; exact NB1016_1063.out)) _).trans (hHeld.1)))))))))))))))))))))))))))))))), ((cell_far (p := ⟨gb1063, _, none⟩) (by first | exact NB1016_1063.out | (rw [add_block]; exact NB1016_1063.out) | (show (Addr.add _ _).block ≠ _; rw [add_block]; exact NB1016_1063.out) | (dsimp only; exact NB1016_1063.out)) _).trans (((cell_far (p := ⟨gb1063, _, none⟩) (by first | exact NB1016_1063.out | (rw [add_block]; exact NB1016_1063.out) | (show (Addr.add _ _).block ≠ _; rw [add_block]; exact NB1016_1063.out) | (dsimp only; exact NB1016_1063.out)) _).trans (((cell_far (p := ⟨gb1063, _, none⟩) (by first | exact NB1016_1063.out | (rw [add_block]; exact NB1016_1063.out) | (show (Addr.add _ _).block ≠ _; rw [add_block]; exact NB1016_1063.out) | (dsimp only; exact NB1016_1063.out)) _).trans (((cell_far (p := ⟨gb1063, _, none⟩) (by first | exact NB1016_1063.out | (rw [add_block]; exact NB1016_1063.out) | (show (Addr.add _ _).block ≠ _; rw [add_block]; exact NB1016_1063.out) | (dsimp only; exact NB1016_1063.out)) _).trans (((cell_far (p := ⟨gb1063, _, none⟩) (by first | exact NB1016_1063.out | (rw [add_block]; exact NB1016_1063.out) | (show (Addr.add _ _).block ≠ _; rw [add_block]; exact NB1016_1063.out) | (dsimp only; exact NB1016_1063.out)) _).trans (((cell_far (p := ⟨gb1063, _, none⟩) (by first | exact NB1016_1063.out | (rw [add_block]; exact NB1016_1063.out) | (show (Addr.add _ _).block ≠ _; rw [add_block]; exact NB1016_1063.out) | (dsimp only; exact NB1016_1063.out)) _).trans (((cell_far (p := ⟨gb1063, _, none⟩) (by first | exact NB1016_1063.out | (rw [add_block]; exact NB1016_1063.out) | (show (Addr.add _ _).block ≠ _; rw [add_block]; exact NB1016_1063.out) | (dsimp only; exact NB1016_1063.out)) _).trans (((cell_far (p := ⟨gb1063, _, none⟩) (by first | exact NB1016_1063.out | (rw [add_block]; exact NB1016_1063.out) | (show (Addr.add _ _).block ≠ _; rw [add_block]; exact NB1016_1063.out) | (dsimp only; exact NB1016_1063.out)) _).trans (((cell_far (p := ⟨gb1063, _, none⟩) (by first | exact NB1016_1063.out | (rw [add_block]; exact NB1016_1063.out) | (show (Addr.add _ _).block ≠ _; rw [add_block]; exact NB1016_1063.out) | (dsimp only; exact NB1016_1063.out)) _).trans (((cell_far (p := ⟨gb1063, _, none⟩) (by first | exact NB1016_1063.out | (rw [add_block]; exact NB1016_1063.out) | (show (Addr.add _ _).block ≠ _; rw [add_block]; exact NB1016_1063.out) | (dsimp only; exact NB1016_1063.out)) _).trans (((cell_far (p := ⟨gb1063, _, none⟩) (by first | exact NB1016_1063.out | (rw [add_block]; exact NB1016_1063.out) | (show (Addr.add _ _).block ≠ _; rw [add_block]; exact NB1016_1063.out) | (dsimp only; exact NB1016_1063.out)) _).trans (((cell_far (p := ⟨gb1063, _, none⟩) (by first | exact NB1016_1063.out | (rw [add_block]; exact NB1016_1063.out) | (show (Addr.add _ _).block ≠ _; rw [add_block]; exact NB1016_1063.out) | (dsimp only; exact NB1016_1063.out)) _).trans (((cell_far (p := ⟨gb1063, _, none⟩) (by first | exact NB1016_1063.out | (rw [add_block]; exact NB1016_1063.out) | (show (Addr.add _ _).block ≠ _; rw [add_block]; exact NB1016_1063.out) | (dsimp only; exact NB1016_1063.out)) _).trans (((cell_far (p := ⟨gb1063, _, none⟩) (by first | exact NB1016_1063.out | (rw [add_block]; exact NB1016_1063.out) | (show (Addr.add _ _).block ≠ _; rw [add_block]; exact NB1016_1063.out) | (dsimp only; exact NB1016_1063.out)) _).trans (((cell_far (p := ⟨gb1063, _, none⟩) (by first | exact NB1016_1063.out | (rw [add_block]; exact NB1016_1063.out) | (show (Addr.add _ _).block ≠ _; rw [add_block]; exact NB1016_1063.out) | (dsimp only; exact NB1016_1063.out)) _).trans (((cell_far (p := ⟨gb1063, _, none⟩) (by first | exact NB1016_1063.out | (rw [add_block]; exact NB1016_1063.out) | (show (Addr.add _ _).block ≠ _; rw [add_block]; exact NB1016_1063.out) | (dsimp only; exact NB1016_1063.out)) _).trans (hHeld.2))))))))))))))))))))))))))))))))⟩ (fun hHeld => ?_)
       clear hK K
       refine pq_ 18 9 HT_ (rl [19]) ?_
       refine done_ (done_of HT_.out (by kernel_rfl)) ?_
       go_upto_if 82 with (fail)
       have H := HC47.out
       clear HC47
       by_cases c69 : t1062 = true
       rotate_left
       ·
        replace c69 := nf_ c69
        subst c69
        rw [if_neg (show ¬ (false = true) by decide)] at H
        simp only [Option.some.injEq, Prod.mk.injEq] at H
        obtain ⟨rfl, rfl, rfl, rfl, rfl, rfl, rfl, rfl, rfl⟩ := H
        have hnb82 := nx_ NB1015_1023
        have hnb83 := nx_ NB1015_1063
        have hnb84 := nx_ NB1015_1016
        (try clear zK1015)
        have zK1015 := cf8 BK1015.out
        go_wp2_with (first | ((with_reducible refine gate_store (t := 75) (p := 2) rfl ?_); refine store_event (t := 75) (p := 2) (v := ?vo_w86) (w1 := ((((((((((((((((((((((((w52.setCell ⟨gb1063, 0, none⟩ (.int .i64 t1046)).setCell ⟨gb1063, 1, none⟩ (.int .i64 t1047)).setCell ⟨gb1063, 2, none⟩ (.string t1048)).setCell ⟨gb1063, 3, none⟩ (.int .i64 t1049)).setCell ⟨gb1063, 4, none⟩ (.int .i64 t1050)).setCell ⟨gb1063, 5, none⟩ (.int .i64 t1051)).setCell ⟨gb1063, 6, none⟩ (.string t1052)).setCell ⟨gb1063, 7, none⟩ (.int .i64 t1053)).setCell ⟨gb1063, 8, none⟩ (.int .i64 t1054)).setCell ⟨gb1063, 9, none⟩ (.int .i64 t1055)).setCell ⟨gb1063, 10, none⟩ (.string t1056)).setCell ⟨gb1063, 11, none⟩ (.int .i64 t1057)).setCell ⟨gb1063, 12, none⟩ (.int .i64 t1058)).setCell ⟨gb1063, 13, none⟩ (.int .i64 t1059)).setCell ⟨gb1063, 14, none⟩ (.int .i64 t1060)).setCell ⟨gb1063, 15, none⟩ (.int .i64 t1061)).setCell ⟨gb1015, 0, none⟩ (.int .i64 0)).setCell ⟨gb1015, 1, none⟩ (.int .i64 0)).setCell ⟨gb1015, 2, none⟩ (.int .i64 0)).setCell ⟨gb1015, 3, none⟩ (.int .i64 0)).setCell ⟨gb1015, 4, none⟩ (.int .i64 0)).setCell ⟨gb1015, 5, none⟩ (.bool false)).setCell ⟨gb1015, 6, none⟩ (.int .i64 0)).setCell ⟨gb1015, 7, none⟩ (.slice none 0 0))) ?hg ?ho ?hn ?hr ?_; (case ho => rfl); (case hg => rfl); (case hn => rfl); (case hr => first | (go_simp; done) | (go_simp; rfl)); intro w86 hw; have n0_ : Aside0 (Kd.R k29 29 w86 w.heap.size (fun k_ => k_ ≠ gb1063) u1024007 x1024007_1) := ⟨(by rw [hw]; exact (by (with_reducible repeat (first | apply Kd.R_alloc | apply Kd.R_drewN | apply Kd.R_drew)); exact Kd.R_mono (R_far8 (g := gb1015) (R_far16 (g := gb1063) (Kd.R_types (Kd.R_mono HO_1024007.out (fun k_ hk => (⟨hk, hk⟩ : _ ∧ k_ ≠ gb1063))) BK1015.out (by decide)) (fun _ hk => hk.1.2)) (fun _ hk => hk.2)) (fun _ hk => hk.1.1)))⟩; have n1_ : Aside0 (w86.heap[gb1015]? = some (.cells #[.int .i64 0, .int .i64 0, .int .i64 0, .int .i64 0, .int .i64 0, .bool false, .int .i64 0, .slice none 0 0] 75 (0, 0))) := ⟨(by rw [hw]; exact (by exact blk_all8 (blk_far16 (qK BK1015) NB1015_1063.out)))⟩; have n2_ : Aside0 (w86.heap[gb1023]? = some (.cells #[.int .i64 t1017, .int .i64 t1020, .int .i64 t1024, .int .i64 t1027, .int .i64 t1030, .bool (t1033 == 1), .int .i64 t1036, u1024007] 75 (0, 0))) := ⟨(by rw [hw]; exact (by (with_reducible repeat (first | refine blk_drewN ?_ _ | refine blk_drew ?_ | refine blk_alloc ?_ _)); refine blk_far8 ?_ NB1023_1015.out; (with_reducible repeat (first | refine blk_drewN ?_ _ | refine blk_drew ?_ | refine blk_alloc ?_ _)); refine blk_far16 ?_ NB1023_1063.out; exact qK BK1023))⟩; have n3_ : Aside0 (w86.heap[gb1063]? = some (.cells #[.int .i64 t1046, .int .i64 t1047, .string t1048, .int .i64 t1049, .int .i64 t1050, .int .i64 t1051, .string t1052, .int .i64 t1053, .int .i64 t1054, .int .i64 t1055, .string t1056, .int .i64 t1057, .int .i64 t1058, .int .i64 t1059, .int .i64 t1060, .int .i64 t1061] 29 (0, 0))) := ⟨(by rw [hw]; exact (by (with_reducible repeat (first | refine blk_drewN ?_ _ | refine blk_drew ?_ | refine blk_alloc ?_ _)); refine blk_far8 ?_ NB1063_1015.out; (with_reducible repeat (first | refine blk_drewN ?_ _ | refine blk_drew ?_ | refine blk_alloc ?_ _)); refine blk_all16 (show _ = some (Go.Obj.cells #[.int .i64 0, .int .i64 0, .string (⟨#[]⟩ : ByteArray), .int .i64 0, .int .i64 0, .int .i64 0, .string (⟨#[]⟩ : ByteArray), .int .i64 0, .int .i64 0, .int .i64 0, .string (⟨#[]⟩ : ByteArray), .int .i64 0, .int .i64 0, .int .i64 0, .int .i64 0, .int .i64 0] _ (0, 0)) from ?_); exact qK BK1063))⟩; have n4_ : Aside0 (IsS106 w w86 gb1016 l0 t1043 t1044) := ⟨(by rw [hw]; exact (IsS106.qz HI1016))⟩; have n5_ : Aside0 (Below w.heap.size w w86) := ⟨(by rw [hw]; exact (qB HB))⟩; clear hw; clear HO_1024007; clear BK1015; clear BK1023; clear BK1063; clear HI1016; clear HB; have HO_1024007 := n0_; have BK1015 := n1_; have BK1023 := n2_; have BK1063 := n3_; have HI1016 := n4_; have HB := n5_; clear n0_ n1_ n2_ n3_ n4_ n5_))
        refine bodyPost_ret (results_ct rfl _ _ gb1015 75 #[.int .i64 0, .int .i64 0, .int .i64 0, .int .i64 0, .int .i64 0, .bool false, .int .i64 0, .slice none 0 0] (0, 0) _ rfl (qK BK1015) Try.underlying75 rfl (by kernel_rfl)) rfl ?_
        exact ⟨_, er_, by first | exact Kd.R_nil _ _ _ _ _ | exact Kd.N_nil _ _ _ _ _ | exact Kd.V_nil _ _ _ _ _ | exact Kd.Q_nil _ _ _ _ _ | exact Kd.S_nil _ _ _ _ _, qB HB⟩
       subst c69
       rw [if_pos rfl] at H
       replace H := ip_ H
       obtain ⟨c70, H, -⟩ := H
       have LMc70 := am_ c70
       clear c70
       obtain ⟨y1064, hy1064⟩ : ∃ y_ : List (S29), y_ = (x1024007_1 ++ [(⟨t1046, (⟨t1047, t1048, t1049, t1050, t1051, t1052, t1053, t1054⟩ : S25), (⟨t1055, t1056, t1057, t1058, t1059, t1060, t1061⟩ : S27)⟩ : S29)]) := ⟨_, rfl⟩
       rw [← hy1064] at H
       have Ny1064 := am_ hy1064
       clear hy1064
       have H' := Aside0.mk H
       clear H
       have hnb71 := nx_ NB1023_1015
       have hnb72 := nx_ NB1023_1063
       have hnb73 := nx_ NB1023_1016
       (try clear zK1023)
       have zK1023 := cf8 BK1023.out
       have hnb75 := nx_ NB1063_1015
       have hnb76 := nx_ NB1063_1016
       (try clear zK1063)
       have zK1063 := cf16 BK1063.out
       go_wp2_with (first | ((with_reducible refine gate_builtin (b := .append) (xs := #[.tmp 85, .tmp 87]) rfl ?_); (try (refine gate_guard (by rfl) ?_; dsimp only)); at_builtin; refine Kd.R_append k29 (w0 := w) w.heap.size rfl (.tmp 85) (.tmp 87) 73 29 (.agg #[(.int .i64 0), (.int .i64 0), (.string ⟨#[]⟩), (.int .i64 0), (.int .i64 0), (.int .i64 0), (.string ⟨#[]⟩), (.int .i64 0), (.int .i64 0), (.int .i64 0), (.string ⟨#[]⟩), (.int .i64 0), (.int .i64 0), (.int .i64 0), (.int .i64 0), (.int .i64 0)]) 152 rfl Try.underlying73 info29 rfl (by decide) (by omega) u1024007 x1024007_1 (⟨t1046, (⟨t1047, t1048, t1049, t1050, t1051, t1052, t1053, t1054⟩ : S25), (⟨t1055, t1056, t1057, t1058, t1059, t1060, t1061⟩ : S27)⟩ : S29) [.int .i64 t1046, .int .i64 t1047, .string t1048, .int .i64 t1049, .int .i64 t1050, .int .i64 t1051, .string t1052, .int .i64 t1053, .int .i64 t1054, .int .i64 t1055, .string t1056, .int .i64 t1057, .int .i64 t1058, .int .i64 t1059, .int .i64 t1060, .int .i64 t1061] (fun k_ => k_ ≠ gb1063) (fun _ => False) rfl (by first | (go_simp; done) | (go_simp; rfl)) ?aP (fun _ hk => hk.elim) ?aF ?aO ?aB ?aS ?aL ?_; (case aP => exact k29_mkM _ _ _ (⟨t1046, (⟨t1047, t1048, t1049, t1050, t1051, t1052, t1053, t1054⟩ : S25), (⟨t1055, t1056, t1057, t1058, t1059, t1060, t1061⟩ : S27)⟩ : S29)); (case aB => exact (qB HB)); (case aF => exact (fun k_ hk => Kd.freshB (g := gb1063) (o := .cells #[.int .i64 t1046, .int .i64 t1047, .string t1048, .int .i64 t1049, .int .i64 t1050, .int .i64 t1051, .string t1052, .int .i64 t1053, .int .i64 t1054, .int .i64 t1055, .string t1056, .int .i64 t1057, .int .i64 t1058, .int .i64 t1059, .int .i64 t1060, .int .i64 t1061] 29 (0, 0)) (by exact blk_all16 (qK BK1063)) k_ hk)); (case aO => exact (gR1_ (g := gb1063) HO_1024007)); (case aS => exact (below_size (qB HB))); (case aL => have := LMc70.out; omega); intro v1065 w78 ho hb hg hat; rw [← Ny1064.out] at ho; replace BK1015 := fg_ BK1015 hg (Kd.R_ne HO_1024007.out BK1015.out (by decide)); replace BK1023 := fg_ BK1023 hg (Kd.R_ne HO_1024007.out BK1023.out (by decide)); replace HI1016 := am_ (IsS106.grown (IsS106.qz HI1016) hg (IsS106.own_ne HI1016.out HO_1024007.out (by decide))); replace BK1063 := am_ (blk_grown (g := gb1063) (o := .cells #[.int .i64 t1046, .int .i64 t1047, .string t1048, .int .i64 t1049, .int .i64 t1050, .int .i64 t1051, .string t1052, .int .i64 t1053, .int .i64 t1054, .int .i64 t1055, .string t1056, .int .i64 t1057, .int .i64 t1058, .int .i64 t1059, .int .i64 t1060, .int .i64 t1061] 29 (0, 0)) (by exact blk_all16 (qK BK1063)) hg (Kd.R_away HO_1024007.out (fun _ hk => hk))); replace HB := am_ (hb); have HO1066 := am_ (ho); clear HO_1024007; clear ho hb hg hat; obtain ⟨Ao79, co79, eo79⟩ := Kd.R_slice HO1066.out; subst eo79; (try clear zK1023); have zK1023 := cf8 BK1023.out; obtain ⟨ASz81_0, cSz81_0, HGz81, hgz81, HSz81_0⟩ := HI1016.out; obtain ⟨HSz81_0, HQz81_0⟩ := HSz81_0; have z81_0 := cellS106_0 HGz81; have z81_1 := cellS106_1 HGz81; have z81_2 := cellS106_2 HGz81; have f81_1 := blk_frozen HGz81 1; have f81_2 := blk_frozen HGz81 2; clear HGz81 hgz81))
       go_roundg kj33
       case measure => have := HK1.out; have := HJ28.out; have := HJ33.out; omega
       case rel => exact ⟨(wrap64 (x6_1 - 1)), (x1016000_1), (x1016001_1), (x1016002_1), (x1016003_1), (x1016004_1), (x1016005_1), (x1016006_1), (wrap64 (t1043 + t1042)), (t1044), (y1064), (.slice Ao79 y1064.length co79), eqq_, H', ⟨by have := HK1.out; have := HJ28.out; have := HJ33.out; omega⟩, ⟨by (with_reducible repeat (first | apply Kd.R_alloc | apply Kd.R_drewN | apply Kd.R_drew)); exact Kd.R_mono (Kd.R_far (p := ⟨gb1016, 1, none⟩) (Kd.R_far (p := ⟨gb1023, 7, none⟩) (IsS106.apart HI1016.out (Kd.R_types HO1066.out BK1023.out (by decide)) (by decide)) (fun _ hk => hk.1.2) (.slice Ao79 y1064.length co79)) (fun _ hk => hk.2) (.int .i64 (wrap64 (t1043 + t1042)))) (fun _ hk => trivial)⟩, ⟨by (with_reducible repeat (first | refine blk_drewN ?_ _ | refine blk_drew ?_ | refine blk_alloc ?_ _)); refine blk_far ?_ NB1015_1016.out _; (with_reducible repeat (first | refine blk_drewN ?_ _ | refine blk_drew ?_ | refine blk_alloc ?_ _)); refine blk_far ?_ NB1015_1023.out _; exact qK BK1015⟩, ⟨by (with_reducible repeat (first | refine blk_drewN ?_ _ | refine blk_drew ?_ | refine blk_alloc ?_ _)); refine blk_far ?_ NB1023_1016.out _; (with_reducible repeat (first | refine blk_drewN ?_ _ | refine blk_drew ?_ | refine blk_alloc ?_ _)); refine blk_put (cs := #[.int .i64 t1017, .int .i64 t1020, .int .i64 t1024, .int .i64 t1027, .int .i64 t1030, .bool (t1033 == 1), .int .i64 t1036, u1024007]) ?_ 7 _ rfl; exact qK BK1023⟩, ⟨IsS106.qz HI1016⟩, ⟨qB HB⟩⟩

end Go.Proofs.Ytiffahfpfgnjnaa.PFnCtls
