-- Written by a program of this session (myprint.py, over the kit's print): contracts of FnItems
import Derived.Test.YtiffahfpfgnjnaaPFnItemsx0
import Derived.Test.YtiffahfpfgnjnaaPFnItemsx16
import Derived.Test.YtiffahfpfgnjnaaPFnItemsx17
import Derived.Test.YtiffahfpfgnjnaaPFnItemsx18
namespace Go.Proofs.Ytiffahfpfgnjnaa.PFnItems
open Go.RowKit Go.Proofs.YtiffahfpfgnjnaaW.PrintWords Go.Proofs.YtiffahfpfgnjnaaW.PrintLast Go.Proofs.YtiffahfpfgnjnaaW.PrintMore Go.Proofs.YtiffahfpfgnjnaaV
attribute [local go_sem] max2_int min2_int max_two min_two max_three min_three max_four min_four   -- for this text's walks alone
set_option linter.unusedVariables false
set_option linter.unusedSimpArgs false

/-! ### spec_GetItem: function 12 -/
def spec_GetItem.j0 : Nat → List Int → List Int → Int → Bool → Int → Int → ByteArray → Int → Int → Int → ByteArray → Int → Int → Int → ByteArray → Int → Int → Int → Int → Int → Option (Int × Int × ByteArray × Int × Int × Int × ByteArray × Int × Int × Int × ByteArray × Int × Int × Int × Int × Int × Bool)
 | 0, _, _, _, _, _, _, _, _, _, _, _, _, _, _, _, _, _, _, _, _ => none
 | k + 1, x0, x757000, x757001, x757002, x761000, x761001, x761002, x761003, x761004, x761005, x761006, x761007, x761008, x761009, x761010, x761011, x761012, x761013, x761014, x761015 => if x757002 = true then (some (0, 0, (⟨#[]⟩ : ByteArray), 0, 0, 0, (⟨#[]⟩ : ByteArray), 0, 0, 0, (⟨#[]⟩ : ByteArray), 0, 0, 0, 0, 0, false)) else ((spec_PutItem.f k x761000 x761001 x761002 x761003 x761004 x761005 x761006 x761007 x761008 x761009 x761010 x761011 x761012 x761013 x761014 x761015).bind fun t812 => ((spec_l1Same.f t812 x0).bind fun t815 => (if t815 = true then (some (x761000, x761001, x761002, x761003, x761004, x761005, x761006, x761007, x761008, x761009, x761010, x761011, x761012, x761013, x761014, x761015, true)) else (some (0, 0, (⟨#[]⟩ : ByteArray), 0, 0, 0, (⟨#[]⟩ : ByteArray), 0, 0, 0, (⟨#[]⟩ : ByteArray), 0, 0, 0, 0, 0, false)))))
def spec_GetItem.f (k : Nat) (l0 : List Int) : Option (Int × Int × ByteArray × Int × Int × Int × ByteArray × Int × Int × Int × ByteArray × Int × Int × Int × Int × Int × Bool) := (spec_l9Byte.f l0 0 false).bind fun bt757 => (if bt757.1 = 1 then ((spec_l9Word.f l0 bt757.2.1 bt757.2.2).bind fun bt761 => ((spec_l9Byte.f l0 bt761.2.1 bt761.2.2).bind fun bt764 => ((spec_l9Text.f k l0 bt764.2.1 bt764.2.2).bind fun bt767 => ((spec_l9Word.f l0 bt767.2.1 bt767.2.2).bind fun bt770 => ((spec_l9Word.f l0 bt770.2.1 bt770.2.2).bind fun bt773 => ((spec_l9Byte.f l0 bt773.2.1 bt773.2.2).bind fun bt776 => ((spec_l9Text.f k l0 bt776.2.1 bt776.2.2).bind fun bt779 => ((spec_l9Word.f l0 bt779.2.1 bt779.2.2).bind fun bt782 => ((spec_l9Word.f l0 bt782.2.1 bt782.2.2).bind fun bt785 => (spec_GetItem.j0 k l0 l0 bt785.2.1 bt785.2.2 bt757.1 bt761.1 bt767.1 bt764.1 bt770.1 (wrap64 ((wrap64 (256 * bt773.1)) + bt776.1)) bt779.1 bt782.1 bt785.1 0 (⟨#[]⟩ : ByteArray) 0 0 0 0 0)))))))))) else ((spec_l9Word.f l0 bt757.2.1 bt757.2.2).bind fun bt788 => ((spec_l9Byte.f l0 bt788.2.1 bt788.2.2).bind fun bt791 => ((spec_l9Text.f k l0 bt791.2.1 bt791.2.2).bind fun bt794 => ((spec_l9Word.f l0 bt794.2.1 bt794.2.2).bind fun bt797 => ((spec_l9Word.f l0 bt797.2.1 bt797.2.2).bind fun bt800 => ((spec_l9Byte.f l0 bt800.2.1 bt800.2.2).bind fun bt803 => ((spec_l9Word.f l0 bt803.2.1 bt803.2.2).bind fun bt806 => ((spec_l9Word.f l0 bt806.2.1 bt806.2.2).bind fun bt809 => (spec_GetItem.j0 k l0 l0 bt809.2.1 bt809.2.2 bt757.1 0 (⟨#[]⟩ : ByteArray) 0 0 0 (⟨#[]⟩ : ByteArray) 0 0 bt788.1 bt794.1 bt797.1 bt791.1 (wrap64 ((wrap64 (256 * bt800.1)) + bt803.1)) bt806.1 bt809.1))))))))))
theorem spec_GetItem.mono_l : ∀ k, (∀ y0 y1 y2 y3 y4 y5 y6 y7 y8 y9 y10 y11 y12 y13 y14 y15 y16 y17 y18 y19, LeO (spec_GetItem.j0 k y0 y1 y2 y3 y4 y5 y6 y7 y8 y9 y10 y11 y12 y13 y14 y15 y16 y17 y18 y19) (spec_GetItem.j0 (k + 1) y0 y1 y2 y3 y4 y5 y6 y7 y8 y9 y10 y11 y12 y13 y14 y15 y16 y17 y18 y19))
 | 0 => fun _ _ _ _ _ _ _ _ _ _ _ _ _ _ _ _ _ _ _ _ r h => by simp [spec_GetItem.j0] at h
 | k + 1 => by
  have ih0 := spec_GetItem.mono_l k
  ·
   intro y0 y1 y2 y3 y4 y5 y6 y7 y8 y9 y10 y11 y12 y13 y14 y15 y16 y17 y18 y19
   unfold spec_GetItem.j0
   repeat' first
   | (with_reducible exact ih0 _ _ _ _ _ _ _ _ _ _ _ _ _ _ _ _ _ _ _ _)
   | (with_reducible exact spec_PutItem.mono _ _ _ _ _ _ _ _ _ _ _ _ _ _ _ _ _)
   | (with_reducible exact spec_l9Text.mono _ _ _ _)
   | (with_reducible exact LeO.refl _)
   | (with_reducible exact LeO.none _)
   | (with_reducible refine LeO.ite ?_ ?_)
   | (with_reducible refine LeO.bind ?_ (fun _ => ?_))
theorem spec_GetItem.mono : ∀ a0 k, LeO (spec_GetItem.f k a0) (spec_GetItem.f (k + 1) a0) := by
 intro a0 k
 have ih0 := spec_GetItem.mono_l k
 unfold spec_GetItem.f
 repeat' first
   | (with_reducible exact ih0 _ _ _ _ _ _ _ _ _ _ _ _ _ _ _ _ _ _ _ _)
   | (with_reducible exact spec_PutItem.mono _ _ _ _ _ _ _ _ _ _ _ _ _ _ _ _ _)
   | (with_reducible exact spec_l9Text.mono _ _ _ _)
   | (with_reducible exact LeO.refl _)
   | (with_reducible exact LeO.none _)
   | (with_reducible refine LeO.ite ?_ ?_)
   | (with_reducible refine LeO.bind ?_ (fun _ => ?_))
def spec_GetItem.T9 : Bool × List (List Nat × List Nat) := (true, [([], []), ([0], [0]), ([1], [1]), ([], []), ([3], [3]), ([2, 4], [2, 4]), ([0, 1, 2, 3, 4, 5], []), ([6, 0, 1, 2, 3, 4, 5], [6]), ([7, 5, 4, 0, 1, 2, 3, 4, 5], [5, 7])])
def spec_GetItem.B9 : List Nat := [0, 1, 3, 0, 8, 31, 63, 127, 255]
theorem spec_GetItem.tab9 : rtab .any (opsOf Try.f12 9) = spec_GetItem.T9 := by kernel_rfl
theorem spec_GetItem.bits9 : waitsOk spec_GetItem.T9.2 spec_GetItem.B9 = true := by kernel_rfl
def spec_GetItem.T18 : Bool × List (List Nat × List Nat) := (true, [([], []), ([0], [0]), ([1], [1]), ([], []), ([3], [3]), ([2, 4], [2, 4]), ([0, 1, 2, 3, 4, 5], []), ([6, 0, 1, 2, 3, 4, 5], [6]), ([7, 5, 4, 0, 1, 2, 3, 4, 5], [5, 7])])
def spec_GetItem.B18 : List Nat := [0, 1, 3, 0, 8, 31, 63, 127, 255]
theorem spec_GetItem.tab18 : rtab .any (opsOf Try.f12 18) = spec_GetItem.T18 := by kernel_rfl
theorem spec_GetItem.bits18 : waitsOk spec_GetItem.T18.2 spec_GetItem.B18 = true := by kernel_rfl
set_option maxHeartbeats 8000000 in
set_option maxRecDepth 100000 in
theorem spec_GetItem.calls (k : Nat) (A0 : Option Addr) (c0 : Nat) (l0 : List Int) (r1 : Int) (r2 : Int) (r3 : ByteArray) (r4 : Int) (r5 : Int) (r6 : Int) (r7 : ByteArray) (r8 : Int) (r9 : Int) (r10 : Int) (r11 : ByteArray) (r12 : Int) (r13 : Int) (r14 : Int) (r15 : Int) (r16 : Int) (r17 : Bool) (w : World) (hr0 : Kd.C (Kd.int .u8) w A0 l0.length l0) (hc0 : l0.length ≤ c0) (h : spec_GetItem.f k l0 = some (r1, r2, r3, r4, r5, r6, r7, r8, r9, r10, r11, r12, r13, r14, r15, r16, r17)) :
  Calls Try.prog 12 #[.slice A0 l0.length c0] w fun e w' => e = .returned (.tuple #[.agg #[.int .i64 r1, .int .i64 r2, .string r3, .int .i64 r4, .int .i64 r5, .int .i64 r6, .string r7, .int .i64 r8, .int .i64 r9, .int .i64 r10, .string r11, .int .i64 r12, .int .i64 r13, .int .i64 r14, .int .i64 r15, .int .i64 r16], .bool r17]) ∧ Below w.heap.size w w' := by
 have hu29 := Try.underlying29
 have hu106 := Try.underlying106
 have HR0 := Aside0.mk hr0
 have HC0 := Aside0.mk hc0
 clear hr0 hc0
 have HB := Aside0.mk (Below.refl w.heap.size w)
 have H := h
 unfold spec_GetItem.f at H
 clear h
 replace H := bf_ H
 obtain ⟨f_, hf_, ⟨t757, t758, t759⟩, A2, H⟩ := H
 subst hf_
 (try dsimp only at H)
 have HC3 := Aside0.mk H
 clear H
 go_enter Try.func12, Try.ntmps12
 go_upto_if 14 with (first | ((with_reducible refine gate_dst (N := 2) rfl ?_); refine box_event ?hg (N := 2) ?hd (cs := #[.int .i64 0, .int .i64 0, .string (⟨#[]⟩ : ByteArray), .int .i64 0, .int .i64 0, .int .i64 0, .string (⟨#[]⟩ : ByteArray), .int .i64 0, .int .i64 0, .int .i64 0, .string (⟨#[]⟩ : ByteArray), .int .i64 0, .int .i64 0, .int .i64 0, .int .i64 0, .int .i64 0]) (t := 29) ?hr ?_; (case hd => rfl); (case hg => rfl); (case hr => first | (go_simp; done) | (go_simp; rfl)); intro gb755 hg w4 hbox hb; have BK755 := am_ (hbox); have GW755 := gA_ hg HB; have GE755 := GW755; have IGE755 := gI_ GE755; replace HB := bS_ HB hb; clear hb hbox hg) | ((with_reducible refine gate_dst (N := 8) rfl ?_); refine box_event ?hg (N := 8) ?hd (cs := #[.slice A0 l0.length c0, .int .i64 0, .bool false]) (t := 106) ?hr ?_; (case hd => rfl); (case hg => rfl); (case hr => first | (go_simp; done) | (go_simp; rfl)); intro gb756 hg w5 hbox hb; have BK756 := am_ (hbox); have GW756 := gA_ hg HB; have GE756 := GW756; have IGE756 := gI_ GE756; replace HB := bS_ HB hb; have NB755_756 := am_ ((gN_ hg (qK BK755))); have NB756_755 := am_ ((gM_ hg (qK BK755))); replace BK755 := bK_ BK755 hb; clear hb hbox hg; have HI756 := Aside0.mk (show IsS106 w _ gb756 l0 0 false from ⟨_, _, BK756.out, GE756.out, ⟨HR0.out, HC0.out⟩⟩); have IGHI756 := iG_ HI756.out.ge) | ((with_reducible refine gate_callee (f := 75) rfl ?_); refine goesL_ (some 10) rfl rfl Try.func75 (by kernel_rfl) rfl #[.pointer (some ⟨gb756, 0, none⟩)] rfl la_ ?_; (with_reducible refine (spec_l9Byte.calls gb756 l0 0 false t757 t758 t759 w _ ?side1 ?side2 A2.out).mono ?_); (case side1 => repeat (first | (with_reducible first | exact HI756.out | apply IsS106.alloc | apply IsS106.drewN | apply IsS106.drew | apply IsS106.set_1 | apply IsS106.set_2 | refine IsS106.far ?_ NB756_755.out _) | exact HI756.out)); (case side2 => exact qB HB); rintro e w6 ⟨rfl, hi, hb, hk⟩; refine ⟨_, rfl, ?_⟩; replace BK755 := kB_ BK755 hk NB755_756; replace HB := am_ (hb); replace HI756 := am_ (hi); (try clear hb); (try clear hk); (try clear hi)) | ((with_reducible refine gate_dst (N := 5) rfl ?_); refine box_event ?hg (N := 5) ?hd (cs := #[.int .i64 0, .int .i64 0, .string (⟨#[]⟩ : ByteArray), .int .i64 0, .int .i64 0, .int .i64 0, .string (⟨#[]⟩ : ByteArray), .int .i64 0, .int .i64 0, .int .i64 0, .string (⟨#[]⟩ : ByteArray), .int .i64 0, .int .i64 0, .int .i64 0, .int .i64 0, .int .i64 0]) (t := 29) ?hr ?_; (case hd => rfl); (case hg => rfl); (case hr => first | (go_simp; done) | (go_simp; rfl)); intro gb760 hg w7 hbox hb; have BK760 := am_ (hbox); have GW760 := am_ ((by rw [hg]; exact (below_size (qB HB)) : w.heap.size ≤ gb760)); have IGW760 := gI_ GW760; have GE760 := am_ ((by rw [hg]; exact (below_size (qB HB)) : w.heap.size ≤ gb760)); have IGE760 := gI_ GE760; replace HB := bS_ HB hb; have NB755_760 := am_ ((gN_ hg (qK BK755))); have NB760_755 := am_ ((gM_ hg (qK BK755))); replace BK755 := bK_ BK755 hb; have NB756_760 := am_ ((by rw [hg]; exact Nat.ne_of_lt (IsS106.lt (show IsS106 w _ gb756 l0 t758 t759 from by repeat (first | (with_reducible first | exact HI756.out | apply IsS106.alloc | apply IsS106.drewN | apply IsS106.drew | apply IsS106.set_1 | apply IsS106.set_2 | refine IsS106.far ?_ NB756_755.out _) | exact HI756.out))) : gb756 ≠ gb760)); have NB760_756 := am_ ((by rw [hg]; exact Nat.ne_of_gt (IsS106.lt (show IsS106 w _ gb756 l0 t758 t759 from by repeat (first | (with_reducible first | exact HI756.out | apply IsS106.alloc | apply IsS106.drewN | apply IsS106.drew | apply IsS106.set_1 | apply IsS106.set_2 | refine IsS106.far ?_ NB756_755.out _) | exact HI756.out))) : gb760 ≠ gb756)); replace HI756 := am_ (IsS106.below (by repeat (first | (with_reducible first | exact HI756.out | apply IsS106.alloc | apply IsS106.drewN | apply IsS106.drew | apply IsS106.set_1 | apply IsS106.set_2 | refine IsS106.far ?_ NB756_755.out _) | exact HI756.out)) hb); clear hb hbox hg; have hnb8 := NB760_755.out; have hnc8 := NB755_760.out; have hnb9 := NB760_756.out; have hnc9 := NB756_760.out; (try clear zK760); have zK760 := cz16 BK760.out; (try clear fK760); have fK760 := fz16 BK760.out) | ((with_reducible refine gate_store (t := 29) (p := 5) rfl ?_); refine store_evs (t := 29) (p := 5) (j := 0) (cs := [.int .i64 t757, .int .i64 0, .string (⟨#[]⟩ : ByteArray), .int .i64 0, .int .i64 0, .int .i64 0, .string (⟨#[]⟩ : ByteArray), .int .i64 0, .int .i64 0, .int .i64 0, .string (⟨#[]⟩ : ByteArray), .int .i64 0, .int .i64 0, .int .i64 0, .int .i64 0, .int .i64 0]) (qK BK760) ?_; intro w11 hw; replace BK755 := sK_ hw BK755 NB755_760; replace HI756 := IsS106.s_ hw HI756 NB756_760; replace HB := sB_ hw HB; replace BK760 := sW_ hw BK760; clear hw; (try clear zK760); have zK760 := cz16 BK760.out; (try clear fK760); have fK760 := fz16 BK760.out))
 (try simp only [Act.put, List.setIfInBounds_toArray, List.set_cons_zero, List.set_cons_succ])
 go_cut [] (fun wc => ∃ (kq : Nat) (x757001_2 : Int) (x757002_2 : Bool) (x761001_2 : Int) (x761002_2 : ByteArray) (x761003_2 : Int) (x761004_2 : Int) (x761005_2 : Int) (x761006_2 : ByteArray) (x761007_2 : Int) (x761008_2 : Int) (x761009_2 : Int) (x761010_2 : ByteArray) (x761011_2 : Int) (x761012_2 : Int) (x761013_2 : Int) (x761014_2 : Int) (x761015_2 : Int), Aside0 (spec_GetItem.j0 kq l0 l0 x757001_2 x757002_2 t757 x761001_2 x761002_2 x761003_2 x761004_2 x761005_2 x761006_2 x761007_2 x761008_2 x761009_2 x761010_2 x761011_2 x761012_2 x761013_2 x761014_2 x761015_2 = some (r1, r2, r3, r4, r5, r6, r7, r8, r9, r10, r11, r12, r13, r14, r15, r16, r17)) ∧ Aside0 (kq ≤ k) ∧ Aside0 (wc.heap[gb755]? = some (.cells #[.int .i64 0, .int .i64 0, .string (⟨#[]⟩ : ByteArray), .int .i64 0, .int .i64 0, .int .i64 0, .string (⟨#[]⟩ : ByteArray), .int .i64 0, .int .i64 0, .int .i64 0, .string (⟨#[]⟩ : ByteArray), .int .i64 0, .int .i64 0, .int .i64 0, .int .i64 0, .int .i64 0] 29 (0, 0))) ∧ Aside0 (wc.heap[gb760]? = some (.cells #[.int .i64 t757, .int .i64 x761001_2, .string x761002_2, .int .i64 x761003_2, .int .i64 x761004_2, .int .i64 x761005_2, .string x761006_2, .int .i64 x761007_2, .int .i64 x761008_2, .int .i64 x761009_2, .string x761010_2, .int .i64 x761011_2, .int .i64 x761012_2, .int .i64 x761013_2, .int .i64 x761014_2, .int .i64 x761015_2] 29 (0, 0))) ∧ Aside0 (IsS106 w wc gb756 l0 x757001_2 x757002_2) ∧ Aside0 (Below w.heap.size w wc))
 case first =>
  have H := HC3.out
  clear HC3
  by_cases c13 : t757 = 1
  rotate_left
  ·
   rw [if_neg c13] at H
   have c13b0 : (t757 == 1) = false := beq_eq_false_iff_ne.mpr c13
   have c13b1 : (t757 != 1) = true := bne_iff_ne.mpr c13
   (first | rw [c13b0] | rw [c13b1] | (simp only [i64_w, i32_w]; rw [c13b0]) | skip)
   replace H := bf_ H
   obtain ⟨f_, hf_, ⟨t788, t789, t790⟩, A45, H⟩ := H
   subst hf_
   (try dsimp only at H)
   replace H := bf_ H
   obtain ⟨f_, hf_, ⟨t791, t792, t793⟩, A46, H⟩ := H
   subst hf_
   (try dsimp only at H)
   replace H := bf_ H
   obtain ⟨f_, hf_, ⟨t794, t795, t796⟩, A47, H⟩ := H
   subst hf_
   (try dsimp only at H)
   replace H := bf_ H
   obtain ⟨f_, hf_, ⟨t797, t798, t799⟩, A48, H⟩ := H
   subst hf_
   (try dsimp only at H)
   replace H := bf_ H
   obtain ⟨f_, hf_, ⟨t800, t801, t802⟩, A49, H⟩ := H
   subst hf_
   (try dsimp only at H)
   replace H := bf_ H
   obtain ⟨f_, hf_, ⟨t803, t804, t805⟩, A50, H⟩ := H
   subst hf_
   (try dsimp only at H)
   replace H := bf_ H
   obtain ⟨f_, hf_, ⟨t806, t807, t808⟩, A51, H⟩ := H
   subst hf_
   (try dsimp only at H)
   replace H := bf_ H
   obtain ⟨f_, hf_, ⟨t809, t810, t811⟩, A52, H⟩ := H
   subst hf_
   (try dsimp only at H)
   have H' := Aside0.mk H
   clear H
   try go_wp2_with (first | ((with_reducible refine gate_callee (f := 76) rfl ?_); refine goesL_ (some 57) rfl rfl Try.func76 (by kernel_rfl) rfl #[.pointer (some ⟨gb756, 0, none⟩)] rfl la_ ?_; (with_reducible refine (spec_l9Word.calls gb756 l0 t758 t759 t788 t789 t790 w _ ?side1 ?side2 A45.out).mono ?_); (case side1 => repeat (first | (with_reducible first | exact HI756.out | apply IsS106.alloc | apply IsS106.drewN | apply IsS106.drew | apply IsS106.set_1 | apply IsS106.set_2 | refine IsS106.far ?_ NB756_755.out _ | refine IsS106.far ?_ NB756_760.out _) | exact HI756.out)); (case side2 => exact qB HB); rintro e w53 ⟨rfl, hi, hb, hk⟩; refine ⟨_, rfl, ?_⟩; replace BK755 := kB_ BK755 hk NB755_756; replace BK760 := kB_ BK760 hk NB760_756; replace HB := am_ (hb); replace HI756 := am_ (hi); (try clear hb); (try clear hk); (try clear hi); have hnb54 := NB760_755.out; have hnc54 := NB755_760.out; have hnb55 := NB760_756.out; have hnc55 := NB756_760.out; (try clear zK760); have zK760 := cz16 BK760.out; (try clear fK760); have fK760 := fz16 BK760.out) | ((with_reducible refine gate_callee (f := 75) rfl ?_); refine goesL_ (some 61) rfl rfl Try.func75 (by kernel_rfl) rfl #[.pointer (some ⟨gb756, 0, none⟩)] rfl la_ ?_; (with_reducible refine (spec_l9Byte.calls gb756 l0 t789 t790 t791 t792 t793 w _ ?side1 ?side2 A46.out).mono ?_); (case side1 => repeat (first | (with_reducible first | exact HI756.out | apply IsS106.alloc | apply IsS106.drewN | apply IsS106.drew | apply IsS106.set_1 | apply IsS106.set_2 | refine IsS106.far ?_ NB756_755.out _ | refine IsS106.far ?_ NB756_760.out _) | exact HI756.out)); (case side2 => exact qB HB); rintro e w57 ⟨rfl, hi, hb, hk⟩; refine ⟨_, rfl, ?_⟩; replace BK755 := am_ (KeepBut.blk hk (g' := gb755) (o := .cells #[.int .i64 0, .int .i64 0, .string (⟨#[]⟩ : ByteArray), .int .i64 0, .int .i64 0, .int .i64 0, .string (⟨#[]⟩ : ByteArray), .int .i64 0, .int .i64 0, .int .i64 0, .string (⟨#[]⟩ : ByteArray), .int .i64 0, .int .i64 0, .int .i64 0, .int .i64 0, .int .i64 0] 29 (0, 0)) (by (with_reducible repeat (first | refine blk_drewN ?_ _ | refine blk_drew ?_ | refine blk_alloc ?_ _)); refine blk_far ?_ NB755_760.out _; exact qK BK755) NB755_756.out (by simp)); replace BK760 := am_ (KeepBut.blk hk (g' := gb760) (o := .cells #[.int .i64 t757, .int .i64 0, .string (⟨#[]⟩ : ByteArray), .int .i64 0, .int .i64 0, .int .i64 0, .string (⟨#[]⟩ : ByteArray), .int .i64 0, .int .i64 0, .int .i64 t788, .string (⟨#[]⟩ : ByteArray), .int .i64 0, .int .i64 0, .int .i64 0, .int .i64 0, .int .i64 0] 29 (0, 0)) (by (with_reducible repeat (first | refine blk_drewN ?_ _ | refine blk_drew ?_ | refine blk_alloc ?_ _)); refine blk_put (cs := #[.int .i64 t757, .int .i64 0, .string (⟨#[]⟩ : ByteArray), .int .i64 0, .int .i64 0, .int .i64 0, .string (⟨#[]⟩ : ByteArray), .int .i64 0, .int .i64 0, .int .i64 0, .string (⟨#[]⟩ : ByteArray), .int .i64 0, .int .i64 0, .int .i64 0, .int .i64 0, .int .i64 0]) ?_ 9 _ rfl; exact qK BK760) NB760_756.out (by simp)); replace HB := am_ (hb); replace HI756 := am_ (hi); (try clear hb); (try clear hk); (try clear hi); (try clear zK760); have zK760 := cz16 BK760.out; (try clear fK760); have fK760 := fz16 BK760.out) | ((with_reducible refine gate_callee (f := 77) rfl ?_); refine goesL_ (some 65) rfl rfl Try.func77 (by kernel_rfl) rfl #[.pointer (some ⟨gb756, 0, none⟩)] rfl la_ ?_; (with_reducible refine (spec_l9Text.calls k gb756 l0 t792 t793 t794 t795 t796 w _ ?side1 ?side2 A47.out).mono ?_); (case side1 => repeat (first | (with_reducible first | exact HI756.out | apply IsS106.alloc | apply IsS106.drewN | apply IsS106.drew | apply IsS106.set_1 | apply IsS106.set_2 | refine IsS106.far ?_ NB756_755.out _ | refine IsS106.far ?_ NB756_760.out _) | exact HI756.out)); (case side2 => exact qB HB); rintro e w59 ⟨rfl, hi, hb, hk⟩; refine ⟨_, rfl, ?_⟩; replace BK755 := am_ (KeepBut.blk hk (g' := gb755) (o := .cells #[.int .i64 0, .int .i64 0, .string (⟨#[]⟩ : ByteArray), .int .i64 0, .int .i64 0, .int .i64 0, .string (⟨#[]⟩ : ByteArray), .int .i64 0, .int .i64 0, .int .i64 0, .string (⟨#[]⟩ : ByteArray), .int .i64 0, .int .i64 0, .int .i64 0, .int .i64 0, .int .i64 0] 29 (0, 0)) (by (with_reducible repeat (first | refine blk_drewN ?_ _ | refine blk_drew ?_ | refine blk_alloc ?_ _)); refine blk_far ?_ NB755_760.out _; exact qK BK755) NB755_756.out (by simp)); replace BK760 := am_ (KeepBut.blk hk (g' := gb760) (o := .cells #[.int .i64 t757, .int .i64 0, .string (⟨#[]⟩ : ByteArray), .int .i64 0, .int .i64 0, .int .i64 0, .string (⟨#[]⟩ : ByteArray), .int .i64 0, .int .i64 0, .int .i64 t788, .string (⟨#[]⟩ : ByteArray), .int .i64 0, .int .i64 t791, .int .i64 0, .int .i64 0, .int .i64 0] 29 (0, 0)) (by (with_reducible repeat (first | refine blk_drewN ?_ _ | refine blk_drew ?_ | refine blk_alloc ?_ _)); refine blk_put (cs := #[.int .i64 t757, .int .i64 0, .string (⟨#[]⟩ : ByteArray), .int .i64 0, .int .i64 0, .int .i64 0, .string (⟨#[]⟩ : ByteArray), .int .i64 0, .int .i64 0, .int .i64 t788, .string (⟨#[]⟩ : ByteArray), .int .i64 0, .int .i64 0, .int .i64 0, .int .i64 0, .int .i64 0]) ?_ 12 _ rfl; exact qK BK760) NB760_756.out (by simp)); replace HB := am_ (hb); replace HI756 := am_ (hi); (try clear hb); (try clear hk); (try clear hi); (try clear zK760); have zK760 := cz16 BK760.out; (try clear fK760); have fK760 := fz16 BK760.out) | ((with_reducible refine gate_callee (f := 76) rfl ?_); refine goesL_ (some 69) rfl rfl Try.func76 (by kernel_rfl) rfl #[.pointer (some ⟨gb756, 0, none⟩)] rfl la_ ?_; (with_reducible refine (spec_l9Word.calls gb756 l0 t795 t796 t797 t798 t799 w _ ?side1 ?side2 A48.out).mono ?_); (case side1 => repeat (first | (with_reducible first | exact HI756.out | apply IsS106.alloc | apply IsS106.drewN | apply IsS106.drew | apply IsS106.set_1 | apply IsS106.set_2 | refine IsS106.far ?_ NB756_755.out _ | refine IsS106.far ?_ NB756_760.out _) | exact HI756.out)); (case side2 => exact qB HB); rintro e w61 ⟨rfl, hi, hb, hk⟩; refine ⟨_, rfl, ?_⟩; replace BK755 := am_ (KeepBut.blk hk (g' := gb755) (o := .cells #[.int .i64 0, .int .i64 0, .string (⟨#[]⟩ : ByteArray), .int .i64 0, .int .i64 0, .int .i64 0, .string (⟨#[]⟩ : ByteArray), .int .i64 0, .int .i64 0, .int .i64 0, .string (⟨#[]⟩ : ByteArray), .int .i64 0, .int .i64 0, .int .i64 0, .int .i64 0, .int .i64 0] 29 (0, 0)) (by (with_reducible repeat (first | refine blk_drewN ?_ _ | refine blk_drew ?_ | refine blk_alloc ?_ _)); refine blk_far ?_ NB755_760.out _; exact qK BK755) NB755_756.out (by simp)); replace BK760 := am_ (KeepBut.blk hk (g' := gb760) (o := .cells #[.int .i64 t757, .int .i64 0, .string (⟨#[]⟩ : ByteArray), .int .i64 0, .int .i64 0, .int .i64 0, .string (⟨#[]⟩ : ByteArray), .int .i64 0, .int .i64 0, .int .i64 t788, .string t794, .int .i64 0, .int .i64 t791, .int .i64 0, .int .i64 0, .int .i64 0] 29 (0, 0)) (by (with_reducible repeat (first | refine blk_drewN ?_ _ | refine blk_drew ?_ | refine blk_alloc ?_ _)); refine blk_put (cs := #[.int .i64 t757, .int .i64 0, .string (⟨#[]⟩ : ByteArray), .int .i64 0, .int .i64 0, .int .i64 0, .string (⟨#[]⟩ : ByteArray), .int .i64 0, .int .i64 0, .int .i64 t788, .string (⟨#[]⟩ : ByteArray), .int .i64 0, .int .i64 t791, .int .i64 0, .int .i64 0, .int .i64 0]) ?_ 10 _ rfl; exact qK BK760) NB760_756.out (by simp)); replace HB := am_ (hb); replace HI756 := am_ (hi); (try clear hb); (try clear hk); (try clear hi); (try clear zK760); have zK760 := cz16 BK760.out; (try clear fK760); have fK760 := fz16 BK760.out) | ((with_reducible refine gate_callee (f := 76) rfl ?_); refine goesL_ (some 73) rfl rfl Try.func76 (by kernel_rfl) rfl #[.pointer (some ⟨gb756, 0, none⟩)] rfl la_ ?_; (with_reducible refine (spec_l9Word.calls gb756 l0 t798 t799 t800 t801 t802 w _ ?side1 ?side2 A49.out).mono ?_); (case side1 => repeat (first | (with_reducible first | exact HI756.out | apply IsS106.alloc | apply IsS106.drewN | apply IsS106.drew | apply IsS106.set_1 | apply IsS106.set_2 | refine IsS106.far ?_ NB756_755.out _ | refine IsS106.far ?_ NB756_760.out _) | exact HI756.out)); (case side2 => exact qB HB); rintro e w63 ⟨rfl, hi, hb, hk⟩; refine ⟨_, rfl, ?_⟩; replace BK755 := am_ (KeepBut.blk hk (g' := gb755) (o := .cells #[.int .i64 0, .int .i64 0, .string (⟨#[]⟩ : ByteArray), .int .i64 0, .int .i64 0, .int .i64 0, .string (⟨#[]⟩ : ByteArray), .int .i64 0, .int .i64 0, .int .i64 0, .string (⟨#[]⟩ : ByteArray), .int .i64 0, .int .i64 0, .int .i64 0, .int .i64 0, .int .i64 0] 29 (0, 0)) (by (with_reducible repeat (first | refine blk_drewN ?_ _ | refine blk_drew ?_ | refine blk_alloc ?_ _)); refine blk_far ?_ NB755_760.out _; exact qK BK755) NB755_756.out (by simp)); replace BK760 := am_ (KeepBut.blk hk (g' := gb760) (o := .cells #[.int .i64 t757, .int .i64 0, .string (⟨#[]⟩ : ByteArray), .int .i64 0, .int .i64 0, .int .i64 0, .string (⟨#[]⟩ : ByteArray), .int .i64 0, .int .i64 0, .int .i64 t788, .string t794, .int .i64 t797, .int .i64 t791, .int .i64 0, .int .i64 0, .int .i64 0] 29 (0, 0)) (by (with_reducible repeat (first | refine blk_drewN ?_ _ | refine blk_drew ?_ | refine blk_alloc ?_ _)); refine blk_put (cs := #[.int .i64 t757, .int .i64 0, .string (⟨#[]⟩ : ByteArray), .int .i64 0, .int .i64 0, .int .i64 0, .string (⟨#[]⟩ : ByteArray), .int .i64 0, .int .i64 0, .int .i64 t788, .string t794, .int .i64 0, .int .i64 t791, .int .i64 0, .int .i64 0, .int .i64 0]) ?_ 11 _ rfl; exact qK BK760) NB760_756.out (by simp)); replace HB := am_ (hb); replace HI756 := am_ (hi); (try clear hb); (try clear hk); (try clear hi); (try clear zK760); have zK760 := cz16 BK760.out; (try clear fK760); have fK760 := fz16 BK760.out))
   have n0_ : Aside0 ((w63.setCell ⟨gb760, 13, none⟩ (.int .i64 (wrap64 (256 * t800)))).heap[gb755]? = some (.cells #[.int .i64 0, .int .i64 0, .string (⟨#[]⟩ : ByteArray), .int .i64 0, .int .i64 0, .int .i64 0, .string (⟨#[]⟩ : ByteArray), .int .i64 0, .int .i64 0, .int .i64 0, .string (⟨#[]⟩ : ByteArray), .int .i64 0, .int .i64 0, .int .i64 0, .int .i64 0, .int .i64 0] 29 (0, 0))) := ⟨by (with_reducible repeat (first | refine blk_drewN ?_ _ | refine blk_drew ?_ | refine blk_alloc ?_ _)); refine blk_far ?_ NB755_760.out _; exact qK BK755⟩
   have n1_ : Aside0 ((w63.setCell ⟨gb760, 13, none⟩ (.int .i64 (wrap64 (256 * t800)))).heap[gb760]? = some (.cells #[.int .i64 t757, .int .i64 0, .string (⟨#[]⟩ : ByteArray), .int .i64 0, .int .i64 0, .int .i64 0, .string (⟨#[]⟩ : ByteArray), .int .i64 0, .int .i64 0, .int .i64 t788, .string t794, .int .i64 t797, .int .i64 t791, .int .i64 (wrap64 (256 * t800)), .int .i64 0, .int .i64 0] 29 (0, 0))) := ⟨by (with_reducible repeat (first | refine blk_drewN ?_ _ | refine blk_drew ?_ | refine blk_alloc ?_ _)); refine blk_put (cs := #[.int .i64 t757, .int .i64 0, .string (⟨#[]⟩ : ByteArray), .int .i64 0, .int .i64 0, .int .i64 0, .string (⟨#[]⟩ : ByteArray), .int .i64 0, .int .i64 0, .int .i64 t788, .string t794, .int .i64 t797, .int .i64 t791, .int .i64 0, .int .i64 0, .int .i64 0]) ?_ 13 _ rfl; exact qK BK760⟩
   have n2_ : Aside0 (IsS106 w (w63.setCell ⟨gb760, 13, none⟩ (.int .i64 (wrap64 (256 * t800)))) gb756 l0 t801 t802) := ⟨by repeat (first | (with_reducible first | exact HI756.out | apply IsS106.alloc | apply IsS106.drewN | apply IsS106.drew | apply IsS106.set_1 | apply IsS106.set_2 | refine IsS106.far ?_ NB756_755.out _ | refine IsS106.far ?_ NB756_760.out _) | exact HI756.out)⟩
   have n3_ : Aside0 (Below w.heap.size w (w63.setCell ⟨gb760, 13, none⟩ (.int .i64 (wrap64 (256 * t800))))) := ⟨qB HB⟩
   (try clear BK755)
   (try clear BK760)
   (try clear HI756)
   (try clear HB)
   generalize (w63.setCell ⟨gb760, 13, none⟩ (.int .i64 (wrap64 (256 * t800)))) = w65 at n0_ n1_ n2_ n3_ ⊢
   have BK755 := n0_
   have BK760 := n1_
   have HI756 := n2_
   have HB := n3_
   clear n0_ n1_ n2_ n3_
   replace BK755 := am_ (blk_drew BK755.out)
   replace BK760 := am_ (blk_drew BK760.out)
   replace HI756 := am_ (IsS106.drew HI756.out)
   replace HB := am_ (below_drew1 HB.out)
   refine start_ (n := 9) (S := fun w' => w'.cell? ⟨gb760, 0, none⟩ = some (.int .i64 t757) ∧ w'.cell? ⟨gb760, 1, none⟩ = some (.int .i64 0) ∧ w'.cell? ⟨gb760, 2, none⟩ = some (.string (⟨#[]⟩ : ByteArray)) ∧ w'.cell? ⟨gb760, 3, none⟩ = some (.int .i64 0) ∧ w'.cell? ⟨gb760, 4, none⟩ = some (.int .i64 0) ∧ w'.cell? ⟨gb760, 5, none⟩ = some (.int .i64 0) ∧ w'.cell? ⟨gb760, 6, none⟩ = some (.string (⟨#[]⟩ : ByteArray)) ∧ w'.cell? ⟨gb760, 7, none⟩ = some (.int .i64 0) ∧ w'.cell? ⟨gb760, 8, none⟩ = some (.int .i64 0) ∧ w'.cell? ⟨gb760, 9, none⟩ = some (.int .i64 t788) ∧ w'.cell? ⟨gb760, 10, none⟩ = some (.string t794) ∧ w'.cell? ⟨gb760, 11, none⟩ = some (.int .i64 t797) ∧ w'.cell? ⟨gb760, 12, none⟩ = some (.int .i64 t791) ∧ w'.cell? ⟨gb760, 13, none⟩ = some (.int .i64 (wrap64 (256 * t800))) ∧ w'.cell? ⟨gb760, 14, none⟩ = some (.int .i64 0) ∧ w'.cell? ⟨gb760, 15, none⟩ = some (.int .i64 0)) (ds := [8]) #[oo,oo,oo,oo,oo,oo,oo,oo,oo] (by kernel_rfl) rfl rfl (cz16 BK760.out) (fun hHeld => ?_); refine with_tabW spec_GetItem.tab18 spec_GetItem.bits18 (fun HT_ HW_ => ?_)
   generalize w65.drew = w66 at BK755 BK760 HI756 HB hHeld ⊢
   refine pz_ (i := 0) (N := some 77) HT_ #[ii,oo,oo,oo,oo,oo,oo,oo,oo] rfl rfl ?_
   refine pz_ (i := 1) (N := some 78) HT_ #[ii,ii,oo,oo,oo,oo,oo,oo,oo] rfl rfl ?_
   refine pz_ (i := 3) (N := some 80) HT_ #[ii,ii,oo,ii,oo,oo,oo,oo,oo] rfl rfl ?_
   refine tz_ (i := 2) (N := some 79) HT_ HW_ #[ii,ii,ii,ii,oo,oo,oo,oo,oo] rfl rfl hHeld ?_
   refine one_ (i := 4) (N := some 81) #[ii,ii,ii,ii,ii,oo,oo,oo,oo] rfl rfl (one_of HT_.out (by kernel_rfl)) (by decide) (fun K hK => ?_)
   refine goes_ Try.func75 (by kernel_rfl) rfl #[.pointer (some ⟨gb756, 0, none⟩)] (by rfl) rfl rfl la_ ?_
   with_reducible refine (spec_l9Byte.calls gb756 l0 t801 t802 t803 t804 t805 w _ ?side1 ?side2 A50.out).mono ?_
   (case side1 => repeat (first | (with_reducible first | exact HI756.out | apply IsS106.alloc | apply IsS106.drewN | apply IsS106.drew | apply IsS106.set_1 | apply IsS106.set_2 | refine IsS106.far ?_ NB756_755.out _ | refine IsS106.far ?_ NB756_760.out _) | exact HI756.out))
   (case side2 => exact qB HB)
   rintro e w67 ⟨rfl, hi, hb, hk⟩
   refine ⟨_, rfl, ?_⟩
   replace BK755 := kB_ BK755 hk NB755_756
   replace BK760 := kB_ BK760 hk NB760_756
   replace HB := am_ (hb)
   replace HI756 := am_ (hi)
   (try clear hb hk hi)
   refine hK.out _ _ (cz16 BK760.out) (fun hHeld => ?_)
   clear hK K
   refine norm_ (a' := ?_) ?_ ?_
   rotate_left
   ·
    show Act.put _ (some 81) _ = _
    exact ap_
   refine pz_ (i := 5) (N := some 82) HT_ #[ii,ii,ii,ii,ii,ii,oo,oo,oo] rfl rfl ?_
   refine pz_ (i := 6) (N := some 83) HT_ #[ii,ii,ii,ii,ii,ii,ii,oo,oo] rfl rfl ?_
   refine pz_ (i := 7) (N := some 84) HT_ #[ii,ii,ii,ii,ii,ii,ii,ii,oo] rfl rfl ?_
   refine last_ (i := 8) (N := none) #[ii,ii,ii,ii,ii,ii,ii,ii,ii] rfl rfl (one_of HT_.out (by kernel_rfl)) (by decide) (fun K hK => ?_)
   have hs68 : w67.cell? ⟨gb760, 13, none⟩ = some (.int .i64 (wrap64 (256 * t800))) := (blk_cell BK760.out 13).trans rfl
   have hfs68 := blk_frozen BK760.out 13
   have hns68_0 := NB755_760.out
   have hms68_0 := NB760_755.out
   refine skip_ (w1 := ?_) (by rfl) rfl ?_ ?_
   rotate_left
   ·
    go_simp
    rfl
   refine hK.out _ _ ?_
   clear hK K
   refine done_ (done_of HT_.out (by kernel_rfl)) ?_
   try go_wp2_with (first | ((with_reducible refine gate_callee (f := 76) rfl ?_); refine goesL_ (some 86) rfl rfl Try.func76 (by kernel_rfl) rfl #[.pointer (some ⟨gb756, 0, none⟩)] rfl la_ ?_; (with_reducible refine (spec_l9Word.calls gb756 l0 t804 t805 t806 t807 t808 w _ ?side1 ?side2 A51.out).mono ?_); (case side1 => repeat (first | (with_reducible first | exact HI756.out | apply IsS106.alloc | apply IsS106.drewN | apply IsS106.drew | apply IsS106.set_1 | apply IsS106.set_2 | refine IsS106.far ?_ NB756_755.out _ | refine IsS106.far ?_ NB756_760.out _) | exact HI756.out)); (case side2 => exact qB HB); rintro e w69 ⟨rfl, hi, hb, hk⟩; refine ⟨_, rfl, ?_⟩; replace BK755 := am_ (KeepBut.blk hk (g' := gb755) (o := .cells #[.int .i64 0, .int .i64 0, .string (⟨#[]⟩ : ByteArray), .int .i64 0, .int .i64 0, .int .i64 0, .string (⟨#[]⟩ : ByteArray), .int .i64 0, .int .i64 0, .int .i64 0, .string (⟨#[]⟩ : ByteArray), .int .i64 0, .int .i64 0, .int .i64 0, .int .i64 0, .int .i64 0] 29 (0, 0)) (by (with_reducible repeat (first | refine blk_drewN ?_ _ | refine blk_drew ?_ | refine blk_alloc ?_ _)); refine blk_far ?_ NB755_760.out _; exact qK BK755) NB755_756.out (by simp)); replace BK760 := am_ (KeepBut.blk hk (g' := gb760) (o := .cells #[.int .i64 t757, .int .i64 0, .string (⟨#[]⟩ : ByteArray), .int .i64 0, .int .i64 0, .int .i64 0, .string (⟨#[]⟩ : ByteArray), .int .i64 0, .int .i64 0, .int .i64 t788, .string t794, .int .i64 t797, .int .i64 t791, .int .i64 (wrap64 ((wrap64 (256 * t800)) + t803)), .int .i64 0, .int .i64 0] 29 (0, 0)) (by (with_reducible repeat (first | refine blk_drewN ?_ _ | refine blk_drew ?_ | refine blk_alloc ?_ _)); refine blk_put (cs := #[.int .i64 t757, .int .i64 0, .string (⟨#[]⟩ : ByteArray), .int .i64 0, .int .i64 0, .int .i64 0, .string (⟨#[]⟩ : ByteArray), .int .i64 0, .int .i64 0, .int .i64 t788, .string t794, .int .i64 t797, .int .i64 t791, .int .i64 (wrap64 (256 * t800)), .int .i64 0, .int .i64 0]) ?_ 13 _ rfl; exact qK BK760) NB760_756.out (by simp)); replace HB := am_ (hb); replace HI756 := am_ (hi); (try clear hb); (try clear hk); (try clear hi); (try clear zK760); have zK760 := cz16 BK760.out; (try clear fK760); have fK760 := fz16 BK760.out) | ((with_reducible refine gate_callee (f := 76) rfl ?_); refine goesL_ (some 90) rfl rfl Try.func76 (by kernel_rfl) rfl #[.pointer (some ⟨gb756, 0, none⟩)] rfl la_ ?_; (with_reducible refine (spec_l9Word.calls gb756 l0 t807 t808 t809 t810 t811 w _ ?side1 ?side2 A52.out).mono ?_); (case side1 => repeat (first | (with_reducible first | exact HI756.out | apply IsS106.alloc | apply IsS106.drewN | apply IsS106.drew | apply IsS106.set_1 | apply IsS106.set_2 | refine IsS106.far ?_ NB756_755.out _ | refine IsS106.far ?_ NB756_760.out _) | exact HI756.out)); (case side2 => exact qB HB); rintro e w71 ⟨rfl, hi, hb, hk⟩; refine ⟨_, rfl, ?_⟩; replace BK755 := am_ (KeepBut.blk hk (g' := gb755) (o := .cells #[.int .i64 0, .int .i64 0, .string (⟨#[]⟩ : ByteArray), .int .i64 0, .int .i64 0, .int .i64 0, .string (⟨#[]⟩ : ByteArray), .int .i64 0, .int .i64 0, .int .i64 0, .string (⟨#[]⟩ : ByteArray), .int .i64 0, .int .i64 0, .int .i64 0, .int .i64 0, .int .i64 0] 29 (0, 0)) (by (with_reducible repeat (first | refine blk_drewN ?_ _ | refine blk_drew ?_ | refine blk_alloc ?_ _)); refine blk_far ?_ NB755_760.out _; exact qK BK755) NB755_756.out (by simp)); replace BK760 := am_ (KeepBut.blk hk (g' := gb760) (o := .cells #[.int .i64 t757, .int .i64 0, .string (⟨#[]⟩ : ByteArray), .int .i64 0, .int .i64 0, .int .i64 0, .string (⟨#[]⟩ : ByteArray), .int .i64 0, .int .i64 0, .int .i64 t788, .string t794, .int .i64 t797, .int .i64 t791, .int .i64 (wrap64 ((wrap64 (256 * t800)) + t803)), .int .i64 t806, .int .i64 0] 29 (0, 0)) (by (with_reducible repeat (first | refine blk_drewN ?_ _ | refine blk_drew ?_ | refine blk_alloc ?_ _)); refine blk_put (cs := #[.int .i64 t757, .int .i64 0, .string (⟨#[]⟩ : ByteArray), .int .i64 0, .int .i64 0, .int .i64 0, .string (⟨#[]⟩ : ByteArray), .int .i64 0, .int .i64 0, .int .i64 t788, .string t794, .int .i64 t797, .int .i64 t791, .int .i64 (wrap64 ((wrap64 (256 * t800)) + t803)), .int .i64 0, .int .i64 0]) ?_ 14 _ rfl; exact qK BK760) NB760_756.out (by simp)); replace HB := am_ (hb); replace HI756 := am_ (hi); (try clear hb); (try clear hk); (try clear hi); (try clear zK760); have zK760 := cz16 BK760.out; (try clear fK760); have fK760 := fz16 BK760.out))
   go_meet
   case rel => exact ⟨_, (t810), (t811), (0), ((⟨#[]⟩ : ByteArray)), (0), (0), (0), ((⟨#[]⟩ : ByteArray)), (0), (0), (t788), (t794), (t797), (t791), (wrap64 ((wrap64 (256 * t800)) + t803)), (t806), (t809), H', ⟨by first | omega | exact Nat.le_refl _⟩, ⟨by (with_reducible repeat (first | refine blk_drewN ?_ _ | refine blk_drew ?_ | refine blk_alloc ?_ _)); refine blk_far ?_ NB755_760.out _; exact qK BK755⟩, ⟨by (with_reducible repeat (first | refine blk_drewN ?_ _ | refine blk_drew ?_ | refine blk_alloc ?_ _)); refine blk_put (cs := #[.int .i64 t757, .int .i64 0, .string (⟨#[]⟩ : ByteArray), .int .i64 0, .int .i64 0, .int .i64 0, .string (⟨#[]⟩ : ByteArray), .int .i64 0, .int .i64 0, .int .i64 t788, .string t794, .int .i64 t797, .int .i64 t791, .int .i64 (wrap64 ((wrap64 (256 * t800)) + t803)), .int .i64 t806, .int .i64 0]) ?_ 15 _ rfl; exact qK BK760⟩, ⟨by repeat (first | (with_reducible first | exact HI756.out | apply IsS106.alloc | apply IsS106.drewN | apply IsS106.drew | apply IsS106.set_1 | apply IsS106.set_2 | refine IsS106.far ?_ NB756_755.out _ | refine IsS106.far ?_ NB756_760.out _) | exact HI756.out)⟩, ⟨qB HB⟩⟩
  rw [if_pos c13] at H
  have c13b0 : (t757 == 1) = true := beq_iff_eq.mpr c13
  have c13b1 : (t757 != 1) = false := bne_eq_false_iff_eq.mpr c13
  clear c13
  (first | rw [c13b0] | rw [c13b1] | (simp only [i64_w, i32_w]; rw [c13b0]) | skip)
  replace H := bf_ H
  obtain ⟨f_, hf_, ⟨t761, t762, t763⟩, A14, H⟩ := H
  subst hf_
  (try dsimp only at H)
  replace H := bf_ H
  obtain ⟨f_, hf_, ⟨t764, t765, t766⟩, A15, H⟩ := H
  subst hf_
  (try dsimp only at H)
  replace H := bf_ H
  obtain ⟨f_, hf_, ⟨t767, t768, t769⟩, A16, H⟩ := H
  subst hf_
  (try dsimp only at H)
  replace H := bf_ H
  obtain ⟨f_, hf_, ⟨t770, t771, t772⟩, A17, H⟩ := H
  subst hf_
  (try dsimp only at H)
  replace H := bf_ H
  obtain ⟨f_, hf_, ⟨t773, t774, t775⟩, A18, H⟩ := H
  subst hf_
  (try dsimp only at H)
  replace H := bf_ H
  obtain ⟨f_, hf_, ⟨t776, t777, t778⟩, A19, H⟩ := H
  subst hf_
  (try dsimp only at H)
  replace H := bf_ H
  obtain ⟨f_, hf_, ⟨t779, t780, t781⟩, A20, H⟩ := H
  subst hf_
  (try dsimp only at H)
  replace H := bf_ H
  obtain ⟨f_, hf_, ⟨t782, t783, t784⟩, A21, H⟩ := H
  subst hf_
  (try dsimp only at H)
  replace H := bf_ H
  obtain ⟨f_, hf_, ⟨t785, t786, t787⟩, A22, H⟩ := H
  subst hf_
  (try dsimp only at H)
  have H' := Aside0.mk H
  clear H
  try go_wp2_with (first | ((with_reducible refine gate_callee (f := 76) rfl ?_); refine goesL_ (some 16) rfl rfl Try.func76 (by kernel_rfl) rfl #[.pointer (some ⟨gb756, 0, none⟩)] rfl la_ ?_; (with_reducible refine (spec_l9Word.calls gb756 l0 t758 t759 t761 t762 t763 w _ ?side1 ?side2 A14.out).mono ?_); (case side1 => repeat (first | (with_reducible first | exact HI756.out | apply IsS106.alloc | apply IsS106.drewN | apply IsS106.drew | apply IsS106.set_1 | apply IsS106.set_2 | refine IsS106.far ?_ NB756_755.out _ | refine IsS106.far ?_ NB756_760.out _) | exact HI756.out)); (case side2 => exact qB HB); rintro e w23 ⟨rfl, hi, hb, hk⟩; refine ⟨_, rfl, ?_⟩; replace BK755 := kB_ BK755 hk NB755_756; replace BK760 := kB_ BK760 hk NB760_756; replace HB := am_ (hb); replace HI756 := am_ (hi); (try clear hb); (try clear hk); (try clear hi); have hnb24 := NB760_755.out; have hnc24 := NB755_760.out; have hnb25 := NB760_756.out; have hnc25 := NB756_760.out; (try clear zK760); have zK760 := cz16 BK760.out; (try clear fK760); have fK760 := fz16 BK760.out) | ((with_reducible refine gate_callee (f := 75) rfl ?_); refine goesL_ (some 20) rfl rfl Try.func75 (by kernel_rfl) rfl #[.pointer (some ⟨gb756, 0, none⟩)] rfl la_ ?_; (with_reducible refine (spec_l9Byte.calls gb756 l0 t762 t763 t764 t765 t766 w _ ?side1 ?side2 A15.out).mono ?_); (case side1 => repeat (first | (with_reducible first | exact HI756.out | apply IsS106.alloc | apply IsS106.drewN | apply IsS106.drew | apply IsS106.set_1 | apply IsS106.set_2 | refine IsS106.far ?_ NB756_755.out _ | refine IsS106.far ?_ NB756_760.out _) | exact HI756.out)); (case side2 => exact qB HB); rintro e w27 ⟨rfl, hi, hb, hk⟩; refine ⟨_, rfl, ?_⟩; replace BK755 := am_ (KeepBut.blk hk (g' := gb755) (o := .cells #[.int .i64 0, .int .i64 0, .string (⟨#[]⟩ : ByteArray), .int .i64 0, .int .i64 0, .int .i64 0, .string (⟨#[]⟩ : ByteArray), .int .i64 0, .int .i64 0, .int .i64 0, .string (⟨#[]⟩ : ByteArray), .int .i64 0, .int .i64 0, .int .i64 0, .int .i64 0, .int .i64 0] 29 (0, 0)) (by (with_reducible repeat (first | refine blk_drewN ?_ _ | refine blk_drew ?_ | refine blk_alloc ?_ _)); refine blk_far ?_ NB755_760.out _; exact qK BK755) NB755_756.out (by simp)); replace BK760 := am_ (KeepBut.blk hk (g' := gb760) (o := .cells #[.int .i64 t757, .int .i64 t761, .string (⟨#[]⟩ : ByteArray), .int .i64 0, .int .i64 0, .int .i64 0, .string (⟨#[]⟩ : ByteArray), .int .i64 0, .int .i64 0, .int .i64 0, .string (⟨#[]⟩ : ByteArray), .int .i64 0, .int .i64 0, .int .i64 0, .int .i64 0, .int .i64 0] 29 (0, 0)) (by (with_reducible repeat (first | refine blk_drewN ?_ _ | refine blk_drew ?_ | refine blk_alloc ?_ _)); refine blk_put (cs := #[.int .i64 t757, .int .i64 0, .string (⟨#[]⟩ : ByteArray), .int .i64 0, .int .i64 0, .int .i64 0, .string (⟨#[]⟩ : ByteArray), .int .i64 0, .int .i64 0, .int .i64 0, .string (⟨#[]⟩ : ByteArray), .int .i64 0, .int .i64 0, .int .i64 0, .int .i64 0, .int .i64 0]) ?_ 1 _ rfl; exact qK BK760) NB760_756.out (by simp)); replace HB := am_ (hb); replace HI756 := am_ (hi); (try clear hb); (try clear hk); (try clear hi); (try clear zK760); have zK760 := cz16 BK760.out; (try clear fK760); have fK760 := fz16 BK760.out) | ((with_reducible refine gate_callee (f := 77) rfl ?_); refine goesL_ (some 24) rfl rfl Try.func77 (by kernel_rfl) rfl #[.pointer (some ⟨gb756, 0, none⟩)] rfl la_ ?_; (with_reducible refine (spec_l9Text.calls k gb756 l0 t765 t766 t767 t768 t769 w _ ?side1 ?side2 A16.out).mono ?_); (case side1 => repeat (first | (with_reducible first | exact HI756.out | apply IsS106.alloc | apply IsS106.drewN | apply IsS106.drew | apply IsS106.set_1 | apply IsS106.set_2 | refine IsS106.far ?_ NB756_755.out _ | refine IsS106.far ?_ NB756_760.out _) | exact HI756.out)); (case side2 => exact qB HB); rintro e w29 ⟨rfl, hi, hb, hk⟩; refine ⟨_, rfl, ?_⟩; replace BK755 := am_ (KeepBut.blk hk (g' := gb755) (o := .cells #[.int .i64 0, .int .i64 0, .string (⟨#[]⟩ : ByteArray), .int .i64 0, .int .i64 0, .int .i64 0, .string (⟨#[]⟩ : ByteArray), .int .i64 0, .int .i64 0, .int .i64 0, .string (⟨#[]⟩ : ByteArray), .int .i64 0, .int .i64 0, .int .i64 0, .int .i64 0, .int .i64 0] 29 (0, 0)) (by (with_reducible repeat (first | refine blk_drewN ?_ _ | refine blk_drew ?_ | refine blk_alloc ?_ _)); refine blk_far ?_ NB755_760.out _; exact qK BK755) NB755_756.out (by simp)); replace BK760 := am_ (KeepBut.blk hk (g' := gb760) (o := .cells #[.int .i64 t757, .int .i64 t761, .string (⟨#[]⟩ : ByteArray), .int .i64 t764, .int .i64 0, .int .i64 0, .string (⟨#[]⟩ : ByteArray), .int .i64 0, .int .i64 0, .int .i64 0, .string (⟨#[]⟩ : ByteArray), .int .i64 0, .int .i64 0, .int .i64 0, .int .i64 0, .int .i64 0] 29 (0, 0)) (by (with_reducible repeat (first | refine blk_drewN ?_ _ | refine blk_drew ?_ | refine blk_alloc ?_ _)); refine blk_put (cs := #[.int .i64 t757, .int .i64 t761, .string (⟨#[]⟩ : ByteArray), .int .i64 0, .int .i64 0, .int .i64 0, .string (⟨#[]⟩ : ByteArray), .int .i64 0, .int .i64 0, .int .i64 0, .string (⟨#[]⟩ : ByteArray), .int .i64 0, .int .i64 0, .int .i64 0, .int .i64 0, .int .i64 0]) ?_ 3 _ rfl; exact qK BK760) NB760_756.out (by simp)); replace HB := am_ (hb); replace HI756 := am_ (hi); (try clear hb); (try clear hk); (try clear hi); (try clear zK760); have zK760 := cz16 BK760.out; (try clear fK760); have fK760 := fz16 BK760.out) | ((with_reducible refine gate_callee (f := 76) rfl ?_); refine goesL_ (some 28) rfl rfl Try.func76 (by kernel_rfl) rfl #[.pointer (some ⟨gb756, 0, none⟩)] rfl la_ ?_; (with_reducible refine (spec_l9Word.calls gb756 l0 t768 t769 t770 t771 t772 w _ ?side1 ?side2 A17.out).mono ?_); (case side1 => repeat (first | (with_reducible first | exact HI756.out | apply IsS106.alloc | apply IsS106.drewN | apply IsS106.drew | apply IsS106.set_1 | apply IsS106.set_2 | refine IsS106.far ?_ NB756_755.out _ | refine IsS106.far ?_ NB756_760.out _) | exact HI756.out)); (case side2 => exact qB HB); rintro e w31 ⟨rfl, hi, hb, hk⟩; refine ⟨_, rfl, ?_⟩; replace BK755 := am_ (KeepBut.blk hk (g' := gb755) (o := .cells #[.int .i64 0, .int .i64 0, .string (⟨#[]⟩ : ByteArray), .int .i64 0, .int .i64 0, .int .i64 0, .string (⟨#[]⟩ : ByteArray), .int .i64 0, .int .i64 0, .int .i64 0, .string (⟨#[]⟩ : ByteArray), .int .i64 0, .int .i64 0, .int .i64 0, .int .i64 0, .int .i64 0] 29 (0, 0)) (by (with_reducible repeat (first | refine blk_drewN ?_ _ | refine blk_drew ?_ | refine blk_alloc ?_ _)); refine blk_far ?_ NB755_760.out _; exact qK BK755) NB755_756.out (by simp)); replace BK760 := am_ (KeepBut.blk hk (g' := gb760) (o := .cells #[.int .i64 t757, .int .i64 t761, .string t767, .int .i64 t764, .int .i64 0, .int .i64 0, .string (⟨#[]⟩ : ByteArray), .int .i64 0, .int .i64 0, .int .i64 0, .string (⟨#[]⟩ : ByteArray), .int .i64 0, .int .i64 0, .int .i64 0, .int .i64 0, .int .i64 0] 29 (0, 0)) (by (with_reducible repeat (first | refine blk_drewN ?_ _ | refine blk_drew ?_ | refine blk_alloc ?_ _)); refine blk_put (cs := #[.int .i64 t757, .int .i64 t761, .string (⟨#[]⟩ : ByteArray), .int .i64 t764, .int .i64 0, .int .i64 0, .string (⟨#[]⟩ : ByteArray), .int .i64 0, .int .i64 0, .int .i64 0, .string (⟨#[]⟩ : ByteArray), .int .i64 0, .int .i64 0, .int .i64 0, .int .i64 0, .int .i64 0]) ?_ 2 _ rfl; exact qK BK760) NB760_756.out (by simp)); replace HB := am_ (hb); replace HI756 := am_ (hi); (try clear hb); (try clear hk); (try clear hi); (try clear zK760); have zK760 := cz16 BK760.out; (try clear fK760); have fK760 := fz16 BK760.out) | ((with_reducible refine gate_callee (f := 76) rfl ?_); refine goesL_ (some 32) rfl rfl Try.func76 (by kernel_rfl) rfl #[.pointer (some ⟨gb756, 0, none⟩)] rfl la_ ?_; (with_reducible refine (spec_l9Word.calls gb756 l0 t771 t772 t773 t774 t775 w _ ?side1 ?side2 A18.out).mono ?_); (case side1 => repeat (first | (with_reducible first | exact HI756.out | apply IsS106.alloc | apply IsS106.drewN | apply IsS106.drew | apply IsS106.set_1 | apply IsS106.set_2 | refine IsS106.far ?_ NB756_755.out _ | refine IsS106.far ?_ NB756_760.out _) | exact HI756.out)); (case side2 => exact qB HB); rintro e w33 ⟨rfl, hi, hb, hk⟩; refine ⟨_, rfl, ?_⟩; replace BK755 := am_ (KeepBut.blk hk (g' := gb755) (o := .cells #[.int .i64 0, .int .i64 0, .string (⟨#[]⟩ : ByteArray), .int .i64 0, .int .i64 0, .int .i64 0, .string (⟨#[]⟩ : ByteArray), .int .i64 0, .int .i64 0, .int .i64 0, .string (⟨#[]⟩ : ByteArray), .int .i64 0, .int .i64 0, .int .i64 0, .int .i64 0, .int .i64 0] 29 (0, 0)) (by (with_reducible repeat (first | refine blk_drewN ?_ _ | refine blk_drew ?_ | refine blk_alloc ?_ _)); refine blk_far ?_ NB755_760.out _; exact qK BK755) NB755_756.out (by simp)); replace BK760 := am_ (KeepBut.blk hk (g' := gb760) (o := .cells #[.int .i64 t757, .int .i64 t761, .string t767, .int .i64 t764, .int .i64 t770, .int .i64 0, .string (⟨#[]⟩ : ByteArray), .int .i64 0, .int .i64 0, .int .i64 0, .string (⟨#[]⟩ : ByteArray), .int .i64 0, .int .i64 0, .int .i64 0, .int .i64 0, .int .i64 0] 29 (0, 0)) (by (with_reducible repeat (first | refine blk_drewN ?_ _ | refine blk_drew ?_ | refine blk_alloc ?_ _)); refine blk_put (cs := #[.int .i64 t757, .int .i64 t761, .string t767, .int .i64 t764, .int .i64 0, .int .i64 0, .string (⟨#[]⟩ : ByteArray), .int .i64 0, .int .i64 0, .int .i64 0, .string (⟨#[]⟩ : ByteArray), .int .i64 0, .int .i64 0, .int .i64 0, .int .i64 0, .int .i64 0]) ?_ 4 _ rfl; exact qK BK760) NB760_756.out (by simp)); replace HB := am_ (hb); replace HI756 := am_ (hi); (try clear hb); (try clear hk); (try clear hi); (try clear zK760); have zK760 := cz16 BK760.out; (try clear fK760); have fK760 := fz16 BK760.out))
  have n0_ : Aside0 ((w33.setCell ⟨gb760, 5, none⟩ (.int .i64 (wrap64 (256 * t773)))).heap[gb755]? = some (.cells #[.int .i64 0, .int .i64 0, .string (⟨#[]⟩ : ByteArray), .int .i64 0, .int .i64 0, .int .i64 0, .string (⟨#[]⟩ : ByteArray), .int .i64 0, .int .i64 0, .int .i64 0, .string (⟨#[]⟩ : ByteArray), .int .i64 0, .int .i64 0, .int .i64 0, .int .i64 0, .int .i64 0] 29 (0, 0))) := ⟨by (with_reducible repeat (first | refine blk_drewN ?_ _ | refine blk_drew ?_ | refine blk_alloc ?_ _)); refine blk_far ?_ NB755_760.out _; exact qK BK755⟩
  have n1_ : Aside0 ((w33.setCell ⟨gb760, 5, none⟩ (.int .i64 (wrap64 (256 * t773)))).heap[gb760]? = some (.cells #[.int .i64 t757, .int .i64 t761, .string t767, .int .i64 t764, .int .i64 t770, .int .i64 (wrap64 (256 * t773)), .string (⟨#[]⟩ : ByteArray), .int .i64 0, .int .i64 0, .int .i64 0, .string (⟨#[]⟩ : ByteArray), .int .i64 0, .int .i64 0, .int .i64 0, .int .i64 0, .int .i64 0] 29 (0, 0))) := ⟨by (with_reducible repeat (first | refine blk_drewN ?_ _ | refine blk_drew ?_ | refine blk_alloc ?_ _)); refine blk_put (cs := #[.int .i64 t757, .int .i64 t761, .string t767, .int .i64 t764, .int .i64 t770, .int .i64 0, .string (⟨#[]⟩ : ByteArray), .int .i64 0, .int .i64 0, .int .i64 0, .string (⟨#[]⟩ : ByteArray), .int .i64 0, .int .i64 0, .int .i64 0, .int .i64 0, .int .i64 0]) ?_ 5 _ rfl; exact qK BK760⟩
  have n2_ : Aside0 (IsS106 w (w33.setCell ⟨gb760, 5, none⟩ (.int .i64 (wrap64 (256 * t773)))) gb756 l0 t774 t775) := ⟨by repeat (first | (with_reducible first | exact HI756.out | apply IsS106.alloc | apply IsS106.drewN | apply IsS106.drew | apply IsS106.set_1 | apply IsS106.set_2 | refine IsS106.far ?_ NB756_755.out _ | refine IsS106.far ?_ NB756_760.out _) | exact HI756.out)⟩
  have n3_ : Aside0 (Below w.heap.size w (w33.setCell ⟨gb760, 5, none⟩ (.int .i64 (wrap64 (256 * t773))))) := ⟨qB HB⟩
  (try clear BK755)
  (try clear BK760)
  (try clear HI756)
  (try clear HB)
  generalize (w33.setCell ⟨gb760, 5, none⟩ (.int .i64 (wrap64 (256 * t773)))) = w35 at n0_ n1_ n2_ n3_ ⊢
  have BK755 := n0_
  have BK760 := n1_
  have HI756 := n2_
  have HB := n3_
  clear n0_ n1_ n2_ n3_
  replace BK755 := am_ (blk_drew BK755.out)
  replace BK760 := am_ (blk_drew BK760.out)
  replace HI756 := am_ (IsS106.drew HI756.out)
  replace HB := am_ (below_drew1 HB.out)
  refine start_ (n := 9) (S := fun w' => w'.cell? ⟨gb760, 0, none⟩ = some (.int .i64 t757) ∧ w'.cell? ⟨gb760, 1, none⟩ = some (.int .i64 t761) ∧ w'.cell? ⟨gb760, 2, none⟩ = some (.string t767) ∧ w'.cell? ⟨gb760, 3, none⟩ = some (.int .i64 t764) ∧ w'.cell? ⟨gb760, 4, none⟩ = some (.int .i64 t770) ∧ w'.cell? ⟨gb760, 5, none⟩ = some (.int .i64 (wrap64 (256 * t773))) ∧ w'.cell? ⟨gb760, 6, none⟩ = some (.string (⟨#[]⟩ : ByteArray)) ∧ w'.cell? ⟨gb760, 7, none⟩ = some (.int .i64 0) ∧ w'.cell? ⟨gb760, 8, none⟩ = some (.int .i64 0) ∧ w'.cell? ⟨gb760, 9, none⟩ = some (.int .i64 0) ∧ w'.cell? ⟨gb760, 10, none⟩ = some (.string (⟨#[]⟩ : ByteArray)) ∧ w'.cell? ⟨gb760, 11, none⟩ = some (.int .i64 0) ∧ w'.cell? ⟨gb760, 12, none⟩ = some (.int .i64 0) ∧ w'.cell? ⟨gb760, 13, none⟩ = some (.int .i64 0) ∧ w'.cell? ⟨gb760, 14, none⟩ = some (.int .i64 0) ∧ w'.cell? ⟨gb760, 15, none⟩ = some (.int .i64 0)) (ds := [8]) #[oo,oo,oo,oo,oo,oo,oo,oo,oo] (by kernel_rfl) rfl rfl (cz16 BK760.out) (fun hHeld => ?_); refine with_tabW spec_GetItem.tab9 spec_GetItem.bits9 (fun HT_ HW_ => ?_)
  generalize w35.drew = w36 at BK755 BK760 HI756 HB hHeld ⊢
  refine pz_ (i := 0) (N := some 36) HT_ #[ii,oo,oo,oo,oo,oo,oo,oo,oo] rfl rfl ?_
  refine pz_ (i := 1) (N := some 37) HT_ #[ii,ii,oo,oo,oo,oo,oo,oo,oo] rfl rfl ?_
  refine pz_ (i := 3) (N := some 39) HT_ #[ii,ii,oo,ii,oo,oo,oo,oo,oo] rfl rfl ?_
  refine tz_ (i := 2) (N := some 38) HT_ HW_ #[ii,ii,ii,ii,oo,oo,oo,oo,oo] rfl rfl hHeld ?_
  refine one_ (i := 4) (N := some 40) #[ii,ii,ii,ii,ii,oo,oo,oo,oo] rfl rfl (one_of HT_.out (by kernel_rfl)) (by decide) (fun K hK => ?_)
  refine goes_ Try.func75 (by kernel_rfl) rfl #[.pointer (some ⟨gb756, 0, none⟩)] (by rfl) rfl rfl la_ ?_
  with_reducible refine (spec_l9Byte.calls gb756 l0 t774 t775 t776 t777 t778 w _ ?side1 ?side2 A19.out).mono ?_
  (case side1 => repeat (first | (with_reducible first | exact HI756.out | apply IsS106.alloc | apply IsS106.drewN | apply IsS106.drew | apply IsS106.set_1 | apply IsS106.set_2 | refine IsS106.far ?_ NB756_755.out _ | refine IsS106.far ?_ NB756_760.out _) | exact HI756.out))
  (case side2 => exact qB HB)
  rintro e w37 ⟨rfl, hi, hb, hk⟩
  refine ⟨_, rfl, ?_⟩
  replace BK755 := kB_ BK755 hk NB755_756
  replace BK760 := kB_ BK760 hk NB760_756
  replace HB := am_ (hb)
  replace HI756 := am_ (hi)
  (try clear hb hk hi)
  refine hK.out _ _ (cz16 BK760.out) (fun hHeld => ?_)
  clear hK K
  refine norm_ (a' := ?_) ?_ ?_
  rotate_left
  ·
   show Act.put _ (some 40) _ = _
   exact ap_
  refine pz_ (i := 5) (N := some 41) HT_ #[ii,ii,ii,ii,ii,ii,oo,oo,oo] rfl rfl ?_
  refine pz_ (i := 6) (N := some 42) HT_ #[ii,ii,ii,ii,ii,ii,ii,oo,oo] rfl rfl ?_
  refine pz_ (i := 7) (N := some 43) HT_ #[ii,ii,ii,ii,ii,ii,ii,ii,oo] rfl rfl ?_
  refine last_ (i := 8) (N := none) #[ii,ii,ii,ii,ii,ii,ii,ii,ii] rfl rfl (one_of HT_.out (by kernel_rfl)) (by decide) (fun K hK => ?_)
  have hs38 : w37.cell? ⟨gb760, 5, none⟩ = some (.int .i64 (wrap64 (256 * t773))) := (blk_cell BK760.out 5).trans rfl
  have hfs38 := blk_frozen BK760.out 5
  have hns38_0 := NB755_760.out
  have hms38_0 := NB760_755.out
  refine skip_ (w1 := ?_) (by rfl) rfl ?_ ?_
  rotate_left
  ·
   go_simp
   rfl
  refine hK.out _ _ ?_
  clear hK K
  refine done_ (done_of HT_.out (by kernel_rfl)) ?_
  try go_wp2_with (first | ((with_reducible refine gate_callee (f := 77) rfl ?_); refine goesL_ (some 45) rfl rfl Try.func77 (by kernel_rfl) rfl #[.pointer (some ⟨gb756, 0, none⟩)] rfl la_ ?_; (with_reducible refine (spec_l9Text.calls k gb756 l0 t777 t778 t779 t780 t781 w _ ?side1 ?side2 A20.out).mono ?_); (case side1 => repeat (first | (with_reducible first | exact HI756.out | apply IsS106.alloc | apply IsS106.drewN | apply IsS106.drew | apply IsS106.set_1 | apply IsS106.set_2 | refine IsS106.far ?_ NB756_755.out _ | refine IsS106.far ?_ NB756_760.out _) | exact HI756.out)); (case side2 => exact qB HB); rintro e w39 ⟨rfl, hi, hb, hk⟩; refine ⟨_, rfl, ?_⟩; replace BK755 := am_ (KeepBut.blk hk (g' := gb755) (o := .cells #[.int .i64 0, .int .i64 0, .string (⟨#[]⟩ : ByteArray), .int .i64 0, .int .i64 0, .int .i64 0, .string (⟨#[]⟩ : ByteArray), .int .i64 0, .int .i64 0, .int .i64 0, .string (⟨#[]⟩ : ByteArray), .int .i64 0, .int .i64 0, .int .i64 0, .int .i64 0, .int .i64 0] 29 (0, 0)) (by (with_reducible repeat (first | refine blk_drewN ?_ _ | refine blk_drew ?_ | refine blk_alloc ?_ _)); refine blk_far ?_ NB755_760.out _; exact qK BK755) NB755_756.out (by simp)); replace BK760 := am_ (KeepBut.blk hk (g' := gb760) (o := .cells #[.int .i64 t757, .int .i64 t761, .string t767, .int .i64 t764, .int .i64 t770, .int .i64 (wrap64 ((wrap64 (256 * t773)) + t776)), .string (⟨#[]⟩ : ByteArray), .int .i64 0, .int .i64 0, .int .i64 0, .string (⟨#[]⟩ : ByteArray), .int .i64 0, .int .i64 0, .int .i64 0, .int .i64 0, .int .i64 0] 29 (0, 0)) (by (with_reducible repeat (first | refine blk_drewN ?_ _ | refine blk_drew ?_ | refine blk_alloc ?_ _)); refine blk_put (cs := #[.int .i64 t757, .int .i64 t761, .string t767, .int .i64 t764, .int .i64 t770, .int .i64 (wrap64 (256 * t773)), .string (⟨#[]⟩ : ByteArray), .int .i64 0, .int .i64 0, .int .i64 0, .string (⟨#[]⟩ : ByteArray), .int .i64 0, .int .i64 0, .int .i64 0, .int .i64 0, .int .i64 0]) ?_ 5 _ rfl; exact qK BK760) NB760_756.out (by simp)); replace HB := am_ (hb); replace HI756 := am_ (hi); (try clear hb); (try clear hk); (try clear hi); (try clear zK760); have zK760 := cz16 BK760.out; (try clear fK760); have fK760 := fz16 BK760.out) | ((with_reducible refine gate_callee (f := 76) rfl ?_); refine goesL_ (some 49) rfl rfl Try.func76 (by kernel_rfl) rfl #[.pointer (some ⟨gb756, 0, none⟩)] rfl la_ ?_; (with_reducible refine (spec_l9Word.calls gb756 l0 t780 t781 t782 t783 t784 w _ ?side1 ?side2 A21.out).mono ?_); (case side1 => repeat (first | (with_reducible first | exact HI756.out | apply IsS106.alloc | apply IsS106.drewN | apply IsS106.drew | apply IsS106.set_1 | apply IsS106.set_2 | refine IsS106.far ?_ NB756_755.out _ | refine IsS106.far ?_ NB756_760.out _) | exact HI756.out)); (case side2 => exact qB HB); rintro e w41 ⟨rfl, hi, hb, hk⟩; refine ⟨_, rfl, ?_⟩; replace BK755 := am_ (KeepBut.blk hk (g' := gb755) (o := .cells #[.int .i64 0, .int .i64 0, .string (⟨#[]⟩ : ByteArray), .int .i64 0, .int .i64 0, .int .i64 0, .string (⟨#[]⟩ : ByteArray), .int .i64 0, .int .i64 0, .int .i64 0, .string (⟨#[]⟩ : ByteArray), .int .i64 0, .int .i64 0, .int .i64 0, .int .i64 0, .int .i64 0] 29 (0, 0)) (by (with_reducible repeat (first | refine blk_drewN ?_ _ | refine blk_drew ?_ | refine blk_alloc ?_ _)); refine blk_far ?_ NB755_760.out _; exact qK BK755) NB755_756.out (by simp)); replace BK760 := am_ (KeepBut.blk hk (g' := gb760) (o := .cells #[.int .i64 t757, .int .i64 t761, .string t767, .int .i64 t764, .int .i64 t770, .int .i64 (wrap64 ((wrap64 (256 * t773)) + t776)), .string t779, .int .i64 0, .int .i64 0, .int .i64 0, .string (⟨#[]⟩ : ByteArray), .int .i64 0, .int .i64 0, .int .i64 0, .int .i64 0, .int .i64 0] 29 (0, 0)) (by (with_reducible repeat (first | refine blk_drewN ?_ _ | refine blk_drew ?_ | refine blk_alloc ?_ _)); refine blk_put (cs := #[.int .i64 t757, .int .i64 t761, .string t767, .int .i64 t764, .int .i64 t770, .int .i64 (wrap64 ((wrap64 (256 * t773)) + t776)), .string (⟨#[]⟩ : ByteArray), .int .i64 0, .int .i64 0, .int .i64 0, .string (⟨#[]⟩ : ByteArray), .int .i64 0, .int .i64 0, .int .i64 0, .int .i64 0, .int .i64 0]) ?_ 6 _ rfl; exact qK BK760) NB760_756.out (by simp)); replace HB := am_ (hb); replace HI756 := am_ (hi); (try clear hb); (try clear hk); (try clear hi); (try clear zK760); have zK760 := cz16 BK760.out; (try clear fK760); have fK760 := fz16 BK760.out) | ((with_reducible refine gate_callee (f := 76) rfl ?_); refine goesL_ (some 53) rfl rfl Try.func76 (by kernel_rfl) rfl #[.pointer (some ⟨gb756, 0, none⟩)] rfl la_ ?_; (with_reducible refine (spec_l9Word.calls gb756 l0 t783 t784 t785 t786 t787 w _ ?side1 ?side2 A22.out).mono ?_); (case side1 => repeat (first | (with_reducible first | exact HI756.out | apply IsS106.alloc | apply IsS106.drewN | apply IsS106.drew | apply IsS106.set_1 | apply IsS106.set_2 | refine IsS106.far ?_ NB756_755.out _ | refine IsS106.far ?_ NB756_760.out _) | exact HI756.out)); (case side2 => exact qB HB); rintro e w43 ⟨rfl, hi, hb, hk⟩; refine ⟨_, rfl, ?_⟩; replace BK755 := am_ (KeepBut.blk hk (g' := gb755) (o := .cells #[.int .i64 0, .int .i64 0, .string (⟨#[]⟩ : ByteArray), .int .i64 0, .int .i64 0, .int .i64 0, .string (⟨#[]⟩ : ByteArray), .int .i64 0, .int .i64 0, .int .i64 0, .string (⟨#[]⟩ : ByteArray), .int .i64 0, .int .i64 0, .int .i64 0, .int .i64 0, .int .i64 0] 29 (0, 0)) (by (with_reducible repeat (first | refine blk_drewN ?_ _ | refine blk_drew ?_ | refine blk_alloc ?_ _)); refine blk_far ?_ NB755_760.out _; exact qK BK755) NB755_756.out (by simp)); replace BK760 := am_ (KeepBut.blk hk (g' := gb760) (o := .cells #[.int .i64 t757, .int .i64 t761, .string t767, .int .i64 t764, .int .i64 t770, .int .i64 (wrap64 ((wrap64 (256 * t773)) + t776)), .string t779, .int .i64 t782, .int .i64 0, .int .i64 0, .string (⟨#[]⟩ : ByteArray), .int .i64 0, .int .i64 0, .int .i64 0, .int .i64 0, .int .i64 0] 29 (0, 0)) (by (with_reducible repeat (first | refine blk_drewN ?_ _ | refine blk_drew ?_ | refine blk_alloc ?_ _)); refine blk_put (cs := #[.int .i64 t757, .int .i64 t761, .string t767, .int .i64 t764, .int .i64 t770, .int .i64 (wrap64 ((wrap64 (256 * t773)) + t776)), .string t779, .int .i64 0, .int .i64 0, .int .i64 0, .string (⟨#[]⟩ : ByteArray), .int .i64 0, .int .i64 0, .int .i64 0, .int .i64 0, .int .i64 0]) ?_ 7 _ rfl; exact qK BK760) NB760_756.out (by simp)); replace HB := am_ (hb); replace HI756 := am_ (hi); (try clear hb); (try clear hk); (try clear hi); (try clear zK760); have zK760 := cz16 BK760.out; (try clear fK760); have fK760 := fz16 BK760.out))
  go_meet
  case rel => exact ⟨_, (t786), (t787), (t761), (t767), (t764), (t770), (wrap64 ((wrap64 (256 * t773)) + t776)), (t779), (t782), (t785), (0), ((⟨#[]⟩ : ByteArray)), (0), (0), (0), (0), (0), H', ⟨by first | omega | exact Nat.le_refl _⟩, ⟨by (with_reducible repeat (first | refine blk_drewN ?_ _ | refine blk_drew ?_ | refine blk_alloc ?_ _)); refine blk_far ?_ NB755_760.out _; exact qK BK755⟩, ⟨by (with_reducible repeat (first | refine blk_drewN ?_ _ | refine blk_drew ?_ | refine blk_alloc ?_ _)); refine blk_put (cs := #[.int .i64 t757, .int .i64 t761, .string t767, .int .i64 t764, .int .i64 t770, .int .i64 (wrap64 ((wrap64 (256 * t773)) + t776)), .string t779, .int .i64 t782, .int .i64 0, .int .i64 0, .string (⟨#[]⟩ : ByteArray), .int .i64 0, .int .i64 0, .int .i64 0, .int .i64 0, .int .i64 0]) ?_ 8 _ rfl; exact qK BK760⟩, ⟨by repeat (first | (with_reducible first | exact HI756.out | apply IsS106.alloc | apply IsS106.drewN | apply IsS106.drew | apply IsS106.set_1 | apply IsS106.set_2 | refine IsS106.far ?_ NB756_755.out _ | refine IsS106.far ?_ NB756_760.out _) | exact HI756.out)⟩, ⟨qB HB⟩⟩
 case rest =>
  clear HC3
  try clear c1
  try clear c2
  try clear p2
  try clear c5
  try clear p6
  try clear c7
  try clear c8
  try clear c9
  try clear c12
  try clear c13
  try clear c13b0
  try clear c13b1
  try clear c24
  try clear c25
  try clear c54
  try clear c55
  try clear p64
  (try clear zK760)
  (try clear zK760)
  (try clear zK760)
  (try clear zK760)
  (try clear zK760)
  (try clear zK760)
  (try clear zK760)
  (try clear zK760)
  (try clear zK760)
  (try clear zK760)
  (try clear zK760)
  (try clear zK760)
  (try clear zK760)
  (try clear zK760)
  (try clear zK760)
  (try clear zK760)
  (try clear zK760)
  (try clear fK760)
  (try clear fK760)
  (try clear fK760)
  (try clear fK760)
  (try clear fK760)
  (try clear fK760)
  (try clear fK760)
  (try clear fK760)
  (try clear fK760)
  (try clear fK760)
  (try clear fK760)
  (try clear fK760)
  (try clear fK760)
  (try clear fK760)
  (try clear fK760)
  (try clear fK760)
  (try clear fK760)
  obtain ⟨kq, x757001_2, x757002_2, x761001_2, x761002_2, x761003_2, x761004_2, x761005_2, x761006_2, x761007_2, x761008_2, x761009_2, x761010_2, x761011_2, x761012_2, x761013_2, x761014_2, x761015_2, HA, HJ2, BK755, BK760, HI756, HB⟩ := hcut
  cases kq with
  | zero => exact absurd HA.out (by simp [spec_GetItem.j0])
  | succ kj2 =>
   have H := HA.out
   clear HA
   simp only [spec_GetItem.j0] at H
   by_cases c73 : x757002_2 = true
   ·
    subst c73
    rw [if_pos rfl] at H
    simp only [Option.some.injEq, Prod.mk.injEq] at H
    obtain ⟨rfl, rfl, rfl, rfl, rfl, rfl, rfl, rfl, rfl, rfl, rfl, rfl, rfl, rfl, rfl, rfl, rfl⟩ := H
    obtain ⟨ASz74_0, cSz74_0, HGz74, hgz74, HSz74_0⟩ := HI756.out
    obtain ⟨HSz74_0, HQz74_0⟩ := HSz74_0
    have z74_0 := cellS106_0 HGz74
    have z74_1 := cellS106_1 HGz74
    have z74_2 := cellS106_2 HGz74
    have f74_1 := blk_frozen HGz74 1
    have f74_2 := blk_frozen HGz74 2
    clear HGz74 hgz74
    have hnb75 := NB755_760.out
    have hnc75 := NB760_755.out
    have hnb76 := NB755_756.out
    have hnc76 := NB756_755.out
    (try clear zK755)
    have zK755 := cz16 BK755.out
    (try clear fK755)
    have fK755 := fz16 BK755.out
    go_wp2_with (first | ((with_reducible refine gate_store (t := 29) (p := 2) rfl ?_); refine store_evs (t := 29) (p := 2) (j := 0) (cs := [.int .i64 0, .int .i64 0, .string (⟨#[]⟩ : ByteArray), .int .i64 0, .int .i64 0, .int .i64 0, .string (⟨#[]⟩ : ByteArray), .int .i64 0, .int .i64 0, .int .i64 0, .string (⟨#[]⟩ : ByteArray), .int .i64 0, .int .i64 0, .int .i64 0, .int .i64 0, .int .i64 0]) (qK BK755) ?_; intro w78 hw; replace BK760 := sK_ hw BK760 NB760_755; replace HI756 := IsS106.s_ hw HI756 NB756_755; replace HB := sB_ hw HB; replace BK755 := sW_ hw BK755; clear hw))
    refine bodyPost_ret (results_ct rfl _ _ gb755 29 #[.int .i64 0, .int .i64 0, .string (⟨#[]⟩ : ByteArray), .int .i64 0, .int .i64 0, .int .i64 0, .string (⟨#[]⟩ : ByteArray), .int .i64 0, .int .i64 0, .int .i64 0, .string (⟨#[]⟩ : ByteArray), .int .i64 0, .int .i64 0, .int .i64 0, .int .i64 0, .int .i64 0] (0, 0) _ rfl (qK BK755) Try.underlying29 rfl (by kernel_rfl)) rfl ?_
    exact ⟨er_, qB HB⟩
   replace c73 := Bool.eq_false_iff.mpr c73
   subst c73
   rw [if_neg (show ¬ (false = true) by decide)] at H
   replace H := bd_ H
   obtain ⟨t812, A79, H⟩ := H
   replace H := bd_ H
   obtain ⟨t815, A80, H⟩ := H
   have HC81 := Aside0.mk H
   clear H
   obtain ⟨ASz82_0, cSz82_0, HGz82, hgz82, HSz82_0⟩ := HI756.out
   obtain ⟨HSz82_0, HQz82_0⟩ := HSz82_0
   have z82_0 := cellS106_0 HGz82
   have z82_1 := cellS106_1 HGz82
   have z82_2 := cellS106_2 HGz82
   have f82_1 := blk_frozen HGz82 1
   have f82_2 := blk_frozen HGz82 2
   clear HGz82 hgz82
   have hnb83 := NB760_755.out
   have hnc83 := NB755_760.out
   have hnb84 := NB760_756.out
   have hnc84 := NB756_760.out
   (try clear zK760)
   have zK760 := cz16 BK760.out
   (try clear fK760)
   have fK760 := fz16 BK760.out
   go_upto_if 103 with (first | (go_at_call 20; (with_reducible refine (spec_PutItem.calls kj2 t757 x761001_2 x761002_2 x761003_2 x761004_2 x761005_2 x761006_2 x761007_2 x761008_2 x761009_2 x761010_2 x761011_2 x761012_2 x761013_2 x761014_2 x761015_2 t812 _ A79.out).mono ?_); rintro e w86 ⟨v813, rfl, ho0, hb⟩; have HO814 := am_ (Kd.R_lower ho0 (below_size (qB HB))); replace BK755 := bK_ BK755 hb; replace BK760 := bK_ BK760 hb; replace HB := bS_ HB hb; replace HI756 := am_ (IsS106.below (by repeat (first | (with_reducible first | exact HI756.out | apply IsS106.alloc | apply IsS106.drewN | apply IsS106.drew | apply IsS106.set_1 | apply IsS106.set_2 | refine IsS106.far ?_ NB756_755.out _ | refine IsS106.far ?_ NB756_760.out _) | exact HI756.out)) hb); (try clear hb); (try clear ho0); obtain ⟨Ao87, co87, eo87⟩ := Kd.R_slice HO814.out; subst eo87) | (go_at_call 78; (with_reducible refine (spec_l1Same.calls _ _ t812 _ _ l0 t815 _ ?side1 ?side2 ?side3 ?side4 A80.out).mono ?_); (case side1 => exact qC ((Kd.R_reads' HO814.out).2.2)); (case side2 => exact (Kd.R_reads' HO814.out).2.1); (case side3 => exact qC (Kd.C_below HR0.out HB.out)); (case side4 => exact HC0.out); rintro e w' ⟨rfl, ⟨nd, rfl⟩⟩))
   (try simp only [Act.put, List.setIfInBounds_toArray, List.set_cons_zero, List.set_cons_succ])
   (try (rw [drewN_self w86]; generalize hq_ : World.drewN w86 _ = w86; have n0_ : Aside0 (Kd.R (Kd.int .u8) 5 w86 w.heap.size (fun _ => True) (.slice Ao87 t812.length co87) t812) := ⟨by rw [← hq_]; exact (qR HO814)⟩; have n1_ : Aside0 (w86.heap[gb755]? = some (.cells #[.int .i64 0, .int .i64 0, .string (⟨#[]⟩ : ByteArray), .int .i64 0, .int .i64 0, .int .i64 0, .string (⟨#[]⟩ : ByteArray), .int .i64 0, .int .i64 0, .int .i64 0, .string (⟨#[]⟩ : ByteArray), .int .i64 0, .int .i64 0, .int .i64 0, .int .i64 0, .int .i64 0] 29 (0, 0))) := ⟨by rw [← hq_]; exact (qK BK755)⟩; have n2_ : Aside0 (w86.heap[gb760]? = some (.cells #[.int .i64 t757, .int .i64 x761001_2, .string x761002_2, .int .i64 x761003_2, .int .i64 x761004_2, .int .i64 x761005_2, .string x761006_2, .int .i64 x761007_2, .int .i64 x761008_2, .int .i64 x761009_2, .string x761010_2, .int .i64 x761011_2, .int .i64 x761012_2, .int .i64 x761013_2, .int .i64 x761014_2, .int .i64 x761015_2] 29 (0, 0))) := ⟨by rw [← hq_]; exact (qK BK760)⟩; have n3_ : Aside0 (IsS106 w w86 gb756 l0 x757001_2 false) := ⟨by rw [← hq_]; exact (by repeat (first | (with_reducible first | exact HI756.out | apply IsS106.alloc | apply IsS106.drewN | apply IsS106.drew | apply IsS106.set_1 | apply IsS106.set_2 | refine IsS106.far ?_ NB756_755.out _ | refine IsS106.far ?_ NB756_760.out _) | exact HI756.out))⟩; have n4_ : Aside0 (Below w.heap.size w w86) := ⟨by rw [← hq_]; exact (qB HB)⟩; clear HO814 BK755 BK760 HI756 HB hq_; have HO814 := n0_; have BK755 := n1_; have BK760 := n2_; have HI756 := n3_; have HB := n4_; clear n0_ n1_ n2_ n3_ n4_))
   have H := HC81.out
   clear HC81
   by_cases c88 : t815 = true
   rotate_left
   ·
    replace c88 := Bool.eq_false_iff.mpr c88
    subst c88
    rw [if_neg (show ¬ (false = true) by decide)] at H
    simp only [Option.some.injEq, Prod.mk.injEq] at H
    obtain ⟨rfl, rfl, rfl, rfl, rfl, rfl, rfl, rfl, rfl, rfl, rfl, rfl, rfl, rfl, rfl, rfl, rfl⟩ := H
    have hnb95 := NB755_760.out
    have hnc95 := NB760_755.out
    have hnb96 := NB755_756.out
    have hnc96 := NB756_755.out
    (try clear zK755)
    have zK755 := cz16 BK755.out
    (try clear fK755)
    have fK755 := fz16 BK755.out
    go_wp2_with (first | ((with_reducible refine gate_store (t := 29) (p := 2) rfl ?_); refine store_evs (t := 29) (p := 2) (j := 0) (cs := [.int .i64 0, .int .i64 0, .string (⟨#[]⟩ : ByteArray), .int .i64 0, .int .i64 0, .int .i64 0, .string (⟨#[]⟩ : ByteArray), .int .i64 0, .int .i64 0, .int .i64 0, .string (⟨#[]⟩ : ByteArray), .int .i64 0, .int .i64 0, .int .i64 0, .int .i64 0, .int .i64 0]) (qK BK755) ?_; intro w98 hw; have n0_ : Aside0 (Kd.R (Kd.int .u8) 5 w98 w.heap.size (fun _ => True) (.slice Ao87 t812.length co87) t812) := ⟨(by rw [hw]; exact (by (with_reducible repeat (first | apply Kd.R_alloc | apply Kd.R_drewN | apply Kd.R_drew)); exact Kd.R_mono (sR_ (g := gb755) (Kd.R_types HO814.out BK755.out (by decide)) (fun _ hk => hk.2)) (fun _ hk => trivial)))⟩; replace BK760 := sK_ hw BK760 NB760_755; replace HI756 := IsS106.s_ hw HI756 NB756_755; replace HB := sB_ hw HB; replace BK755 := sW_ hw BK755; clear hw; clear HO814; have HO814 := n0_; clear n0_))
    refine bodyPost_ret (results_ct rfl _ _ gb755 29 #[.int .i64 0, .int .i64 0, .string (⟨#[]⟩ : ByteArray), .int .i64 0, .int .i64 0, .int .i64 0, .string (⟨#[]⟩ : ByteArray), .int .i64 0, .int .i64 0, .int .i64 0, .string (⟨#[]⟩ : ByteArray), .int .i64 0, .int .i64 0, .int .i64 0, .int .i64 0, .int .i64 0] (0, 0) _ rfl (qK BK755) Try.underlying29 rfl (by kernel_rfl)) rfl ?_
    exact ⟨er_, qB HB⟩
   subst c88
   rw [if_pos rfl] at H
   simp only [Option.some.injEq, Prod.mk.injEq] at H
   obtain ⟨rfl, rfl, rfl, rfl, rfl, rfl, rfl, rfl, rfl, rfl, rfl, rfl, rfl, rfl, rfl, rfl, rfl⟩ := H
   have hnb89 := NB760_755.out
   have hnc89 := NB755_760.out
   have hnb90 := NB760_756.out
   have hnc90 := NB756_760.out
   (try clear zK760)
   have zK760 := cz16 BK760.out
   (try clear fK760)
   have fK760 := fz16 BK760.out
   have hnb92 := NB755_756.out
   have hnc92 := NB756_755.out
   (try clear zK755)
   have zK755 := cz16 BK755.out
   (try clear fK755)
   have fK755 := fz16 BK755.out
   go_wp2_with (first | ((with_reducible refine gate_store (t := 29) (p := 2) rfl ?_); refine store_evs (t := 29) (p := 2) (j := 0) (cs := [.int .i64 t757, .int .i64 x761001_2, .string x761002_2, .int .i64 x761003_2, .int .i64 x761004_2, .int .i64 x761005_2, .string x761006_2, .int .i64 x761007_2, .int .i64 x761008_2, .int .i64 x761009_2, .string x761010_2, .int .i64 x761011_2, .int .i64 x761012_2, .int .i64 x761013_2, .int .i64 x761014_2, .int .i64 x761015_2]) (qK BK755) ?_; intro w94 hw; have n0_ : Aside0 (Kd.R (Kd.int .u8) 5 w94 w.heap.size (fun _ => True) (.slice Ao87 t812.length co87) t812) := ⟨(by rw [hw]; exact (by (with_reducible repeat (first | apply Kd.R_alloc | apply Kd.R_drewN | apply Kd.R_drew)); exact Kd.R_mono (sR_ (g := gb755) (Kd.R_types HO814.out BK755.out (by decide)) (fun _ hk => hk.2)) (fun _ hk => trivial)))⟩; replace BK760 := sK_ hw BK760 NB760_755; replace HI756 := IsS106.s_ hw HI756 NB756_755; replace HB := sB_ hw HB; replace BK755 := sW_ hw BK755; clear hw; clear HO814; have HO814 := n0_; clear n0_))
   refine bodyPost_ret (results_ct rfl _ _ gb755 29 #[.int .i64 t757, .int .i64 x761001_2, .string x761002_2, .int .i64 x761003_2, .int .i64 x761004_2, .int .i64 x761005_2, .string x761006_2, .int .i64 x761007_2, .int .i64 x761008_2, .int .i64 x761009_2, .string x761010_2, .int .i64 x761011_2, .int .i64 x761012_2, .int .i64 x761013_2, .int .i64 x761014_2, .int .i64 x761015_2] (0, 0) _ rfl (qK BK755) Try.underlying29 rfl (by kernel_rfl)) rfl ?_
   exact ⟨er_, qB HB⟩

end Go.Proofs.Ytiffahfpfgnjnaa.PFnItems
