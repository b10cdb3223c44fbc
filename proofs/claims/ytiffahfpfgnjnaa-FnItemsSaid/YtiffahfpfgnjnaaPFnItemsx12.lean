-- Written by a program of this session (myprint.py, over the kit's print): contracts of FnItems
import Derived.Test.YtiffahfpfgnjnaaPFnItemsx0
import Derived.Test.YtiffahfpfgnjnaaPFnItemsx10
import Derived.Test.YtiffahfpfgnjnaaPFnItemsx11
namespace Go.Proofs.Ytiffahfpfgnjnaa.PFnItems
open Go.RowKit Go.Proofs.YtiffahfpfgnjnaaW.PrintWords Go.Proofs.YtiffahfpfgnjnaaW.PrintLast Go.Proofs.YtiffahfpfgnjnaaW.PrintMore Go.Proofs.YtiffahfpfgnjnaaV
attribute [local go_sem] max2_int min2_int max_two min_two max_three min_three max_four min_four   -- for this text's walks alone
set_option linter.unusedVariables false
set_option linter.unusedSimpArgs false

/-! ### impl_GetItem: function 10 -/
def impl_GetItem.j0 : Nat → List Int → Int → Int → ByteArray → Int → Int → Int → ByteArray → Int → Int → Int → ByteArray → Int → Int → Int → Int → Int → Option (Int × Int × ByteArray × Int × Int × Int × ByteArray × Int × Int × Int × ByteArray × Int × Int × Int × Int × Int × Bool)
 | 0, _, _, _, _, _, _, _, _, _, _, _, _, _, _, _, _, _ => none
 | k + 1, x0, x536000, x536001, x536002, x536003, x536004, x536005, x536006, x536007, x536008, x536009, x536010, x536011, x536012, x536013, x536014, x536015 => if (x0.length : Int) = 0 then (some (0, 0, (⟨#[]⟩ : ByteArray), 0, 0, 0, (⟨#[]⟩ : ByteArray), 0, 0, 0, (⟨#[]⟩ : ByteArray), 0, 0, 0, 0, 0, false)) else ((impl_PutItem.f k x536000 x536001 x536002 x536003 x536004 x536005 x536006 x536007 x536008 x536009 x536010 x536011 x536012 x536013 x536014 x536015).bind fun t556 => ((bytes_Equal.f t556 x0).bind fun t559 => (if t559 = true then (some (x536000, x536001, x536002, x536003, x536004, x536005, x536006, x536007, x536008, x536009, x536010, x536011, x536012, x536013, x536014, x536015, true)) else (some (0, 0, (⟨#[]⟩ : ByteArray), 0, 0, 0, (⟨#[]⟩ : ByteArray), 0, 0, 0, (⟨#[]⟩ : ByteArray), 0, 0, 0, 0, 0, false)))))
def impl_GetItem.f (k : Nat) (l0 : List Int) : Option (Int × Int × ByteArray × Int × Int × Int × ByteArray × Int × Int × Int × ByteArray × Int × Int × Int × Int × Int × Bool) := (impl_reader_one.f l0 0).bind fun bt533 => ((impl_reader_word.f l0 bt533.2).bind fun bt536 => ((impl_reader_one.f l0 bt536.2).bind fun bt538 => ((impl_reader_text.f k l0 bt538.2).bind fun bt540 => ((impl_reader_word.f l0 bt540.2).bind fun bt542 => ((impl_reader_since.f l0 bt542.2).bind fun bt544 => (if bt533.1 = 1 then ((impl_reader_text.f k l0 bt544.2).bind fun bt546 => ((impl_reader_word.f l0 bt546.2).bind fun bt548 => ((impl_reader_word.f l0 bt548.2).bind fun bt550 => (impl_GetItem.j0 k l0 bt533.1 bt536.1 bt540.1 bt538.1 bt542.1 bt544.1 bt546.1 bt548.1 bt550.1 0 (⟨#[]⟩ : ByteArray) 0 0 0 0 0)))) else ((impl_reader_word.f l0 bt544.2).bind fun bt552 => ((impl_reader_word.f l0 bt552.2).bind fun bt554 => (impl_GetItem.j0 k l0 bt533.1 0 (⟨#[]⟩ : ByteArray) 0 0 0 (⟨#[]⟩ : ByteArray) 0 0 bt536.1 bt540.1 bt542.1 bt538.1 bt544.1 bt552.1 bt554.1)))))))))
theorem impl_GetItem.mono_l : ∀ k, (∀ y0 y1 y2 y3 y4 y5 y6 y7 y8 y9 y10 y11 y12 y13 y14 y15 y16, LeO (impl_GetItem.j0 k y0 y1 y2 y3 y4 y5 y6 y7 y8 y9 y10 y11 y12 y13 y14 y15 y16) (impl_GetItem.j0 (k + 1) y0 y1 y2 y3 y4 y5 y6 y7 y8 y9 y10 y11 y12 y13 y14 y15 y16))
 | 0 => fun _ _ _ _ _ _ _ _ _ _ _ _ _ _ _ _ _ r h => by simp [impl_GetItem.j0] at h
 | k + 1 => by
  have ih0 := impl_GetItem.mono_l k
  ·
   intro y0 y1 y2 y3 y4 y5 y6 y7 y8 y9 y10 y11 y12 y13 y14 y15 y16
   unfold impl_GetItem.j0
   repeat' first
   | (with_reducible exact ih0 _ _ _ _ _ _ _ _ _ _ _ _ _ _ _ _ _)
   | (with_reducible exact impl_PutItem.mono _ _ _ _ _ _ _ _ _ _ _ _ _ _ _ _ _)
   | (with_reducible exact impl_reader_text.mono _ _ _)
   | (with_reducible exact LeO.refl _)
   | (with_reducible exact LeO.none _)
   | (with_reducible refine LeO.ite ?_ ?_)
   | (with_reducible refine LeO.bind ?_ (fun _ => ?_))
theorem impl_GetItem.mono : ∀ a0 k, LeO (impl_GetItem.f k a0) (impl_GetItem.f (k + 1) a0) := by
 intro a0 k
 have ih0 := impl_GetItem.mono_l k
 unfold impl_GetItem.f
 repeat' first
   | (with_reducible exact ih0 _ _ _ _ _ _ _ _ _ _ _ _ _ _ _ _ _)
   | (with_reducible exact impl_PutItem.mono _ _ _ _ _ _ _ _ _ _ _ _ _ _ _ _ _)
   | (with_reducible exact impl_reader_text.mono _ _ _)
   | (with_reducible exact LeO.refl _)
   | (with_reducible exact LeO.none _)
   | (with_reducible refine LeO.ite ?_ ?_)
   | (with_reducible refine LeO.bind ?_ (fun _ => ?_))
set_option maxHeartbeats 8000000 in
set_option maxRecDepth 100000 in
theorem impl_GetItem.calls (k : Nat) (A0 : Option Addr) (c0 : Nat) (l0 : List Int) (r1 : Int) (r2 : Int) (r3 : ByteArray) (r4 : Int) (r5 : Int) (r6 : Int) (r7 : ByteArray) (r8 : Int) (r9 : Int) (r10 : Int) (r11 : ByteArray) (r12 : Int) (r13 : Int) (r14 : Int) (r15 : Int) (r16 : Int) (r17 : Bool) (w : World) (hr0 : Kd.C (Kd.int .u8) w A0 l0.length l0) (hc0 : l0.length ≤ c0) (h : impl_GetItem.f k l0 = some (r1, r2, r3, r4, r5, r6, r7, r8, r9, r10, r11, r12, r13, r14, r15, r16, r17)) :
  Calls Try.prog 10 #[.slice A0 l0.length c0] w fun e w' => e = .returned (.tuple #[.agg #[.int .i64 r1, .int .i64 r2, .string r3, .int .i64 r4, .int .i64 r5, .int .i64 r6, .string r7, .int .i64 r8, .int .i64 r9, .int .i64 r10, .string r11, .int .i64 r12, .int .i64 r13, .int .i64 r14, .int .i64 r15, .int .i64 r16], .bool r17]) ∧ Below w.heap.size w w' := by
 have hu29 := Try.underlying29
 have hu100 := Try.underlying100
 have hu25 := Try.underlying25
 have hu27 := Try.underlying27
 have HR0 := Aside0.mk hr0
 have HC0 := Aside0.mk hc0
 clear hr0 hc0
 have HB := Aside0.mk (Below.refl w.heap.size w)
 have H := h
 unfold impl_GetItem.f at H
 clear h
 replace H := bd_ H
 obtain ⟨⟨t533, t534⟩, A2, H⟩ := H
 (try dsimp only at H)
 replace H := bd_ H
 obtain ⟨⟨t536, t537⟩, A3, H⟩ := H
 (try dsimp only at H)
 replace H := bd_ H
 obtain ⟨⟨t538, t539⟩, A4, H⟩ := H
 (try dsimp only at H)
 replace H := bd_ H
 obtain ⟨⟨t540, t541⟩, A5, H⟩ := H
 (try dsimp only at H)
 replace H := bd_ H
 obtain ⟨⟨t542, t543⟩, A6, H⟩ := H
 (try dsimp only at H)
 replace H := bd_ H
 obtain ⟨⟨t544, t545⟩, A7, H⟩ := H
 (try dsimp only at H)
 have HC8 := Aside0.mk H
 clear H
 go_enter Try.func10, Try.ntmps10
 go_upto_if 29 with (first | ((with_reducible refine gate_dst (N := 2) rfl ?_); refine box_event ?hg (N := 2) ?hd (cs := #[.int .i64 0, .int .i64 0, .string (⟨#[]⟩ : ByteArray), .int .i64 0, .int .i64 0, .int .i64 0, .string (⟨#[]⟩ : ByteArray), .int .i64 0, .int .i64 0, .int .i64 0, .string (⟨#[]⟩ : ByteArray), .int .i64 0, .int .i64 0, .int .i64 0, .int .i64 0, .int .i64 0]) (t := 29) ?hr ?_; (case hd => rfl); (case hg => rfl); (case hr => first | (go_simp; done) | (go_simp; rfl)); intro gb531 hg w9 hbox hb; have BK531 := am_ (hbox); have GW531 := gA_ hg HB; have GE531 := GW531; have IGE531 := gI_ GE531; replace HB := bS_ HB hb; clear hb hbox hg) | ((with_reducible refine gate_dst (N := 13) rfl ?_); refine box_event ?hg (N := 13) ?hd (cs := #[.slice A0 l0.length c0, .int .i64 0]) (t := 100) ?hr ?_; (case hd => rfl); (case hg => rfl); (case hr => first | (go_simp; done) | (go_simp; rfl)); intro gb532 hg w10 hbox hb; have BK532 := am_ (hbox); have GW532 := gA_ hg HB; have GE532 := GW532; have IGE532 := gI_ GE532; replace HB := bS_ HB hb; have NB531_532 := am_ ((gN_ hg (qK BK531))); have NB532_531 := am_ ((gM_ hg (qK BK531))); replace BK531 := bK_ BK531 hb; clear hb hbox hg; have HI532 := Aside0.mk (show IsS100 w _ gb532 l0 0 from ⟨_, _, BK532.out, GE532.out, ⟨HR0.out, HC0.out⟩⟩); have IGHI532 := iG_ HI532.out.ge) | ((with_reducible refine gate_callee (f := 69) rfl ?_); refine goesL_ (some 15) rfl rfl Try.func69 (by kernel_rfl) rfl #[.pointer (some ⟨gb532, 0, none⟩)] rfl la_ ?_; (with_reducible refine (impl_reader_one.calls gb532 l0 0 t533 t534 w _ ?side1 ?side2 A2.out).mono ?_); (case side1 => repeat (first | (with_reducible first | exact HI532.out | apply IsS100.alloc | apply IsS100.drewN | apply IsS100.drew | apply IsS100.set_1 | refine IsS100.far ?_ NB532_531.out _) | exact HI532.out)); (case side2 => exact qB HB); rintro e w11 ⟨rfl, hi, hb, hk⟩; refine ⟨_, rfl, ?_⟩; replace BK531 := kB_ BK531 hk NB531_532; replace HB := am_ (hb); replace HI532 := am_ (hi); (try clear hb); (try clear hk); (try clear hi)) | ((with_reducible refine gate_dst (N := 5) rfl ?_); refine box_event ?hg (N := 5) ?hd (cs := #[.int .i64 0, .int .i64 0, .string (⟨#[]⟩ : ByteArray), .int .i64 0, .int .i64 0, .int .i64 0, .string (⟨#[]⟩ : ByteArray), .int .i64 0, .int .i64 0, .int .i64 0, .string (⟨#[]⟩ : ByteArray), .int .i64 0, .int .i64 0, .int .i64 0, .int .i64 0, .int .i64 0]) (t := 29) ?hr ?_; (case hd => rfl); (case hg => rfl); (case hr => first | (go_simp; done) | (go_simp; rfl)); intro gb535 hg w12 hbox hb; have BK535 := am_ (hbox); have GW535 := am_ ((by rw [hg]; exact (below_size (qB HB)) : w.heap.size ≤ gb535)); have IGW535 := gI_ GW535; have GE535 := am_ ((by rw [hg]; exact (below_size (qB HB)) : w.heap.size ≤ gb535)); have IGE535 := gI_ GE535; replace HB := bS_ HB hb; have NB531_535 := am_ ((gN_ hg (qK BK531))); have NB535_531 := am_ ((gM_ hg (qK BK531))); replace BK531 := bK_ BK531 hb; have NB532_535 := am_ ((by rw [hg]; exact Nat.ne_of_lt (IsS100.lt (show IsS100 w _ gb532 l0 t534 from by repeat (first | (with_reducible first | exact HI532.out | apply IsS100.alloc | apply IsS100.drewN | apply IsS100.drew | apply IsS100.set_1 | refine IsS100.far ?_ NB532_531.out _) | exact HI532.out))) : gb532 ≠ gb535)); have NB535_532 := am_ ((by rw [hg]; exact Nat.ne_of_gt (IsS100.lt (show IsS100 w _ gb532 l0 t534 from by repeat (first | (with_reducible first | exact HI532.out | apply IsS100.alloc | apply IsS100.drewN | apply IsS100.drew | apply IsS100.set_1 | refine IsS100.far ?_ NB532_531.out _) | exact HI532.out))) : gb535 ≠ gb532)); replace HI532 := am_ (IsS100.below (by repeat (first | (with_reducible first | exact HI532.out | apply IsS100.alloc | apply IsS100.drewN | apply IsS100.drew | apply IsS100.set_1 | refine IsS100.far ?_ NB532_531.out _) | exact HI532.out)) hb); clear hb hbox hg; have hnb13 := NB535_531.out; have hnc13 := NB531_535.out; have hnb14 := NB535_532.out; have hnc14 := NB532_535.out; (try clear zK535); have zK535 := cz16 BK535.out; (try clear fK535); have fK535 := fz16 BK535.out) | ((with_reducible refine gate_store (t := 29) (p := 5) rfl ?_); refine store_evs (t := 29) (p := 5) (j := 0) (cs := [.int .i64 t533, .int .i64 0, .string (⟨#[]⟩ : ByteArray), .int .i64 0, .int .i64 0, .int .i64 0, .string (⟨#[]⟩ : ByteArray), .int .i64 0, .int .i64 0, .int .i64 0, .string (⟨#[]⟩ : ByteArray), .int .i64 0, .int .i64 0, .int .i64 0, .int .i64 0, .int .i64 0]) (qK BK535) ?_; intro w16 hw; replace BK531 := sK_ hw BK531 NB531_535; replace HI532 := IsS100.s_ hw HI532 NB532_535; replace HB := sB_ hw HB; replace BK535 := sW_ hw BK535; clear hw) | ((with_reducible refine gate_callee (f := 70) rfl ?_); refine goesL_ (some 18) rfl rfl Try.func70 (by kernel_rfl) rfl #[.pointer (some ⟨gb532, 0, none⟩)] rfl la_ ?_; (with_reducible refine (impl_reader_word.calls gb532 l0 t534 t536 t537 w _ ?side1 ?side2 A3.out).mono ?_); (case side1 => repeat (first | (with_reducible first | exact HI532.out | apply IsS100.alloc | apply IsS100.drewN | apply IsS100.drew | apply IsS100.set_1 | refine IsS100.far ?_ NB532_531.out _ | refine IsS100.far ?_ NB532_535.out _) | exact HI532.out)); (case side2 => exact qB HB); rintro e w17 ⟨rfl, hi, hb, hk⟩; refine ⟨_, rfl, ?_⟩; replace BK531 := kB_ BK531 hk NB531_532; replace BK535 := kB_ BK535 hk NB535_532; replace HB := am_ (hb); replace HI532 := am_ (hi); (try clear hb); (try clear hk); (try clear hi)) | ((with_reducible refine gate_callee (f := 69) rfl ?_); refine goesL_ (some 20) rfl rfl Try.func69 (by kernel_rfl) rfl #[.pointer (some ⟨gb532, 0, none⟩)] rfl la_ ?_; (with_reducible refine (impl_reader_one.calls gb532 l0 t537 t538 t539 w _ ?side1 ?side2 A4.out).mono ?_); (case side1 => repeat (first | (with_reducible first | exact HI532.out | apply IsS100.alloc | apply IsS100.drewN | apply IsS100.drew | apply IsS100.set_1 | refine IsS100.far ?_ NB532_531.out _ | refine IsS100.far ?_ NB532_535.out _) | exact HI532.out)); (case side2 => exact qB HB); rintro e w18 ⟨rfl, hi, hb, hk⟩; refine ⟨_, rfl, ?_⟩; replace BK531 := kB_ BK531 hk NB531_532; replace BK535 := kB_ BK535 hk NB535_532; replace HB := am_ (hb); replace HI532 := am_ (hi); (try clear hb); (try clear hk); (try clear hi)) | ((with_reducible refine gate_callee (f := 71) rfl ?_); refine goesL_ (some 22) rfl rfl Try.func71 (by kernel_rfl) rfl #[.pointer (some ⟨gb532, 0, none⟩)] rfl la_ ?_; (with_reducible refine (impl_reader_text.calls k gb532 l0 t539 t540 t541 w _ ?side1 ?side2 A5.out).mono ?_); (case side1 => repeat (first | (with_reducible first | exact HI532.out | apply IsS100.alloc | apply IsS100.drewN | apply IsS100.drew | apply IsS100.set_1 | refine IsS100.far ?_ NB532_531.out _ | refine IsS100.far ?_ NB532_535.out _) | exact HI532.out)); (case side2 => exact qB HB); rintro e w19 ⟨rfl, hi, hb, hk⟩; refine ⟨_, rfl, ?_⟩; replace BK531 := kB_ BK531 hk NB531_532; replace BK535 := kB_ BK535 hk NB535_532; replace HB := am_ (hb); replace HI532 := am_ (hi); (try clear hb); (try clear hk); (try clear hi)) | ((with_reducible refine gate_callee (f := 70) rfl ?_); refine goesL_ (some 24) rfl rfl Try.func70 (by kernel_rfl) rfl #[.pointer (some ⟨gb532, 0, none⟩)] rfl la_ ?_; (with_reducible refine (impl_reader_word.calls gb532 l0 t541 t542 t543 w _ ?side1 ?side2 A6.out).mono ?_); (case side1 => repeat (first | (with_reducible first | exact HI532.out | apply IsS100.alloc | apply IsS100.drewN | apply IsS100.drew | apply IsS100.set_1 | refine IsS100.far ?_ NB532_531.out _ | refine IsS100.far ?_ NB532_535.out _) | exact HI532.out)); (case side2 => exact qB HB); rintro e w20 ⟨rfl, hi, hb, hk⟩; refine ⟨_, rfl, ?_⟩; replace BK531 := kB_ BK531 hk NB531_532; replace BK535 := kB_ BK535 hk NB535_532; replace HB := am_ (hb); replace HI532 := am_ (hi); (try clear hb); (try clear hk); (try clear hi)) | ((with_reducible refine gate_callee (f := 72) rfl ?_); refine goesL_ (some 26) rfl rfl Try.func72 (by kernel_rfl) rfl #[.pointer (some ⟨gb532, 0, none⟩)] rfl la_ ?_; (with_reducible refine (impl_reader_since.calls gb532 l0 t543 t544 t545 w _ ?side1 ?side2 A7.out).mono ?_); (case side1 => repeat (first | (with_reducible first | exact HI532.out | apply IsS100.alloc | apply IsS100.drewN | apply IsS100.drew | apply IsS100.set_1 | refine IsS100.far ?_ NB532_531.out _ | refine IsS100.far ?_ NB532_535.out _) | exact HI532.out)); (case side2 => exact qB HB); rintro e w21 ⟨rfl, hi, hb, hk⟩; refine ⟨_, rfl, ?_⟩; replace BK531 := kB_ BK531 hk NB531_532; replace BK535 := kB_ BK535 hk NB535_532; replace HB := am_ (hb); replace HI532 := am_ (hi); (try clear hb); (try clear hk); (try clear hi); (try clear zK535); have zK535 := cz16 BK535.out; (try clear fK535); have fK535 := fz16 BK535.out))
 (try simp only [Act.put, List.setIfInBounds_toArray, List.set_cons_zero, List.set_cons_succ])
 go_cut [] (fun wc => ∃ (kq : Nat) (x536001_7 : Int) (x536002_7 : ByteArray) (x536003_7 : Int) (x536004_7 : Int) (x536005_7 : Int) (x536006_7 : ByteArray) (x536007_7 : Int) (x536008_7 : Int) (x536009_7 : Int) (x536010_7 : ByteArray) (x536011_7 : Int) (x536012_7 : Int) (x536013_7 : Int) (x536014_7 : Int) (x536015_7 : Int), Aside0 (impl_GetItem.j0 kq l0 t533 x536001_7 x536002_7 x536003_7 x536004_7 x536005_7 x536006_7 x536007_7 x536008_7 x536009_7 x536010_7 x536011_7 x536012_7 x536013_7 x536014_7 x536015_7 = some (r1, r2, r3, r4, r5, r6, r7, r8, r9, r10, r11, r12, r13, r14, r15, r16, r17)) ∧ Aside0 (kq ≤ k) ∧ Aside0 (wc.heap[gb531]? = some (.cells #[.int .i64 0, .int .i64 0, .string (⟨#[]⟩ : ByteArray), .int .i64 0, .int .i64 0, .int .i64 0, .string (⟨#[]⟩ : ByteArray), .int .i64 0, .int .i64 0, .int .i64 0, .string (⟨#[]⟩ : ByteArray), .int .i64 0, .int .i64 0, .int .i64 0, .int .i64 0, .int .i64 0] 29 (0, 0))) ∧ Aside0 (wc.heap[gb535]? = some (.cells #[.int .i64 t533, .int .i64 x536001_7, .string x536002_7, .int .i64 x536003_7, .int .i64 x536004_7, .int .i64 x536005_7, .string x536006_7, .int .i64 x536007_7, .int .i64 x536008_7, .int .i64 x536009_7, .string x536010_7, .int .i64 x536011_7, .int .i64 x536012_7, .int .i64 x536013_7, .int .i64 x536014_7, .int .i64 x536015_7] 29 (0, 0))) ∧ Aside0 (Below w.heap.size w wc))
 case first =>
  have H := HC8.out
  clear HC8
  by_cases c23 : t533 = 1
  rotate_left
  ·
   rw [if_neg c23] at H
   have c23b0 : (t533 == 1) = false := beq_eq_false_iff_ne.mpr c23
   have c23b1 : (t533 != 1) = true := bne_iff_ne.mpr c23
   (first | rw [c23b0] | rw [c23b1] | (simp only [i64_w, i32_w]; rw [c23b0]) | skip)
   replace H := bd_ H
   obtain ⟨⟨t552, t553⟩, A35, H⟩ := H
   (try dsimp only at H)
   replace H := bd_ H
   obtain ⟨⟨t554, t555⟩, A36, H⟩ := H
   (try dsimp only at H)
   have H' := Aside0.mk H
   clear H
   go_wp2_with (first | ((with_reducible refine gate_callee (f := 70) rfl ?_); refine goesL_ (some 53) rfl rfl Try.func70 (by kernel_rfl) rfl #[.pointer (some ⟨gb532, 0, none⟩)] rfl la_ ?_; (with_reducible refine (impl_reader_word.calls gb532 l0 t545 t552 t553 w _ ?side1 ?side2 A35.out).mono ?_); (case side1 => repeat (first | (with_reducible first | exact HI532.out | apply IsS100.alloc | apply IsS100.drewN | apply IsS100.drew | apply IsS100.set_1 | refine IsS100.far ?_ NB532_531.out _ | refine IsS100.far ?_ NB532_535.out _) | exact HI532.out)); (case side2 => exact qB HB); rintro e w37 ⟨rfl, hi, hb, hk⟩; refine ⟨_, rfl, ?_⟩; replace BK531 := kB_ BK531 hk NB531_532; replace BK535 := kB_ BK535 hk NB535_532; replace HB := am_ (hb); replace HI532 := am_ (hi); (try clear hb); (try clear hk); (try clear hi); have hnb38 := NB535_531.out; have hnc38 := NB531_535.out; have hnb39 := NB535_532.out; have hnc39 := NB532_535.out; (try clear zK535); have zK535 := cz16 BK535.out; (try clear fK535); have fK535 := fz16 BK535.out) | ((with_reducible refine gate_callee (f := 70) rfl ?_); refine goesL_ (some 57) rfl rfl Try.func70 (by kernel_rfl) rfl #[.pointer (some ⟨gb532, 0, none⟩)] rfl la_ ?_; (with_reducible refine (impl_reader_word.calls gb532 l0 t553 t554 t555 w _ ?side1 ?side2 A36.out).mono ?_); (case side1 => repeat (first | (with_reducible first | exact HI532.out | apply IsS100.alloc | apply IsS100.drewN | apply IsS100.drew | apply IsS100.set_1 | refine IsS100.far ?_ NB532_531.out _ | refine IsS100.far ?_ NB532_535.out _) | exact HI532.out)); (case side2 => exact qB HB); rintro e w41 ⟨rfl, hi, hb, hk⟩; refine ⟨_, rfl, ?_⟩; replace BK531 := am_ (KeepBut.blk hk (g' := gb531) (o := .cells #[.int .i64 0, .int .i64 0, .string (⟨#[]⟩ : ByteArray), .int .i64 0, .int .i64 0, .int .i64 0, .string (⟨#[]⟩ : ByteArray), .int .i64 0, .int .i64 0, .int .i64 0, .string (⟨#[]⟩ : ByteArray), .int .i64 0, .int .i64 0, .int .i64 0, .int .i64 0, .int .i64 0] 29 (0, 0)) (by (with_reducible repeat (first | refine blk_drewN ?_ _ | refine blk_drew ?_ | refine blk_alloc ?_ _)); refine blk_far7 ?_ NB531_535.out; exact qK BK531) NB531_532.out (by simp)); replace BK535 := am_ (KeepBut.blk hk (g' := gb535) (o := .cells #[.int .i64 t533, .int .i64 0, .string (⟨#[]⟩ : ByteArray), .int .i64 0, .int .i64 0, .int .i64 0, .string (⟨#[]⟩ : ByteArray), .int .i64 0, .int .i64 0, .int .i64 t536, .string t540, .int .i64 t542, .int .i64 t538, .int .i64 t544, .int .i64 t552, .int .i64 0] 29 (0, 0)) (by (with_reducible repeat (first | refine blk_drewN ?_ _ | refine blk_drew ?_ | refine blk_alloc ?_ _)); refine blk_put (cs := #[.int .i64 t533, .int .i64 0, .string (⟨#[]⟩ : ByteArray), .int .i64 0, .int .i64 0, .int .i64 0, .string (⟨#[]⟩ : ByteArray), .int .i64 0, .int .i64 0, .int .i64 t536, .string t540, .int .i64 t542, .int .i64 t538, .int .i64 t544, .int .i64 t552, .int .i64 0]) ?_ 15 _ rfl; (with_reducible repeat (first | refine blk_drewN ?_ _ | refine blk_drew ?_ | refine blk_alloc ?_ _)); refine blk_put (cs := #[.int .i64 t533, .int .i64 0, .string (⟨#[]⟩ : ByteArray), .int .i64 0, .int .i64 0, .int .i64 0, .string (⟨#[]⟩ : ByteArray), .int .i64 0, .int .i64 0, .int .i64 t536, .string t540, .int .i64 t542, .int .i64 t538, .int .i64 t544, .int .i64 0, .int .i64 0]) ?_ 14 _ rfl; (with_reducible repeat (first | refine blk_drewN ?_ _ | refine blk_drew ?_ | refine blk_alloc ?_ _)); refine blk_put (cs := #[.int .i64 t533, .int .i64 0, .string (⟨#[]⟩ : ByteArray), .int .i64 0, .int .i64 0, .int .i64 0, .string (⟨#[]⟩ : ByteArray), .int .i64 0, .int .i64 0, .int .i64 t536, .string t540, .int .i64 t542, .int .i64 t538, .int .i64 0, .int .i64 0, .int .i64 0]) ?_ 13 _ rfl; (with_reducible repeat (first | refine blk_drewN ?_ _ | refine blk_drew ?_ | refine blk_alloc ?_ _)); refine blk_put (cs := #[.int .i64 t533, .int .i64 0, .string (⟨#[]⟩ : ByteArray), .int .i64 0, .int .i64 0, .int .i64 0, .string (⟨#[]⟩ : ByteArray), .int .i64 0, .int .i64 0, .int .i64 t536, .string t540, .int .i64 t542, .int .i64 0, .int .i64 0, .int .i64 0, .int .i64 0]) ?_ 12 _ rfl; (with_reducible repeat (first | refine blk_drewN ?_ _ | refine blk_drew ?_ | refine blk_alloc ?_ _)); refine blk_put (cs := #[.int .i64 t533, .int .i64 0, .string (⟨#[]⟩ : ByteArray), .int .i64 0, .int .i64 0, .int .i64 0, .string (⟨#[]⟩ : ByteArray), .int .i64 0, .int .i64 0, .int .i64 t536, .string t540, .int .i64 0, .int .i64 0, .int .i64 0, .int .i64 0, .int .i64 0]) ?_ 11 _ rfl; (with_reducible repeat (first | refine blk_drewN ?_ _ | refine blk_drew ?_ | refine blk_alloc ?_ _)); refine blk_put (cs := #[.int .i64 t533, .int .i64 0, .string (⟨#[]⟩ : ByteArray), .int .i64 0, .int .i64 0, .int .i64 0, .string (⟨#[]⟩ : ByteArray), .int .i64 0, .int .i64 0, .int .i64 t536, .string (⟨#[]⟩ : ByteArray), .int .i64 0, .int .i64 0, .int .i64 0, .int .i64 0, .int .i64 0]) ?_ 10 _ rfl; (with_reducible repeat (first | refine blk_drewN ?_ _ | refine blk_drew ?_ | refine blk_alloc ?_ _)); refine blk_put (cs := #[.int .i64 t533, .int .i64 0, .string (⟨#[]⟩ : ByteArray), .int .i64 0, .int .i64 0, .int .i64 0, .string (⟨#[]⟩ : ByteArray), .int .i64 0, .int .i64 0, .int .i64 0, .string (⟨#[]⟩ : ByteArray), .int .i64 0, .int .i64 0, .int .i64 0, .int .i64 0, .int .i64 0]) ?_ 9 _ rfl; exact qK BK535) NB535_532.out (by simp)); replace HB := am_ (hb); replace HI532 := am_ (hi); (try clear hb); (try clear hk); (try clear hi); (try clear zK535); have zK535 := cz16 BK535.out; (try clear fK535); have fK535 := fz16 BK535.out))
   go_meet
   case rel => exact ⟨_, (0), ((⟨#[]⟩ : ByteArray)), (0), (0), (0), ((⟨#[]⟩ : ByteArray)), (0), (0), (t536), (t540), (t542), (t538), (t544), (t552), (t554), H', ⟨by first | omega | exact Nat.le_refl _⟩, ⟨by (with_reducible repeat (first | refine blk_drewN ?_ _ | refine blk_drew ?_ | refine blk_alloc ?_ _)); refine blk_far ?_ NB531_535.out _; exact qK BK531⟩, ⟨by (with_reducible repeat (first | refine blk_drewN ?_ _ | refine blk_drew ?_ | refine blk_alloc ?_ _)); refine blk_put (cs := #[.int .i64 t533, .int .i64 0, .string (⟨#[]⟩ : ByteArray), .int .i64 0, .int .i64 0, .int .i64 0, .string (⟨#[]⟩ : ByteArray), .int .i64 0, .int .i64 0, .int .i64 t536, .string t540, .int .i64 t542, .int .i64 t538, .int .i64 t544, .int .i64 t552, .int .i64 0]) ?_ 15 _ rfl; exact qK BK535⟩, ⟨qB HB⟩⟩
  rw [if_pos c23] at H
  have c23b0 : (t533 == 1) = true := beq_iff_eq.mpr c23
  have c23b1 : (t533 != 1) = false := bne_eq_false_iff_eq.mpr c23
  clear c23
  (first | rw [c23b0] | rw [c23b1] | (simp only [i64_w, i32_w]; rw [c23b0]) | skip)
  replace H := bd_ H
  obtain ⟨⟨t546, t547⟩, A24, H⟩ := H
  (try dsimp only at H)
  replace H := bd_ H
  obtain ⟨⟨t548, t549⟩, A25, H⟩ := H
  (try dsimp only at H)
  replace H := bd_ H
  obtain ⟨⟨t550, t551⟩, A26, H⟩ := H
  (try dsimp only at H)
  have H' := Aside0.mk H
  clear H
  go_wp2_with (first | ((with_reducible refine gate_callee (f := 71) rfl ?_); refine goesL_ (some 36) rfl rfl Try.func71 (by kernel_rfl) rfl #[.pointer (some ⟨gb532, 0, none⟩)] rfl la_ ?_; (with_reducible refine (impl_reader_text.calls k gb532 l0 t545 t546 t547 w _ ?side1 ?side2 A24.out).mono ?_); (case side1 => repeat (first | (with_reducible first | exact HI532.out | apply IsS100.alloc | apply IsS100.drewN | apply IsS100.drew | apply IsS100.set_1 | refine IsS100.far ?_ NB532_531.out _ | refine IsS100.far ?_ NB532_535.out _) | exact HI532.out)); (case side2 => exact qB HB); rintro e w27 ⟨rfl, hi, hb, hk⟩; refine ⟨_, rfl, ?_⟩; replace BK531 := kB_ BK531 hk NB531_532; replace BK535 := kB_ BK535 hk NB535_532; replace HB := am_ (hb); replace HI532 := am_ (hi); (try clear hb); (try clear hk); (try clear hi); have hnb28 := NB535_531.out; have hnc28 := NB531_535.out; have hnb29 := NB535_532.out; have hnc29 := NB532_535.out; (try clear zK535); have zK535 := cz16 BK535.out; (try clear fK535); have fK535 := fz16 BK535.out) | ((with_reducible refine gate_callee (f := 70) rfl ?_); refine goesL_ (some 40) rfl rfl Try.func70 (by kernel_rfl) rfl #[.pointer (some ⟨gb532, 0, none⟩)] rfl la_ ?_; (with_reducible refine (impl_reader_word.calls gb532 l0 t547 t548 t549 w _ ?side1 ?side2 A25.out).mono ?_); (case side1 => repeat (first | (with_reducible first | exact HI532.out | apply IsS100.alloc | apply IsS100.drewN | apply IsS100.drew | apply IsS100.set_1 | refine IsS100.far ?_ NB532_531.out _ | refine IsS100.far ?_ NB532_535.out _) | exact HI532.out)); (case side2 => exact qB HB); rintro e w31 ⟨rfl, hi, hb, hk⟩; refine ⟨_, rfl, ?_⟩; replace BK531 := am_ (KeepBut.blk hk (g' := gb531) (o := .cells #[.int .i64 0, .int .i64 0, .string (⟨#[]⟩ : ByteArray), .int .i64 0, .int .i64 0, .int .i64 0, .string (⟨#[]⟩ : ByteArray), .int .i64 0, .int .i64 0, .int .i64 0, .string (⟨#[]⟩ : ByteArray), .int .i64 0, .int .i64 0, .int .i64 0, .int .i64 0, .int .i64 0] 29 (0, 0)) (by (with_reducible repeat (first | refine blk_drewN ?_ _ | refine blk_drew ?_ | refine blk_alloc ?_ _)); refine blk_far8 ?_ NB531_535.out; exact qK BK531) NB531_532.out (by simp)); replace BK535 := am_ (KeepBut.blk hk (g' := gb535) (o := .cells #[.int .i64 t533, .int .i64 t536, .string t540, .int .i64 t538, .int .i64 t542, .int .i64 t544, .string t546, .int .i64 0, .int .i64 0, .int .i64 0, .string (⟨#[]⟩ : ByteArray), .int .i64 0, .int .i64 0, .int .i64 0, .int .i64 0, .int .i64 0] 29 (0, 0)) (by (with_reducible repeat (first | refine blk_drewN ?_ _ | refine blk_drew ?_ | refine blk_alloc ?_ _)); refine blk_put (cs := #[.int .i64 t533, .int .i64 t536, .string t540, .int .i64 t538, .int .i64 t542, .int .i64 t544, .string t546, .int .i64 0, .int .i64 0, .int .i64 0, .string (⟨#[]⟩ : ByteArray), .int .i64 0, .int .i64 0, .int .i64 0, .int .i64 0, .int .i64 0]) ?_ 8 _ rfl; (with_reducible repeat (first | refine blk_drewN ?_ _ | refine blk_drew ?_ | refine blk_alloc ?_ _)); refine blk_put (cs := #[.int .i64 t533, .int .i64 t536, .string t540, .int .i64 t538, .int .i64 t542, .int .i64 t544, .string t546, .int .i64 0, .int .i64 0, .int .i64 0, .string (⟨#[]⟩ : ByteArray), .int .i64 0, .int .i64 0, .int .i64 0, .int .i64 0, .int .i64 0]) ?_ 7 _ rfl; (with_reducible repeat (first | refine blk_drewN ?_ _ | refine blk_drew ?_ | refine blk_alloc ?_ _)); refine blk_put (cs := #[.int .i64 t533, .int .i64 t536, .string t540, .int .i64 t538, .int .i64 t542, .int .i64 t544, .string (⟨#[]⟩ : ByteArray), .int .i64 0, .int .i64 0, .int .i64 0, .string (⟨#[]⟩ : ByteArray), .int .i64 0, .int .i64 0, .int .i64 0, .int .i64 0, .int .i64 0]) ?_ 6 _ rfl; (with_reducible repeat (first | refine blk_drewN ?_ _ | refine blk_drew ?_ | refine blk_alloc ?_ _)); refine blk_put (cs := #[.int .i64 t533, .int .i64 t536, .string t540, .int .i64 t538, .int .i64 t542, .int .i64 0, .string (⟨#[]⟩ : ByteArray), .int .i64 0, .int .i64 0, .int .i64 0, .string (⟨#[]⟩ : ByteArray), .int .i64 0, .int .i64 0, .int .i64 0, .int .i64 0, .int .i64 0]) ?_ 5 _ rfl; (with_reducible repeat (first | refine blk_drewN ?_ _ | refine blk_drew ?_ | refine blk_alloc ?_ _)); refine blk_put (cs := #[.int .i64 t533, .int .i64 t536, .string t540, .int .i64 t538, .int .i64 0, .int .i64 0, .string (⟨#[]⟩ : ByteArray), .int .i64 0, .int .i64 0, .int .i64 0, .string (⟨#[]⟩ : ByteArray), .int .i64 0, .int .i64 0, .int .i64 0, .int .i64 0, .int .i64 0]) ?_ 4 _ rfl; (with_reducible repeat (first | refine blk_drewN ?_ _ | refine blk_drew ?_ | refine blk_alloc ?_ _)); refine blk_put (cs := #[.int .i64 t533, .int .i64 t536, .string t540, .int .i64 0, .int .i64 0, .int .i64 0, .string (⟨#[]⟩ : ByteArray), .int .i64 0, .int .i64 0, .int .i64 0, .string (⟨#[]⟩ : ByteArray), .int .i64 0, .int .i64 0, .int .i64 0, .int .i64 0, .int .i64 0]) ?_ 3 _ rfl; (with_reducible repeat (first | refine blk_drewN ?_ _ | refine blk_drew ?_ | refine blk_alloc ?_ _)); refine blk_put (cs := #[.int .i64 t533, .int .i64 t536, .string (⟨#[]⟩ : ByteArray), .int .i64 0, .int .i64 0, .int .i64 0, .string (⟨#[]⟩ : ByteArray), .int .i64 0, .int .i64 0, .int .i64 0, .string (⟨#[]⟩ : ByteArray), .int .i64 0, .int .i64 0, .int .i64 0, .int .i64 0, .int .i64 0]) ?_ 2 _ rfl; (with_reducible repeat (first | refine blk_drewN ?_ _ | refine blk_drew ?_ | refine blk_alloc ?_ _)); refine blk_put (cs := #[.int .i64 t533, .int .i64 0, .string (⟨#[]⟩ : ByteArray), .int .i64 0, .int .i64 0, .int .i64 0, .string (⟨#[]⟩ : ByteArray), .int .i64 0, .int .i64 0, .int .i64 0, .string (⟨#[]⟩ : ByteArray), .int .i64 0, .int .i64 0, .int .i64 0, .int .i64 0, .int .i64 0]) ?_ 1 _ rfl; exact qK BK535) NB535_532.out (by simp)); replace HB := am_ (hb); replace HI532 := am_ (hi); (try clear hb); (try clear hk); (try clear hi); (try clear zK535); have zK535 := cz16 BK535.out; (try clear fK535); have fK535 := fz16 BK535.out) | ((with_reducible refine gate_callee (f := 70) rfl ?_); refine goesL_ (some 44) rfl rfl Try.func70 (by kernel_rfl) rfl #[.pointer (some ⟨gb532, 0, none⟩)] rfl la_ ?_; (with_reducible refine (impl_reader_word.calls gb532 l0 t549 t550 t551 w _ ?side1 ?side2 A26.out).mono ?_); (case side1 => repeat (first | (with_reducible first | exact HI532.out | apply IsS100.alloc | apply IsS100.drewN | apply IsS100.drew | apply IsS100.set_1 | refine IsS100.far ?_ NB532_531.out _ | refine IsS100.far ?_ NB532_535.out _) | exact HI532.out)); (case side2 => exact qB HB); rintro e w33 ⟨rfl, hi, hb, hk⟩; refine ⟨_, rfl, ?_⟩; replace BK531 := am_ (KeepBut.blk hk (g' := gb531) (o := .cells #[.int .i64 0, .int .i64 0, .string (⟨#[]⟩ : ByteArray), .int .i64 0, .int .i64 0, .int .i64 0, .string (⟨#[]⟩ : ByteArray), .int .i64 0, .int .i64 0, .int .i64 0, .string (⟨#[]⟩ : ByteArray), .int .i64 0, .int .i64 0, .int .i64 0, .int .i64 0, .int .i64 0] 29 (0, 0)) (by (with_reducible repeat (first | refine blk_drewN ?_ _ | refine blk_drew ?_ | refine blk_alloc ?_ _)); refine blk_far ?_ NB531_535.out _; exact qK BK531) NB531_532.out (by simp)); replace BK535 := am_ (KeepBut.blk hk (g' := gb535) (o := .cells #[.int .i64 t533, .int .i64 t536, .string t540, .int .i64 t538, .int .i64 t542, .int .i64 t544, .string t546, .int .i64 t548, .int .i64 0, .int .i64 0, .string (⟨#[]⟩ : ByteArray), .int .i64 0, .int .i64 0, .int .i64 0, .int .i64 0, .int .i64 0] 29 (0, 0)) (by (with_reducible repeat (first | refine blk_drewN ?_ _ | refine blk_drew ?_ | refine blk_alloc ?_ _)); refine blk_put (cs := #[.int .i64 t533, .int .i64 t536, .string t540, .int .i64 t538, .int .i64 t542, .int .i64 t544, .string t546, .int .i64 0, .int .i64 0, .int .i64 0, .string (⟨#[]⟩ : ByteArray), .int .i64 0, .int .i64 0, .int .i64 0, .int .i64 0, .int .i64 0]) ?_ 7 _ rfl; exact qK BK535) NB535_532.out (by simp)); replace HB := am_ (hb); replace HI532 := am_ (hi); (try clear hb); (try clear hk); (try clear hi); (try clear zK535); have zK535 := cz16 BK535.out; (try clear fK535); have fK535 := fz16 BK535.out))
  go_meet
  case rel => exact ⟨_, (t536), (t540), (t538), (t542), (t544), (t546), (t548), (t550), (0), ((⟨#[]⟩ : ByteArray)), (0), (0), (0), (0), (0), H', ⟨by first | omega | exact Nat.le_refl _⟩, ⟨by (with_reducible repeat (first | refine blk_drewN ?_ _ | refine blk_drew ?_ | refine blk_alloc ?_ _)); refine blk_far ?_ NB531_535.out _; exact qK BK531⟩, ⟨by (with_reducible repeat (first | refine blk_drewN ?_ _ | refine blk_drew ?_ | refine blk_alloc ?_ _)); refine blk_put (cs := #[.int .i64 t533, .int .i64 t536, .string t540, .int .i64 t538, .int .i64 t542, .int .i64 t544, .string t546, .int .i64 t548, .int .i64 0, .int .i64 0, .string (⟨#[]⟩ : ByteArray), .int .i64 0, .int .i64 0, .int .i64 0, .int .i64 0, .int .i64 0]) ?_ 8 _ rfl; exact qK BK535⟩, ⟨qB HB⟩⟩
 case rest =>
  clear HC8
  try clear c1
  try clear c2
  try clear p2
  try clear c3
  try clear c6
  try clear c7
  try clear c10
  try clear c13
  try clear c14
  try clear c23
  try clear c23b0
  try clear c23b1
  try clear c28
  try clear c29
  try clear c38
  try clear c39
  (try clear zK535)
  (try clear zK535)
  (try clear zK535)
  (try clear zK535)
  (try clear zK535)
  (try clear zK535)
  (try clear zK535)
  (try clear fK535)
  (try clear fK535)
  (try clear fK535)
  (try clear fK535)
  (try clear fK535)
  (try clear fK535)
  (try clear fK535)
  obtain ⟨kq, x536001_7, x536002_7, x536003_7, x536004_7, x536005_7, x536006_7, x536007_7, x536008_7, x536009_7, x536010_7, x536011_7, x536012_7, x536013_7, x536014_7, x536015_7, HA, HJ7, BK531, BK535, HB⟩ := hcut
  cases kq with
  | zero => exact absurd HA.out (by simp [impl_GetItem.j0])
  | succ kj7 =>
   have H := HA.out
   clear HA
   simp only [impl_GetItem.j0] at H
   by_cases c43 : (l0.length : Int) = 0
   ·
    rw [if_pos c43] at H
    have c43b0 : ((l0.length : Int) == 0) = true := beq_iff_eq.mpr c43
    have c43b1 : ((l0.length : Int) != 0) = false := bne_eq_false_iff_eq.mpr c43
    clear c43
    simp only [Option.some.injEq, Prod.mk.injEq] at H
    obtain ⟨rfl, rfl, rfl, rfl, rfl, rfl, rfl, rfl, rfl, rfl, rfl, rfl, rfl, rfl, rfl, rfl, rfl⟩ := H
    have hnb44 := NB531_535.out
    have hnc44 := NB535_531.out
    (try clear zK531)
    have zK531 := cz16 BK531.out
    (try clear fK531)
    have fK531 := fz16 BK531.out
    go_wp2_with (first | ((with_reducible refine gate_store (t := 29) (p := 2) rfl ?_); refine store_evs (t := 29) (p := 2) (j := 0) (cs := [.int .i64 0, .int .i64 0, .string (⟨#[]⟩ : ByteArray), .int .i64 0, .int .i64 0, .int .i64 0, .string (⟨#[]⟩ : ByteArray), .int .i64 0, .int .i64 0, .int .i64 0, .string (⟨#[]⟩ : ByteArray), .int .i64 0, .int .i64 0, .int .i64 0, .int .i64 0, .int .i64 0]) (qK BK531) ?_; intro w46 hw; replace BK535 := sK_ hw BK535 NB535_531; replace HB := sB_ hw HB; replace BK531 := sW_ hw BK531; clear hw))
    refine bodyPost_ret (results_ct rfl _ _ gb531 29 #[.int .i64 0, .int .i64 0, .string (⟨#[]⟩ : ByteArray), .int .i64 0, .int .i64 0, .int .i64 0, .string (⟨#[]⟩ : ByteArray), .int .i64 0, .int .i64 0, .int .i64 0, .string (⟨#[]⟩ : ByteArray), .int .i64 0, .int .i64 0, .int .i64 0, .int .i64 0, .int .i64 0] (0, 0) _ rfl (qK BK531) Try.underlying29 rfl (by kernel_rfl)) rfl ?_
    exact ⟨er_, qB HB⟩
   rw [if_neg c43] at H
   have c43b0 : ((l0.length : Int) == 0) = false := beq_eq_false_iff_ne.mpr c43
   have c43b1 : ((l0.length : Int) != 0) = true := bne_iff_ne.mpr c43
   have c43b2 : ¬ (l0 = []) := fun h_ => c43 (by rw [h_]; rfl)
   replace H := bd_ H
   obtain ⟨t556, A47, H⟩ := H
   replace H := bd_ H
   obtain ⟨t559, A48, H⟩ := H
   have HC49 := Aside0.mk H
   clear H
   have hnb50 := NB535_531.out
   have hnc50 := NB531_535.out
   (try clear zK535)
   have zK535 := cz16 BK535.out
   (try clear fK535)
   have fK535 := fz16 BK535.out
   go_upto_if 69 with (first | (go_at_call 9; (with_reducible refine (impl_PutItem.calls kj7 t533 x536001_7 x536002_7 x536003_7 x536004_7 x536005_7 x536006_7 x536007_7 x536008_7 x536009_7 x536010_7 x536011_7 x536012_7 x536013_7 x536014_7 x536015_7 t556 _ A47.out).mono ?_); rintro e w52 ⟨v557, rfl, ho0, hb⟩; have HO558 := am_ (Kd.R_lower ho0 (below_size (qB HB))); replace BK531 := bK_ BK531 hb; replace BK535 := bK_ BK535 hb; replace HB := bS_ HB hb; (try clear hb); (try clear ho0); obtain ⟨Ao53, co53, eo53⟩ := Kd.R_slice HO558.out; subst eo53) | (go_at_call 73; (with_reducible refine (bytes_Equal.calls _ _ t556 _ _ l0 t559 _ ?side1 ?side2 ?side3 ?side4 A48.out).mono ?_); (case side1 => exact qC ((Kd.R_reads' HO558.out).2.2)); (case side2 => exact (Kd.R_reads' HO558.out).2.1); (case side3 => exact qC (Kd.C_below HR0.out HB.out)); (case side4 => exact HC0.out); rintro e w' ⟨rfl, ⟨nd, rfl⟩⟩))
   (try simp only [Act.put, List.setIfInBounds_toArray, List.set_cons_zero, List.set_cons_succ])
   (try (rw [drewN_self w52]; generalize hq_ : World.drewN w52 _ = w52; have n0_ : Aside0 (Kd.R (Kd.int .u8) 5 w52 w.heap.size (fun _ => True) (.slice Ao53 t556.length co53) t556) := ⟨by rw [← hq_]; exact (qR HO558)⟩; have n1_ : Aside0 (w52.heap[gb531]? = some (.cells #[.int .i64 0, .int .i64 0, .string (⟨#[]⟩ : ByteArray), .int .i64 0, .int .i64 0, .int .i64 0, .string (⟨#[]⟩ : ByteArray), .int .i64 0, .int .i64 0, .int .i64 0, .string (⟨#[]⟩ : ByteArray), .int .i64 0, .int .i64 0, .int .i64 0, .int .i64 0, .int .i64 0] 29 (0, 0))) := ⟨by rw [← hq_]; exact (qK BK531)⟩; have n2_ : Aside0 (w52.heap[gb535]? = some (.cells #[.int .i64 t533, .int .i64 x536001_7, .string x536002_7, .int .i64 x536003_7, .int .i64 x536004_7, .int .i64 x536005_7, .string x536006_7, .int .i64 x536007_7, .int .i64 x536008_7, .int .i64 x536009_7, .string x536010_7, .int .i64 x536011_7, .int .i64 x536012_7, .int .i64 x536013_7, .int .i64 x536014_7, .int .i64 x536015_7] 29 (0, 0))) := ⟨by rw [← hq_]; exact (qK BK535)⟩; have n3_ : Aside0 (Below w.heap.size w w52) := ⟨by rw [← hq_]; exact (qB HB)⟩; clear HO558 BK531 BK535 HB hq_; have HO558 := n0_; have BK531 := n1_; have BK535 := n2_; have HB := n3_; clear n0_ n1_ n2_ n3_))
   have H := HC49.out
   clear HC49
   by_cases c54 : t559 = true
   rotate_left
   ·
    replace c54 := Bool.eq_false_iff.mpr c54
    subst c54
    rw [if_neg (show ¬ (false = true) by decide)] at H
    simp only [Option.some.injEq, Prod.mk.injEq] at H
    obtain ⟨rfl, rfl, rfl, rfl, rfl, rfl, rfl, rfl, rfl, rfl, rfl, rfl, rfl, rfl, rfl, rfl, rfl⟩ := H
    have hnb59 := NB531_535.out
    have hnc59 := NB535_531.out
    (try clear zK531)
    have zK531 := cz16 BK531.out
    (try clear fK531)
    have fK531 := fz16 BK531.out
    go_wp2_with (first | ((with_reducible refine gate_store (t := 29) (p := 2) rfl ?_); refine store_evs (t := 29) (p := 2) (j := 0) (cs := [.int .i64 0, .int .i64 0, .string (⟨#[]⟩ : ByteArray), .int .i64 0, .int .i64 0, .int .i64 0, .string (⟨#[]⟩ : ByteArray), .int .i64 0, .int .i64 0, .int .i64 0, .string (⟨#[]⟩ : ByteArray), .int .i64 0, .int .i64 0, .int .i64 0, .int .i64 0, .int .i64 0]) (qK BK531) ?_; intro w61 hw; have n0_ : Aside0 (Kd.R (Kd.int .u8) 5 w61 w.heap.size (fun _ => True) (.slice Ao53 t556.length co53) t556) := ⟨(by rw [hw]; exact (by (with_reducible repeat (first | apply Kd.R_alloc | apply Kd.R_drewN | apply Kd.R_drew)); exact Kd.R_mono (sR_ (g := gb531) (Kd.R_types HO558.out BK531.out (by decide)) (fun _ hk => hk.2)) (fun _ hk => trivial)))⟩; replace BK535 := sK_ hw BK535 NB535_531; replace HB := sB_ hw HB; replace BK531 := sW_ hw BK531; clear hw; clear HO558; have HO558 := n0_; clear n0_))
    refine bodyPost_ret (results_ct rfl _ _ gb531 29 #[.int .i64 0, .int .i64 0, .string (⟨#[]⟩ : ByteArray), .int .i64 0, .int .i64 0, .int .i64 0, .string (⟨#[]⟩ : ByteArray), .int .i64 0, .int .i64 0, .int .i64 0, .string (⟨#[]⟩ : ByteArray), .int .i64 0, .int .i64 0, .int .i64 0, .int .i64 0, .int .i64 0] (0, 0) _ rfl (qK BK531) Try.underlying29 rfl (by kernel_rfl)) rfl ?_
    exact ⟨er_, qB HB⟩
   subst c54
   rw [if_pos rfl] at H
   simp only [Option.some.injEq, Prod.mk.injEq] at H
   obtain ⟨rfl, rfl, rfl, rfl, rfl, rfl, rfl, rfl, rfl, rfl, rfl, rfl, rfl, rfl, rfl, rfl, rfl⟩ := H
   have hnb55 := NB535_531.out
   have hnc55 := NB531_535.out
   (try clear zK535)
   have zK535 := cz16 BK535.out
   (try clear fK535)
   have fK535 := fz16 BK535.out
   (try clear zK531)
   have zK531 := cz16 BK531.out
   (try clear fK531)
   have fK531 := fz16 BK531.out
   go_wp2_with (first | ((with_reducible refine gate_store (t := 29) (p := 2) rfl ?_); refine store_evs (t := 29) (p := 2) (j := 0) (cs := [.int .i64 t533, .int .i64 x536001_7, .string x536002_7, .int .i64 x536003_7, .int .i64 x536004_7, .int .i64 x536005_7, .string x536006_7, .int .i64 x536007_7, .int .i64 x536008_7, .int .i64 x536009_7, .string x536010_7, .int .i64 x536011_7, .int .i64 x536012_7, .int .i64 x536013_7, .int .i64 x536014_7, .int .i64 x536015_7]) (qK BK531) ?_; intro w58 hw; have n0_ : Aside0 (Kd.R (Kd.int .u8) 5 w58 w.heap.size (fun _ => True) (.slice Ao53 t556.length co53) t556) := ⟨(by rw [hw]; exact (by (with_reducible repeat (first | apply Kd.R_alloc | apply Kd.R_drewN | apply Kd.R_drew)); exact Kd.R_mono (sR_ (g := gb531) (Kd.R_types HO558.out BK531.out (by decide)) (fun _ hk => hk.2)) (fun _ hk => trivial)))⟩; replace BK535 := sK_ hw BK535 NB535_531; replace HB := sB_ hw HB; replace BK531 := sW_ hw BK531; clear hw; clear HO558; have HO558 := n0_; clear n0_))
   refine bodyPost_ret (results_ct rfl _ _ gb531 29 #[.int .i64 t533, .int .i64 x536001_7, .string x536002_7, .int .i64 x536003_7, .int .i64 x536004_7, .int .i64 x536005_7, .string x536006_7, .int .i64 x536007_7, .int .i64 x536008_7, .int .i64 x536009_7, .string x536010_7, .int .i64 x536011_7, .int .i64 x536012_7, .int .i64 x536013_7, .int .i64 x536014_7, .int .i64 x536015_7] (0, 0) _ rfl (qK BK531) Try.underlying29 rfl (by kernel_rfl)) rfl ?_
   exact ⟨er_, qB HB⟩

/-! ### spec_l1In: function 83 -/
def spec_l1In.f (a0 : Int) (a1 : Int) (a2 : Int) : Option (Bool) := if a0 ≥ a1 then (some (decide (a0 ≤ a2))) else (some false)
set_option maxHeartbeats 8000000 in
set_option maxRecDepth 100000 in
theorem spec_l1In.calls (a0 : Int) (a1 : Int) (a2 : Int) (r : Bool) (w : World) (h : spec_l1In.f a0 a1 a2 = some r) :
  Calls Try.prog 83 #[.int .i64 a0, .int .i64 a1, .int .i64 a2] w fun e w' => e = .returned (.bool r) ∧ Drawn0 w w' := by
 have H := h
 unfold spec_l1In.f at H
 clear h
 by_cases c4 : a0 ≥ a1
 ·
  rw [if_pos c4] at H
  have c4b0 : decide (a1 ≤ a0) = true := decide_eq_true c4
  clear c4
  obtain rfl := Option.some.inj H
  go_enter Try.func83, Try.ntmps83
  go_wp2
  go_ret
  exact ⟨by first | rfl | (simp; done) | (simp [*]; done), by repeat (first | exact Drawn0.refl _ | apply Drawn0.step)⟩
 rw [if_neg c4] at H
 have c4b0 : decide (a1 ≤ a0) = false := decide_eq_false c4
 clear c4
 obtain rfl := Option.some.inj H
 go_enter Try.func83, Try.ntmps83
 go_wp2
 go_ret
 exact ⟨by first | rfl | (simp; done) | (simp [*]; done), by repeat (first | exact Drawn0.refl _ | apply Drawn0.step)⟩

/-! ### spec_l1Name: function 84 -/
def spec_l1Name.l0 : Nat → ByteArray → Int → Option (Bool)
 | 0, _, _ => none
 | k + 1, x0, x3 => if x3 < (x0.size : Int) then (if 0 ≤ x3 then (if (bt x0 x3) < 97 then (some false) else (if (bt x0 x3) > 122 then (some false) else (spec_l1Name.l0 k x0 (wrap64 (x3 + 1))))) else (none)) else ((spec_l1In.f (x0.size : Int) 1 8).bind fun t560 => (some t560))
def spec_l1Name.f (k : Nat) (a0 : ByteArray) : Option (Bool) := spec_l1Name.l0 k a0 0
theorem spec_l1Name.mono_l : ∀ k, (∀ y0 y1, LeO (spec_l1Name.l0 k y0 y1) (spec_l1Name.l0 (k + 1) y0 y1))
 | 0 => fun _ _ r h => by simp [spec_l1Name.l0] at h
 | k + 1 => by
  have ih0 := spec_l1Name.mono_l k
  ·
   intro y0 y1
   unfold spec_l1Name.l0
   repeat' first
   | (with_reducible exact ih0 _ _)
   | (with_reducible exact LeO.refl _)
   | (with_reducible exact LeO.none _)
   | (with_reducible refine LeO.ite ?_ ?_)
   | (with_reducible refine LeO.bind ?_ (fun _ => ?_))
theorem spec_l1Name.mono : ∀ a0 k, LeO (spec_l1Name.f k a0) (spec_l1Name.f (k + 1) a0) := by
 intro a0 k
 have ih0 := spec_l1Name.mono_l k
 unfold spec_l1Name.f
 repeat' first
   | (with_reducible exact ih0 _ _)
   | (with_reducible exact LeO.refl _)
   | (with_reducible exact LeO.none _)
   | (with_reducible refine LeO.ite ?_ ?_)
   | (with_reducible refine LeO.bind ?_ (fun _ => ?_))
set_option maxHeartbeats 8000000 in
set_option maxRecDepth 100000 in
theorem spec_l1Name.calls (k : Nat) (a0 : ByteArray) (r : Bool) (w : World) (h : spec_l1Name.f k a0 = some r) :
  Calls Try.prog 84 #[.string a0] w fun e w' => e = .returned (.bool r) ∧ Drawn0 w w' := by
 have H : (spec_l1Name.l0 k a0 0) = some r := h
 clear h
 have H' := Aside0.mk H
 clear H
 go_enter Try.func84, Try.ntmps84
 go_wp2
 go_loopg [3] k (fun kq v3 w' => ∃ (x3_1 : Int), v3 = .int .i64 x3_1 ∧ Aside0 (spec_l1Name.l0 kq a0 x3_1 = some r) ∧ Aside0 (kq ≤ k) ∧ Drawn0 w w')
 case atStart => exact ⟨(0), eqq_, H', ⟨Nat.le_refl _⟩, by repeat (first | exact Drawn0.refl _ | apply Drawn0.step)⟩
 case round =>
  clear H'
  obtain ⟨x3_1, rfl, HA, HK1, ⟨m1, rfl⟩⟩ := hrel
  cases gk with
  | zero => exact absurd HA.out (by simp [spec_l1Name.l0])
  | succ k1 =>
   have H := HA.out
   clear HA
   simp only [spec_l1Name.l0] at H
   by_cases c2 : x3_1 < (a0.size : Int)
   rotate_left
   ·
    rw [if_neg c2] at H
    have c2b0 : decide (x3_1 < (a0.size : Int)) = false := decide_eq_false c2
    clear c2
    replace H := bd_ H
    obtain ⟨t560, A8, H⟩ := H
    obtain rfl := Option.some.inj H
    go_wp2_with (first | ((with_reducible refine gate_callee (f := 83) rfl ?_); refine goesL_ (some 22) rfl rfl Try.func83 (by kernel_rfl) rfl #[.int .i64 (a0.size : Int), .int .i64 1, .int .i64 8] rfl la_ ?_; (with_reducible refine (spec_l1In.calls (a0.size : Int) 1 8 t560 _ A8.out).mono ?_); rintro e w' ⟨rfl, ⟨nd, rfl⟩⟩; refine ⟨_, rfl, ?_⟩))
    go_ret
    exact ⟨by first | rfl | (simp; done) | (simp [*]; done), by repeat (first | exact Drawn0.refl _ | apply Drawn0.step)⟩
   rw [if_pos c2] at H
   have c2b0 : decide (x3_1 < (a0.size : Int)) = true := decide_eq_true c2
   clear c2
   by_cases c3 : 0 ≤ x3_1
   case neg => exact nn_ c3 H
   rw [if_pos c3] at H
   have c3b0 : decide (0 ≤ x3_1) = true := decide_eq_true c3
   clear c3
   by_cases c5 : (bt a0 x3_1) < 97
   ·
    rw [if_pos c5] at H
    have c5b0 : decide ((bt a0 x3_1) < 97) = true := decide_eq_true c5
    clear c5
    obtain rfl := Option.some.inj H
    have p4 : 0 ≤ (x3_1 : Int) := od_
    have q4 : x3_1 < (a0.size : Int) := od_
    have hx4 := bt_at a0 x3_1
    replace p4 := eq_true p4
    replace q4 := eq_true q4
    go_wp2
    go_ret
    exact ⟨by first | rfl | (simp; done) | (simp [*]; done), by repeat (first | exact Drawn0.refl _ | apply Drawn0.step)⟩
   rw [if_neg c5] at H
   have c5b0 : decide ((bt a0 x3_1) < 97) = false := decide_eq_false c5
   clear c5
   by_cases c7 : (bt a0 x3_1) > 122
   ·
    rw [if_pos c7] at H
    have c7b0 : decide (122 < (bt a0 x3_1)) = true := decide_eq_true c7
    clear c7
    obtain rfl := Option.some.inj H
    have p4 : 0 ≤ (x3_1 : Int) := od_
    have q4 : x3_1 < (a0.size : Int) := od_
    have hx4 := bt_at a0 x3_1
    replace p4 := eq_true p4
    replace q4 := eq_true q4
    have p6 : 0 ≤ (x3_1 : Int) := od_
    have q6 : x3_1 < (a0.size : Int) := od_
    have hx6 := bt_at a0 x3_1
    replace p6 := eq_true p6
    replace q6 := eq_true q6
    go_wp2
    go_ret
    exact ⟨by first | rfl | (simp; done) | (simp [*]; done), by repeat (first | exact Drawn0.refl _ | apply Drawn0.step)⟩
   rw [if_neg c7] at H
   have c7b0 : decide (122 < (bt a0 x3_1)) = false := decide_eq_false c7
   clear c7
   have H' := Aside0.mk H
   clear H
   have p4 : 0 ≤ (x3_1 : Int) := od_
   have q4 : x3_1 < (a0.size : Int) := od_
   have hx4 := bt_at a0 x3_1
   replace p4 := eq_true p4
   replace q4 := eq_true q4
   have p6 : 0 ≤ (x3_1 : Int) := od_
   have q6 : x3_1 < (a0.size : Int) := od_
   have hx6 := bt_at a0 x3_1
   replace p6 := eq_true p6
   replace q6 := eq_true q6
   go_wp2
   go_roundg k1
   case measure => have := HK1.out; omega
   case rel => exact ⟨(wrap64 (x3_1 + 1)), eqq_, H', ⟨by have := HK1.out; omega⟩, by repeat (first | exact Drawn0.refl _ | apply Drawn0.step)⟩

/-! ### spec_l9Time: function 85 -/
def spec_l9Time.f (a0 : Int) : Option (Bool) := (spec_l1In.f a0 0 100000).bind fun t561 => (some t561)
set_option maxHeartbeats 8000000 in
set_option maxRecDepth 100000 in
theorem spec_l9Time.calls (a0 : Int) (r : Bool) (w : World) (h : spec_l9Time.f a0 = some r) :
  Calls Try.prog 85 #[.int .i64 a0] w fun e w' => e = .returned (.bool r) ∧ Drawn0 w w' := by
 have H : ((spec_l1In.f a0 0 100000).bind fun t561 => (some t561)) = some r := h
 clear h
 replace H := bd_ H
 obtain ⟨t561, A2, H⟩ := H
 obtain rfl := Option.some.inj H
 go_enter Try.func85, Try.ntmps85
 go_wp2_with (first | ((with_reducible refine gate_callee (f := 83) rfl ?_); refine goesL_ (some 4) rfl rfl Try.func83 (by kernel_rfl) rfl #[.int .i64 a0, .int .i64 0, .int .i64 100000] rfl la_ ?_; (with_reducible refine (spec_l1In.calls a0 0 100000 t561 _ A2.out).mono ?_); rintro e w' ⟨rfl, ⟨nd, rfl⟩⟩; refine ⟨_, rfl, ?_⟩))
 go_ret
 exact ⟨by first | rfl | (simp; done) | (simp [*]; done), by repeat (first | exact Drawn0.refl _ | apply Drawn0.step)⟩

end Go.Proofs.Ytiffahfpfgnjnaa.PFnItems
