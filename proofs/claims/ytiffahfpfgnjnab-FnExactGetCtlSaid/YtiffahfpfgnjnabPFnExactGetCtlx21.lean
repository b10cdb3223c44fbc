-- Written by a program of this session (myprint.py, over the kit's print): contracts of FnExactGetCtl
import Derived.Test.YtiffahfpfgnjnabPFnExactGetCtlx0
import Derived.Test.YtiffahfpfgnjnabPFnExactGetCtlx16
import Derived.Test.YtiffahfpfgnjnabPFnExactGetCtlx20
namespace Go.Proofs.Ytiffahfpfgnjnab.PFnExactGetCtl
open Go.RowKit Go.Proofs.YtiffahfpfgnjnabW.PrintWords Go.Proofs.YtiffahfpfgnjnabW.PrintLast Go.Proofs.YtiffahfpfgnjnabW.PrintMore Go.Proofs.YtiffahfpfgnjnabV
attribute [local go_sem] max2_int min2_int max_two min_two max_three min_three max_four min_four   -- for this text's walks alone
set_option linter.unusedVariables false
set_option linter.unusedSimpArgs false

/-! ### impl_GetItem: function 86 -/
def impl_GetItem.j0 : Nat → List Int → Int → Int → ByteArray → Int → Int → Int → ByteArray → Int → Int → Int → ByteArray → Int → Int → Int → Int → Int → Option (Int × Int × ByteArray × Int × Int × Int × ByteArray × Int × Int × Int × ByteArray × Int × Int × Int × Int × Int × Bool)
 | 0, _, _, _, _, _, _, _, _, _, _, _, _, _, _, _, _, _ => none
 | k + 1, x0, x628000, x628001, x628002, x628003, x628004, x628005, x628006, x628007, x628008, x628009, x628010, x628011, x628012, x628013, x628014, x628015 => if (x0.length : Int) = 0 then (some (0, 0, (⟨#[]⟩ : ByteArray), 0, 0, 0, (⟨#[]⟩ : ByteArray), 0, 0, 0, (⟨#[]⟩ : ByteArray), 0, 0, 0, 0, 0, false)) else ((impl_PutItem.f k x628000 x628001 x628002 x628003 x628004 x628005 x628006 x628007 x628008 x628009 x628010 x628011 x628012 x628013 x628014 x628015).bind fun t648 => ((bytes_Equal.f t648 x0).bind fun t651 => (if t651 = true then (some (x628000, x628001, x628002, x628003, x628004, x628005, x628006, x628007, x628008, x628009, x628010, x628011, x628012, x628013, x628014, x628015, true)) else (some (0, 0, (⟨#[]⟩ : ByteArray), 0, 0, 0, (⟨#[]⟩ : ByteArray), 0, 0, 0, (⟨#[]⟩ : ByteArray), 0, 0, 0, 0, 0, false)))))
def impl_GetItem.f (k : Nat) (l0 : List Int) : Option (Int × Int × ByteArray × Int × Int × Int × ByteArray × Int × Int × Int × ByteArray × Int × Int × Int × Int × Int × Bool) := (impl_reader_one.f l0 0).bind fun bt625 => ((impl_reader_word.f l0 bt625.2).bind fun bt628 => ((impl_reader_one.f l0 bt628.2).bind fun bt630 => ((impl_reader_text.f k l0 bt630.2).bind fun bt632 => ((impl_reader_word.f l0 bt632.2).bind fun bt634 => ((impl_reader_since.f l0 bt634.2).bind fun bt636 => (if bt625.1 = 1 then ((impl_reader_text.f k l0 bt636.2).bind fun bt638 => ((impl_reader_word.f l0 bt638.2).bind fun bt640 => ((impl_reader_word.f l0 bt640.2).bind fun bt642 => (impl_GetItem.j0 k l0 bt625.1 bt628.1 bt632.1 bt630.1 bt634.1 bt636.1 bt638.1 bt640.1 bt642.1 0 (⟨#[]⟩ : ByteArray) 0 0 0 0 0)))) else ((impl_reader_word.f l0 bt636.2).bind fun bt644 => ((impl_reader_word.f l0 bt644.2).bind fun bt646 => (impl_GetItem.j0 k l0 bt625.1 0 (⟨#[]⟩ : ByteArray) 0 0 0 (⟨#[]⟩ : ByteArray) 0 0 bt628.1 bt632.1 bt634.1 bt630.1 bt636.1 bt644.1 bt646.1)))))))))
theorem impl_GetItem.mono_l : ∀ k, (∀ y0 y1 y2 y3 y4 y5 y6 y7 y8 y9 y10 y11 y12 y13 y14 y15 y16, LeO (impl_GetItem.j0 k y0 y1 y2 y3 y4 y5 y6 y7 y8 y9 y10 y11 y12 y13 y14 y15 y16) (impl_GetItem.j0 (k + 1) y0 y1 y2 y3 y4 y5 y6 y7 y8 y9 y10 y11 y12 y13 y14 y15 y16))
 | 0 => fun _ _ _ _ _ _ _ _ _ _ _ _ _ _ _ _ _ r h => by simp [impl_GetItem.j0] at h
 | k + 1 => by
  have ih0 := impl_GetItem.mono_l k
  ·
   intro y0 y1 y2 y3 y4 y5 y6 y7 y8 y9 y10 y11 y12 y13 y14 y15 y16
   unfold impl_GetItem.j0
   have m0 := @impl_PutItem.mono; have m1 := @impl_reader_text.mono; exact mo_
theorem impl_GetItem.mono : ∀ a0 k, LeO (impl_GetItem.f k a0) (impl_GetItem.f (k + 1) a0) := by
 intro a0 k
 have ih0 := impl_GetItem.mono_l k
 unfold impl_GetItem.f
 have m0 := @impl_PutItem.mono; have m1 := @impl_reader_text.mono; exact mo_
set_option maxHeartbeats 8000000 in
set_option maxRecDepth 100000 in
theorem impl_GetItem.calls (k : Nat) (A0 : Option Addr) (c0 : Nat) (l0 : List Int) (r1 : Int) (r2 : Int) (r3 : ByteArray) (r4 : Int) (r5 : Int) (r6 : Int) (r7 : ByteArray) (r8 : Int) (r9 : Int) (r10 : Int) (r11 : ByteArray) (r12 : Int) (r13 : Int) (r14 : Int) (r15 : Int) (r16 : Int) (r17 : Bool) (w : World) (hr0 : Kd.C (Kd.int .u8) w A0 l0.length l0) (hc0 : l0.length ≤ c0) (h : impl_GetItem.f k l0 = some (r1, r2, r3, r4, r5, r6, r7, r8, r9, r10, r11, r12, r13, r14, r15, r16, r17)) :
  Calls Try.prog 86 #[.slice A0 l0.length c0] w fun e w' => e = .returned (.tuple #[.agg #[.int .i64 r1, .int .i64 r2, .string r3, .int .i64 r4, .int .i64 r5, .int .i64 r6, .string r7, .int .i64 r8, .int .i64 r9, .int .i64 r10, .string r11, .int .i64 r12, .int .i64 r13, .int .i64 r14, .int .i64 r15, .int .i64 r16], .bool r17]) ∧ Below w.heap.size w w' := by
 have hu126 := Try.underlying126
 have hu131 := Try.underlying131
 have hu90 := Try.underlying90
 have hu124 := Try.underlying124
 have HR0 := Aside0.mk hr0
 have HC0 := Aside0.mk hc0
 clear hr0 hc0
 have HB := Aside0.mk (Below.refl w.heap.size w)
 have H := h
 unfold impl_GetItem.f at H
 clear h
 replace H := bd_ H
 obtain ⟨⟨t625, t626⟩, A2, H⟩ := H
 (try dsimp only at H)
 replace H := bd_ H
 obtain ⟨⟨t628, t629⟩, A3, H⟩ := H
 (try dsimp only at H)
 replace H := bd_ H
 obtain ⟨⟨t630, t631⟩, A4, H⟩ := H
 (try dsimp only at H)
 replace H := bd_ H
 obtain ⟨⟨t632, t633⟩, A5, H⟩ := H
 (try dsimp only at H)
 replace H := bd_ H
 obtain ⟨⟨t634, t635⟩, A6, H⟩ := H
 (try dsimp only at H)
 replace H := bd_ H
 obtain ⟨⟨t636, t637⟩, A7, H⟩ := H
 (try dsimp only at H)
 have HC8 := Aside0.mk H
 clear H
 go_enter Try.func86, Try.ntmps86
 go_upto_if 29 with (first | ((with_reducible refine gate_dst (N := 2) rfl ?_); refine bx_ (N := 2) (cs := #[.int .i64 0, .int .i64 0, .string (⟨#[]⟩ : ByteArray), .int .i64 0, .int .i64 0, .int .i64 0, .string (⟨#[]⟩ : ByteArray), .int .i64 0, .int .i64 0, .int .i64 0, .string (⟨#[]⟩ : ByteArray), .int .i64 0, .int .i64 0, .int .i64 0, .int .i64 0, .int .i64 0]) (t := 126) ?_; intro gb623 hg w9 hbox hb; have BK623 := am_ (hbox); have GW623 := gA_ hg HB; have GE623 := GW623; have IGE623 := gI_ GE623; replace HB := bS_ HB hb; clear hb hbox hg) | ((with_reducible refine gate_dst (N := 13) rfl ?_); refine bx_ (N := 13) (cs := #[.slice A0 l0.length c0, .int .i64 0]) (t := 131) ?_; intro gb624 hg w10 hbox hb; have BK624 := am_ (hbox); have GW624 := gA_ hg HB; have GE624 := GW624; have IGE624 := gI_ GE624; replace HB := bS_ HB hb; have NB623_624 := am_ ((gN_ hg (qK BK623))); have NB624_623 := am_ ((gM_ hg (qK BK623))); replace BK623 := bK_ BK623 hb; clear hb hbox hg; have HI624 := Aside0.mk (show IsS131 w _ gb624 l0 0 from ⟨_, _, BK624.out, GE624.out, ⟨HR0.out, HC0.out⟩⟩); have IGHI624 := iG_ HI624.out.ge) | ((with_reducible refine gate_callee (f := 84) rfl ?_); refine gl_ (some 15) Try.func84 #[.pointer (some ⟨gb624, 0, none⟩)] ?_; (with_reducible refine (impl_reader_one.calls gb624 l0 0 t625 t626 w _ ?side1 ?side2 A2.out).mono ?_); (case side1 => exact IsS131.qz HI624); (case side2 => exact qB HB); rintro e w11 ⟨rfl, hi, hb, hk⟩; refine ⟨_, rfl, ?_⟩; replace BK623 := kB_ BK623 hk NB623_624; replace HB := am_ (hb); replace HI624 := am_ (hi); (try clear hb); (try clear hk); (try clear hi)) | ((with_reducible refine gate_dst (N := 5) rfl ?_); refine bx_ (N := 5) (cs := #[.int .i64 0, .int .i64 0, .string (⟨#[]⟩ : ByteArray), .int .i64 0, .int .i64 0, .int .i64 0, .string (⟨#[]⟩ : ByteArray), .int .i64 0, .int .i64 0, .int .i64 0, .string (⟨#[]⟩ : ByteArray), .int .i64 0, .int .i64 0, .int .i64 0, .int .i64 0, .int .i64 0]) (t := 126) ?_; intro gb627 hg w12 hbox hb; have BK627 := am_ (hbox); have GW627 := am_ ((by rw [hg]; exact (below_size (qB HB)) : w.heap.size ≤ gb627)); have IGW627 := gI_ GW627; have GE627 := am_ ((by rw [hg]; exact (below_size (qB HB)) : w.heap.size ≤ gb627)); have IGE627 := gI_ GE627; replace HB := bS_ HB hb; have NB623_627 := am_ ((gN_ hg (qK BK623))); have NB627_623 := am_ ((gM_ hg (qK BK623))); replace BK623 := bK_ BK623 hb; have NB624_627 := am_ ((by rw [hg]; exact Nat.ne_of_lt (IsS131.lt (show IsS131 w _ gb624 l0 t626 from IsS131.qz HI624)) : gb624 ≠ gb627)); have NB627_624 := am_ ((by rw [hg]; exact Nat.ne_of_gt (IsS131.lt (show IsS131 w _ gb624 l0 t626 from IsS131.qz HI624)) : gb627 ≠ gb624)); replace HI624 := am_ (IsS131.below (IsS131.qz HI624) hb); clear hb hbox hg; have hnb13 := NB627_623.out; have hnc13 := NB623_627.out; have hnb14 := NB627_624.out; have hnc14 := NB624_627.out; (try clear zK627); have zK627 := cz16 BK627.out; (try clear fK627); have fK627 := fz16 BK627.out) | ((with_reducible refine gate_store (t := 126) (p := 5) rfl ?_); refine store_evs (t := 126) (p := 5) (j := 0) (cs := [.int .i64 t625, .int .i64 0, .string (⟨#[]⟩ : ByteArray), .int .i64 0, .int .i64 0, .int .i64 0, .string (⟨#[]⟩ : ByteArray), .int .i64 0, .int .i64 0, .int .i64 0, .string (⟨#[]⟩ : ByteArray), .int .i64 0, .int .i64 0, .int .i64 0, .int .i64 0, .int .i64 0]) (qK BK627) ?_; intro w16 hw; replace BK623 := sK_ hw BK623 NB623_627; replace HI624 := IsS131.s_ hw HI624 NB624_627; replace HB := sB_ hw HB; replace BK627 := sW_ hw BK627; clear hw) | ((with_reducible refine gate_callee (f := 85) rfl ?_); refine gl_ (some 18) Try.func85 #[.pointer (some ⟨gb624, 0, none⟩)] ?_; (with_reducible refine (impl_reader_word.calls gb624 l0 t626 t628 t629 w _ ?side1 ?side2 A3.out).mono ?_); (case side1 => exact IsS131.qz HI624); (case side2 => exact qB HB); rintro e w17 ⟨rfl, hi, hb, hk⟩; refine ⟨_, rfl, ?_⟩; replace BK623 := kB_ BK623 hk NB623_624; replace BK627 := kB_ BK627 hk NB627_624; replace HB := am_ (hb); replace HI624 := am_ (hi); (try clear hb); (try clear hk); (try clear hi)) | ((with_reducible refine gate_callee (f := 84) rfl ?_); refine gl_ (some 20) Try.func84 #[.pointer (some ⟨gb624, 0, none⟩)] ?_; (with_reducible refine (impl_reader_one.calls gb624 l0 t629 t630 t631 w _ ?side1 ?side2 A4.out).mono ?_); (case side1 => exact IsS131.qz HI624); (case side2 => exact qB HB); rintro e w18 ⟨rfl, hi, hb, hk⟩; refine ⟨_, rfl, ?_⟩; replace BK623 := kB_ BK623 hk NB623_624; replace BK627 := kB_ BK627 hk NB627_624; replace HB := am_ (hb); replace HI624 := am_ (hi); (try clear hb); (try clear hk); (try clear hi)) | ((with_reducible refine gate_callee (f := 117) rfl ?_); refine gl_ (some 22) Try.func117 #[.pointer (some ⟨gb624, 0, none⟩)] ?_; (with_reducible refine (impl_reader_text.calls k gb624 l0 t631 t632 t633 w _ ?side1 ?side2 A5.out).mono ?_); (case side1 => exact IsS131.qz HI624); (case side2 => exact qB HB); rintro e w19 ⟨rfl, hi, hb, hk⟩; refine ⟨_, rfl, ?_⟩; replace BK623 := kB_ BK623 hk NB623_624; replace BK627 := kB_ BK627 hk NB627_624; replace HB := am_ (hb); replace HI624 := am_ (hi); (try clear hb); (try clear hk); (try clear hi)) | ((with_reducible refine gate_callee (f := 85) rfl ?_); refine gl_ (some 24) Try.func85 #[.pointer (some ⟨gb624, 0, none⟩)] ?_; (with_reducible refine (impl_reader_word.calls gb624 l0 t633 t634 t635 w _ ?side1 ?side2 A6.out).mono ?_); (case side1 => exact IsS131.qz HI624); (case side2 => exact qB HB); rintro e w20 ⟨rfl, hi, hb, hk⟩; refine ⟨_, rfl, ?_⟩; replace BK623 := kB_ BK623 hk NB623_624; replace BK627 := kB_ BK627 hk NB627_624; replace HB := am_ (hb); replace HI624 := am_ (hi); (try clear hb); (try clear hk); (try clear hi)) | ((with_reducible refine gate_callee (f := 118) rfl ?_); refine gl_ (some 26) Try.func118 #[.pointer (some ⟨gb624, 0, none⟩)] ?_; (with_reducible refine (impl_reader_since.calls gb624 l0 t635 t636 t637 w _ ?side1 ?side2 A7.out).mono ?_); (case side1 => exact IsS131.qz HI624); (case side2 => exact qB HB); rintro e w21 ⟨rfl, hi, hb, hk⟩; refine ⟨_, rfl, ?_⟩; replace BK623 := kB_ BK623 hk NB623_624; replace BK627 := kB_ BK627 hk NB627_624; replace HB := am_ (hb); replace HI624 := am_ (hi); (try clear hb); (try clear hk); (try clear hi); (try clear zK627); have zK627 := cz16 BK627.out; (try clear fK627); have fK627 := fz16 BK627.out))
 (try simp only [Act.put, List.setIfInBounds_toArray, List.set_cons_zero, List.set_cons_succ])
 go_cut [] (fun wc => ∃ (kq : Nat) (x628001_7 : Int) (x628002_7 : ByteArray) (x628003_7 : Int) (x628004_7 : Int) (x628005_7 : Int) (x628006_7 : ByteArray) (x628007_7 : Int) (x628008_7 : Int) (x628009_7 : Int) (x628010_7 : ByteArray) (x628011_7 : Int) (x628012_7 : Int) (x628013_7 : Int) (x628014_7 : Int) (x628015_7 : Int), Aside0 (impl_GetItem.j0 kq l0 t625 x628001_7 x628002_7 x628003_7 x628004_7 x628005_7 x628006_7 x628007_7 x628008_7 x628009_7 x628010_7 x628011_7 x628012_7 x628013_7 x628014_7 x628015_7 = some (r1, r2, r3, r4, r5, r6, r7, r8, r9, r10, r11, r12, r13, r14, r15, r16, r17)) ∧ Aside0 (kq ≤ k) ∧ Aside0 (wc.heap[gb623]? = some (.cells #[.int .i64 0, .int .i64 0, .string (⟨#[]⟩ : ByteArray), .int .i64 0, .int .i64 0, .int .i64 0, .string (⟨#[]⟩ : ByteArray), .int .i64 0, .int .i64 0, .int .i64 0, .string (⟨#[]⟩ : ByteArray), .int .i64 0, .int .i64 0, .int .i64 0, .int .i64 0, .int .i64 0] 126 (0, 0))) ∧ Aside0 (wc.heap[gb627]? = some (.cells #[.int .i64 t625, .int .i64 x628001_7, .string x628002_7, .int .i64 x628003_7, .int .i64 x628004_7, .int .i64 x628005_7, .string x628006_7, .int .i64 x628007_7, .int .i64 x628008_7, .int .i64 x628009_7, .string x628010_7, .int .i64 x628011_7, .int .i64 x628012_7, .int .i64 x628013_7, .int .i64 x628014_7, .int .i64 x628015_7] 126 (0, 0))) ∧ Aside0 (Below w.heap.size w wc))
 case first =>
  have H := HC8.out
  clear HC8
  replace H := ie_ H
  obtain ⟨-, H, c23b0, c23b1⟩ | ⟨c23, H, c23b0, c23b1⟩ := H
  rotate_left
  ·
   (first | rw [c23b0] | rw [c23b1] | (simp only [i64_w, i32_w]; rw [c23b0]) | skip)
   replace H := bd_ H
   obtain ⟨⟨t644, t645⟩, A35, H⟩ := H
   (try dsimp only at H)
   replace H := bd_ H
   obtain ⟨⟨t646, t647⟩, A36, H⟩ := H
   (try dsimp only at H)
   have H' := Aside0.mk H
   clear H
   go_wp2_with (first | ((with_reducible refine gate_callee (f := 85) rfl ?_); refine gl_ (some 53) Try.func85 #[.pointer (some ⟨gb624, 0, none⟩)] ?_; (with_reducible refine (impl_reader_word.calls gb624 l0 t637 t644 t645 w _ ?side1 ?side2 A35.out).mono ?_); (case side1 => exact IsS131.qz HI624); (case side2 => exact qB HB); rintro e w37 ⟨rfl, hi, hb, hk⟩; refine ⟨_, rfl, ?_⟩; replace BK623 := kB_ BK623 hk NB623_624; replace BK627 := kB_ BK627 hk NB627_624; replace HB := am_ (hb); replace HI624 := am_ (hi); (try clear hb); (try clear hk); (try clear hi); have hnb38 := NB627_623.out; have hnc38 := NB623_627.out; have hnb39 := NB627_624.out; have hnc39 := NB624_627.out; (try clear zK627); have zK627 := cz16 BK627.out; (try clear fK627); have fK627 := fz16 BK627.out) | ((with_reducible refine gate_callee (f := 85) rfl ?_); refine gl_ (some 57) Try.func85 #[.pointer (some ⟨gb624, 0, none⟩)] ?_; (with_reducible refine (impl_reader_word.calls gb624 l0 t645 t646 t647 w _ ?side1 ?side2 A36.out).mono ?_); (case side1 => exact IsS131.qz HI624); (case side2 => exact qB HB); rintro e w41 ⟨rfl, hi, hb, hk⟩; refine ⟨_, rfl, ?_⟩; replace BK623 := am_ (KeepBut.blk hk (g' := gb623) (o := .cells #[.int .i64 0, .int .i64 0, .string (⟨#[]⟩ : ByteArray), .int .i64 0, .int .i64 0, .int .i64 0, .string (⟨#[]⟩ : ByteArray), .int .i64 0, .int .i64 0, .int .i64 0, .string (⟨#[]⟩ : ByteArray), .int .i64 0, .int .i64 0, .int .i64 0, .int .i64 0, .int .i64 0] 126 (0, 0)) (by (with_reducible repeat (first | refine blk_drewN ?_ _ | refine blk_drew ?_ | refine blk_alloc ?_ _)); refine blk_far7 ?_ NB623_627.out; exact qK BK623) NB623_624.out (by simp)); replace BK627 := am_ (KeepBut.blk hk (g' := gb627) (o := .cells #[.int .i64 t625, .int .i64 0, .string (⟨#[]⟩ : ByteArray), .int .i64 0, .int .i64 0, .int .i64 0, .string (⟨#[]⟩ : ByteArray), .int .i64 0, .int .i64 0, .int .i64 t628, .string t632, .int .i64 t634, .int .i64 t630, .int .i64 t636, .int .i64 t644, .int .i64 0] 126 (0, 0)) (by (with_reducible repeat (first | refine blk_drewN ?_ _ | refine blk_drew ?_ | refine blk_alloc ?_ _)); refine blk_put (cs := #[.int .i64 t625, .int .i64 0, .string (⟨#[]⟩ : ByteArray), .int .i64 0, .int .i64 0, .int .i64 0, .string (⟨#[]⟩ : ByteArray), .int .i64 0, .int .i64 0, .int .i64 t628, .string t632, .int .i64 t634, .int .i64 t630, .int .i64 t636, .int .i64 t644, .int .i64 0]) ?_ 15 _ rfl; (with_reducible repeat (first | refine blk_drewN ?_ _ | refine blk_drew ?_ | refine blk_alloc ?_ _)); refine blk_put (cs := #[.int .i64 t625, .int .i64 0, .string (⟨#[]⟩ : ByteArray), .int .i64 0, .int .i64 0, .int .i64 0, .string (⟨#[]⟩ : ByteArray), .int .i64 0, .int .i64 0, .int .i64 t628, .string t632, .int .i64 t634, .int .i64 t630, .int .i64 t636, .int .i64 0, .int .i64 0]) ?_ 14 _ rfl; (with_reducible repeat (first | refine blk_drewN ?_ _ | refine blk_drew ?_ | refine blk_alloc ?_ _)); refine blk_put (cs := #[.int .i64 t625, .int .i64 0, .string (⟨#[]⟩ : ByteArray), .int .i64 0, .int .i64 0, .int .i64 0, .string (⟨#[]⟩ : ByteArray), .int .i64 0, .int .i64 0, .int .i64 t628, .string t632, .int .i64 t634, .int .i64 t630, .int .i64 0, .int .i64 0, .int .i64 0]) ?_ 13 _ rfl; (with_reducible repeat (first | refine blk_drewN ?_ _ | refine blk_drew ?_ | refine blk_alloc ?_ _)); refine blk_put (cs := #[.int .i64 t625, .int .i64 0, .string (⟨#[]⟩ : ByteArray), .int .i64 0, .int .i64 0, .int .i64 0, .string (⟨#[]⟩ : ByteArray), .int .i64 0, .int .i64 0, .int .i64 t628, .string t632, .int .i64 t634, .int .i64 0, .int .i64 0, .int .i64 0, .int .i64 0]) ?_ 12 _ rfl; (with_reducible repeat (first | refine blk_drewN ?_ _ | refine blk_drew ?_ | refine blk_alloc ?_ _)); refine blk_put (cs := #[.int .i64 t625, .int .i64 0, .string (⟨#[]⟩ : ByteArray), .int .i64 0, .int .i64 0, .int .i64 0, .string (⟨#[]⟩ : ByteArray), .int .i64 0, .int .i64 0, .int .i64 t628, .string t632, .int .i64 0, .int .i64 0, .int .i64 0, .int .i64 0, .int .i64 0]) ?_ 11 _ rfl; (with_reducible repeat (first | refine blk_drewN ?_ _ | refine blk_drew ?_ | refine blk_alloc ?_ _)); refine blk_put (cs := #[.int .i64 t625, .int .i64 0, .string (⟨#[]⟩ : ByteArray), .int .i64 0, .int .i64 0, .int .i64 0, .string (⟨#[]⟩ : ByteArray), .int .i64 0, .int .i64 0, .int .i64 t628, .string (⟨#[]⟩ : ByteArray), .int .i64 0, .int .i64 0, .int .i64 0, .int .i64 0, .int .i64 0]) ?_ 10 _ rfl; (with_reducible repeat (first | refine blk_drewN ?_ _ | refine blk_drew ?_ | refine blk_alloc ?_ _)); refine blk_put (cs := #[.int .i64 t625, .int .i64 0, .string (⟨#[]⟩ : ByteArray), .int .i64 0, .int .i64 0, .int .i64 0, .string (⟨#[]⟩ : ByteArray), .int .i64 0, .int .i64 0, .int .i64 0, .string (⟨#[]⟩ : ByteArray), .int .i64 0, .int .i64 0, .int .i64 0, .int .i64 0, .int .i64 0]) ?_ 9 _ rfl; exact qK BK627) NB627_624.out (by simp)); replace HB := am_ (hb); replace HI624 := am_ (hi); (try clear hb); (try clear hk); (try clear hi); (try clear zK627); have zK627 := cz16 BK627.out; (try clear fK627); have fK627 := fz16 BK627.out))
   go_meet
   case rel => exact ⟨_, (0), ((⟨#[]⟩ : ByteArray)), (0), (0), (0), ((⟨#[]⟩ : ByteArray)), (0), (0), (t628), (t632), (t634), (t630), (t636), (t644), (t646), H', ⟨by first | omega | exact Nat.le_refl _⟩, ⟨by (with_reducible repeat (first | refine blk_drewN ?_ _ | refine blk_drew ?_ | refine blk_alloc ?_ _)); refine blk_far ?_ NB623_627.out _; exact qK BK623⟩, ⟨by (with_reducible repeat (first | refine blk_drewN ?_ _ | refine blk_drew ?_ | refine blk_alloc ?_ _)); refine blk_put (cs := #[.int .i64 t625, .int .i64 0, .string (⟨#[]⟩ : ByteArray), .int .i64 0, .int .i64 0, .int .i64 0, .string (⟨#[]⟩ : ByteArray), .int .i64 0, .int .i64 0, .int .i64 t628, .string t632, .int .i64 t634, .int .i64 t630, .int .i64 t636, .int .i64 t644, .int .i64 0]) ?_ 15 _ rfl; exact qK BK627⟩, ⟨qB HB⟩⟩
  (first | rw [c23b0] | rw [c23b1] | (simp only [i64_w, i32_w]; rw [c23b0]) | skip)
  replace H := bd_ H
  obtain ⟨⟨t638, t639⟩, A24, H⟩ := H
  (try dsimp only at H)
  replace H := bd_ H
  obtain ⟨⟨t640, t641⟩, A25, H⟩ := H
  (try dsimp only at H)
  replace H := bd_ H
  obtain ⟨⟨t642, t643⟩, A26, H⟩ := H
  (try dsimp only at H)
  have H' := Aside0.mk H
  clear H
  go_wp2_with (first | ((with_reducible refine gate_callee (f := 117) rfl ?_); refine gl_ (some 36) Try.func117 #[.pointer (some ⟨gb624, 0, none⟩)] ?_; (with_reducible refine (impl_reader_text.calls k gb624 l0 t637 t638 t639 w _ ?side1 ?side2 A24.out).mono ?_); (case side1 => exact IsS131.qz HI624); (case side2 => exact qB HB); rintro e w27 ⟨rfl, hi, hb, hk⟩; refine ⟨_, rfl, ?_⟩; replace BK623 := kB_ BK623 hk NB623_624; replace BK627 := kB_ BK627 hk NB627_624; replace HB := am_ (hb); replace HI624 := am_ (hi); (try clear hb); (try clear hk); (try clear hi); have hnb28 := NB627_623.out; have hnc28 := NB623_627.out; have hnb29 := NB627_624.out; have hnc29 := NB624_627.out; (try clear zK627); have zK627 := cz16 BK627.out; (try clear fK627); have fK627 := fz16 BK627.out) | ((with_reducible refine gate_callee (f := 85) rfl ?_); refine gl_ (some 40) Try.func85 #[.pointer (some ⟨gb624, 0, none⟩)] ?_; (with_reducible refine (impl_reader_word.calls gb624 l0 t639 t640 t641 w _ ?side1 ?side2 A25.out).mono ?_); (case side1 => exact IsS131.qz HI624); (case side2 => exact qB HB); rintro e w31 ⟨rfl, hi, hb, hk⟩; refine ⟨_, rfl, ?_⟩; replace BK623 := am_ (KeepBut.blk hk (g' := gb623) (o := .cells #[.int .i64 0, .int .i64 0, .string (⟨#[]⟩ : ByteArray), .int .i64 0, .int .i64 0, .int .i64 0, .string (⟨#[]⟩ : ByteArray), .int .i64 0, .int .i64 0, .int .i64 0, .string (⟨#[]⟩ : ByteArray), .int .i64 0, .int .i64 0, .int .i64 0, .int .i64 0, .int .i64 0] 126 (0, 0)) (by (with_reducible repeat (first | refine blk_drewN ?_ _ | refine blk_drew ?_ | refine blk_alloc ?_ _)); refine blk_far8 ?_ NB623_627.out; exact qK BK623) NB623_624.out (by simp)); replace BK627 := am_ (KeepBut.blk hk (g' := gb627) (o := .cells #[.int .i64 t625, .int .i64 t628, .string t632, .int .i64 t630, .int .i64 t634, .int .i64 t636, .string t638, .int .i64 0, .int .i64 0, .int .i64 0, .string (⟨#[]⟩ : ByteArray), .int .i64 0, .int .i64 0, .int .i64 0, .int .i64 0, .int .i64 0] 126 (0, 0)) (by (with_reducible repeat (first | refine blk_drewN ?_ _ | refine blk_drew ?_ | refine blk_alloc ?_ _)); refine blk_put (cs := #[.int .i64 t625, .int .i64 t628, .string t632, .int .i64 t630, .int .i64 t634, .int .i64 t636, .string t638, .int .i64 0, .int .i64 0, .int .i64 0, .string (⟨#[]⟩ : ByteArray), .int .i64 0, .int .i64 0, .int .i64 0, .int .i64 0, .int .i64 0]) ?_ 8 _ rfl; (with_reducible repeat (first | refine blk_drewN ?_ _ | refine blk_drew ?_ | refine blk_alloc ?_ _)); refine blk_put (cs := #[.int .i64 t625, .int .i64 t628, .string t632, .int .i64 t630, .int .i64 t634, .int .i64 t636, .string t638, .int .i64 0, .int .i64 0, .int .i64 0, .string (⟨#[]⟩ : ByteArray), .int .i64 0, .int .i64 0, .int .i64 0, .int .i64 0, .int .i64 0]) ?_ 7 _ rfl; (with_reducible repeat (first | refine blk_drewN ?_ _ | refine blk_drew ?_ | refine blk_alloc ?_ _)); refine blk_put (cs := #[.int .i64 t625, .int .i64 t628, .string t632, .int .i64 t630, .int .i64 t634, .int .i64 t636, .string (⟨#[]⟩ : ByteArray), .int .i64 0, .int .i64 0, .int .i64 0, .string (⟨#[]⟩ : ByteArray), .int .i64 0, .int .i64 0, .int .i64 0, .int .i64 0, .int .i64 0]) ?_ 6 _ rfl; (with_reducible repeat (first | refine blk_drewN ?_ _ | refine blk_drew ?_ | refine blk_alloc ?_ _)); refine blk_put (cs := #[.int .i64 t625, .int .i64 t628, .string t632, .int .i64 t630, .int .i64 t634, .int .i64 0, .string (⟨#[]⟩ : ByteArray), .int .i64 0, .int .i64 0, .int .i64 0, .string (⟨#[]⟩ : ByteArray), .int .i64 0, .int .i64 0, .int .i64 0, .int .i64 0, .int .i64 0]) ?_ 5 _ rfl; (with_reducible repeat (first | refine blk_drewN ?_ _ | refine blk_drew ?_ | refine blk_alloc ?_ _)); refine blk_put (cs := #[.int .i64 t625, .int .i64 t628, .string t632, .int .i64 t630, .int .i64 0, .int .i64 0, .string (⟨#[]⟩ : ByteArray), .int .i64 0, .int .i64 0, .int .i64 0, .string (⟨#[]⟩ : ByteArray), .int .i64 0, .int .i64 0, .int .i64 0, .int .i64 0, .int .i64 0]) ?_ 4 _ rfl; (with_reducible repeat (first | refine blk_drewN ?_ _ | refine blk_drew ?_ | refine blk_alloc ?_ _)); refine blk_put (cs := #[.int .i64 t625, .int .i64 t628, .string t632, .int .i64 0, .int .i64 0, .int .i64 0, .string (⟨#[]⟩ : ByteArray), .int .i64 0, .int .i64 0, .int .i64 0, .string (⟨#[]⟩ : ByteArray), .int .i64 0, .int .i64 0, .int .i64 0, .int .i64 0, .int .i64 0]) ?_ 3 _ rfl; (with_reducible repeat (first | refine blk_drewN ?_ _ | refine blk_drew ?_ | refine blk_alloc ?_ _)); refine blk_put (cs := #[.int .i64 t625, .int .i64 t628, .string (⟨#[]⟩ : ByteArray), .int .i64 0, .int .i64 0, .int .i64 0, .string (⟨#[]⟩ : ByteArray), .int .i64 0, .int .i64 0, .int .i64 0, .string (⟨#[]⟩ : ByteArray), .int .i64 0, .int .i64 0, .int .i64 0, .int .i64 0, .int .i64 0]) ?_ 2 _ rfl; (with_reducible repeat (first | refine blk_drewN ?_ _ | refine blk_drew ?_ | refine blk_alloc ?_ _)); refine blk_put (cs := #[.int .i64 t625, .int .i64 0, .string (⟨#[]⟩ : ByteArray), .int .i64 0, .int .i64 0, .int .i64 0, .string (⟨#[]⟩ : ByteArray), .int .i64 0, .int .i64 0, .int .i64 0, .string (⟨#[]⟩ : ByteArray), .int .i64 0, .int .i64 0, .int .i64 0, .int .i64 0, .int .i64 0]) ?_ 1 _ rfl; exact qK BK627) NB627_624.out (by simp)); replace HB := am_ (hb); replace HI624 := am_ (hi); (try clear hb); (try clear hk); (try clear hi); (try clear zK627); have zK627 := cz16 BK627.out; (try clear fK627); have fK627 := fz16 BK627.out) | ((with_reducible refine gate_callee (f := 85) rfl ?_); refine gl_ (some 44) Try.func85 #[.pointer (some ⟨gb624, 0, none⟩)] ?_; (with_reducible refine (impl_reader_word.calls gb624 l0 t641 t642 t643 w _ ?side1 ?side2 A26.out).mono ?_); (case side1 => exact IsS131.qz HI624); (case side2 => exact qB HB); rintro e w33 ⟨rfl, hi, hb, hk⟩; refine ⟨_, rfl, ?_⟩; replace BK623 := am_ (KeepBut.blk hk (g' := gb623) (o := .cells #[.int .i64 0, .int .i64 0, .string (⟨#[]⟩ : ByteArray), .int .i64 0, .int .i64 0, .int .i64 0, .string (⟨#[]⟩ : ByteArray), .int .i64 0, .int .i64 0, .int .i64 0, .string (⟨#[]⟩ : ByteArray), .int .i64 0, .int .i64 0, .int .i64 0, .int .i64 0, .int .i64 0] 126 (0, 0)) (by (with_reducible repeat (first | refine blk_drewN ?_ _ | refine blk_drew ?_ | refine blk_alloc ?_ _)); refine blk_far ?_ NB623_627.out _; exact qK BK623) NB623_624.out (by simp)); replace BK627 := am_ (KeepBut.blk hk (g' := gb627) (o := .cells #[.int .i64 t625, .int .i64 t628, .string t632, .int .i64 t630, .int .i64 t634, .int .i64 t636, .string t638, .int .i64 t640, .int .i64 0, .int .i64 0, .string (⟨#[]⟩ : ByteArray), .int .i64 0, .int .i64 0, .int .i64 0, .int .i64 0, .int .i64 0] 126 (0, 0)) (by (with_reducible repeat (first | refine blk_drewN ?_ _ | refine blk_drew ?_ | refine blk_alloc ?_ _)); refine blk_put (cs := #[.int .i64 t625, .int .i64 t628, .string t632, .int .i64 t630, .int .i64 t634, .int .i64 t636, .string t638, .int .i64 0, .int .i64 0, .int .i64 0, .string (⟨#[]⟩ : ByteArray), .int .i64 0, .int .i64 0, .int .i64 0, .int .i64 0, .int .i64 0]) ?_ 7 _ rfl; exact qK BK627) NB627_624.out (by simp)); replace HB := am_ (hb); replace HI624 := am_ (hi); (try clear hb); (try clear hk); (try clear hi); (try clear zK627); have zK627 := cz16 BK627.out; (try clear fK627); have fK627 := fz16 BK627.out))
  go_meet
  case rel => exact ⟨_, (t628), (t632), (t630), (t634), (t636), (t638), (t640), (t642), (0), ((⟨#[]⟩ : ByteArray)), (0), (0), (0), (0), (0), H', ⟨by first | omega | exact Nat.le_refl _⟩, ⟨by (with_reducible repeat (first | refine blk_drewN ?_ _ | refine blk_drew ?_ | refine blk_alloc ?_ _)); refine blk_far ?_ NB623_627.out _; exact qK BK623⟩, ⟨by (with_reducible repeat (first | refine blk_drewN ?_ _ | refine blk_drew ?_ | refine blk_alloc ?_ _)); refine blk_put (cs := #[.int .i64 t625, .int .i64 t628, .string t632, .int .i64 t630, .int .i64 t634, .int .i64 t636, .string t638, .int .i64 t640, .int .i64 0, .int .i64 0, .string (⟨#[]⟩ : ByteArray), .int .i64 0, .int .i64 0, .int .i64 0, .int .i64 0, .int .i64 0]) ?_ 8 _ rfl; exact qK BK627⟩, ⟨qB HB⟩⟩
 case rest =>
  clear HC8
  try clear c1
  try clear c2
  try clear p2
  try clear c3
  try clear c8
  try clear c11
  try clear c13
  try clear c14
  try clear c23
  try clear c23b0
  try clear c23b1
  try clear c28
  try clear c29
  try clear c38
  try clear c39
  (try clear zK627)
  (try clear zK627)
  (try clear zK627)
  (try clear zK627)
  (try clear zK627)
  (try clear zK627)
  (try clear zK627)
  (try clear fK627)
  (try clear fK627)
  (try clear fK627)
  (try clear fK627)
  (try clear fK627)
  (try clear fK627)
  (try clear fK627)
  obtain ⟨kq, x628001_7, x628002_7, x628003_7, x628004_7, x628005_7, x628006_7, x628007_7, x628008_7, x628009_7, x628010_7, x628011_7, x628012_7, x628013_7, x628014_7, x628015_7, HA, HJ7, BK623, BK627, HB⟩ := hcut
  cases kq with
  | zero => exact absurd HA.out (by simp [impl_GetItem.j0])
  | succ kj7 =>
   have H := HA.out
   clear HA
   simp only [impl_GetItem.j0] at H
   replace H := ie_ H
   obtain ⟨-, H, c43b0, c43b1⟩ | ⟨c43, H, c43b0, c43b1⟩ := H
   ·
    simp only [Option.some.injEq, Prod.mk.injEq] at H
    obtain ⟨rfl, rfl, rfl, rfl, rfl, rfl, rfl, rfl, rfl, rfl, rfl, rfl, rfl, rfl, rfl, rfl, rfl⟩ := H
    have hnb44 := NB623_627.out
    have hnc44 := NB627_623.out
    (try clear zK623)
    have zK623 := cz16 BK623.out
    (try clear fK623)
    have fK623 := fz16 BK623.out
    go_wp2_with (first | ((with_reducible refine gate_store (t := 126) (p := 2) rfl ?_); refine store_evs (t := 126) (p := 2) (j := 0) (cs := [.int .i64 0, .int .i64 0, .string (⟨#[]⟩ : ByteArray), .int .i64 0, .int .i64 0, .int .i64 0, .string (⟨#[]⟩ : ByteArray), .int .i64 0, .int .i64 0, .int .i64 0, .string (⟨#[]⟩ : ByteArray), .int .i64 0, .int .i64 0, .int .i64 0, .int .i64 0, .int .i64 0]) (qK BK623) ?_; intro w46 hw; replace BK627 := sK_ hw BK627 NB627_623; replace HB := sB_ hw HB; replace BK623 := sW_ hw BK623; clear hw))
    refine bodyPost_ret (results_ct rfl _ _ gb623 126 #[.int .i64 0, .int .i64 0, .string (⟨#[]⟩ : ByteArray), .int .i64 0, .int .i64 0, .int .i64 0, .string (⟨#[]⟩ : ByteArray), .int .i64 0, .int .i64 0, .int .i64 0, .string (⟨#[]⟩ : ByteArray), .int .i64 0, .int .i64 0, .int .i64 0, .int .i64 0, .int .i64 0] (0, 0) _ rfl (qK BK623) Try.underlying126 rfl (by kernel_rfl)) rfl ?_
    exact ⟨er_, qB HB⟩
   have c43b2 : ¬ (l0 = []) := fun h_ => c43 (by rw [h_]; rfl)
   replace H := bd_ H
   obtain ⟨t648, A47, H⟩ := H
   replace H := bd_ H
   obtain ⟨t651, A48, H⟩ := H
   have HC49 := Aside0.mk H
   clear H
   have hnb50 := NB627_623.out
   have hnc50 := NB623_627.out
   (try clear zK627)
   have zK627 := cz16 BK627.out
   (try clear fK627)
   have fK627 := fz16 BK627.out
   go_upto_if 69 with (first | (go_at_call 110; (with_reducible refine (impl_PutItem.calls kj7 t625 x628001_7 x628002_7 x628003_7 x628004_7 x628005_7 x628006_7 x628007_7 x628008_7 x628009_7 x628010_7 x628011_7 x628012_7 x628013_7 x628014_7 x628015_7 t648 _ A47.out).mono ?_); rintro e w52 ⟨v649, rfl, ho0, hb⟩; have HO650 := am_ (Kd.R_lower ho0 (below_size (qB HB))); replace BK623 := bK_ BK623 hb; replace BK627 := bK_ BK627 hb; replace HB := bS_ HB hb; (try clear hb); (try clear ho0); obtain ⟨Ao53, co53, eo53⟩ := Kd.R_slice HO650.out; subst eo53) | (go_at_call 87; (with_reducible refine (bytes_Equal.calls _ _ t648 _ _ l0 t651 _ ?side1 ?side2 ?side3 ?side4 A48.out).mono ?_); (case side1 => exact qC ((Kd.R_reads' HO650.out).2.2)); (case side2 => exact (Kd.R_reads' HO650.out).2.1); (case side3 => exact qC (Kd.C_below HR0.out HB.out)); (case side4 => exact HC0.out); rintro e w' ⟨rfl, ⟨nd, rfl⟩⟩))
   (try simp only [Act.put, List.setIfInBounds_toArray, List.set_cons_zero, List.set_cons_succ])
   (try (rw [drewN_self w52]; generalize hq_ : World.drewN w52 _ = w52; have n0_ : Aside0 (Kd.R (Kd.int .u8) 5 w52 w.heap.size (fun _ => True) (.slice Ao53 t648.length co53) t648) := ⟨by rw [← hq_]; exact (qR HO650)⟩; have n1_ : Aside0 (w52.heap[gb623]? = some (.cells #[.int .i64 0, .int .i64 0, .string (⟨#[]⟩ : ByteArray), .int .i64 0, .int .i64 0, .int .i64 0, .string (⟨#[]⟩ : ByteArray), .int .i64 0, .int .i64 0, .int .i64 0, .string (⟨#[]⟩ : ByteArray), .int .i64 0, .int .i64 0, .int .i64 0, .int .i64 0, .int .i64 0] 126 (0, 0))) := ⟨by rw [← hq_]; exact (qK BK623)⟩; have n2_ : Aside0 (w52.heap[gb627]? = some (.cells #[.int .i64 t625, .int .i64 x628001_7, .string x628002_7, .int .i64 x628003_7, .int .i64 x628004_7, .int .i64 x628005_7, .string x628006_7, .int .i64 x628007_7, .int .i64 x628008_7, .int .i64 x628009_7, .string x628010_7, .int .i64 x628011_7, .int .i64 x628012_7, .int .i64 x628013_7, .int .i64 x628014_7, .int .i64 x628015_7] 126 (0, 0))) := ⟨by rw [← hq_]; exact (qK BK627)⟩; have n3_ : Aside0 (Below w.heap.size w w52) := ⟨by rw [← hq_]; exact (qB HB)⟩; clear HO650 BK623 BK627 HB hq_; have HO650 := n0_; have BK623 := n1_; have BK627 := n2_; have HB := n3_; clear n0_ n1_ n2_ n3_))
   have H := HC49.out
   clear HC49
   by_cases c54 : t651 = true
   rotate_left
   ·
    replace c54 := Bool.eq_false_iff.mpr c54
    subst c54
    rw [if_neg (show ¬ (false = true) by decide)] at H
    simp only [Option.some.injEq, Prod.mk.injEq] at H
    obtain ⟨rfl, rfl, rfl, rfl, rfl, rfl, rfl, rfl, rfl, rfl, rfl, rfl, rfl, rfl, rfl, rfl, rfl⟩ := H
    have hnb59 := NB623_627.out
    have hnc59 := NB627_623.out
    (try clear zK623)
    have zK623 := cz16 BK623.out
    (try clear fK623)
    have fK623 := fz16 BK623.out
    go_wp2_with (first | ((with_reducible refine gate_store (t := 126) (p := 2) rfl ?_); refine store_evs (t := 126) (p := 2) (j := 0) (cs := [.int .i64 0, .int .i64 0, .string (⟨#[]⟩ : ByteArray), .int .i64 0, .int .i64 0, .int .i64 0, .string (⟨#[]⟩ : ByteArray), .int .i64 0, .int .i64 0, .int .i64 0, .string (⟨#[]⟩ : ByteArray), .int .i64 0, .int .i64 0, .int .i64 0, .int .i64 0, .int .i64 0]) (qK BK623) ?_; intro w61 hw; have n0_ := fR0_ hw HO650 BK623; replace BK627 := sK_ hw BK627 NB627_623; replace HB := sB_ hw HB; replace BK623 := sW_ hw BK623; clear hw; clear HO650; have HO650 := n0_; clear n0_))
    refine bodyPost_ret (results_ct rfl _ _ gb623 126 #[.int .i64 0, .int .i64 0, .string (⟨#[]⟩ : ByteArray), .int .i64 0, .int .i64 0, .int .i64 0, .string (⟨#[]⟩ : ByteArray), .int .i64 0, .int .i64 0, .int .i64 0, .string (⟨#[]⟩ : ByteArray), .int .i64 0, .int .i64 0, .int .i64 0, .int .i64 0, .int .i64 0] (0, 0) _ rfl (qK BK623) Try.underlying126 rfl (by kernel_rfl)) rfl ?_
    exact ⟨er_, qB HB⟩
   subst c54
   rw [if_pos rfl] at H
   simp only [Option.some.injEq, Prod.mk.injEq] at H
   obtain ⟨rfl, rfl, rfl, rfl, rfl, rfl, rfl, rfl, rfl, rfl, rfl, rfl, rfl, rfl, rfl, rfl, rfl⟩ := H
   have hnb55 := NB627_623.out
   have hnc55 := NB623_627.out
   (try clear zK627)
   have zK627 := cz16 BK627.out
   (try clear fK627)
   have fK627 := fz16 BK627.out
   (try clear zK623)
   have zK623 := cz16 BK623.out
   (try clear fK623)
   have fK623 := fz16 BK623.out
   go_wp2_with (first | ((with_reducible refine gate_store (t := 126) (p := 2) rfl ?_); refine store_evs (t := 126) (p := 2) (j := 0) (cs := [.int .i64 t625, .int .i64 x628001_7, .string x628002_7, .int .i64 x628003_7, .int .i64 x628004_7, .int .i64 x628005_7, .string x628006_7, .int .i64 x628007_7, .int .i64 x628008_7, .int .i64 x628009_7, .string x628010_7, .int .i64 x628011_7, .int .i64 x628012_7, .int .i64 x628013_7, .int .i64 x628014_7, .int .i64 x628015_7]) (qK BK623) ?_; intro w58 hw; have n0_ := fR0_ hw HO650 BK623; replace BK627 := sK_ hw BK627 NB627_623; replace HB := sB_ hw HB; replace BK623 := sW_ hw BK623; clear hw; clear HO650; have HO650 := n0_; clear n0_))
   refine bodyPost_ret (results_ct rfl _ _ gb623 126 #[.int .i64 t625, .int .i64 x628001_7, .string x628002_7, .int .i64 x628003_7, .int .i64 x628004_7, .int .i64 x628005_7, .string x628006_7, .int .i64 x628007_7, .int .i64 x628008_7, .int .i64 x628009_7, .string x628010_7, .int .i64 x628011_7, .int .i64 x628012_7, .int .i64 x628013_7, .int .i64 x628014_7, .int .i64 x628015_7] (0, 0) _ rfl (qK BK623) Try.underlying126 rfl (by kernel_rfl)) rfl ?_
   exact ⟨er_, qB HB⟩

end Go.Proofs.Ytiffahfpfgnjnab.PFnExactGetCtl
