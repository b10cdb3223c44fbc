-- Written by a program of this session (myprint.py, over the kit's print): contracts of FnCtls
import Derived.Test.YtiffahfpfgnjnaaPFnCtlsx10
import Derived.Test.YtiffahfpfgnjnaaPFnCtlsx20
namespace Go.Proofs.Ytiffahfpfgnjnaa.PFnCtls
open Go.RowKit Go.Proofs.YtiffahfpfgnjnaaW.PrintWords Go.Proofs.YtiffahfpfgnjnaaW.PrintLast Go.Proofs.YtiffahfpfgnjnaaW.PrintMore Go.Proofs.YtiffahfpfgnjnaaV
attribute [local go_sem] max2_int min2_int max_two min_two max_three min_three max_four min_four
set_option linter.unusedVariables false
set_option linter.unusedSimpArgs false

/-! ### impl_GetItem: function 10 -/
def impl_GetItem.j0 : Nat → List Int → Int → Int → ByteArray → Int → Int → Int → ByteArray → Int → Int → Int → ByteArray → Int → Int → Int → Int → Int → Option (Int × Int × ByteArray × Int × Int × Int × ByteArray × Int × Int × Int × ByteArray × Int × Int × Int × Int × Int × Bool)
 | 0, _, _, _, _, _, _, _, _, _, _, _, _, _, _, _, _, _ => none
 | k + 1, x0, x870000, x870001, x870002, x870003, x870004, x870005, x870006, x870007, x870008, x870009, x870010, x870011, x870012, x870013, x870014, x870015 => if (x0.length : Int) = 0 then (some (0, 0, (⟨#[]⟩ : ByteArray), 0, 0, 0, (⟨#[]⟩ : ByteArray), 0, 0, 0, (⟨#[]⟩ : ByteArray), 0, 0, 0, 0, 0, false)) else ((impl_PutItem.f k x870000 x870001 x870002 x870003 x870004 x870005 x870006 x870007 x870008 x870009 x870010 x870011 x870012 x870013 x870014 x870015).bind fun t890 => ((bytes_Equal.f t890 x0).bind fun t893 => (if t893 = true then (some (x870000, x870001, x870002, x870003, x870004, x870005, x870006, x870007, x870008, x870009, x870010, x870011, x870012, x870013, x870014, x870015, true)) else (some (0, 0, (⟨#[]⟩ : ByteArray), 0, 0, 0, (⟨#[]⟩ : ByteArray), 0, 0, 0, (⟨#[]⟩ : ByteArray), 0, 0, 0, 0, 0, false)))))
def impl_GetItem.f (k : Nat) (l0 : List Int) : Option (Int × Int × ByteArray × Int × Int × Int × ByteArray × Int × Int × Int × ByteArray × Int × Int × Int × Int × Int × Bool) := (impl_reader_one.f l0 0).bind fun bt867 => ((impl_reader_word.f l0 bt867.2).bind fun bt870 => ((impl_reader_one.f l0 bt870.2).bind fun bt872 => ((impl_reader_text.f k l0 bt872.2).bind fun bt874 => ((impl_reader_word.f l0 bt874.2).bind fun bt876 => ((impl_reader_since.f l0 bt876.2).bind fun bt878 => (if bt867.1 = 1 then ((impl_reader_text.f k l0 bt878.2).bind fun bt880 => ((impl_reader_word.f l0 bt880.2).bind fun bt882 => ((impl_reader_word.f l0 bt882.2).bind fun bt884 => (impl_GetItem.j0 k l0 bt867.1 bt870.1 bt874.1 bt872.1 bt876.1 bt878.1 bt880.1 bt882.1 bt884.1 0 (⟨#[]⟩ : ByteArray) 0 0 0 0 0)))) else ((impl_reader_word.f l0 bt878.2).bind fun bt886 => ((impl_reader_word.f l0 bt886.2).bind fun bt888 => (impl_GetItem.j0 k l0 bt867.1 0 (⟨#[]⟩ : ByteArray) 0 0 0 (⟨#[]⟩ : ByteArray) 0 0 bt870.1 bt874.1 bt876.1 bt872.1 bt878.1 bt886.1 bt888.1)))))))))
theorem impl_GetItem.mono_l : ∀ k, (∀ y0 y1 y2 y3 y4 y5 y6 y7 y8 y9 y10 y11 y12 y13 y14 y15 y16, LeO (impl_GetItem.j0 k y0 y1 y2 y3 y4 y5 y6 y7 y8 y9 y10 y11 y12 y13 y14 y15 y16) (impl_GetItem.j0 (k + 1) y0 y1 y2 y3 y4 y5 y6 y7 y8 y9 y10 y11 y12 y13 y14 y15 y16))
 | 0 => fun _ _ _ _ _ _ _ _ _ _ _ _ _ _ _ _ _ r h => by simp [impl_GetItem.j0] at h
 | k + 1 => by
  have ih0 := impl_GetItem.mono_l k
  ·
   intro y0 y1 y2 y3 y4 y5 y6 y7 y8 y9 y10 y11 y12 y13 y14 y15 y16
   unfold impl_GetItem.j0
   have m0 := @impl_PutItem.mono; have m1 := @impl_reader_text.mono; exact mo_
theorem impl_GetItem.mono : ∀ a0 k, LeO (impl_GetItem.f k a0) (impl_GetItem.f (k + 1) a0) := by
 intro a0 k
 have ih0 := impl_GetItem.mono_l k
 unfold impl_GetItem.f
 have m0 := @impl_PutItem.mono; have m1 := @impl_reader_text.mono; exact mo_
set_option maxHeartbeats 8000000 in
set_option maxRecDepth 100000 in
theorem impl_GetItem.calls (k : Nat) (A0 : Option Addr) (c0 : Nat) (l0 : List Int) (r1 : Int) (r2 : Int) (r3 : ByteArray) (r4 : Int) (r5 : Int) (r6 : Int) (r7 : ByteArray) (r8 : Int) (r9 : Int) (r10 : Int) (r11 : ByteArray) (r12 : Int) (r13 : Int) (r14 : Int) (r15 : Int) (r16 : Int) (r17 : Bool) (w : World) (hr0 : Kd.C (Kd.int .u8) w A0 l0.length l0) (hc0 : l0.length ≤ c0) (h : impl_GetItem.f k l0 = some (r1, r2, r3, r4, r5, r6, r7, r8, r9, r10, r11, r12, r13, r14, r15, r16, r17)) :
  Calls Try.prog 10 #[.slice A0 l0.length c0] w fun e w' => e = .returned (.tuple #[.agg #[.int .i64 r1, .int .i64 r2, .string r3, .int .i64 r4, .int .i64 r5, .int .i64 r6, .string r7, .int .i64 r8, .int .i64 r9, .int .i64 r10, .string r11, .int .i64 r12, .int .i64 r13, .int .i64 r14, .int .i64 r15, .int .i64 r16], .bool r17]) ∧ Below w.heap.size w w' := by
 have hu29 := Try.underlying29
 have hu100 := Try.underlying100
 have hu25 := Try.underlying25
 have hu27 := Try.underlying27
 have HR0 := am_ hr0
 have HC0 := am_ hc0
 clear hr0 hc0
 have HB := Aside0.mk (Below.refl w.heap.size w)
 have H := h
 unfold impl_GetItem.f at H
 clear h
 replace H := bd_ H
 obtain ⟨⟨t867, t868⟩, A2, H⟩ := H
 (try dsimp only at H)
 replace H := bd_ H
 obtain ⟨⟨t870, t871⟩, A3, H⟩ := H
 (try dsimp only at H)
 replace H := bd_ H
 obtain ⟨⟨t872, t873⟩, A4, H⟩ := H
 (try dsimp only at H)
 replace H := bd_ H
 obtain ⟨⟨t874, t875⟩, A5, H⟩ := H
 (try dsimp only at H)
 replace H := bd_ H
 obtain ⟨⟨t876, t877⟩, A6, H⟩ := H
 (try dsimp only at H)
 replace H := bd_ H
 obtain ⟨⟨t878, t879⟩, A7, H⟩ := H
 (try dsimp only at H)
 have HC8 := am_ H
 clear H
 go_enter Try.func10, Try.ntmps10
 go_upto_if 29 with (first | (refine gd_ 2 rfl ?_; refine bx_ (N := 2) (cs := #[.int .i64 0, .int .i64 0, .string (⟨#[]⟩ : ByteArray), .int .i64 0, .int .i64 0, .int .i64 0, .string (⟨#[]⟩ : ByteArray), .int .i64 0, .int .i64 0, .int .i64 0, .string (⟨#[]⟩ : ByteArray), .int .i64 0, .int .i64 0, .int .i64 0, .int .i64 0, .int .i64 0]) (t := 29) ?_; intro gb865 hg w9 hbox hb; have BK865 := am_ (hbox); have GW865 := gA_ hg HB; have GE865 := GW865; have IGE865 := gI_ GE865; replace HB := bS_ HB hb; clear hb hbox hg) | (refine gd_ 13 rfl ?_; refine bx_ (N := 13) (cs := #[.slice A0 l0.length c0, .int .i64 0]) (t := 100) ?_; intro gb866 hg w10 hbox hb; have BK866 := am_ (hbox); have GW866 := gA_ hg HB; have GE866 := GW866; have IGE866 := gI_ GE866; replace HB := bS_ HB hb; have NB865_866 := am_ ((gN_ hg (qK BK865))); have NB866_865 := am_ ((gM_ hg (qK BK865))); replace BK865 := bK_ BK865 hb; clear hb hbox hg; have HI866 := Aside0.mk (show IsS100 w _ gb866 l0 0 from ⟨_, _, BK866.out, GE866.out, ⟨HR0.out, HC0.out⟩⟩); have IGHI866 := iG_ HI866.out.ge) | (refine gc_ 69 rfl ?_; refine gl_ (some 15) Try.func69 #[.pointer (some ⟨gb866, 0, none⟩)] ?_; (with_reducible refine (impl_reader_one.calls gb866 l0 0 t867 t868 w _ (IsS100.qz HI866) (qB HB) A2.out).mono ?_); rintro e w11 ⟨rfl, hi, hb, hk⟩; refine ⟨_, rfl, ?_⟩; replace BK865 := kB_ BK865 hk NB865_866; replace HB := am_ (hb); replace HI866 := am_ (hi); (try clear hb); (try clear hk); (try clear hi)) | (refine gd_ 5 rfl ?_; refine bx_ (N := 5) (cs := #[.int .i64 0, .int .i64 0, .string (⟨#[]⟩ : ByteArray), .int .i64 0, .int .i64 0, .int .i64 0, .string (⟨#[]⟩ : ByteArray), .int .i64 0, .int .i64 0, .int .i64 0, .string (⟨#[]⟩ : ByteArray), .int .i64 0, .int .i64 0, .int .i64 0, .int .i64 0, .int .i64 0]) (t := 29) ?_; intro gb869 hg w12 hbox hb; have BK869 := am_ (hbox); have GW869 := am_ ((by rw [hg]; exact (below_size (qB HB)) : w.heap.size ≤ gb869)); have IGW869 := gI_ GW869; have GE869 := am_ ((by rw [hg]; exact (below_size (qB HB)) : w.heap.size ≤ gb869)); have IGE869 := gI_ GE869; replace HB := bS_ HB hb; have NB865_869 := am_ ((gN_ hg (qK BK865))); have NB869_865 := am_ ((gM_ hg (qK BK865))); replace BK865 := bK_ BK865 hb; have NB866_869 := am_ ((by rw [hg]; exact Nat.ne_of_lt (IsS100.lt (show IsS100 w _ gb866 l0 t868 from IsS100.qz HI866)) : gb866 ≠ gb869)); have NB869_866 := am_ ((by rw [hg]; exact Nat.ne_of_gt (IsS100.lt (show IsS100 w _ gb866 l0 t868 from IsS100.qz HI866)) : gb869 ≠ gb866)); replace HI866 := am_ (IsS100.below (IsS100.qz HI866) hb); clear hb hbox hg; have hnb13 := nx_ NB869_865; have hnb14 := nx_ NB869_866; (try clear zK869); have zK869 := cf16 BK869.out) | ((with_reducible refine gate_store (t := 29) (p := 5) rfl ?_); refine store_evs (t := 29) (p := 5) (j := 0) (cs := [.int .i64 t867, .int .i64 0, .string (⟨#[]⟩ : ByteArray), .int .i64 0, .int .i64 0, .int .i64 0, .string (⟨#[]⟩ : ByteArray), .int .i64 0, .int .i64 0, .int .i64 0, .string (⟨#[]⟩ : ByteArray), .int .i64 0, .int .i64 0, .int .i64 0, .int .i64 0, .int .i64 0]) (qK BK869) ?_; intro w16 hw; replace BK865 := sK_ hw BK865 NB865_869; replace HI866 := IsS100.s_ hw HI866 NB866_869; replace HB := sB_ hw HB; replace BK869 := sW_ hw BK869; clear hw) | (refine gc_ 70 rfl ?_; refine gl_ (some 18) Try.func70 #[.pointer (some ⟨gb866, 0, none⟩)] ?_; (with_reducible refine (impl_reader_word.calls gb866 l0 t868 t870 t871 w _ (IsS100.qz HI866) (qB HB) A3.out).mono ?_); rintro e w17 ⟨rfl, hi, hb, hk⟩; refine ⟨_, rfl, ?_⟩; replace BK865 := kB_ BK865 hk NB865_866; replace BK869 := kB_ BK869 hk NB869_866; replace HB := am_ (hb); replace HI866 := am_ (hi); (try clear hb); (try clear hk); (try clear hi)) | (refine gc_ 69 rfl ?_; refine gl_ (some 20) Try.func69 #[.pointer (some ⟨gb866, 0, none⟩)] ?_; (with_reducible refine (impl_reader_one.calls gb866 l0 t871 t872 t873 w _ (IsS100.qz HI866) (qB HB) A4.out).mono ?_); rintro e w18 ⟨rfl, hi, hb, hk⟩; refine ⟨_, rfl, ?_⟩; replace BK865 := kB_ BK865 hk NB865_866; replace BK869 := kB_ BK869 hk NB869_866; replace HB := am_ (hb); replace HI866 := am_ (hi); (try clear hb); (try clear hk); (try clear hi)) | (refine gc_ 71 rfl ?_; refine gl_ (some 22) Try.func71 #[.pointer (some ⟨gb866, 0, none⟩)] ?_; (with_reducible refine (impl_reader_text.calls k gb866 l0 t873 t874 t875 w _ (IsS100.qz HI866) (qB HB) A5.out).mono ?_); rintro e w19 ⟨rfl, hi, hb, hk⟩; refine ⟨_, rfl, ?_⟩; replace BK865 := kB_ BK865 hk NB865_866; replace BK869 := kB_ BK869 hk NB869_866; replace HB := am_ (hb); replace HI866 := am_ (hi); (try clear hb); (try clear hk); (try clear hi)) | (refine gc_ 70 rfl ?_; refine gl_ (some 24) Try.func70 #[.pointer (some ⟨gb866, 0, none⟩)] ?_; (with_reducible refine (impl_reader_word.calls gb866 l0 t875 t876 t877 w _ (IsS100.qz HI866) (qB HB) A6.out).mono ?_); rintro e w20 ⟨rfl, hi, hb, hk⟩; refine ⟨_, rfl, ?_⟩; replace BK865 := kB_ BK865 hk NB865_866; replace BK869 := kB_ BK869 hk NB869_866; replace HB := am_ (hb); replace HI866 := am_ (hi); (try clear hb); (try clear hk); (try clear hi)) | (refine gc_ 72 rfl ?_; refine gl_ (some 26) Try.func72 #[.pointer (some ⟨gb866, 0, none⟩)] ?_; (with_reducible refine (impl_reader_since.calls gb866 l0 t877 t878 t879 w _ (IsS100.qz HI866) (qB HB) A7.out).mono ?_); rintro e w21 ⟨rfl, hi, hb, hk⟩; refine ⟨_, rfl, ?_⟩; replace BK865 := kB_ BK865 hk NB865_866; replace BK869 := kB_ BK869 hk NB869_866; replace HB := am_ (hb); replace HI866 := am_ (hi); (try clear hb); (try clear hk); (try clear hi); (try clear zK869); have zK869 := cf16 BK869.out))
 (try simp only [Act.put, List.setIfInBounds_toArray, List.set_cons_zero, List.set_cons_succ])
 go_cut [] (fun wc => ∃ (kq : Nat) (x870001_7 : Int) (x870002_7 : ByteArray) (x870003_7 : Int) (x870004_7 : Int) (x870005_7 : Int) (x870006_7 : ByteArray) (x870007_7 : Int) (x870008_7 : Int) (x870009_7 : Int) (x870010_7 : ByteArray) (x870011_7 : Int) (x870012_7 : Int) (x870013_7 : Int) (x870014_7 : Int) (x870015_7 : Int), Aside0 (impl_GetItem.j0 kq l0 t867 x870001_7 x870002_7 x870003_7 x870004_7 x870005_7 x870006_7 x870007_7 x870008_7 x870009_7 x870010_7 x870011_7 x870012_7 x870013_7 x870014_7 x870015_7 = some (r1, r2, r3, r4, r5, r6, r7, r8, r9, r10, r11, r12, r13, r14, r15, r16, r17)) ∧ Aside0 (kq ≤ k) ∧ Aside0 (wc.heap[gb865]? = some (.cells #[.int .i64 0, .int .i64 0, .string (⟨#[]⟩ : ByteArray), .int .i64 0, .int .i64 0, .int .i64 0, .string (⟨#[]⟩ : ByteArray), .int .i64 0, .int .i64 0, .int .i64 0, .string (⟨#[]⟩ : ByteArray), .int .i64 0, .int .i64 0, .int .i64 0, .int .i64 0, .int .i64 0] 29 (0, 0))) ∧ Aside0 (wc.heap[gb869]? = some (.cells #[.int .i64 t867, .int .i64 x870001_7, .string x870002_7, .int .i64 x870003_7, .int .i64 x870004_7, .int .i64 x870005_7, .string x870006_7, .int .i64 x870007_7, .int .i64 x870008_7, .int .i64 x870009_7, .string x870010_7, .int .i64 x870011_7, .int .i64 x870012_7, .int .i64 x870013_7, .int .i64 x870014_7, .int .i64 x870015_7] 29 (0, 0))) ∧ Aside0 (Below w.heap.size w wc))
 case first =>
  have H := HC8.out
  clear HC8
  replace H := ie_ H
  obtain ⟨-, H, c23b0, c23b1⟩ | ⟨c23, H, c23b0, c23b1⟩ := H
  rotate_left
  ·
   (first | rw [c23b0] | rw [c23b1] | (simp only [i64_w, i32_w]; rw [c23b0]) | skip)
   replace H := bd_ H
   obtain ⟨⟨t886, t887⟩, A35, H⟩ := H
   (try dsimp only at H)
   replace H := bd_ H
   obtain ⟨⟨t888, t889⟩, A36, H⟩ := H
   (try dsimp only at H)
   have H' := Aside0.mk H
   clear H
   go_wp2_with (first | (refine gc_ 70 rfl ?_; refine gl_ (some 53) Try.func70 #[.pointer (some ⟨gb866, 0, none⟩)] ?_; (with_reducible refine (impl_reader_word.calls gb866 l0 t879 t886 t887 w _ (IsS100.qz HI866) (qB HB) A35.out).mono ?_); rintro e w37 ⟨rfl, hi, hb, hk⟩; refine ⟨_, rfl, ?_⟩; replace BK865 := kB_ BK865 hk NB865_866; replace BK869 := kB_ BK869 hk NB869_866; replace HB := am_ (hb); replace HI866 := am_ (hi); (try clear hb); (try clear hk); (try clear hi); have hnb38 := nx_ NB869_865; have hnb39 := nx_ NB869_866; (try clear zK869); have zK869 := cf16 BK869.out) | (refine gc_ 70 rfl ?_; refine gl_ (some 57) Try.func70 #[.pointer (some ⟨gb866, 0, none⟩)] ?_; (with_reducible refine (impl_reader_word.calls gb866 l0 t887 t888 t889 w _ (IsS100.qz HI866) (qB HB) A36.out).mono ?_); rintro e w41 ⟨rfl, hi, hb, hk⟩; refine ⟨_, rfl, ?_⟩; replace BK865 := fk_ BK865 hk NB865_866; replace BK869 := am_ (KeepBut.blk hk (g' := gb869) (o := .cells #[.int .i64 t867, .int .i64 0, .string (⟨#[]⟩ : ByteArray), .int .i64 0, .int .i64 0, .int .i64 0, .string (⟨#[]⟩ : ByteArray), .int .i64 0, .int .i64 0, .int .i64 t870, .string t874, .int .i64 t876, .int .i64 t872, .int .i64 t878, .int .i64 t886, .int .i64 0] 29 (0, 0)) (by (with_reducible repeat (first | refine blk_drewN ?_ _ | refine blk_drew ?_ | refine blk_alloc ?_ _)); refine blk_put (cs := #[.int .i64 t867, .int .i64 0, .string (⟨#[]⟩ : ByteArray), .int .i64 0, .int .i64 0, .int .i64 0, .string (⟨#[]⟩ : ByteArray), .int .i64 0, .int .i64 0, .int .i64 t870, .string t874, .int .i64 t876, .int .i64 t872, .int .i64 t878, .int .i64 t886, .int .i64 0]) ?_ 15 _ rfl; (with_reducible repeat (first | refine blk_drewN ?_ _ | refine blk_drew ?_ | refine blk_alloc ?_ _)); refine blk_put (cs := #[.int .i64 t867, .int .i64 0, .string (⟨#[]⟩ : ByteArray), .int .i64 0, .int .i64 0, .int .i64 0, .string (⟨#[]⟩ : ByteArray), .int .i64 0, .int .i64 0, .int .i64 t870, .string t874, .int .i64 t876, .int .i64 t872, .int .i64 t878, .int .i64 0, .int .i64 0]) ?_ 14 _ rfl; (with_reducible repeat (first | refine blk_drewN ?_ _ | refine blk_drew ?_ | refine blk_alloc ?_ _)); refine blk_put (cs := #[.int .i64 t867, .int .i64 0, .string (⟨#[]⟩ : ByteArray), .int .i64 0, .int .i64 0, .int .i64 0, .string (⟨#[]⟩ : ByteArray), .int .i64 0, .int .i64 0, .int .i64 t870, .string t874, .int .i64 t876, .int .i64 t872, .int .i64 0, .int .i64 0, .int .i64 0]) ?_ 13 _ rfl; (with_reducible repeat (first | refine blk_drewN ?_ _ | refine blk_drew ?_ | refine blk_alloc ?_ _)); refine blk_put (cs := #[.int .i64 t867, .int .i64 0, .string (⟨#[]⟩ : ByteArray), .int .i64 0, .int .i64 0, .int .i64 0, .string (⟨#[]⟩ : ByteArray), .int .i64 0, .int .i64 0, .int .i64 t870, .string t874, .int .i64 t876, .int .i64 0, .int .i64 0, .int .i64 0, .int .i64 0]) ?_ 12 _ rfl; (with_reducible repeat (first | refine blk_drewN ?_ _ | refine blk_drew ?_ | refine blk_alloc ?_ _)); refine blk_put (cs := #[.int .i64 t867, .int .i64 0, .string (⟨#[]⟩ : ByteArray), .int .i64 0, .int .i64 0, .int .i64 0, .string (⟨#[]⟩ : ByteArray), .int .i64 0, .int .i64 0, .int .i64 t870, .string t874, .int .i64 0, .int .i64 0, .int .i64 0, .int .i64 0, .int .i64 0]) ?_ 11 _ rfl; (with_reducible repeat (first | refine blk_drewN ?_ _ | refine blk_drew ?_ | refine blk_alloc ?_ _)); refine blk_put (cs := #[.int .i64 t867, .int .i64 0, .string (⟨#[]⟩ : ByteArray), .int .i64 0, .int .i64 0, .int .i64 0, .string (⟨#[]⟩ : ByteArray), .int .i64 0, .int .i64 0, .int .i64 t870, .string (⟨#[]⟩ : ByteArray), .int .i64 0, .int .i64 0, .int .i64 0, .int .i64 0, .int .i64 0]) ?_ 10 _ rfl; (with_reducible repeat (first | refine blk_drewN ?_ _ | refine blk_drew ?_ | refine blk_alloc ?_ _)); refine blk_put (cs := #[.int .i64 t867, .int .i64 0, .string (⟨#[]⟩ : ByteArray), .int .i64 0, .int .i64 0, .int .i64 0, .string (⟨#[]⟩ : ByteArray), .int .i64 0, .int .i64 0, .int .i64 0, .string (⟨#[]⟩ : ByteArray), .int .i64 0, .int .i64 0, .int .i64 0, .int .i64 0, .int .i64 0]) ?_ 9 _ rfl; exact qK BK869) NB869_866.out (by simp)); replace HB := am_ (hb); replace HI866 := am_ (hi); (try clear hb); (try clear hk); (try clear hi); (try clear zK869); have zK869 := cf16 BK869.out))
   go_meet
   case rel => exact ⟨_, (0), ((⟨#[]⟩ : ByteArray)), (0), (0), (0), ((⟨#[]⟩ : ByteArray)), (0), (0), (t870), (t874), (t876), (t872), (t878), (t886), (t888), H', ⟨by first | omega | exact Nat.le_refl _⟩, ⟨by (with_reducible repeat (first | refine blk_drewN ?_ _ | refine blk_drew ?_ | refine blk_alloc ?_ _)); refine blk_far ?_ NB865_869.out _; exact qK BK865⟩, ⟨by (with_reducible repeat (first | refine blk_drewN ?_ _ | refine blk_drew ?_ | refine blk_alloc ?_ _)); refine blk_put (cs := #[.int .i64 t867, .int .i64 0, .string (⟨#[]⟩ : ByteArray), .int .i64 0, .int .i64 0, .int .i64 0, .string (⟨#[]⟩ : ByteArray), .int .i64 0, .int .i64 0, .int .i64 t870, .string t874, .int .i64 t876, .int .i64 t872, .int .i64 t878, .int .i64 t886, .int .i64 0]) ?_ 15 _ rfl; exact qK BK869⟩, ⟨qB HB⟩⟩
  (first | rw [c23b0] | rw [c23b1] | (simp only [i64_w, i32_w]; rw [c23b0]) | skip)
  replace H := bd_ H
  obtain ⟨⟨t880, t881⟩, A24, H⟩ := H
  (try dsimp only at H)
  replace H := bd_ H
  obtain ⟨⟨t882, t883⟩, A25, H⟩ := H
  (try dsimp only at H)
  replace H := bd_ H
  obtain ⟨⟨t884, t885⟩, A26, H⟩ := H
  (try dsimp only at H)
  have H' := Aside0.mk H
  clear H
  go_wp2_with (first | (refine gc_ 71 rfl ?_; refine gl_ (some 36) Try.func71 #[.pointer (some ⟨gb866, 0, none⟩)] ?_; (with_reducible refine (impl_reader_text.calls k gb866 l0 t879 t880 t881 w _ (IsS100.qz HI866) (qB HB) A24.out).mono ?_); rintro e w27 ⟨rfl, hi, hb, hk⟩; refine ⟨_, rfl, ?_⟩; replace BK865 := kB_ BK865 hk NB865_866; replace BK869 := kB_ BK869 hk NB869_866; replace HB := am_ (hb); replace HI866 := am_ (hi); (try clear hb); (try clear hk); (try clear hi); have hnb28 := nx_ NB869_865; have hnb29 := nx_ NB869_866; (try clear zK869); have zK869 := cf16 BK869.out) | (refine gc_ 70 rfl ?_; refine gl_ (some 40) Try.func70 #[.pointer (some ⟨gb866, 0, none⟩)] ?_; (with_reducible refine (impl_reader_word.calls gb866 l0 t881 t882 t883 w _ (IsS100.qz HI866) (qB HB) A25.out).mono ?_); rintro e w31 ⟨rfl, hi, hb, hk⟩; refine ⟨_, rfl, ?_⟩; replace BK865 := fk_ BK865 hk NB865_866; replace BK869 := am_ (KeepBut.blk hk (g' := gb869) (o := .cells #[.int .i64 t867, .int .i64 t870, .string t874, .int .i64 t872, .int .i64 t876, .int .i64 t878, .string t880, .int .i64 0, .int .i64 0, .int .i64 0, .string (⟨#[]⟩ : ByteArray), .int .i64 0, .int .i64 0, .int .i64 0, .int .i64 0, .int .i64 0] 29 (0, 0)) (by (with_reducible repeat (first | refine blk_drewN ?_ _ | refine blk_drew ?_ | refine blk_alloc ?_ _)); refine blk_put (cs := #[.int .i64 t867, .int .i64 t870, .string t874, .int .i64 t872, .int .i64 t876, .int .i64 t878, .string t880, .int .i64 0, .int .i64 0, .int .i64 0, .string (⟨#[]⟩ : ByteArray), .int .i64 0, .int .i64 0, .int .i64 0, .int .i64 0, .int .i64 0]) ?_ 8 _ rfl; (with_reducible repeat (first | refine blk_drewN ?_ _ | refine blk_drew ?_ | refine blk_alloc ?_ _)); refine blk_put (cs := #[.int .i64 t867, .int .i64 t870, .string t874, .int .i64 t872, .int .i64 t876, .int .i64 t878, .string t880, .int .i64 0, .int .i64 0, .int .i64 0, .string (⟨#[]⟩ : ByteArray), .int .i64 0, .int .i64 0, .int .i64 0, .int .i64 0, .int .i64 0]) ?_ 7 _ rfl; (with_reducible repeat (first | refine blk_drewN ?_ _ | refine blk_drew ?_ | refine blk_alloc ?_ _)); refine blk_put (cs := #[.int .i64 t867, .int .i64 t870, .string t874, .int .i64 t872, .int .i64 t876, .int .i64 t878, .string (⟨#[]⟩ : ByteArray), .int .i64 0, .int .i64 0, .int .i64 0, .string (⟨#[]⟩ : ByteArray), .int .i64 0, .int .i64 0, .int .i64 0, .int .i64 0, .int .i64 0]) ?_ 6 _ rfl; (with_reducible repeat (first | refine blk_drewN ?_ _ | refine blk_drew ?_ | refine blk_alloc ?_ _)); refine blk_put (cs := #[.int .i64 t867, .int .i64 t870, .string t874, .int .i64 t872, .int .i64 t876, .int .i64 0, .string (⟨#[]⟩ : ByteArray), .int .i64 0, .int .i64 0, .int .i64 0, .string (⟨#[]⟩ : ByteArray), .int .i64 0, .int .i64 0, .int .i64 0, .int .i64 0, .int .i64 0]) ?_ 5 _ rfl; (with_reducible repeat (first | refine blk_drewN ?_ _ | refine blk_drew ?_ | refine blk_alloc ?_ _)); refine blk_put (cs := #[.int .i64 t867, .int .i64 t870, .string t874, .int .i64 t872, .int .i64 0, .int .i64 0, .string (⟨#[]⟩ : ByteArray), .int .i64 0, .int .i64 0, .int .i64 0, .string (⟨#[]⟩ : ByteArray), .int .i64 0, .int .i64 0, .int .i64 0, .int .i64 0, .int .i64 0]) ?_ 4 _ rfl; (with_reducible repeat (first | refine blk_drewN ?_ _ | refine blk_drew ?_ | refine blk_alloc ?_ _)); refine blk_put (cs := #[.int .i64 t867, .int .i64 t870, .string t874, .int .i64 0, .int .i64 0, .int .i64 0, .string (⟨#[]⟩ : ByteArray), .int .i64 0, .int .i64 0, .int .i64 0, .string (⟨#[]⟩ : ByteArray), .int .i64 0, .int .i64 0, .int .i64 0, .int .i64 0, .int .i64 0]) ?_ 3 _ rfl; (with_reducible repeat (first | refine blk_drewN ?_ _ | refine blk_drew ?_ | refine blk_alloc ?_ _)); refine blk_put (cs := #[.int .i64 t867, .int .i64 t870, .string (⟨#[]⟩ : ByteArray), .int .i64 0, .int .i64 0, .int .i64 0, .string (⟨#[]⟩ : ByteArray), .int .i64 0, .int .i64 0, .int .i64 0, .string (⟨#[]⟩ : ByteArray), .int .i64 0, .int .i64 0, .int .i64 0, .int .i64 0, .int .i64 0]) ?_ 2 _ rfl; (with_reducible repeat (first | refine blk_drewN ?_ _ | refine blk_drew ?_ | refine blk_alloc ?_ _)); refine blk_put (cs := #[.int .i64 t867, .int .i64 0, .string (⟨#[]⟩ : ByteArray), .int .i64 0, .int .i64 0, .int .i64 0, .string (⟨#[]⟩ : ByteArray), .int .i64 0, .int .i64 0, .int .i64 0, .string (⟨#[]⟩ : ByteArray), .int .i64 0, .int .i64 0, .int .i64 0, .int .i64 0, .int .i64 0]) ?_ 1 _ rfl; exact qK BK869) NB869_866.out (by simp)); replace HB := am_ (hb); replace HI866 := am_ (hi); (try clear hb); (try clear hk); (try clear hi); (try clear zK869); have zK869 := cf16 BK869.out) | (refine gc_ 70 rfl ?_; refine gl_ (some 44) Try.func70 #[.pointer (some ⟨gb866, 0, none⟩)] ?_; (with_reducible refine (impl_reader_word.calls gb866 l0 t883 t884 t885 w _ (IsS100.qz HI866) (qB HB) A26.out).mono ?_); rintro e w33 ⟨rfl, hi, hb, hk⟩; refine ⟨_, rfl, ?_⟩; replace BK865 := fk_ BK865 hk NB865_866; replace BK869 := am_ (KeepBut.blk hk (g' := gb869) (o := .cells #[.int .i64 t867, .int .i64 t870, .string t874, .int .i64 t872, .int .i64 t876, .int .i64 t878, .string t880, .int .i64 t882, .int .i64 0, .int .i64 0, .string (⟨#[]⟩ : ByteArray), .int .i64 0, .int .i64 0, .int .i64 0, .int .i64 0, .int .i64 0] 29 (0, 0)) (by (with_reducible repeat (first | refine blk_drewN ?_ _ | refine blk_drew ?_ | refine blk_alloc ?_ _)); refine blk_put (cs := #[.int .i64 t867, .int .i64 t870, .string t874, .int .i64 t872, .int .i64 t876, .int .i64 t878, .string t880, .int .i64 0, .int .i64 0, .int .i64 0, .string (⟨#[]⟩ : ByteArray), .int .i64 0, .int .i64 0, .int .i64 0, .int .i64 0, .int .i64 0]) ?_ 7 _ rfl; exact qK BK869) NB869_866.out (by simp)); replace HB := am_ (hb); replace HI866 := am_ (hi); (try clear hb); (try clear hk); (try clear hi); (try clear zK869); have zK869 := cf16 BK869.out))
  go_meet
  case rel => exact ⟨_, (t870), (t874), (t872), (t876), (t878), (t880), (t882), (t884), (0), ((⟨#[]⟩ : ByteArray)), (0), (0), (0), (0), (0), H', ⟨by first | omega | exact Nat.le_refl _⟩, ⟨by (with_reducible repeat (first | refine blk_drewN ?_ _ | refine blk_drew ?_ | refine blk_alloc ?_ _)); refine blk_far ?_ NB865_869.out _; exact qK BK865⟩, ⟨by (with_reducible repeat (first | refine blk_drewN ?_ _ | refine blk_drew ?_ | refine blk_alloc ?_ _)); refine blk_put (cs := #[.int .i64 t867, .int .i64 t870, .string t874, .int .i64 t872, .int .i64 t876, .int .i64 t878, .string t880, .int .i64 t882, .int .i64 0, .int .i64 0, .string (⟨#[]⟩ : ByteArray), .int .i64 0, .int .i64 0, .int .i64 0, .int .i64 0, .int .i64 0]) ?_ 8 _ rfl; exact qK BK869⟩, ⟨qB HB⟩⟩
 case rest =>
  clear HC8
  try clear c1
  try clear c2
  try clear p2
  try clear c3
  try clear c6
  try clear c7
  try clear c10
  try clear c13
  try clear c14
  try clear c23
  try clear c23b0
  try clear c23b1
  try clear c28
  try clear c29
  try clear c38
  try clear c39
  (try clear zK869)
  (try clear zK869)
  (try clear zK869)
  (try clear zK869)
  (try clear zK869)
  (try clear zK869)
  (try clear zK869)
  (try clear fK869)
  (try clear fK869)
  (try clear fK869)
  (try clear fK869)
  (try clear fK869)
  (try clear fK869)
  (try clear fK869)
  obtain ⟨kq, x870001_7, x870002_7, x870003_7, x870004_7, x870005_7, x870006_7, x870007_7, x870008_7, x870009_7, x870010_7, x870011_7, x870012_7, x870013_7, x870014_7, x870015_7, HA, HJ7, BK865, BK869, HB⟩ := hcut
  cases kq with
  | zero => exact absurd HA.out (by simp [impl_GetItem.j0])
  | succ kj7 =>
   have H := HA.out
   clear HA
   simp only [impl_GetItem.j0] at H
   replace H := ie_ H
   obtain ⟨-, H, c43b0, c43b1⟩ | ⟨c43, H, c43b0, c43b1⟩ := H
   ·
    simp only [Option.some.injEq, Prod.mk.injEq] at H
    obtain ⟨rfl, rfl, rfl, rfl, rfl, rfl, rfl, rfl, rfl, rfl, rfl, rfl, rfl, rfl, rfl, rfl, rfl⟩ := H
    have hnb44 := nx_ NB865_869
    (try clear zK865)
    have zK865 := cf16 BK865.out
    go_wp2_with (first | ((with_reducible refine gate_store (t := 29) (p := 2) rfl ?_); refine store_evs (t := 29) (p := 2) (j := 0) (cs := [.int .i64 0, .int .i64 0, .string (⟨#[]⟩ : ByteArray), .int .i64 0, .int .i64 0, .int .i64 0, .string (⟨#[]⟩ : ByteArray), .int .i64 0, .int .i64 0, .int .i64 0, .string (⟨#[]⟩ : ByteArray), .int .i64 0, .int .i64 0, .int .i64 0, .int .i64 0, .int .i64 0]) (qK BK865) ?_; intro w46 hw; replace BK869 := sK_ hw BK869 NB869_865; replace HB := sB_ hw HB; replace BK865 := sW_ hw BK865; clear hw))
    refine bodyPost_ret (results_ct rfl _ _ gb865 29 #[.int .i64 0, .int .i64 0, .string (⟨#[]⟩ : ByteArray), .int .i64 0, .int .i64 0, .int .i64 0, .string (⟨#[]⟩ : ByteArray), .int .i64 0, .int .i64 0, .int .i64 0, .string (⟨#[]⟩ : ByteArray), .int .i64 0, .int .i64 0, .int .i64 0, .int .i64 0, .int .i64 0] (0, 0) _ rfl (qK BK865) Try.underlying29 rfl (by kernel_rfl)) rfl ?_
    exact ⟨er_, qB HB⟩
   have c43b2 : ¬ (l0 = []) := fun h_ => c43 (by rw [h_]; rfl)
   replace H := bd_ H
   obtain ⟨t890, A47, H⟩ := H
   replace H := bd_ H
   obtain ⟨t893, A48, H⟩ := H
   have HC49 := am_ H
   clear H
   have hnb50 := nx_ NB869_865
   (try clear zK869)
   have zK869 := cf16 BK869.out
   go_upto_if 69 with (first | (go_at_call 9; (with_reducible refine (impl_PutItem.calls kj7 t867 x870001_7 x870002_7 x870003_7 x870004_7 x870005_7 x870006_7 x870007_7 x870008_7 x870009_7 x870010_7 x870011_7 x870012_7 x870013_7 x870014_7 x870015_7 t890 _ A47.out).mono ?_); rintro e w52 ⟨v891, rfl, ho0, hb⟩; have HO892 := am_ (Kd.R_lower ho0 (below_size (qB HB))); replace BK865 := bK_ BK865 hb; replace BK869 := bK_ BK869 hb; replace HB := bS_ HB hb; (try clear hb); (try clear ho0); obtain ⟨Ao53, co53, eo53⟩ := Kd.R_slice HO892.out; subst eo53) | (go_at_call 73; (with_reducible refine (bytes_Equal.calls _ _ t890 _ _ l0 t893 _ (rC_ HO892) ((rL_ HO892)) ?side3 ?side4 A48.out).mono ?_); (case side3 => exact qC (Kd.C_below HR0.out HB.out)); (case side4 => exact HC0.out); rintro e w' ⟨rfl, ⟨nd, rfl⟩⟩))
   (try simp only [Act.put, List.setIfInBounds_toArray, List.set_cons_zero, List.set_cons_succ])
   (try (rw [drewN_self w52]; generalize hq_ : World.drewN w52 _ = w52; have n0_ : Aside0 (Kd.R (Kd.int .u8) 5 w52 w.heap.size (fun _ => True) (.slice Ao53 t890.length co53) t890) := ⟨by rw [← hq_]; exact (qR HO892)⟩; have n1_ : Aside0 (w52.heap[gb865]? = some (.cells #[.int .i64 0, .int .i64 0, .string (⟨#[]⟩ : ByteArray), .int .i64 0, .int .i64 0, .int .i64 0, .string (⟨#[]⟩ : ByteArray), .int .i64 0, .int .i64 0, .int .i64 0, .string (⟨#[]⟩ : ByteArray), .int .i64 0, .int .i64 0, .int .i64 0, .int .i64 0, .int .i64 0] 29 (0, 0))) := ⟨by rw [← hq_]; exact (qK BK865)⟩; have n2_ : Aside0 (w52.heap[gb869]? = some (.cells #[.int .i64 t867, .int .i64 x870001_7, .string x870002_7, .int .i64 x870003_7, .int .i64 x870004_7, .int .i64 x870005_7, .string x870006_7, .int .i64 x870007_7, .int .i64 x870008_7, .int .i64 x870009_7, .string x870010_7, .int .i64 x870011_7, .int .i64 x870012_7, .int .i64 x870013_7, .int .i64 x870014_7, .int .i64 x870015_7] 29 (0, 0))) := ⟨by rw [← hq_]; exact (qK BK869)⟩; have n3_ : Aside0 (Below w.heap.size w w52) := ⟨by rw [← hq_]; exact (qB HB)⟩; clear HO892 BK865 BK869 HB hq_; have HO892 := n0_; have BK865 := n1_; have BK869 := n2_; have HB := n3_; clear n0_ n1_ n2_ n3_))
   have H := HC49.out
   clear HC49
   by_cases c54 : t893 = true
   rotate_left
   ·
    replace c54 := nf_ c54
    subst c54
    rw [if_neg (show ¬ (false = true) by decide)] at H
    simp only [Option.some.injEq, Prod.mk.injEq] at H
    obtain ⟨rfl, rfl, rfl, rfl, rfl, rfl, rfl, rfl, rfl, rfl, rfl, rfl, rfl, rfl, rfl, rfl, rfl⟩ := H
    have hnb59 := nx_ NB865_869
    (try clear zK865)
    have zK865 := cf16 BK865.out
    go_wp2_with (first | ((with_reducible refine gate_store (t := 29) (p := 2) rfl ?_); refine store_evs (t := 29) (p := 2) (j := 0) (cs := [.int .i64 0, .int .i64 0, .string (⟨#[]⟩ : ByteArray), .int .i64 0, .int .i64 0, .int .i64 0, .string (⟨#[]⟩ : ByteArray), .int .i64 0, .int .i64 0, .int .i64 0, .string (⟨#[]⟩ : ByteArray), .int .i64 0, .int .i64 0, .int .i64 0, .int .i64 0, .int .i64 0]) (qK BK865) ?_; intro w61 hw; have n0_ := fR0_ hw HO892 BK865; replace BK869 := sK_ hw BK869 NB869_865; replace HB := sB_ hw HB; replace BK865 := sW_ hw BK865; clear hw; clear HO892; have HO892 := n0_; clear n0_))
    refine bodyPost_ret (results_ct rfl _ _ gb865 29 #[.int .i64 0, .int .i64 0, .string (⟨#[]⟩ : ByteArray), .int .i64 0, .int .i64 0, .int .i64 0, .string (⟨#[]⟩ : ByteArray), .int .i64 0, .int .i64 0, .int .i64 0, .string (⟨#[]⟩ : ByteArray), .int .i64 0, .int .i64 0, .int .i64 0, .int .i64 0, .int .i64 0] (0, 0) _ rfl (qK BK865) Try.underlying29 rfl (by kernel_rfl)) rfl ?_
    exact ⟨er_, qB HB⟩
   subst c54
   rw [if_pos rfl] at H
   simp only [Option.some.injEq, Prod.mk.injEq] at H
   obtain ⟨rfl, rfl, rfl, rfl, rfl, rfl, rfl, rfl, rfl, rfl, rfl, rfl, rfl, rfl, rfl, rfl, rfl⟩ := H
   have hnb55 := nx_ NB869_865
   (try clear zK869)
   have zK869 := cf16 BK869.out
   (try clear zK865)
   have zK865 := cf16 BK865.out
   go_wp2_with (first | ((with_reducible refine gate_store (t := 29) (p := 2) rfl ?_); refine store_evs (t := 29) (p := 2) (j := 0) (cs := [.int .i64 t867, .int .i64 x870001_7, .string x870002_7, .int .i64 x870003_7, .int .i64 x870004_7, .int .i64 x870005_7, .string x870006_7, .int .i64 x870007_7, .int .i64 x870008_7, .int .i64 x870009_7, .string x870010_7, .int .i64 x870011_7, .int .i64 x870012_7, .int .i64 x870013_7, .int .i64 x870014_7, .int .i64 x870015_7]) (qK BK865) ?_; intro w58 hw; have n0_ := fR0_ hw HO892 BK865; replace HB := sB_ hw HB; replace BK865 := sW_ hw BK865; clear hw; clear HO892; have HO892 := n0_; clear n0_))
   refine bodyPost_ret (results_ct rfl _ _ gb865 29 #[.int .i64 t867, .int .i64 x870001_7, .string x870002_7, .int .i64 x870003_7, .int .i64 x870004_7, .int .i64 x870005_7, .string x870006_7, .int .i64 x870007_7, .int .i64 x870008_7, .int .i64 x870009_7, .string x870010_7, .int .i64 x870011_7, .int .i64 x870012_7, .int .i64 x870013_7, .int .i64 x870014_7, .int .i64 x870015_7] (0, 0) _ rfl (qK BK865) Try.underlying29 rfl (by kernel_rfl)) rfl ?_
   exact ⟨er_, qB HB⟩

end Go.Proofs.Ytiffahfpfgnjnaa.PFnCtls
