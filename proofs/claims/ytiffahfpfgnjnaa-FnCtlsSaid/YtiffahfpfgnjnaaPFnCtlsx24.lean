-- Written by a program of this session (myprint.py, over the kit's print): contracts of FnCtls
import Derived.Test.YtiffahfpfgnjnaaPFnCtlsx17
import Derived.Test.YtiffahfpfgnjnaaPFnCtlsx23
namespace Go.Proofs.Ytiffahfpfgnjnaa.PFnCtls
open Go.RowKit Go.Proofs.YtiffahfpfgnjnaaW.PrintWords Go.Proofs.YtiffahfpfgnjnaaW.PrintLast Go.Proofs.YtiffahfpfgnjnaaW.PrintMore Go.Proofs.YtiffahfpfgnjnaaV
attribute [local go_sem] max2_int min2_int max_two min_two max_three min_three max_four min_four
set_option linter.unusedVariables false
set_option linter.unusedSimpArgs false

/-! ### spec_GetItem: function 12 -/
def spec_GetItem.j0 : Nat → List Int → List Int → Int → Bool → Int → Int → ByteArray → Int → Int → Int → ByteArray → Int → Int → Int → ByteArray → Int → Int → Int → Int → Int → Option (Int × Int × ByteArray × Int × Int × Int × ByteArray × Int × Int × Int × ByteArray × Int × Int × Int × Int × Int × Bool)
 | 0, _, _, _, _, _, _, _, _, _, _, _, _, _, _, _, _, _, _, _, _ => none
 | k + 1, x0, x956000, x956001, x956002, x960000, x960001, x960002, x960003, x960004, x960005, x960006, x960007, x960008, x960009, x960010, x960011, x960012, x960013, x960014, x960015 => if x956002 = true then (some (0, 0, (⟨#[]⟩ : ByteArray), 0, 0, 0, (⟨#[]⟩ : ByteArray), 0, 0, 0, (⟨#[]⟩ : ByteArray), 0, 0, 0, 0, 0, false)) else ((spec_PutItem.f k x960000 x960001 x960002 x960003 x960004 x960005 x960006 x960007 x960008 x960009 x960010 x960011 x960012 x960013 x960014 x960015).bind fun t1011 => ((spec_l1Same.f t1011 x0).bind fun t1014 => (if t1014 = true then (some (x960000, x960001, x960002, x960003, x960004, x960005, x960006, x960007, x960008, x960009, x960010, x960011, x960012, x960013, x960014, x960015, true)) else (some (0, 0, (⟨#[]⟩ : ByteArray), 0, 0, 0, (⟨#[]⟩ : ByteArray), 0, 0, 0, (⟨#[]⟩ : ByteArray), 0, 0, 0, 0, 0, false)))))
def spec_GetItem.f (k : Nat) (l0 : List Int) : Option (Int × Int × ByteArray × Int × Int × Int × ByteArray × Int × Int × Int × ByteArray × Int × Int × Int × Int × Int × Bool) := (spec_l9Byte.f l0 0 false).bind fun bt956 => (if bt956.1 = 1 then ((spec_l9Word.f l0 bt956.2.1 bt956.2.2).bind fun bt960 => ((spec_l9Byte.f l0 bt960.2.1 bt960.2.2).bind fun bt963 => ((spec_l9Text.f k l0 bt963.2.1 bt963.2.2).bind fun bt966 => ((spec_l9Word.f l0 bt966.2.1 bt966.2.2).bind fun bt969 => ((spec_l9Word.f l0 bt969.2.1 bt969.2.2).bind fun bt972 => ((spec_l9Byte.f l0 bt972.2.1 bt972.2.2).bind fun bt975 => ((spec_l9Text.f k l0 bt975.2.1 bt975.2.2).bind fun bt978 => ((spec_l9Word.f l0 bt978.2.1 bt978.2.2).bind fun bt981 => ((spec_l9Word.f l0 bt981.2.1 bt981.2.2).bind fun bt984 => (spec_GetItem.j0 k l0 l0 bt984.2.1 bt984.2.2 bt956.1 bt960.1 bt966.1 bt963.1 bt969.1 (wrap64 ((wrap64 (256 * bt972.1)) + bt975.1)) bt978.1 bt981.1 bt984.1 0 (⟨#[]⟩ : ByteArray) 0 0 0 0 0)))))))))) else ((spec_l9Word.f l0 bt956.2.1 bt956.2.2).bind fun bt987 => ((spec_l9Byte.f l0 bt987.2.1 bt987.2.2).bind fun bt990 => ((spec_l9Text.f k l0 bt990.2.1 bt990.2.2).bind fun bt993 => ((spec_l9Word.f l0 bt993.2.1 bt993.2.2).bind fun bt996 => ((spec_l9Word.f l0 bt996.2.1 bt996.2.2).bind fun bt999 => ((spec_l9Byte.f l0 bt999.2.1 bt999.2.2).bind fun bt1002 => ((spec_l9Word.f l0 bt1002.2.1 bt1002.2.2).bind fun bt1005 => ((spec_l9Word.f l0 bt1005.2.1 bt1005.2.2).bind fun bt1008 => (spec_GetItem.j0 k l0 l0 bt1008.2.1 bt1008.2.2 bt956.1 0 (⟨#[]⟩ : ByteArray) 0 0 0 (⟨#[]⟩ : ByteArray) 0 0 bt987.1 bt993.1 bt996.1 bt990.1 (wrap64 ((wrap64 (256 * bt999.1)) + bt1002.1)) bt1005.1 bt1008.1))))))))))
theorem spec_GetItem.mono_l : ∀ k, (∀ y0 y1 y2 y3 y4 y5 y6 y7 y8 y9 y10 y11 y12 y13 y14 y15 y16 y17 y18 y19, LeO (spec_GetItem.j0 k y0 y1 y2 y3 y4 y5 y6 y7 y8 y9 y10 y11 y12 y13 y14 y15 y16 y17 y18 y19) (spec_GetItem.j0 (k + 1) y0 y1 y2 y3 y4 y5 y6 y7 y8 y9 y10 y11 y12 y13 y14 y15 y16 y17 y18 y19))
 | 0 => fun _ _ _ _ _ _ _ _ _ _ _ _ _ _ _ _ _ _ _ _ r h => by simp [spec_GetItem.j0] at h
 | k + 1 => by
  have ih0 := spec_GetItem.mono_l k
  ·
   intro y0 y1 y2 y3 y4 y5 y6 y7 y8 y9 y10 y11 y12 y13 y14 y15 y16 y17 y18 y19
   unfold spec_GetItem.j0
   have m0 := @spec_PutItem.mono; have m1 := @spec_l9Text.mono; exact mo_
theorem spec_GetItem.mono : ∀ a0 k, LeO (spec_GetItem.f k a0) (spec_GetItem.f (k + 1) a0) := by
 intro a0 k
 have ih0 := spec_GetItem.mono_l k
 unfold spec_GetItem.f
 have m0 := @spec_PutItem.mono; have m1 := @spec_l9Text.mono; exact mo_
def spec_GetItem.T9 : Bool × List (List Nat × List Nat) := (true, [([], []), ([0], [0]), ([1], [1]), ([], []), ([3], [3]), ([2, 4], [2, 4]), ([0, 1, 2, 3, 4, 5], []), ([6, 0, 1, 2, 3, 4, 5], [6]), ([7, 5, 4, 0, 1, 2, 3, 4, 5], [5, 7])])
def spec_GetItem.B9 : List Nat := [0, 1, 3, 0, 8, 31, 63, 127, 255]
theorem spec_GetItem.tab9 : rtab .any (opsOf Try.f12 9) = spec_GetItem.T9 := by kernel_rfl
theorem spec_GetItem.bits9 : waitsOk spec_GetItem.T9.2 spec_GetItem.B9 = true := by kernel_rfl
def spec_GetItem.T18 : Bool × List (List Nat × List Nat) := (true, [([], []), ([0], [0]), ([1], [1]), ([], []), ([3], [3]), ([2, 4], [2, 4]), ([0, 1, 2, 3, 4, 5], []), ([6, 0, 1, 2, 3, 4, 5], [6]), ([7, 5, 4, 0, 1, 2, 3, 4, 5], [5, 7])])
def spec_GetItem.B18 : List Nat := [0, 1, 3, 0, 8, 31, 63, 127, 255]
theorem spec_GetItem.tab18 : rtab .any (opsOf Try.f12 18) = spec_GetItem.T18 := by kernel_rfl
theorem spec_GetItem.bits18 : waitsOk spec_GetItem.T18.2 spec_GetItem.B18 = true := by kernel_rfl
set_option maxHeartbeats 8000000 in
set_option maxRecDepth 100000 in
theorem spec_GetItem.calls (k : Nat) (A0 : Option Addr) (c0 : Nat) (l0 : List Int) (r1 : Int) (r2 : Int) (r3 : ByteArray) (r4 : Int) (r5 : Int) (r6 : Int) (r7 : ByteArray) (r8 : Int) (r9 : Int) (r10 : Int) (r11 : ByteArray) (r12 : Int) (r13 : Int) (r14 : Int) (r15 : Int) (r16 : Int) (r17 : Bool) (w : World) (hr0 : Kd.C (Kd.int .u8) w A0 l0.length l0) (hc0 : l0.length ≤ c0) (h : spec_GetItem.f k l0 = some (r1, r2, r3, r4, r5, r6, r7, r8, r9, r10, r11, r12, r13, r14, r15, r16, r17)) :
  Calls Try.prog 12 #[.slice A0 l0.length c0] w fun e w' => e = .returned (.tuple #[.agg #[.int .i64 r1, .int .i64 r2, .string r3, .int .i64 r4, .int .i64 r5, .int .i64 r6, .string r7, .int .i64 r8, .int .i64 r9, .int .i64 r10, .string r11, .int .i64 r12, .int .i64 r13, .int .i64 r14, .int .i64 r15, .int .i64 r16], .bool r17]) ∧ Below w.heap.size w w' := by
 have hu29 := Try.underlying29
 have hu106 := Try.underlying106
 have HR0 := am_ hr0
 have HC0 := am_ hc0
 clear hr0 hc0
 have HB := Aside0.mk (Below.refl w.heap.size w)
 have H := h
 unfold spec_GetItem.f at H
 clear h
 replace H := bf_ H
 obtain ⟨f_, hf_, ⟨t956, t957, t958⟩, A2, H⟩ := H
 subst hf_
 (try dsimp only at H)
 have HC3 := am_ H
 clear H
 go_enter Try.func12, Try.ntmps12
 go_upto_if 14 with (first | (refine gd_ 2 rfl ?_; refine bx_ (N := 2) (cs := #[.int .i64 0, .int .i64 0, .string (⟨#[]⟩ : ByteArray), .int .i64 0, .int .i64 0, .int .i64 0, .string (⟨#[]⟩ : ByteArray), .int .i64 0, .int .i64 0, .int .i64 0, .string (⟨#[]⟩ : ByteArray), .int .i64 0, .int .i64 0, .int .i64 0, .int .i64 0, .int .i64 0]) (t := 29) ?_; intro gb954 hg w4 hbox hb; have BK954 := am_ (hbox); have GW954 := gA_ hg HB; have GE954 := GW954; have IGE954 := gI_ GE954; replace HB := bS_ HB hb; clear hb hbox hg) | (refine gd_ 8 rfl ?_; refine bx_ (N := 8) (cs := #[.slice A0 l0.length c0, .int .i64 0, .bool false]) (t := 106) ?_; intro gb955 hg w5 hbox hb; have BK955 := am_ (hbox); have GW955 := gA_ hg HB; have GE955 := GW955; have IGE955 := gI_ GE955; replace HB := bS_ HB hb; have NB954_955 := am_ ((gN_ hg (qK BK954))); have NB955_954 := am_ ((gM_ hg (qK BK954))); replace BK954 := bK_ BK954 hb; clear hb hbox hg; have HI955 := Aside0.mk (show IsS106 w _ gb955 l0 0 false from ⟨_, _, BK955.out, GE955.out, ⟨HR0.out, HC0.out⟩⟩); have IGHI955 := iG_ HI955.out.ge) | (refine gc_ 75 rfl ?_; refine gl_ (some 10) Try.func75 #[.pointer (some ⟨gb955, 0, none⟩)] ?_; (with_reducible refine (spec_l9Byte.calls gb955 l0 0 false t956 t957 t958 w _ (IsS106.qz HI955) (qB HB) A2.out).mono ?_); rintro e w6 ⟨rfl, hi, hb, hk⟩; refine ⟨_, rfl, ?_⟩; replace BK954 := kB_ BK954 hk NB954_955; replace HB := am_ (hb); replace HI955 := am_ (hi); (try clear hb); (try clear hk); (try clear hi)) | (refine gd_ 5 rfl ?_; refine bx_ (N := 5) (cs := #[.int .i64 0, .int .i64 0, .string (⟨#[]⟩ : ByteArray), .int .i64 0, .int .i64 0, .int .i64 0, .string (⟨#[]⟩ : ByteArray), .int .i64 0, .int .i64 0, .int .i64 0, .string (⟨#[]⟩ : ByteArray), .int .i64 0, .int .i64 0, .int .i64 0, .int .i64 0, .int .i64 0]) (t := 29) ?_; intro gb959 hg w7 hbox hb; have BK959 := am_ (hbox); have GW959 := am_ ((by rw [hg]; exact (below_size (qB HB)) : w.heap.size ≤ gb959)); have IGW959 := gI_ GW959; have GE959 := am_ ((by rw [hg]; exact (below_size (qB HB)) : w.heap.size ≤ gb959)); have IGE959 := gI_ GE959; replace HB := bS_ HB hb; have NB954_959 := am_ ((gN_ hg (qK BK954))); have NB959_954 := am_ ((gM_ hg (qK BK954))); replace BK954 := bK_ BK954 hb; have NB955_959 := am_ ((by rw [hg]; exact Nat.ne_of_lt (IsS106.lt (show IsS106 w _ gb955 l0 t957 t958 from IsS106.qz HI955)) : gb955 ≠ gb959)); have NB959_955 := am_ ((by rw [hg]; exact Nat.ne_of_gt (IsS106.lt (show IsS106 w _ gb955 l0 t957 t958 from IsS106.qz HI955)) : gb959 ≠ gb955)); replace HI955 := am_ (IsS106.below (IsS106.qz HI955) hb); clear hb hbox hg; have hnb8 := nx_ NB959_954; have hnb9 := nx_ NB959_955; (try clear zK959); have zK959 := cf16 BK959.out) | ((with_reducible refine gate_store (t := 29) (p := 5) rfl ?_); refine store_evs (t := 29) (p := 5) (j := 0) (cs := [.int .i64 t956, .int .i64 0, .string (⟨#[]⟩ : ByteArray), .int .i64 0, .int .i64 0, .int .i64 0, .string (⟨#[]⟩ : ByteArray), .int .i64 0, .int .i64 0, .int .i64 0, .string (⟨#[]⟩ : ByteArray), .int .i64 0, .int .i64 0, .int .i64 0, .int .i64 0, .int .i64 0]) (qK BK959) ?_; intro w11 hw; replace BK954 := sK_ hw BK954 NB954_959; replace HI955 := IsS106.s_ hw HI955 NB955_959; replace HB := sB_ hw HB; replace BK959 := sW_ hw BK959; clear hw; (try clear zK959); have zK959 := cf16 BK959.out))
 (try simp only [Act.put, List.setIfInBounds_toArray, List.set_cons_zero, List.set_cons_succ])
 go_cut [] (fun wc => ∃ (kq : Nat) (x956001_2 : Int) (x956002_2 : Bool) (x960001_2 : Int) (x960002_2 : ByteArray) (x960003_2 : Int) (x960004_2 : Int) (x960005_2 : Int) (x960006_2 : ByteArray) (x960007_2 : Int) (x960008_2 : Int) (x960009_2 : Int) (x960010_2 : ByteArray) (x960011_2 : Int) (x960012_2 : Int) (x960013_2 : Int) (x960014_2 : Int) (x960015_2 : Int), Aside0 (spec_GetItem.j0 kq l0 l0 x956001_2 x956002_2 t956 x960001_2 x960002_2 x960003_2 x960004_2 x960005_2 x960006_2 x960007_2 x960008_2 x960009_2 x960010_2 x960011_2 x960012_2 x960013_2 x960014_2 x960015_2 = some (r1, r2, r3, r4, r5, r6, r7, r8, r9, r10, r11, r12, r13, r14, r15, r16, r17)) ∧ Aside0 (kq ≤ k) ∧ Aside0 (wc.heap[gb954]? = some (.cells #[.int .i64 0, .int .i64 0, .string (⟨#[]⟩ : ByteArray), .int .i64 0, .int .i64 0, .int .i64 0, .string (⟨#[]⟩ : ByteArray), .int .i64 0, .int .i64 0, .int .i64 0, .string (⟨#[]⟩ : ByteArray), .int .i64 0, .int .i64 0, .int .i64 0, .int .i64 0, .int .i64 0] 29 (0, 0))) ∧ Aside0 (wc.heap[gb959]? = some (.cells #[.int .i64 t956, .int .i64 x960001_2, .string x960002_2, .int .i64 x960003_2, .int .i64 x960004_2, .int .i64 x960005_2, .string x960006_2, .int .i64 x960007_2, .int .i64 x960008_2, .int .i64 x960009_2, .string x960010_2, .int .i64 x960011_2, .int .i64 x960012_2, .int .i64 x960013_2, .int .i64 x960014_2, .int .i64 x960015_2] 29 (0, 0))) ∧ Aside0 (IsS106 w wc gb955 l0 x956001_2 x956002_2) ∧ Aside0 (Below w.heap.size w wc))
 case first =>
  have H := HC3.out
  clear HC3
  replace H := ie_ H
  obtain ⟨-, H, c13b0, c13b1⟩ | ⟨c13, H, c13b0, c13b1⟩ := H
  rotate_left
  ·
   (first | rw [c13b0] | rw [c13b1] | (simp only [i64_w, i32_w]; rw [c13b0]) | skip)
   replace H := bf_ H
   obtain ⟨f_, hf_, ⟨t987, t988, t989⟩, A45, H⟩ := H
   subst hf_
   (try dsimp only at H)
   replace H := bf_ H
   obtain ⟨f_, hf_, ⟨t990, t991, t992⟩, A46, H⟩ := H
   subst hf_
   (try dsimp only at H)
   replace H := bf_ H
   obtain ⟨f_, hf_, ⟨t993, t994, t995⟩, A47, H⟩ := H
   subst hf_
   (try dsimp only at H)
   replace H := bf_ H
   obtain ⟨f_, hf_, ⟨t996, t997, t998⟩, A48, H⟩ := H
   subst hf_
   (try dsimp only at H)
   replace H := bf_ H
   obtain ⟨f_, hf_, ⟨t999, t1000, t1001⟩, A49, H⟩ := H
   subst hf_
   (try dsimp only at H)
   replace H := bf_ H
   obtain ⟨f_, hf_, ⟨t1002, t1003, t1004⟩, A50, H⟩ := H
   subst hf_
   (try dsimp only at H)
   replace H := bf_ H
   obtain ⟨f_, hf_, ⟨t1005, t1006, t1007⟩, A51, H⟩ := H
   subst hf_
   (try dsimp only at H)
   replace H := bf_ H
   obtain ⟨f_, hf_, ⟨t1008, t1009, t1010⟩, A52, H⟩ := H
   subst hf_
   (try dsimp only at H)
   have H' := Aside0.mk H
   clear H
   try go_wp2_with (first | (refine gc_ 76 rfl ?_; refine gl_ (some 57) Try.func76 #[.pointer (some ⟨gb955, 0, none⟩)] ?_; (with_reducible refine (spec_l9Word.calls gb955 l0 t957 t958 t987 t988 t989 w _ (IsS106.qz HI955) (qB HB) A45.out).mono ?_); rintro e w53 ⟨rfl, hi, hb, hk⟩; refine ⟨_, rfl, ?_⟩; replace BK954 := kB_ BK954 hk NB954_955; replace BK959 := kB_ BK959 hk NB959_955; replace HB := am_ (hb); replace HI955 := am_ (hi); (try clear hb); (try clear hk); (try clear hi); have hnb54 := nx_ NB959_954; have hnb55 := nx_ NB959_955; (try clear zK959); have zK959 := cf16 BK959.out) | (refine gc_ 75 rfl ?_; refine gl_ (some 61) Try.func75 #[.pointer (some ⟨gb955, 0, none⟩)] ?_; (with_reducible refine (spec_l9Byte.calls gb955 l0 t988 t989 t990 t991 t992 w _ (IsS106.qz HI955) (qB HB) A46.out).mono ?_); rintro e w57 ⟨rfl, hi, hb, hk⟩; refine ⟨_, rfl, ?_⟩; replace BK954 := fk_ BK954 hk NB954_955; replace BK959 := am_ (KeepBut.blk hk (g' := gb959) (o := .cells #[.int .i64 t956, .int .i64 0, .string (⟨#[]⟩ : ByteArray), .int .i64 0, .int .i64 0, .int .i64 0, .string (⟨#[]⟩ : ByteArray), .int .i64 0, .int .i64 0, .int .i64 t987, .string (⟨#[]⟩ : ByteArray), .int .i64 0, .int .i64 0, .int .i64 0, .int .i64 0, .int .i64 0] 29 (0, 0)) (by (with_reducible repeat (first | refine blk_drewN ?_ _ | refine blk_drew ?_ | refine blk_alloc ?_ _)); refine blk_put (cs := #[.int .i64 t956, .int .i64 0, .string (⟨#[]⟩ : ByteArray), .int .i64 0, .int .i64 0, .int .i64 0, .string (⟨#[]⟩ : ByteArray), .int .i64 0, .int .i64 0, .int .i64 0, .string (⟨#[]⟩ : ByteArray), .int .i64 0, .int .i64 0, .int .i64 0, .int .i64 0, .int .i64 0]) ?_ 9 _ rfl; exact qK BK959) NB959_955.out (by simp)); replace HB := am_ (hb); replace HI955 := am_ (hi); (try clear hb); (try clear hk); (try clear hi); (try clear zK959); have zK959 := cf16 BK959.out) | (refine gc_ 77 rfl ?_; refine gl_ (some 65) Try.func77 #[.pointer (some ⟨gb955, 0, none⟩)] ?_; (with_reducible refine (spec_l9Text.calls k gb955 l0 t991 t992 t993 t994 t995 w _ (IsS106.qz HI955) (qB HB) A47.out).mono ?_); rintro e w59 ⟨rfl, hi, hb, hk⟩; refine ⟨_, rfl, ?_⟩; replace BK954 := fk_ BK954 hk NB954_955; replace BK959 := am_ (KeepBut.blk hk (g' := gb959) (o := .cells #[.int .i64 t956, .int .i64 0, .string (⟨#[]⟩ : ByteArray), .int .i64 0, .int .i64 0, .int .i64 0, .string (⟨#[]⟩ : ByteArray), .int .i64 0, .int .i64 0, .int .i64 t987, .string (⟨#[]⟩ : ByteArray), .int .i64 0, .int .i64 t990, .int .i64 0, .int .i64 0, .int .i64 0] 29 (0, 0)) (by (with_reducible repeat (first | refine blk_drewN ?_ _ | refine blk_drew ?_ | refine blk_alloc ?_ _)); refine blk_put (cs := #[.int .i64 t956, .int .i64 0, .string (⟨#[]⟩ : ByteArray), .int .i64 0, .int .i64 0, .int .i64 0, .string (⟨#[]⟩ : ByteArray), .int .i64 0, .int .i64 0, .int .i64 t987, .string (⟨#[]⟩ : ByteArray), .int .i64 0, .int .i64 0, .int .i64 0, .int .i64 0, .int .i64 0]) ?_ 12 _ rfl; exact qK BK959) NB959_955.out (by simp)); replace HB := am_ (hb); replace HI955 := am_ (hi); (try clear hb); (try clear hk); (try clear hi); (try clear zK959); have zK959 := cf16 BK959.out) | (refine gc_ 76 rfl ?_; refine gl_ (some 69) Try.func76 #[.pointer (some ⟨gb955, 0, none⟩)] ?_; (with_reducible refine (spec_l9Word.calls gb955 l0 t994 t995 t996 t997 t998 w _ (IsS106.qz HI955) (qB HB) A48.out).mono ?_); rintro e w61 ⟨rfl, hi, hb, hk⟩; refine ⟨_, rfl, ?_⟩; replace BK954 := fk_ BK954 hk NB954_955; replace BK959 := am_ (KeepBut.blk hk (g' := gb959) (o := .cells #[.int .i64 t956, .int .i64 0, .string (⟨#[]⟩ : ByteArray), .int .i64 0, .int .i64 0, .int .i64 0, .string (⟨#[]⟩ : ByteArray), .int .i64 0, .int .i64 0, .int .i64 t987, .string t993, .int .i64 0, .int .i64 t990, .int .i64 0, .int .i64 0, .int .i64 0] 29 (0, 0)) (by (with_reducible repeat (first | refine blk_drewN ?_ _ | refine blk_drew ?_ | refine blk_alloc ?_ _)); refine blk_put (cs := #[.int .i64 t956, .int .i64 0, .string (⟨#[]⟩ : ByteArray), .int .i64 0, .int .i64 0, .int .i64 0, .string (⟨#[]⟩ : ByteArray), .int .i64 0, .int .i64 0, .int .i64 t987, .string (⟨#[]⟩ : ByteArray), .int .i64 0, .int .i64 t990, .int .i64 0, .int .i64 0, .int .i64 0]) ?_ 10 _ rfl; exact qK BK959) NB959_955.out (by simp)); replace HB := am_ (hb); replace HI955 := am_ (hi); (try clear hb); (try clear hk); (try clear hi); (try clear zK959); have zK959 := cf16 BK959.out) | (refine gc_ 76 rfl ?_; refine gl_ (some 73) Try.func76 #[.pointer (some ⟨gb955, 0, none⟩)] ?_; (with_reducible refine (spec_l9Word.calls gb955 l0 t997 t998 t999 t1000 t1001 w _ (IsS106.qz HI955) (qB HB) A49.out).mono ?_); rintro e w63 ⟨rfl, hi, hb, hk⟩; refine ⟨_, rfl, ?_⟩; replace BK954 := fk_ BK954 hk NB954_955; replace BK959 := am_ (KeepBut.blk hk (g' := gb959) (o := .cells #[.int .i64 t956, .int .i64 0, .string (⟨#[]⟩ : ByteArray), .int .i64 0, .int .i64 0, .int .i64 0, .string (⟨#[]⟩ : ByteArray), .int .i64 0, .int .i64 0, .int .i64 t987, .string t993, .int .i64 t996, .int .i64 t990, .int .i64 0, .int .i64 0, .int .i64 0] 29 (0, 0)) (by (with_reducible repeat (first | refine blk_drewN ?_ _ | refine blk_drew ?_ | refine blk_alloc ?_ _)); refine blk_put (cs := #[.int .i64 t956, .int .i64 0, .string (⟨#[]⟩ : ByteArray), .int .i64 0, .int .i64 0, .int .i64 0, .string (⟨#[]⟩ : ByteArray), .int .i64 0, .int .i64 0, .int .i64 t987, .string t993, .int .i64 0, .int .i64 t990, .int .i64 0, .int .i64 0, .int .i64 0]) ?_ 11 _ rfl; exact qK BK959) NB959_955.out (by simp)); replace HB := am_ (hb); replace HI955 := am_ (hi); (try clear hb); (try clear hk); (try clear hi); (try clear zK959); have zK959 := cf16 BK959.out))
   have n0_ : Aside0 ((w63.setCell ⟨gb959, 13, none⟩ (.int .i64 (wrap64 (256 * t999)))).heap[gb954]? = some (.cells #[.int .i64 0, .int .i64 0, .string (⟨#[]⟩ : ByteArray), .int .i64 0, .int .i64 0, .int .i64 0, .string (⟨#[]⟩ : ByteArray), .int .i64 0, .int .i64 0, .int .i64 0, .string (⟨#[]⟩ : ByteArray), .int .i64 0, .int .i64 0, .int .i64 0, .int .i64 0, .int .i64 0] 29 (0, 0))) := ⟨by (with_reducible repeat (first | refine blk_drewN ?_ _ | refine blk_drew ?_ | refine blk_alloc ?_ _)); refine blk_far ?_ NB954_959.out _; exact qK BK954⟩
   have n1_ : Aside0 ((w63.setCell ⟨gb959, 13, none⟩ (.int .i64 (wrap64 (256 * t999)))).heap[gb959]? = some (.cells #[.int .i64 t956, .int .i64 0, .string (⟨#[]⟩ : ByteArray), .int .i64 0, .int .i64 0, .int .i64 0, .string (⟨#[]⟩ : ByteArray), .int .i64 0, .int .i64 0, .int .i64 t987, .string t993, .int .i64 t996, .int .i64 t990, .int .i64 (wrap64 (256 * t999)), .int .i64 0, .int .i64 0] 29 (0, 0))) := ⟨by (with_reducible repeat (first | refine blk_drewN ?_ _ | refine blk_drew ?_ | refine blk_alloc ?_ _)); refine blk_put (cs := #[.int .i64 t956, .int .i64 0, .string (⟨#[]⟩ : ByteArray), .int .i64 0, .int .i64 0, .int .i64 0, .string (⟨#[]⟩ : ByteArray), .int .i64 0, .int .i64 0, .int .i64 t987, .string t993, .int .i64 t996, .int .i64 t990, .int .i64 0, .int .i64 0, .int .i64 0]) ?_ 13 _ rfl; exact qK BK959⟩
   have n2_ : Aside0 (IsS106 w (w63.setCell ⟨gb959, 13, none⟩ (.int .i64 (wrap64 (256 * t999)))) gb955 l0 t1000 t1001) := ⟨IsS106.qz HI955⟩
   have n3_ : Aside0 (Below w.heap.size w (w63.setCell ⟨gb959, 13, none⟩ (.int .i64 (wrap64 (256 * t999))))) := ⟨qB HB⟩
   (try clear BK954)
   (try clear BK959)
   (try clear HI955)
   (try clear HB)
   generalize (w63.setCell ⟨gb959, 13, none⟩ (.int .i64 (wrap64 (256 * t999)))) = w65 at n0_ n1_ n2_ n3_ ⊢
   have BK954 := n0_
   have BK959 := n1_
   have HI955 := n2_
   have HB := n3_
   clear n0_ n1_ n2_ n3_
   replace BK954 := am_ (blk_drew BK954.out)
   replace BK959 := am_ (blk_drew BK959.out)
   replace HI955 := am_ (IsS106.drew HI955.out)
   replace HB := am_ (below_drew1 HB.out)
   refine start_ (n := 9) (S := fun w' => w'.cell? ⟨gb959, 0, none⟩ = some (.int .i64 t956) ∧ w'.cell? ⟨gb959, 1, none⟩ = some (.int .i64 0) ∧ w'.cell? ⟨gb959, 2, none⟩ = some (.string (⟨#[]⟩ : ByteArray)) ∧ w'.cell? ⟨gb959, 3, none⟩ = some (.int .i64 0) ∧ w'.cell? ⟨gb959, 4, none⟩ = some (.int .i64 0) ∧ w'.cell? ⟨gb959, 5, none⟩ = some (.int .i64 0) ∧ w'.cell? ⟨gb959, 6, none⟩ = some (.string (⟨#[]⟩ : ByteArray)) ∧ w'.cell? ⟨gb959, 7, none⟩ = some (.int .i64 0) ∧ w'.cell? ⟨gb959, 8, none⟩ = some (.int .i64 0) ∧ w'.cell? ⟨gb959, 9, none⟩ = some (.int .i64 t987) ∧ w'.cell? ⟨gb959, 10, none⟩ = some (.string t993) ∧ w'.cell? ⟨gb959, 11, none⟩ = some (.int .i64 t996) ∧ w'.cell? ⟨gb959, 12, none⟩ = some (.int .i64 t990) ∧ w'.cell? ⟨gb959, 13, none⟩ = some (.int .i64 (wrap64 (256 * t999))) ∧ w'.cell? ⟨gb959, 14, none⟩ = some (.int .i64 0) ∧ w'.cell? ⟨gb959, 15, none⟩ = some (.int .i64 0)) (ds := [8]) #[oo,oo,oo,oo,oo,oo,oo,oo,oo] (by kernel_rfl) rfl rfl (cz16 BK959.out) (fun hHeld => ?_); refine with_tabW spec_GetItem.tab18 spec_GetItem.bits18 (fun HT_ HW_ => ?_)
   generalize w65.drew = w66 at BK954 BK959 HI955 HB hHeld ⊢
   refine pq_ 0 77 HT_ #[ii,oo,oo,oo,oo,oo,oo,oo,oo] ?_
   refine pq_ 1 78 HT_ #[ii,ii,oo,oo,oo,oo,oo,oo,oo] ?_
   refine pq_ 3 80 HT_ #[ii,ii,oo,ii,oo,oo,oo,oo,oo] ?_
   refine tz_ (i := 2) (N := some 79) HT_ HW_ #[ii,ii,ii,ii,oo,oo,oo,oo,oo] rfl rfl hHeld ?_
   refine on_ HT_ (i := 4) (N := some 81) #[ii,ii,ii,ii,ii,oo,oo,oo,oo] (fun K hK => ?_)
   refine goes_ Try.func75 (by kernel_rfl) rfl #[.pointer (some ⟨gb955, 0, none⟩)] (by rfl) rfl rfl la_ ?_
   with_reducible refine (spec_l9Byte.calls gb955 l0 t1000 t1001 t1002 t1003 t1004 w _ (IsS106.qz HI955) (qB HB) A50.out).mono ?_
   rintro e w67 ⟨rfl, hi, hb, hk⟩
   refine ⟨_, rfl, ?_⟩
   replace BK954 := kB_ BK954 hk NB954_955
   replace BK959 := kB_ BK959 hk NB959_955
   replace HB := am_ (hb)
   replace HI955 := am_ (hi)
   (try clear hb hk hi)
   refine hK.out _ _ (cz16 BK959.out) (fun hHeld => ?_)
   clear hK K
   refine nm_ (some 81) ?_
   refine pq_ 5 82 HT_ #[ii,ii,ii,ii,ii,ii,oo,oo,oo] ?_
   refine pq_ 6 83 HT_ #[ii,ii,ii,ii,ii,ii,ii,oo,oo] ?_
   refine pq_ 7 84 HT_ #[ii,ii,ii,ii,ii,ii,ii,ii,oo] ?_
   refine last_ (i := 8) (N := none) #[ii,ii,ii,ii,ii,ii,ii,ii,ii] rfl rfl (one_of HT_.out (by kernel_rfl)) (by decide) (fun K hK => ?_)
   have hs68 : w67.cell? ⟨gb959, 13, none⟩ = some (.int .i64 (wrap64 (256 * t999))) := (blk_cell BK959.out 13).trans rfl
   have hfs68 := blk_frozen BK959.out 13
   have hns68_0 := NB954_959.out
   have hms68_0 := NB959_954.out
   refine skip_ (w1 := ?_) (by rfl) rfl ?_ ?_
   rotate_left
   ·
    go_simp
    rfl
   refine hK.out _ _ ?_
   clear hK K
   refine done_ (done_of HT_.out (by kernel_rfl)) ?_
   try go_wp2_with (first | (refine gc_ 76 rfl ?_; refine gl_ (some 86) Try.func76 #[.pointer (some ⟨gb955, 0, none⟩)] ?_; (with_reducible refine (spec_l9Word.calls gb955 l0 t1003 t1004 t1005 t1006 t1007 w _ (IsS106.qz HI955) (qB HB) A51.out).mono ?_); rintro e w69 ⟨rfl, hi, hb, hk⟩; refine ⟨_, rfl, ?_⟩; replace BK954 := fk_ BK954 hk NB954_955; replace BK959 := am_ (KeepBut.blk hk (g' := gb959) (o := .cells #[.int .i64 t956, .int .i64 0, .string (⟨#[]⟩ : ByteArray), .int .i64 0, .int .i64 0, .int .i64 0, .string (⟨#[]⟩ : ByteArray), .int .i64 0, .int .i64 0, .int .i64 t987, .string t993, .int .i64 t996, .int .i64 t990, .int .i64 (wrap64 ((wrap64 (256 * t999)) + t1002)), .int .i64 0, .int .i64 0] 29 (0, 0)) (by (with_reducible repeat (first | refine blk_drewN ?_ _ | refine blk_drew ?_ | refine blk_alloc ?_ _)); refine blk_put (cs := #[.int .i64 t956, .int .i64 0, .string (⟨#[]⟩ : ByteArray), .int .i64 0, .int .i64 0, .int .i64 0, .string (⟨#[]⟩ : ByteArray), .int .i64 0, .int .i64 0, .int .i64 t987, .string t993, .int .i64 t996, .int .i64 t990, .int .i64 (wrap64 (256 * t999)), .int .i64 0, .int .i64 0]) ?_ 13 _ rfl; exact qK BK959) NB959_955.out (by simp)); replace HB := am_ (hb); replace HI955 := am_ (hi); (try clear hb); (try clear hk); (try clear hi); (try clear zK959); have zK959 := cf16 BK959.out) | (refine gc_ 76 rfl ?_; refine gl_ (some 90) Try.func76 #[.pointer (some ⟨gb955, 0, none⟩)] ?_; (with_reducible refine (spec_l9Word.calls gb955 l0 t1006 t1007 t1008 t1009 t1010 w _ (IsS106.qz HI955) (qB HB) A52.out).mono ?_); rintro e w71 ⟨rfl, hi, hb, hk⟩; refine ⟨_, rfl, ?_⟩; replace BK954 := fk_ BK954 hk NB954_955; replace BK959 := am_ (KeepBut.blk hk (g' := gb959) (o := .cells #[.int .i64 t956, .int .i64 0, .string (⟨#[]⟩ : ByteArray), .int .i64 0, .int .i64 0, .int .i64 0, .string (⟨#[]⟩ : ByteArray), .int .i64 0, .int .i64 0, .int .i64 t987, .string t993, .int .i64 t996, .int .i64 t990, .int .i64 (wrap64 ((wrap64 (256 * t999)) + t1002)), .int .i64 t1005, .int .i64 0] 29 (0, 0)) (by (with_reducible repeat (first | refine blk_drewN ?_ _ | refine blk_drew ?_ | refine blk_alloc ?_ _)); refine blk_put (cs := #[.int .i64 t956, .int .i64 0, .string (⟨#[]⟩ : ByteArray), .int .i64 0, .int .i64 0, .int .i64 0, .string (⟨#[]⟩ : ByteArray), .int .i64 0, .int .i64 0, .int .i64 t987, .string t993, .int .i64 t996, .int .i64 t990, .int .i64 (wrap64 ((wrap64 (256 * t999)) + t1002)), .int .i64 0, .int .i64 0]) ?_ 14 _ rfl; exact qK BK959) NB959_955.out (by simp)); replace HB := am_ (hb); replace HI955 := am_ (hi); (try clear hb); (try clear hk); (try clear hi); (try clear zK959); have zK959 := cf16 BK959.out))
   go_meet
   case rel => exact ⟨_, (t1009), (t1010), (0), ((⟨#[]⟩ : ByteArray)), (0), (0), (0), ((⟨#[]⟩ : ByteArray)), (0), (0), (t987), (t993), (t996), (t990), (wrap64 ((wrap64 (256 * t999)) + t1002)), (t1005), (t1008), H', ⟨by first | omega | exact Nat.le_refl _⟩, ⟨by (with_reducible repeat (first | refine blk_drewN ?_ _ | refine blk_drew ?_ | refine blk_alloc ?_ _)); refine blk_far ?_ NB954_959.out _; exact qK BK954⟩, ⟨by (with_reducible repeat (first | refine blk_drewN ?_ _ | refine blk_drew ?_ | refine blk_alloc ?_ _)); refine blk_put (cs := #[.int .i64 t956, .int .i64 0, .string (⟨#[]⟩ : ByteArray), .int .i64 0, .int .i64 0, .int .i64 0, .string (⟨#[]⟩ : ByteArray), .int .i64 0, .int .i64 0, .int .i64 t987, .string t993, .int .i64 t996, .int .i64 t990, .int .i64 (wrap64 ((wrap64 (256 * t999)) + t1002)), .int .i64 t1005, .int .i64 0]) ?_ 15 _ rfl; exact qK BK959⟩, ⟨IsS106.qz HI955⟩, ⟨qB HB⟩⟩
  (first | rw [c13b0] | rw [c13b1] | (simp only [i64_w, i32_w]; rw [c13b0]) | skip)
  replace H := bf_ H
  obtain ⟨f_, hf_, ⟨t960, t961, t962⟩, A14, H⟩ := H
  subst hf_
  (try dsimp only at H)
  replace H := bf_ H
  obtain ⟨f_, hf_, ⟨t963, t964, t965⟩, A15, H⟩ := H
  subst hf_
  (try dsimp only at H)
  replace H := bf_ H
  obtain ⟨f_, hf_, ⟨t966, t967, t968⟩, A16, H⟩ := H
  subst hf_
  (try dsimp only at H)
  replace H := bf_ H
  obtain ⟨f_, hf_, ⟨t969, t970, t971⟩, A17, H⟩ := H
  subst hf_
  (try dsimp only at H)
  replace H := bf_ H
  obtain ⟨f_, hf_, ⟨t972, t973, t974⟩, A18, H⟩ := H
  subst hf_
  (try dsimp only at H)
  replace H := bf_ H
  obtain ⟨f_, hf_, ⟨t975, t976, t977⟩, A19, H⟩ := H
  subst hf_
  (try dsimp only at H)
  replace H := bf_ H
  obtain ⟨f_, hf_, ⟨t978, t979, t980⟩, A20, H⟩ := H
  subst hf_
  (try dsimp only at H)
  replace H := bf_ H
  obtain ⟨f_, hf_, ⟨t981, t982, t983⟩, A21, H⟩ := H
  subst hf_
  (try dsimp only at H)
  replace H := bf_ H
  obtain ⟨f_, hf_, ⟨t984, t985, t986⟩, A22, H⟩ := H
  subst hf_
  (try dsimp only at H)
  have H' := Aside0.mk H
  clear H
  try go_wp2_with (first | (refine gc_ 76 rfl ?_; refine gl_ (some 16) Try.func76 #[.pointer (some ⟨gb955, 0, none⟩)] ?_; (with_reducible refine (spec_l9Word.calls gb955 l0 t957 t958 t960 t961 t962 w _ (IsS106.qz HI955) (qB HB) A14.out).mono ?_); rintro e w23 ⟨rfl, hi, hb, hk⟩; refine ⟨_, rfl, ?_⟩; replace BK954 := kB_ BK954 hk NB954_955; replace BK959 := kB_ BK959 hk NB959_955; replace HB := am_ (hb); replace HI955 := am_ (hi); (try clear hb); (try clear hk); (try clear hi); have hnb24 := nx_ NB959_954; have hnb25 := nx_ NB959_955; (try clear zK959); have zK959 := cf16 BK959.out) | (refine gc_ 75 rfl ?_; refine gl_ (some 20) Try.func75 #[.pointer (some ⟨gb955, 0, none⟩)] ?_; (with_reducible refine (spec_l9Byte.calls gb955 l0 t961 t962 t963 t964 t965 w _ (IsS106.qz HI955) (qB HB) A15.out).mono ?_); rintro e w27 ⟨rfl, hi, hb, hk⟩; refine ⟨_, rfl, ?_⟩; replace BK954 := fk_ BK954 hk NB954_955; replace BK959 := am_ (KeepBut.blk hk (g' := gb959) (o := .cells #[.int .i64 t956, .int .i64 t960, .string (⟨#[]⟩ : ByteArray), .int .i64 0, .int .i64 0, .int .i64 0, .string (⟨#[]⟩ : ByteArray), .int .i64 0, .int .i64 0, .int .i64 0, .string (⟨#[]⟩ : ByteArray), .int .i64 0, .int .i64 0, .int .i64 0, .int .i64 0, .int .i64 0] 29 (0, 0)) (by (with_reducible repeat (first | refine blk_drewN ?_ _ | refine blk_drew ?_ | refine blk_alloc ?_ _)); refine blk_put (cs := #[.int .i64 t956, .int .i64 0, .string (⟨#[]⟩ : ByteArray), .int .i64 0, .int .i64 0, .int .i64 0, .string (⟨#[]⟩ : ByteArray), .int .i64 0, .int .i64 0, .int .i64 0, .string (⟨#[]⟩ : ByteArray), .int .i64 0, .int .i64 0, .int .i64 0, .int .i64 0, .int .i64 0]) ?_ 1 _ rfl; exact qK BK959) NB959_955.out (by simp)); replace HB := am_ (hb); replace HI955 := am_ (hi); (try clear hb); (try clear hk); (try clear hi); (try clear zK959); have zK959 := cf16 BK959.out) | (refine gc_ 77 rfl ?_; refine gl_ (some 24) Try.func77 #[.pointer (some ⟨gb955, 0, none⟩)] ?_; (with_reducible refine (spec_l9Text.calls k gb955 l0 t964 t965 t966 t967 t968 w _ (IsS106.qz HI955) (qB HB) A16.out).mono ?_); rintro e w29 ⟨rfl, hi, hb, hk⟩; refine ⟨_, rfl, ?_⟩; replace BK954 := fk_ BK954 hk NB954_955; replace BK959 := am_ (KeepBut.blk hk (g' := gb959) (o := .cells #[.int .i64 t956, .int .i64 t960, .string (⟨#[]⟩ : ByteArray), .int .i64 t963, .int .i64 0, .int .i64 0, .string (⟨#[]⟩ : ByteArray), .int .i64 0, .int .i64 0, .int .i64 0, .string (⟨#[]⟩ : ByteArray), .int .i64 0, .int .i64 0, .int .i64 0, .int .i64 0, .int .i64 0] 29 (0, 0)) (by (with_reducible repeat (first | refine blk_drewN ?_ _ | refine blk_drew ?_ | refine blk_alloc ?_ _)); refine blk_put (cs := #[.int .i64 t956, .int .i64 t960, .string (⟨#[]⟩ : ByteArray), .int .i64 0, .int .i64 0, .int .i64 0, .string (⟨#[]⟩ : ByteArray), .int .i64 0, .int .i64 0, .int .i64 0, .string (⟨#[]⟩ : ByteArray), .int .i64 0, .int .i64 0, .int .i64 0, .int .i64 0, .int .i64 0]) ?_ 3 _ rfl; exact qK BK959) NB959_955.out (by simp)); replace HB := am_ (hb); replace HI955 := am_ (hi); (try clear hb); (try clear hk); (try clear hi); (try clear zK959); have zK959 := cf16 BK959.out) | (refine gc_ 76 rfl ?_; refine gl_ (some 28) Try.func76 #[.pointer (some ⟨gb955, 0, none⟩)] ?_; (with_reducible refine (spec_l9Word.calls gb955 l0 t967 t968 t969 t970 t971 w _ (IsS106.qz HI955) (qB HB) A17.out).mono ?_); rintro e w31 ⟨rfl, hi, hb, hk⟩; refine ⟨_, rfl, ?_⟩; replace BK954 := fk_ BK954 hk NB954_955; replace BK959 := am_ (KeepBut.blk hk (g' := gb959) (o := .cells #[.int .i64 t956, .int .i64 t960, .string t966, .int .i64 t963, .int .i64 0, .int .i64 0, .string (⟨#[]⟩ : ByteArray), .int .i64 0, .int .i64 0, .int .i64 0, .string (⟨#[]⟩ : ByteArray), .int .i64 0, .int .i64 0, .int .i64 0, .int .i64 0, .int .i64 0] 29 (0, 0)) (by (with_reducible repeat (first | refine blk_drewN ?_ _ | refine blk_drew ?_ | refine blk_alloc ?_ _)); refine blk_put (cs := #[.int .i64 t956, .int .i64 t960, .string (⟨#[]⟩ : ByteArray), .int .i64 t963, .int .i64 0, .int .i64 0, .string (⟨#[]⟩ : ByteArray), .int .i64 0, .int .i64 0, .int .i64 0, .string (⟨#[]⟩ : ByteArray), .int .i64 0, .int .i64 0, .int .i64 0, .int .i64 0, .int .i64 0]) ?_ 2 _ rfl; exact qK BK959) NB959_955.out (by simp)); replace HB := am_ (hb); replace HI955 := am_ (hi); (try clear hb); (try clear hk); (try clear hi); (try clear zK959); have zK959 := cf16 BK959.out) | (refine gc_ 76 rfl ?_; refine gl_ (some 32) Try.func76 #[.pointer (some ⟨gb955, 0, none⟩)] ?_; (with_reducible refine (spec_l9Word.calls gb955 l0 t970 t971 t972 t973 t974 w _ (IsS106.qz HI955) (qB HB) A18.out).mono ?_); rintro e w33 ⟨rfl, hi, hb, hk⟩; refine ⟨_, rfl, ?_⟩; replace BK954 := fk_ BK954 hk NB954_955; replace BK959 := am_ (KeepBut.blk hk (g' := gb959) (o := .cells #[.int .i64 t956, .int .i64 t960, .string t966, .int .i64 t963, .int .i64 t969, .int .i64 0, .string (⟨#[]⟩ : ByteArray), .int .i64 0, .int .i64 0, .int .i64 0, .string (⟨#[]⟩ : ByteArray), .int .i64 0, .int .i64 0, .int .i64 0, .int .i64 0, .int .i64 0] 29 (0, 0)) (by (with_reducible repeat (first | refine blk_drewN ?_ _ | refine blk_drew ?_ | refine blk_alloc ?_ _)); refine blk_put (cs := #[.int .i64 t956, .int .i64 t960, .string t966, .int .i64 t963, .int .i64 0, .int .i64 0, .string (⟨#[]⟩ : ByteArray), .int .i64 0, .int .i64 0, .int .i64 0, .string (⟨#[]⟩ : ByteArray), .int .i64 0, .int .i64 0, .int .i64 0, .int .i64 0, .int .i64 0]) ?_ 4 _ rfl; exact qK BK959) NB959_955.out (by simp)); replace HB := am_ (hb); replace HI955 := am_ (hi); (try clear hb); (try clear hk); (try clear hi); (try clear zK959); have zK959 := cf16 BK959.out))
  have n0_ : Aside0 ((w33.setCell ⟨gb959, 5, none⟩ (.int .i64 (wrap64 (256 * t972)))).heap[gb954]? = some (.cells #[.int .i64 0, .int .i64 0, .string (⟨#[]⟩ : ByteArray), .int .i64 0, .int .i64 0, .int .i64 0, .string (⟨#[]⟩ : ByteArray), .int .i64 0, .int .i64 0, .int .i64 0, .string (⟨#[]⟩ : ByteArray), .int .i64 0, .int .i64 0, .int .i64 0, .int .i64 0, .int .i64 0] 29 (0, 0))) := ⟨by (with_reducible repeat (first | refine blk_drewN ?_ _ | refine blk_drew ?_ | refine blk_alloc ?_ _)); refine blk_far ?_ NB954_959.out _; exact qK BK954⟩
  have n1_ : Aside0 ((w33.setCell ⟨gb959, 5, none⟩ (.int .i64 (wrap64 (256 * t972)))).heap[gb959]? = some (.cells #[.int .i64 t956, .int .i64 t960, .string t966, .int .i64 t963, .int .i64 t969, .int .i64 (wrap64 (256 * t972)), .string (⟨#[]⟩ : ByteArray), .int .i64 0, .int .i64 0, .int .i64 0, .string (⟨#[]⟩ : ByteArray), .int .i64 0, .int .i64 0, .int .i64 0, .int .i64 0, .int .i64 0] 29 (0, 0))) := ⟨by (with_reducible repeat (first | refine blk_drewN ?_ _ | refine blk_drew ?_ | refine blk_alloc ?_ _)); refine blk_put (cs := #[.int .i64 t956, .int .i64 t960, .string t966, .int .i64 t963, .int .i64 t969, .int .i64 0, .string (⟨#[]⟩ : ByteArray), .int .i64 0, .int .i64 0, .int .i64 0, .string (⟨#[]⟩ : ByteArray), .int .i64 0, .int .i64 0, .int .i64 0, .int .i64 0, .int .i64 0]) ?_ 5 _ rfl; exact qK BK959⟩
  have n2_ : Aside0 (IsS106 w (w33.setCell ⟨gb959, 5, none⟩ (.int .i64 (wrap64 (256 * t972)))) gb955 l0 t973 t974) := ⟨IsS106.qz HI955⟩
  have n3_ : Aside0 (Below w.heap.size w (w33.setCell ⟨gb959, 5, none⟩ (.int .i64 (wrap64 (256 * t972))))) := ⟨qB HB⟩
  (try clear BK954)
  (try clear BK959)
  (try clear HI955)
  (try clear HB)
  generalize (w33.setCell ⟨gb959, 5, none⟩ (.int .i64 (wrap64 (256 * t972)))) = w35 at n0_ n1_ n2_ n3_ ⊢
  have BK954 := n0_
  have BK959 := n1_
  have HI955 := n2_
  have HB := n3_
  clear n0_ n1_ n2_ n3_
  replace BK954 := am_ (blk_drew BK954.out)
  replace BK959 := am_ (blk_drew BK959.out)
  replace HI955 := am_ (IsS106.drew HI955.out)
  replace HB := am_ (below_drew1 HB.out)
  refine start_ (n := 9) (S := fun w' => w'.cell? ⟨gb959, 0, none⟩ = some (.int .i64 t956) ∧ w'.cell? ⟨gb959, 1, none⟩ = some (.int .i64 t960) ∧ w'.cell? ⟨gb959, 2, none⟩ = some (.string t966) ∧ w'.cell? ⟨gb959, 3, none⟩ = some (.int .i64 t963) ∧ w'.cell? ⟨gb959, 4, none⟩ = some (.int .i64 t969) ∧ w'.cell? ⟨gb959, 5, none⟩ = some (.int .i64 (wrap64 (256 * t972))) ∧ w'.cell? ⟨gb959, 6, none⟩ = some (.string (⟨#[]⟩ : ByteArray)) ∧ w'.cell? ⟨gb959, 7, none⟩ = some (.int .i64 0) ∧ w'.cell? ⟨gb959, 8, none⟩ = some (.int .i64 0) ∧ w'.cell? ⟨gb959, 9, none⟩ = some (.int .i64 0) ∧ w'.cell? ⟨gb959, 10, none⟩ = some (.string (⟨#[]⟩ : ByteArray)) ∧ w'.cell? ⟨gb959, 11, none⟩ = some (.int .i64 0) ∧ w'.cell? ⟨gb959, 12, none⟩ = some (.int .i64 0) ∧ w'.cell? ⟨gb959, 13, none⟩ = some (.int .i64 0) ∧ w'.cell? ⟨gb959, 14, none⟩ = some (.int .i64 0) ∧ w'.cell? ⟨gb959, 15, none⟩ = some (.int .i64 0)) (ds := [8]) #[oo,oo,oo,oo,oo,oo,oo,oo,oo] (by kernel_rfl) rfl rfl (cz16 BK959.out) (fun hHeld => ?_); refine with_tabW spec_GetItem.tab9 spec_GetItem.bits9 (fun HT_ HW_ => ?_)
  generalize w35.drew = w36 at BK954 BK959 HI955 HB hHeld ⊢
  refine pq_ 0 36 HT_ #[ii,oo,oo,oo,oo,oo,oo,oo,oo] ?_
  refine pq_ 1 37 HT_ #[ii,ii,oo,oo,oo,oo,oo,oo,oo] ?_
  refine pq_ 3 39 HT_ #[ii,ii,oo,ii,oo,oo,oo,oo,oo] ?_
  refine tz_ (i := 2) (N := some 38) HT_ HW_ #[ii,ii,ii,ii,oo,oo,oo,oo,oo] rfl rfl hHeld ?_
  refine on_ HT_ (i := 4) (N := some 40) #[ii,ii,ii,ii,ii,oo,oo,oo,oo] (fun K hK => ?_)
  refine goes_ Try.func75 (by kernel_rfl) rfl #[.pointer (some ⟨gb955, 0, none⟩)] (by rfl) rfl rfl la_ ?_
  with_reducible refine (spec_l9Byte.calls gb955 l0 t973 t974 t975 t976 t977 w _ (IsS106.qz HI955) (qB HB) A19.out).mono ?_
  rintro e w37 ⟨rfl, hi, hb, hk⟩
  refine ⟨_, rfl, ?_⟩
  replace BK954 := kB_ BK954 hk NB954_955
  replace BK959 := kB_ BK959 hk NB959_955
  replace HB := am_ (hb)
  replace HI955 := am_ (hi)
  (try clear hb hk hi)
  refine hK.out _ _ (cz16 BK959.out) (fun hHeld => ?_)
  clear hK K
  refine nm_ (some 40) ?_
  refine pq_ 5 41 HT_ #[ii,ii,ii,ii,ii,ii,oo,oo,oo] ?_
  refine pq_ 6 42 HT_ #[ii,ii,ii,ii,ii,ii,ii,oo,oo] ?_
  refine pq_ 7 43 HT_ #[ii,ii,ii,ii,ii,ii,ii,ii,oo] ?_
  refine last_ (i := 8) (N := none) #[ii,ii,ii,ii,ii,ii,ii,ii,ii] rfl rfl (one_of HT_.out (by kernel_rfl)) (by decide) (fun K hK => ?_)
  have hs38 : w37.cell? ⟨gb959, 5, none⟩ = some (.int .i64 (wrap64 (256 * t972))) := (blk_cell BK959.out 5).trans rfl
  have hfs38 := blk_frozen BK959.out 5
  have hns38_0 := NB954_959.out
  have hms38_0 := NB959_954.out
  refine skip_ (w1 := ?_) (by rfl) rfl ?_ ?_
  rotate_left
  ·
   go_simp
   rfl
  refine hK.out _ _ ?_
  clear hK K
  refine done_ (done_of HT_.out (by kernel_rfl)) ?_
  try go_wp2_with (first | (refine gc_ 77 rfl ?_; refine gl_ (some 45) Try.func77 #[.pointer (some ⟨gb955, 0, none⟩)] ?_; (with_reducible refine (spec_l9Text.calls k gb955 l0 t976 t977 t978 t979 t980 w _ (IsS106.qz HI955) (qB HB) A20.out).mono ?_); rintro e w39 ⟨rfl, hi, hb, hk⟩; refine ⟨_, rfl, ?_⟩; replace BK954 := fk_ BK954 hk NB954_955; replace BK959 := am_ (KeepBut.blk hk (g' := gb959) (o := .cells #[.int .i64 t956, .int .i64 t960, .string t966, .int .i64 t963, .int .i64 t969, .int .i64 (wrap64 ((wrap64 (256 * t972)) + t975)), .string (⟨#[]⟩ : ByteArray), .int .i64 0, .int .i64 0, .int .i64 0, .string (⟨#[]⟩ : ByteArray), .int .i64 0, .int .i64 0, .int .i64 0, .int .i64 0, .int .i64 0] 29 (0, 0)) (by (with_reducible repeat (first | refine blk_drewN ?_ _ | refine blk_drew ?_ | refine blk_alloc ?_ _)); refine blk_put (cs := #[.int .i64 t956, .int .i64 t960, .string t966, .int .i64 t963, .int .i64 t969, .int .i64 (wrap64 (256 * t972)), .string (⟨#[]⟩ : ByteArray), .int .i64 0, .int .i64 0, .int .i64 0, .string (⟨#[]⟩ : ByteArray), .int .i64 0, .int .i64 0, .int .i64 0, .int .i64 0, .int .i64 0]) ?_ 5 _ rfl; exact qK BK959) NB959_955.out (by simp)); replace HB := am_ (hb); replace HI955 := am_ (hi); (try clear hb); (try clear hk); (try clear hi); (try clear zK959); have zK959 := cf16 BK959.out) | (refine gc_ 76 rfl ?_; refine gl_ (some 49) Try.func76 #[.pointer (some ⟨gb955, 0, none⟩)] ?_; (with_reducible refine (spec_l9Word.calls gb955 l0 t979 t980 t981 t982 t983 w _ (IsS106.qz HI955) (qB HB) A21.out).mono ?_); rintro e w41 ⟨rfl, hi, hb, hk⟩; refine ⟨_, rfl, ?_⟩; replace BK954 := fk_ BK954 hk NB954_955; replace BK959 := am_ (KeepBut.blk hk (g' := gb959) (o := .cells #[.int .i64 t956, .int .i64 t960, .string t966, .int .i64 t963, .int .i64 t969, .int .i64 (wrap64 ((wrap64 (256 * t972)) + t975)), .string t978, .int .i64 0, .int .i64 0, .int .i64 0, .string (⟨#[]⟩ : ByteArray), .int .i64 0, .int .i64 0, .int .i64 0, .int .i64 0, .int .i64 0] 29 (0, 0)) (by (with_reducible repeat (first | refine blk_drewN ?_ _ | refine blk_drew ?_ | refine blk_alloc ?_ _)); refine blk_put (cs := #[.int .i64 t956, .int .i64 t960, .string t966, .int .i64 t963, .int .i64 t969, .int .i64 (wrap64 ((wrap64 (256 * t972)) + t975)), .string (⟨#[]⟩ : ByteArray), .int .i64 0, .int .i64 0, .int .i64 0, .string (⟨#[]⟩ : ByteArray), .int .i64 0, .int .i64 0, .int .i64 0, .int .i64 0, .int .i64 0]) ?_ 6 _ rfl; exact qK BK959) NB959_955.out (by simp)); replace HB := am_ (hb); replace HI955 := am_ (hi); (try clear hb); (try clear hk); (try clear hi); (try clear zK959); have zK959 := cf16 BK959.out) | (refine gc_ 76 rfl ?_; refine gl_ (some 53) Try.func76 #[.pointer (some ⟨gb955, 0, none⟩)] ?_; (with_reducible refine (spec_l9Word.calls gb955 l0 t982 t983 t984 t985 t986 w _ (IsS106.qz HI955) (qB HB) A22.out).mono ?_); rintro e w43 ⟨rfl, hi, hb, hk⟩; refine ⟨_, rfl, ?_⟩; replace BK954 := fk_ BK954 hk NB954_955; replace BK959 := am_ (KeepBut.blk hk (g' := gb959) (o := .cells #[.int .i64 t956, .int .i64 t960, .string t966, .int .i64 t963, .int .i64 t969, .int .i64 (wrap64 ((wrap64 (256 * t972)) + t975)), .string t978, .int .i64 t981, .int .i64 0, .int .i64 0, .string (⟨#[]⟩ : ByteArray), .int .i64 0, .int .i64 0, .int .i64 0, .int .i64 0, .int .i64 0] 29 (0, 0)) (by (with_reducible repeat (first | refine blk_drewN ?_ _ | refine blk_drew ?_ | refine blk_alloc ?_ _)); refine blk_put (cs := #[.int .i64 t956, .int .i64 t960, .string t966, .int .i64 t963, .int .i64 t969, .int .i64 (wrap64 ((wrap64 (256 * t972)) + t975)), .string t978, .int .i64 0, .int .i64 0, .int .i64 0, .string (⟨#[]⟩ : ByteArray), .int .i64 0, .int .i64 0, .int .i64 0, .int .i64 0, .int .i64 0]) ?_ 7 _ rfl; exact qK BK959) NB959_955.out (by simp)); replace HB := am_ (hb); replace HI955 := am_ (hi); (try clear hb); (try clear hk); (try clear hi); (try clear zK959); have zK959 := cf16 BK959.out))
  go_meet
  case rel => exact ⟨_, (t985), (t986), (t960), (t966), (t963), (t969), (wrap64 ((wrap64 (256 * t972)) + t975)), (t978), (t981), (t984), (0), ((⟨#[]⟩ : ByteArray)), (0), (0), (0), (0), (0), H', ⟨by first | omega | exact Nat.le_refl _⟩, ⟨by (with_reducible repeat (first | refine blk_drewN ?_ _ | refine blk_drew ?_ | refine blk_alloc ?_ _)); refine blk_far ?_ NB954_959.out _; exact qK BK954⟩, ⟨by (with_reducible repeat (first | refine blk_drewN ?_ _ | refine blk_drew ?_ | refine blk_alloc ?_ _)); refine blk_put (cs := #[.int .i64 t956, .int .i64 t960, .string t966, .int .i64 t963, .int .i64 t969, .int .i64 (wrap64 ((wrap64 (256 * t972)) + t975)), .string t978, .int .i64 t981, .int .i64 0, .int .i64 0, .string (⟨#[]⟩ : ByteArray), .int .i64 0, .int .i64 0, .int .i64 0, .int .i64 0, .int .i64 0]) ?_ 8 _ rfl; exact qK BK959⟩, ⟨IsS106.qz HI955⟩, ⟨qB HB⟩⟩
 case rest =>
  clear HC3
  try clear c1
  try clear c2
  try clear p2
  try clear c5
  try clear p6
  try clear c7
  try clear c8
  try clear c9
  try clear c12
  try clear c13
  try clear c13b0
  try clear c13b1
  try clear c24
  try clear c25
  try clear c54
  try clear c55
  try clear p64
  (try clear zK959)
  (try clear zK959)
  (try clear zK959)
  (try clear zK959)
  (try clear zK959)
  (try clear zK959)
  (try clear zK959)
  (try clear zK959)
  (try clear zK959)
  (try clear zK959)
  (try clear zK959)
  (try clear zK959)
  (try clear zK959)
  (try clear zK959)
  (try clear zK959)
  (try clear zK959)
  (try clear zK959)
  (try clear fK959)
  (try clear fK959)
  (try clear fK959)
  (try clear fK959)
  (try clear fK959)
  (try clear fK959)
  (try clear fK959)
  (try clear fK959)
  (try clear fK959)
  (try clear fK959)
  (try clear fK959)
  (try clear fK959)
  (try clear fK959)
  (try clear fK959)
  (try clear fK959)
  (try clear fK959)
  (try clear fK959)
  obtain ⟨kq, x956001_2, x956002_2, x960001_2, x960002_2, x960003_2, x960004_2, x960005_2, x960006_2, x960007_2, x960008_2, x960009_2, x960010_2, x960011_2, x960012_2, x960013_2, x960014_2, x960015_2, HA, HJ2, BK954, BK959, HI955, HB⟩ := hcut
  cases kq with
  | zero => exact absurd HA.out (by simp [spec_GetItem.j0])
  | succ kj2 =>
   have H := HA.out
   clear HA
   simp only [spec_GetItem.j0] at H
   by_cases c73 : x956002_2 = true
   ·
    subst c73
    rw [if_pos rfl] at H
    simp only [Option.some.injEq, Prod.mk.injEq] at H
    obtain ⟨rfl, rfl, rfl, rfl, rfl, rfl, rfl, rfl, rfl, rfl, rfl, rfl, rfl, rfl, rfl, rfl, rfl⟩ := H
    obtain ⟨ASz74_0, cSz74_0, HGz74, hgz74, HSz74_0⟩ := HI955.out
    obtain ⟨HSz74_0, HQz74_0⟩ := HSz74_0
    have z74_0 := cellS106_0 HGz74
    have z74_1 := cellS106_1 HGz74
    have z74_2 := cellS106_2 HGz74
    have f74_1 := blk_frozen HGz74 1
    have f74_2 := blk_frozen HGz74 2
    clear HGz74 hgz74
    have hnb75 := nx_ NB954_959
    have hnb76 := nx_ NB954_955
    (try clear zK954)
    have zK954 := cf16 BK954.out
    go_wp2_with (first | ((with_reducible refine gate_store (t := 29) (p := 2) rfl ?_); refine store_evs (t := 29) (p := 2) (j := 0) (cs := [.int .i64 0, .int .i64 0, .string (⟨#[]⟩ : ByteArray), .int .i64 0, .int .i64 0, .int .i64 0, .string (⟨#[]⟩ : ByteArray), .int .i64 0, .int .i64 0, .int .i64 0, .string (⟨#[]⟩ : ByteArray), .int .i64 0, .int .i64 0, .int .i64 0, .int .i64 0, .int .i64 0]) (qK BK954) ?_; intro w78 hw; replace BK959 := sK_ hw BK959 NB959_954; replace HI955 := IsS106.s_ hw HI955 NB955_954; replace HB := sB_ hw HB; replace BK954 := sW_ hw BK954; clear hw))
    refine bodyPost_ret (results_ct rfl _ _ gb954 29 #[.int .i64 0, .int .i64 0, .string (⟨#[]⟩ : ByteArray), .int .i64 0, .int .i64 0, .int .i64 0, .string (⟨#[]⟩ : ByteArray), .int .i64 0, .int .i64 0, .int .i64 0, .string (⟨#[]⟩ : ByteArray), .int .i64 0, .int .i64 0, .int .i64 0, .int .i64 0, .int .i64 0] (0, 0) _ rfl (qK BK954) Try.underlying29 rfl (by kernel_rfl)) rfl ?_
    exact ⟨er_, qB HB⟩
   replace c73 := nf_ c73
   subst c73
   rw [if_neg (show ¬ (false = true) by decide)] at H
   replace H := bd_ H
   obtain ⟨t1011, A79, H⟩ := H
   replace H := bd_ H
   obtain ⟨t1014, A80, H⟩ := H
   have HC81 := am_ H
   clear H
   obtain ⟨ASz82_0, cSz82_0, HGz82, hgz82, HSz82_0⟩ := HI955.out
   obtain ⟨HSz82_0, HQz82_0⟩ := HSz82_0
   have z82_0 := cellS106_0 HGz82
   have z82_1 := cellS106_1 HGz82
   have z82_2 := cellS106_2 HGz82
   have f82_1 := blk_frozen HGz82 1
   have f82_2 := blk_frozen HGz82 2
   clear HGz82 hgz82
   have hnb83 := nx_ NB959_954
   have hnb84 := nx_ NB959_955
   (try clear zK959)
   have zK959 := cf16 BK959.out
   go_upto_if 103 with (first | (go_at_call 20; (with_reducible refine (spec_PutItem.calls kj2 t956 x960001_2 x960002_2 x960003_2 x960004_2 x960005_2 x960006_2 x960007_2 x960008_2 x960009_2 x960010_2 x960011_2 x960012_2 x960013_2 x960014_2 x960015_2 t1011 _ A79.out).mono ?_); rintro e w86 ⟨v1012, rfl, ho0, hb⟩; have HO1013 := am_ (Kd.R_lower ho0 (below_size (qB HB))); replace BK954 := bK_ BK954 hb; replace BK959 := bK_ BK959 hb; replace HB := bS_ HB hb; replace HI955 := am_ (IsS106.below (IsS106.qz HI955) hb); (try clear hb); (try clear ho0); obtain ⟨Ao87, co87, eo87⟩ := Kd.R_slice HO1013.out; subst eo87) | (go_at_call 78; (with_reducible refine (spec_l1Same.calls _ _ t1011 _ _ l0 t1014 _ (rC_ HO1013) ((rL_ HO1013)) ?side3 ?side4 A80.out).mono ?_); (case side3 => exact qC (Kd.C_below HR0.out HB.out)); (case side4 => exact HC0.out); rintro e w' ⟨rfl, ⟨nd, rfl⟩⟩))
   (try simp only [Act.put, List.setIfInBounds_toArray, List.set_cons_zero, List.set_cons_succ])
   (try (rw [drewN_self w86]; generalize hq_ : World.drewN w86 _ = w86; have n0_ : Aside0 (Kd.R (Kd.int .u8) 5 w86 w.heap.size (fun _ => True) (.slice Ao87 t1011.length co87) t1011) := ⟨by rw [← hq_]; exact (qR HO1013)⟩; have n1_ : Aside0 (w86.heap[gb954]? = some (.cells #[.int .i64 0, .int .i64 0, .string (⟨#[]⟩ : ByteArray), .int .i64 0, .int .i64 0, .int .i64 0, .string (⟨#[]⟩ : ByteArray), .int .i64 0, .int .i64 0, .int .i64 0, .string (⟨#[]⟩ : ByteArray), .int .i64 0, .int .i64 0, .int .i64 0, .int .i64 0, .int .i64 0] 29 (0, 0))) := ⟨by rw [← hq_]; exact (qK BK954)⟩; have n2_ : Aside0 (w86.heap[gb959]? = some (.cells #[.int .i64 t956, .int .i64 x960001_2, .string x960002_2, .int .i64 x960003_2, .int .i64 x960004_2, .int .i64 x960005_2, .string x960006_2, .int .i64 x960007_2, .int .i64 x960008_2, .int .i64 x960009_2, .string x960010_2, .int .i64 x960011_2, .int .i64 x960012_2, .int .i64 x960013_2, .int .i64 x960014_2, .int .i64 x960015_2] 29 (0, 0))) := ⟨by rw [← hq_]; exact (qK BK959)⟩; have n3_ : Aside0 (IsS106 w w86 gb955 l0 x956001_2 false) := ⟨by rw [← hq_]; exact (IsS106.qz HI955)⟩; have n4_ : Aside0 (Below w.heap.size w w86) := ⟨by rw [← hq_]; exact (qB HB)⟩; clear HO1013 BK954 BK959 HI955 HB hq_; have HO1013 := n0_; have BK954 := n1_; have BK959 := n2_; have HI955 := n3_; have HB := n4_; clear n0_ n1_ n2_ n3_ n4_))
   have H := HC81.out
   clear HC81
   by_cases c88 : t1014 = true
   rotate_left
   ·
    replace c88 := nf_ c88
    subst c88
    rw [if_neg (show ¬ (false = true) by decide)] at H
    simp only [Option.some.injEq, Prod.mk.injEq] at H
    obtain ⟨rfl, rfl, rfl, rfl, rfl, rfl, rfl, rfl, rfl, rfl, rfl, rfl, rfl, rfl, rfl, rfl, rfl⟩ := H
    have hnb95 := nx_ NB954_959
    have hnb96 := nx_ NB954_955
    (try clear zK954)
    have zK954 := cf16 BK954.out
    go_wp2_with (first | ((with_reducible refine gate_store (t := 29) (p := 2) rfl ?_); refine store_evs (t := 29) (p := 2) (j := 0) (cs := [.int .i64 0, .int .i64 0, .string (⟨#[]⟩ : ByteArray), .int .i64 0, .int .i64 0, .int .i64 0, .string (⟨#[]⟩ : ByteArray), .int .i64 0, .int .i64 0, .int .i64 0, .string (⟨#[]⟩ : ByteArray), .int .i64 0, .int .i64 0, .int .i64 0, .int .i64 0, .int .i64 0]) (qK BK954) ?_; intro w98 hw; have n0_ := fR0_ hw HO1013 BK954; replace BK959 := sK_ hw BK959 NB959_954; replace HI955 := IsS106.s_ hw HI955 NB955_954; replace HB := sB_ hw HB; replace BK954 := sW_ hw BK954; clear hw; clear HO1013; have HO1013 := n0_; clear n0_))
    refine bodyPost_ret (results_ct rfl _ _ gb954 29 #[.int .i64 0, .int .i64 0, .string (⟨#[]⟩ : ByteArray), .int .i64 0, .int .i64 0, .int .i64 0, .string (⟨#[]⟩ : ByteArray), .int .i64 0, .int .i64 0, .int .i64 0, .string (⟨#[]⟩ : ByteArray), .int .i64 0, .int .i64 0, .int .i64 0, .int .i64 0, .int .i64 0] (0, 0) _ rfl (qK BK954) Try.underlying29 rfl (by kernel_rfl)) rfl ?_
    exact ⟨er_, qB HB⟩
   subst c88
   rw [if_pos rfl] at H
   simp only [Option.some.injEq, Prod.mk.injEq] at H
   obtain ⟨rfl, rfl, rfl, rfl, rfl, rfl, rfl, rfl, rfl, rfl, rfl, rfl, rfl, rfl, rfl, rfl, rfl⟩ := H
   have hnb89 := nx_ NB959_954
   have hnb90 := nx_ NB959_955
   (try clear zK959)
   have zK959 := cf16 BK959.out
   have hnb92 := nx_ NB954_955
   (try clear zK954)
   have zK954 := cf16 BK954.out
   go_wp2_with (first | ((with_reducible refine gate_store (t := 29) (p := 2) rfl ?_); refine store_evs (t := 29) (p := 2) (j := 0) (cs := [.int .i64 t956, .int .i64 x960001_2, .string x960002_2, .int .i64 x960003_2, .int .i64 x960004_2, .int .i64 x960005_2, .string x960006_2, .int .i64 x960007_2, .int .i64 x960008_2, .int .i64 x960009_2, .string x960010_2, .int .i64 x960011_2, .int .i64 x960012_2, .int .i64 x960013_2, .int .i64 x960014_2, .int .i64 x960015_2]) (qK BK954) ?_; intro w94 hw; have n0_ := fR0_ hw HO1013 BK954; replace HI955 := IsS106.s_ hw HI955 NB955_954; replace HB := sB_ hw HB; replace BK954 := sW_ hw BK954; clear hw; clear HO1013; have HO1013 := n0_; clear n0_))
   refine bodyPost_ret (results_ct rfl _ _ gb954 29 #[.int .i64 t956, .int .i64 x960001_2, .string x960002_2, .int .i64 x960003_2, .int .i64 x960004_2, .int .i64 x960005_2, .string x960006_2, .int .i64 x960007_2, .int .i64 x960008_2, .int .i64 x960009_2, .string x960010_2, .int .i64 x960011_2, .int .i64 x960012_2, .int .i64 x960013_2, .int .i64 x960014_2, .int .i64 x960015_2] (0, 0) _ rfl (qK BK954) Try.underlying29 rfl (by kernel_rfl)) rfl ?_
   exact ⟨er_, qB HB⟩

end Go.Proofs.Ytiffahfpfgnjnaa.PFnCtls
