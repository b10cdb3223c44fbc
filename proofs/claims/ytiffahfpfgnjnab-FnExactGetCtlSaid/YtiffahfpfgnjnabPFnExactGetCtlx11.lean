-- Written by a program of this session (myprint.py, over the kit's print): contracts of FnExactGetCtl
import Derived.Test.YtiffahfpfgnjnabPFnExactGetCtlx0
import Derived.Test.YtiffahfpfgnjnabPFnExactGetCtlx7
import Derived.Test.YtiffahfpfgnjnabPFnExactGetCtlx10
namespace Go.Proofs.Ytiffahfpfgnjnab.PFnExactGetCtl
open Go.RowKit Go.Proofs.YtiffahfpfgnjnabW.PrintWords Go.Proofs.YtiffahfpfgnjnabW.PrintLast Go.Proofs.YtiffahfpfgnjnabW.PrintMore Go.Proofs.YtiffahfpfgnjnabV
attribute [local go_sem] max2_int min2_int max_two min_two max_three min_three max_four min_four   -- for this text's walks alone
set_option linter.unusedVariables false
set_option linter.unusedSimpArgs false

/-! ### spec_GetItem: function 82 -/
def spec_GetItem.j0 : Nat → List Int → List Int → Int → Bool → Int → Int → ByteArray → Int → Int → Int → ByteArray → Int → Int → Int → ByteArray → Int → Int → Int → Int → Int → Option (Int × Int × ByteArray × Int × Int × Int × ByteArray × Int × Int × Int × ByteArray × Int × Int × Int × Int × Int × Bool)
 | 0, _, _, _, _, _, _, _, _, _, _, _, _, _, _, _, _, _, _, _, _ => none
 | k + 1, x0, x314000, x314001, x314002, x318000, x318001, x318002, x318003, x318004, x318005, x318006, x318007, x318008, x318009, x318010, x318011, x318012, x318013, x318014, x318015 => if x314002 = true then (some (0, 0, (⟨#[]⟩ : ByteArray), 0, 0, 0, (⟨#[]⟩ : ByteArray), 0, 0, 0, (⟨#[]⟩ : ByteArray), 0, 0, 0, 0, 0, false)) else ((spec_PutItem.f k x318000 x318001 x318002 x318003 x318004 x318005 x318006 x318007 x318008 x318009 x318010 x318011 x318012 x318013 x318014 x318015).bind fun t369 => ((spec_l1Same.f t369 x0).bind fun t372 => (if t372 = true then (some (x318000, x318001, x318002, x318003, x318004, x318005, x318006, x318007, x318008, x318009, x318010, x318011, x318012, x318013, x318014, x318015, true)) else (some (0, 0, (⟨#[]⟩ : ByteArray), 0, 0, 0, (⟨#[]⟩ : ByteArray), 0, 0, 0, (⟨#[]⟩ : ByteArray), 0, 0, 0, 0, 0, false)))))
def spec_GetItem.f (k : Nat) (l0 : List Int) : Option (Int × Int × ByteArray × Int × Int × Int × ByteArray × Int × Int × Int × ByteArray × Int × Int × Int × Int × Int × Bool) := (spec_l9Byte.f l0 0 false).bind fun bt314 => (if bt314.1 = 1 then ((spec_l9Word.f l0 bt314.2.1 bt314.2.2).bind fun bt318 => ((spec_l9Byte.f l0 bt318.2.1 bt318.2.2).bind fun bt321 => ((spec_l9Text.f k l0 bt321.2.1 bt321.2.2).bind fun bt324 => ((spec_l9Word.f l0 bt324.2.1 bt324.2.2).bind fun bt327 => ((spec_l9Word.f l0 bt327.2.1 bt327.2.2).bind fun bt330 => ((spec_l9Byte.f l0 bt330.2.1 bt330.2.2).bind fun bt333 => ((spec_l9Text.f k l0 bt333.2.1 bt333.2.2).bind fun bt336 => ((spec_l9Word.f l0 bt336.2.1 bt336.2.2).bind fun bt339 => ((spec_l9Word.f l0 bt339.2.1 bt339.2.2).bind fun bt342 => (spec_GetItem.j0 k l0 l0 bt342.2.1 bt342.2.2 bt314.1 bt318.1 bt324.1 bt321.1 bt327.1 (wrap64 ((wrap64 (256 * bt330.1)) + bt333.1)) bt336.1 bt339.1 bt342.1 0 (⟨#[]⟩ : ByteArray) 0 0 0 0 0)))))))))) else ((spec_l9Word.f l0 bt314.2.1 bt314.2.2).bind fun bt345 => ((spec_l9Byte.f l0 bt345.2.1 bt345.2.2).bind fun bt348 => ((spec_l9Text.f k l0 bt348.2.1 bt348.2.2).bind fun bt351 => ((spec_l9Word.f l0 bt351.2.1 bt351.2.2).bind fun bt354 => ((spec_l9Word.f l0 bt354.2.1 bt354.2.2).bind fun bt357 => ((spec_l9Byte.f l0 bt357.2.1 bt357.2.2).bind fun bt360 => ((spec_l9Word.f l0 bt360.2.1 bt360.2.2).bind fun bt363 => ((spec_l9Word.f l0 bt363.2.1 bt363.2.2).bind fun bt366 => (spec_GetItem.j0 k l0 l0 bt366.2.1 bt366.2.2 bt314.1 0 (⟨#[]⟩ : ByteArray) 0 0 0 (⟨#[]⟩ : ByteArray) 0 0 bt345.1 bt351.1 bt354.1 bt348.1 (wrap64 ((wrap64 (256 * bt357.1)) + bt360.1)) bt363.1 bt366.1))))))))))
theorem spec_GetItem.mono_l : ∀ k, (∀ y0 y1 y2 y3 y4 y5 y6 y7 y8 y9 y10 y11 y12 y13 y14 y15 y16 y17 y18 y19, LeO (spec_GetItem.j0 k y0 y1 y2 y3 y4 y5 y6 y7 y8 y9 y10 y11 y12 y13 y14 y15 y16 y17 y18 y19) (spec_GetItem.j0 (k + 1) y0 y1 y2 y3 y4 y5 y6 y7 y8 y9 y10 y11 y12 y13 y14 y15 y16 y17 y18 y19))
 | 0 => fun _ _ _ _ _ _ _ _ _ _ _ _ _ _ _ _ _ _ _ _ r h => by simp [spec_GetItem.j0] at h
 | k + 1 => by
  have ih0 := spec_GetItem.mono_l k
  ·
   intro y0 y1 y2 y3 y4 y5 y6 y7 y8 y9 y10 y11 y12 y13 y14 y15 y16 y17 y18 y19
   unfold spec_GetItem.j0
   have m0 := @spec_PutItem.mono; have m1 := @spec_l9Text.mono; exact mo_
theorem spec_GetItem.mono : ∀ a0 k, LeO (spec_GetItem.f k a0) (spec_GetItem.f (k + 1) a0) := by
 intro a0 k
 have ih0 := spec_GetItem.mono_l k
 unfold spec_GetItem.f
 have m0 := @spec_PutItem.mono; have m1 := @spec_l9Text.mono; exact mo_
def spec_GetItem.T9 : Bool × List (List Nat × List Nat) := (true, [([], []), ([0], [0]), ([1], [1]), ([], []), ([3], [3]), ([2, 4], [2, 4]), ([0, 1, 2, 3, 4, 5], []), ([6, 0, 1, 2, 3, 4, 5], [6]), ([7, 5, 4, 0, 1, 2, 3, 4, 5], [5, 7])])
def spec_GetItem.B9 : List Nat := [0, 1, 3, 0, 8, 31, 63, 127, 255]
theorem spec_GetItem.tab9 : rtab .any (opsOf Try.f82 9) = spec_GetItem.T9 := by kernel_rfl
theorem spec_GetItem.bits9 : waitsOk spec_GetItem.T9.2 spec_GetItem.B9 = true := by kernel_rfl
def spec_GetItem.T18 : Bool × List (List Nat × List Nat) := (true, [([], []), ([0], [0]), ([1], [1]), ([], []), ([3], [3]), ([2, 4], [2, 4]), ([0, 1, 2, 3, 4, 5], []), ([6, 0, 1, 2, 3, 4, 5], [6]), ([7, 5, 4, 0, 1, 2, 3, 4, 5], [5, 7])])
def spec_GetItem.B18 : List Nat := [0, 1, 3, 0, 8, 31, 63, 127, 255]
theorem spec_GetItem.tab18 : rtab .any (opsOf Try.f82 18) = spec_GetItem.T18 := by kernel_rfl
theorem spec_GetItem.bits18 : waitsOk spec_GetItem.T18.2 spec_GetItem.B18 = true := by kernel_rfl
set_option maxHeartbeats 8000000 in
set_option maxRecDepth 100000 in
theorem spec_GetItem.calls (k : Nat) (A0 : Option Addr) (c0 : Nat) (l0 : List Int) (r1 : Int) (r2 : Int) (r3 : ByteArray) (r4 : Int) (r5 : Int) (r6 : Int) (r7 : ByteArray) (r8 : Int) (r9 : Int) (r10 : Int) (r11 : ByteArray) (r12 : Int) (r13 : Int) (r14 : Int) (r15 : Int) (r16 : Int) (r17 : Bool) (w : World) (hr0 : Kd.C (Kd.int .u8) w A0 l0.length l0) (hc0 : l0.length ≤ c0) (h : spec_GetItem.f k l0 = some (r1, r2, r3, r4, r5, r6, r7, r8, r9, r10, r11, r12, r13, r14, r15, r16, r17)) :
  Calls Try.prog 82 #[.slice A0 l0.length c0] w fun e w' => e = .returned (.tuple #[.agg #[.int .i64 r1, .int .i64 r2, .string r3, .int .i64 r4, .int .i64 r5, .int .i64 r6, .string r7, .int .i64 r8, .int .i64 r9, .int .i64 r10, .string r11, .int .i64 r12, .int .i64 r13, .int .i64 r14, .int .i64 r15, .int .i64 r16], .bool r17]) ∧ Below w.heap.size w w' := by
 have hu126 := Try.underlying126
 have hu121 := Try.underlying121
 have HR0 := Aside0.mk hr0
 have HC0 := Aside0.mk hc0
 clear hr0 hc0
 have HB := Aside0.mk (Below.refl w.heap.size w)
 have H := h
 unfold spec_GetItem.f at H
 clear h
 replace H := bf_ H
 obtain ⟨f_, hf_, ⟨t314, t315, t316⟩, A2, H⟩ := H
 subst hf_
 (try dsimp only at H)
 have HC3 := Aside0.mk H
 clear H
 go_enter Try.func82, Try.ntmps82
 go_upto_if 14 with (first | ((with_reducible refine gate_dst (N := 2) rfl ?_); refine bx_ (N := 2) (cs := #[.int .i64 0, .int .i64 0, .string (⟨#[]⟩ : ByteArray), .int .i64 0, .int .i64 0, .int .i64 0, .string (⟨#[]⟩ : ByteArray), .int .i64 0, .int .i64 0, .int .i64 0, .string (⟨#[]⟩ : ByteArray), .int .i64 0, .int .i64 0, .int .i64 0, .int .i64 0, .int .i64 0]) (t := 126) ?_; intro gb312 hg w4 hbox hb; have BK312 := am_ (hbox); have GW312 := gA_ hg HB; have GE312 := GW312; have IGE312 := gI_ GE312; replace HB := bS_ HB hb; clear hb hbox hg) | ((with_reducible refine gate_dst (N := 8) rfl ?_); refine bx_ (N := 8) (cs := #[.slice A0 l0.length c0, .int .i64 0, .bool false]) (t := 121) ?_; intro gb313 hg w5 hbox hb; have BK313 := am_ (hbox); have GW313 := gA_ hg HB; have GE313 := GW313; have IGE313 := gI_ GE313; replace HB := bS_ HB hb; have NB312_313 := am_ ((gN_ hg (qK BK312))); have NB313_312 := am_ ((gM_ hg (qK BK312))); replace BK312 := bK_ BK312 hb; clear hb hbox hg; have HI313 := Aside0.mk (show IsS121 w _ gb313 l0 0 false from ⟨_, _, BK313.out, GE313.out, ⟨HR0.out, HC0.out⟩⟩); have IGHI313 := iG_ HI313.out.ge) | ((with_reducible refine gate_callee (f := 80) rfl ?_); refine gl_ (some 10) Try.func80 #[.pointer (some ⟨gb313, 0, none⟩)] ?_; (with_reducible refine (spec_l9Byte.calls gb313 l0 0 false t314 t315 t316 w _ ?side1 ?side2 A2.out).mono ?_); (case side1 => exact IsS121.qz HI313); (case side2 => exact qB HB); rintro e w6 ⟨rfl, hi, hb, hk⟩; refine ⟨_, rfl, ?_⟩; replace BK312 := kB_ BK312 hk NB312_313; replace HB := am_ (hb); replace HI313 := am_ (hi); (try clear hb); (try clear hk); (try clear hi)) | ((with_reducible refine gate_dst (N := 5) rfl ?_); refine bx_ (N := 5) (cs := #[.int .i64 0, .int .i64 0, .string (⟨#[]⟩ : ByteArray), .int .i64 0, .int .i64 0, .int .i64 0, .string (⟨#[]⟩ : ByteArray), .int .i64 0, .int .i64 0, .int .i64 0, .string (⟨#[]⟩ : ByteArray), .int .i64 0, .int .i64 0, .int .i64 0, .int .i64 0, .int .i64 0]) (t := 126) ?_; intro gb317 hg w7 hbox hb; have BK317 := am_ (hbox); have GW317 := am_ ((by rw [hg]; exact (below_size (qB HB)) : w.heap.size ≤ gb317)); have IGW317 := gI_ GW317; have GE317 := am_ ((by rw [hg]; exact (below_size (qB HB)) : w.heap.size ≤ gb317)); have IGE317 := gI_ GE317; replace HB := bS_ HB hb; have NB312_317 := am_ ((gN_ hg (qK BK312))); have NB317_312 := am_ ((gM_ hg (qK BK312))); replace BK312 := bK_ BK312 hb; have NB313_317 := am_ ((by rw [hg]; exact Nat.ne_of_lt (IsS121.lt (show IsS121 w _ gb313 l0 t315 t316 from IsS121.qz HI313)) : gb313 ≠ gb317)); have NB317_313 := am_ ((by rw [hg]; exact Nat.ne_of_gt (IsS121.lt (show IsS121 w _ gb313 l0 t315 t316 from IsS121.qz HI313)) : gb317 ≠ gb313)); replace HI313 := am_ (IsS121.below (IsS121.qz HI313) hb); clear hb hbox hg; have hnb8 := NB317_312.out; have hnc8 := NB312_317.out; have hnb9 := NB317_313.out; have hnc9 := NB313_317.out; (try clear zK317); have zK317 := cz16 BK317.out; (try clear fK317); have fK317 := fz16 BK317.out) | ((with_reducible refine gate_store (t := 126) (p := 5) rfl ?_); refine store_evs (t := 126) (p := 5) (j := 0) (cs := [.int .i64 t314, .int .i64 0, .string (⟨#[]⟩ : ByteArray), .int .i64 0, .int .i64 0, .int .i64 0, .string (⟨#[]⟩ : ByteArray), .int .i64 0, .int .i64 0, .int .i64 0, .string (⟨#[]⟩ : ByteArray), .int .i64 0, .int .i64 0, .int .i64 0, .int .i64 0, .int .i64 0]) (qK BK317) ?_; intro w11 hw; replace BK312 := sK_ hw BK312 NB312_317; replace HI313 := IsS121.s_ hw HI313 NB313_317; replace HB := sB_ hw HB; replace BK317 := sW_ hw BK317; clear hw; (try clear zK317); have zK317 := cz16 BK317.out; (try clear fK317); have fK317 := fz16 BK317.out))
 (try simp only [Act.put, List.setIfInBounds_toArray, List.set_cons_zero, List.set_cons_succ])
 go_cut [] (fun wc => ∃ (kq : Nat) (x314001_2 : Int) (x314002_2 : Bool) (x318001_2 : Int) (x318002_2 : ByteArray) (x318003_2 : Int) (x318004_2 : Int) (x318005_2 : Int) (x318006_2 : ByteArray) (x318007_2 : Int) (x318008_2 : Int) (x318009_2 : Int) (x318010_2 : ByteArray) (x318011_2 : Int) (x318012_2 : Int) (x318013_2 : Int) (x318014_2 : Int) (x318015_2 : Int), Aside0 (spec_GetItem.j0 kq l0 l0 x314001_2 x314002_2 t314 x318001_2 x318002_2 x318003_2 x318004_2 x318005_2 x318006_2 x318007_2 x318008_2 x318009_2 x318010_2 x318011_2 x318012_2 x318013_2 x318014_2 x318015_2 = some (r1, r2, r3, r4, r5, r6, r7, r8, r9, r10, r11, r12, r13, r14, r15, r16, r17)) ∧ Aside0 (kq ≤ k) ∧ Aside0 (wc.heap[gb312]? = some (.cells #[.int .i64 0, .int .i64 0, .string (⟨#[]⟩ : ByteArray), .int .i64 0, .int .i64 0, .int .i64 0, .string (⟨#[]⟩ : ByteArray), .int .i64 0, .int .i64 0, .int .i64 0, .string (⟨#[]⟩ : ByteArray), .int .i64 0, .int .i64 0, .int .i64 0, .int .i64 0, .int .i64 0] 126 (0, 0))) ∧ Aside0 (wc.heap[gb317]? = some (.cells #[.int .i64 t314, .int .i64 x318001_2, .string x318002_2, .int .i64 x318003_2, .int .i64 x318004_2, .int .i64 x318005_2, .string x318006_2, .int .i64 x318007_2, .int .i64 x318008_2, .int .i64 x318009_2, .string x318010_2, .int .i64 x318011_2, .int .i64 x318012_2, .int .i64 x318013_2, .int .i64 x318014_2, .int .i64 x318015_2] 126 (0, 0))) ∧ Aside0 (IsS121 w wc gb313 l0 x314001_2 x314002_2) ∧ Aside0 (Below w.heap.size w wc))
 case first =>
  have H := HC3.out
  clear HC3
  replace H := ie_ H
  obtain ⟨-, H, c13b0, c13b1⟩ | ⟨c13, H, c13b0, c13b1⟩ := H
  rotate_left
  ·
   (first | rw [c13b0] | rw [c13b1] | (simp only [i64_w, i32_w]; rw [c13b0]) | skip)
   replace H := bf_ H
   obtain ⟨f_, hf_, ⟨t345, t346, t347⟩, A45, H⟩ := H
   subst hf_
   (try dsimp only at H)
   replace H := bf_ H
   obtain ⟨f_, hf_, ⟨t348, t349, t350⟩, A46, H⟩ := H
   subst hf_
   (try dsimp only at H)
   replace H := bf_ H
   obtain ⟨f_, hf_, ⟨t351, t352, t353⟩, A47, H⟩ := H
   subst hf_
   (try dsimp only at H)
   replace H := bf_ H
   obtain ⟨f_, hf_, ⟨t354, t355, t356⟩, A48, H⟩ := H
   subst hf_
   (try dsimp only at H)
   replace H := bf_ H
   obtain ⟨f_, hf_, ⟨t357, t358, t359⟩, A49, H⟩ := H
   subst hf_
   (try dsimp only at H)
   replace H := bf_ H
   obtain ⟨f_, hf_, ⟨t360, t361, t362⟩, A50, H⟩ := H
   subst hf_
   (try dsimp only at H)
   replace H := bf_ H
   obtain ⟨f_, hf_, ⟨t363, t364, t365⟩, A51, H⟩ := H
   subst hf_
   (try dsimp only at H)
   replace H := bf_ H
   obtain ⟨f_, hf_, ⟨t366, t367, t368⟩, A52, H⟩ := H
   subst hf_
   (try dsimp only at H)
   have H' := Aside0.mk H
   clear H
   try go_wp2_with (first | ((with_reducible refine gate_callee (f := 81) rfl ?_); refine gl_ (some 57) Try.func81 #[.pointer (some ⟨gb313, 0, none⟩)] ?_; (with_reducible refine (spec_l9Word.calls gb313 l0 t315 t316 t345 t346 t347 w _ ?side1 ?side2 A45.out).mono ?_); (case side1 => exact IsS121.qz HI313); (case side2 => exact qB HB); rintro e w53 ⟨rfl, hi, hb, hk⟩; refine ⟨_, rfl, ?_⟩; replace BK312 := kB_ BK312 hk NB312_313; replace BK317 := kB_ BK317 hk NB317_313; replace HB := am_ (hb); replace HI313 := am_ (hi); (try clear hb); (try clear hk); (try clear hi); have hnb54 := NB317_312.out; have hnc54 := NB312_317.out; have hnb55 := NB317_313.out; have hnc55 := NB313_317.out; (try clear zK317); have zK317 := cz16 BK317.out; (try clear fK317); have fK317 := fz16 BK317.out) | ((with_reducible refine gate_callee (f := 80) rfl ?_); refine gl_ (some 61) Try.func80 #[.pointer (some ⟨gb313, 0, none⟩)] ?_; (with_reducible refine (spec_l9Byte.calls gb313 l0 t346 t347 t348 t349 t350 w _ ?side1 ?side2 A46.out).mono ?_); (case side1 => exact IsS121.qz HI313); (case side2 => exact qB HB); rintro e w57 ⟨rfl, hi, hb, hk⟩; refine ⟨_, rfl, ?_⟩; replace BK312 := am_ (KeepBut.blk hk (g' := gb312) (o := .cells #[.int .i64 0, .int .i64 0, .string (⟨#[]⟩ : ByteArray), .int .i64 0, .int .i64 0, .int .i64 0, .string (⟨#[]⟩ : ByteArray), .int .i64 0, .int .i64 0, .int .i64 0, .string (⟨#[]⟩ : ByteArray), .int .i64 0, .int .i64 0, .int .i64 0, .int .i64 0, .int .i64 0] 126 (0, 0)) (by (with_reducible repeat (first | refine blk_drewN ?_ _ | refine blk_drew ?_ | refine blk_alloc ?_ _)); refine blk_far ?_ NB312_317.out _; exact qK BK312) NB312_313.out (by simp)); replace BK317 := am_ (KeepBut.blk hk (g' := gb317) (o := .cells #[.int .i64 t314, .int .i64 0, .string (⟨#[]⟩ : ByteArray), .int .i64 0, .int .i64 0, .int .i64 0, .string (⟨#[]⟩ : ByteArray), .int .i64 0, .int .i64 0, .int .i64 t345, .string (⟨#[]⟩ : ByteArray), .int .i64 0, .int .i64 0, .int .i64 0, .int .i64 0, .int .i64 0] 126 (0, 0)) (by (with_reducible repeat (first | refine blk_drewN ?_ _ | refine blk_drew ?_ | refine blk_alloc ?_ _)); refine blk_put (cs := #[.int .i64 t314, .int .i64 0, .string (⟨#[]⟩ : ByteArray), .int .i64 0, .int .i64 0, .int .i64 0, .string (⟨#[]⟩ : ByteArray), .int .i64 0, .int .i64 0, .int .i64 0, .string (⟨#[]⟩ : ByteArray), .int .i64 0, .int .i64 0, .int .i64 0, .int .i64 0, .int .i64 0]) ?_ 9 _ rfl; exact qK BK317) NB317_313.out (by simp)); replace HB := am_ (hb); replace HI313 := am_ (hi); (try clear hb); (try clear hk); (try clear hi); (try clear zK317); have zK317 := cz16 BK317.out; (try clear fK317); have fK317 := fz16 BK317.out) | ((with_reducible refine gate_callee (f := 116) rfl ?_); refine gl_ (some 65) Try.func116 #[.pointer (some ⟨gb313, 0, none⟩)] ?_; (with_reducible refine (spec_l9Text.calls k gb313 l0 t349 t350 t351 t352 t353 w _ ?side1 ?side2 A47.out).mono ?_); (case side1 => exact IsS121.qz HI313); (case side2 => exact qB HB); rintro e w59 ⟨rfl, hi, hb, hk⟩; refine ⟨_, rfl, ?_⟩; replace BK312 := am_ (KeepBut.blk hk (g' := gb312) (o := .cells #[.int .i64 0, .int .i64 0, .string (⟨#[]⟩ : ByteArray), .int .i64 0, .int .i64 0, .int .i64 0, .string (⟨#[]⟩ : ByteArray), .int .i64 0, .int .i64 0, .int .i64 0, .string (⟨#[]⟩ : ByteArray), .int .i64 0, .int .i64 0, .int .i64 0, .int .i64 0, .int .i64 0] 126 (0, 0)) (by (with_reducible repeat (first | refine blk_drewN ?_ _ | refine blk_drew ?_ | refine blk_alloc ?_ _)); refine blk_far ?_ NB312_317.out _; exact qK BK312) NB312_313.out (by simp)); replace BK317 := am_ (KeepBut.blk hk (g' := gb317) (o := .cells #[.int .i64 t314, .int .i64 0, .string (⟨#[]⟩ : ByteArray), .int .i64 0, .int .i64 0, .int .i64 0, .string (⟨#[]⟩ : ByteArray), .int .i64 0, .int .i64 0, .int .i64 t345, .string (⟨#[]⟩ : ByteArray), .int .i64 0, .int .i64 t348, .int .i64 0, .int .i64 0, .int .i64 0] 126 (0, 0)) (by (with_reducible repeat (first | refine blk_drewN ?_ _ | refine blk_drew ?_ | refine blk_alloc ?_ _)); refine blk_put (cs := #[.int .i64 t314, .int .i64 0, .string (⟨#[]⟩ : ByteArray), .int .i64 0, .int .i64 0, .int .i64 0, .string (⟨#[]⟩ : ByteArray), .int .i64 0, .int .i64 0, .int .i64 t345, .string (⟨#[]⟩ : ByteArray), .int .i64 0, .int .i64 0, .int .i64 0, .int .i64 0, .int .i64 0]) ?_ 12 _ rfl; exact qK BK317) NB317_313.out (by simp)); replace HB := am_ (hb); replace HI313 := am_ (hi); (try clear hb); (try clear hk); (try clear hi); (try clear zK317); have zK317 := cz16 BK317.out; (try clear fK317); have fK317 := fz16 BK317.out) | ((with_reducible refine gate_callee (f := 81) rfl ?_); refine gl_ (some 69) Try.func81 #[.pointer (some ⟨gb313, 0, none⟩)] ?_; (with_reducible refine (spec_l9Word.calls gb313 l0 t352 t353 t354 t355 t356 w _ ?side1 ?side2 A48.out).mono ?_); (case side1 => exact IsS121.qz HI313); (case side2 => exact qB HB); rintro e w61 ⟨rfl, hi, hb, hk⟩; refine ⟨_, rfl, ?_⟩; replace BK312 := am_ (KeepBut.blk hk (g' := gb312) (o := .cells #[.int .i64 0, .int .i64 0, .string (⟨#[]⟩ : ByteArray), .int .i64 0, .int .i64 0, .int .i64 0, .string (⟨#[]⟩ : ByteArray), .int .i64 0, .int .i64 0, .int .i64 0, .string (⟨#[]⟩ : ByteArray), .int .i64 0, .int .i64 0, .int .i64 0, .int .i64 0, .int .i64 0] 126 (0, 0)) (by (with_reducible repeat (first | refine blk_drewN ?_ _ | refine blk_drew ?_ | refine blk_alloc ?_ _)); refine blk_far ?_ NB312_317.out _; exact qK BK312) NB312_313.out (by simp)); replace BK317 := am_ (KeepBut.blk hk (g' := gb317) (o := .cells #[.int .i64 t314, .int .i64 0, .string (⟨#[]⟩ : ByteArray), .int .i64 0, .int .i64 0, .int .i64 0, .string (⟨#[]⟩ : ByteArray), .int .i64 0, .int .i64 0, .int .i64 t345, .string t351, .int .i64 0, .int .i64 t348, .int .i64 0, .int .i64 0, .int .i64 0] 126 (0, 0)) (by (with_reducible repeat (first | refine blk_drewN ?_ _ | refine blk_drew ?_ | refine blk_alloc ?_ _)); refine blk_put (cs := #[.int .i64 t314, .int .i64 0, .string (⟨#[]⟩ : ByteArray), .int .i64 0, .int .i64 0, .int .i64 0, .string (⟨#[]⟩ : ByteArray), .int .i64 0, .int .i64 0, .int .i64 t345, .string (⟨#[]⟩ : ByteArray), .int .i64 0, .int .i64 t348, .int .i64 0, .int .i64 0, .int .i64 0]) ?_ 10 _ rfl; exact qK BK317) NB317_313.out (by simp)); replace HB := am_ (hb); replace HI313 := am_ (hi); (try clear hb); (try clear hk); (try clear hi); (try clear zK317); have zK317 := cz16 BK317.out; (try clear fK317); have fK317 := fz16 BK317.out) | ((with_reducible refine gate_callee (f := 81) rfl ?_); refine gl_ (some 73) Try.func81 #[.pointer (some ⟨gb313, 0, none⟩)] ?_; (with_reducible refine (spec_l9Word.calls gb313 l0 t355 t356 t357 t358 t359 w _ ?side1 ?side2 A49.out).mono ?_); (case side1 => exact IsS121.qz HI313); (case side2 => exact qB HB); rintro e w63 ⟨rfl, hi, hb, hk⟩; refine ⟨_, rfl, ?_⟩; replace BK312 := am_ (KeepBut.blk hk (g' := gb312) (o := .cells #[.int .i64 0, .int .i64 0, .string (⟨#[]⟩ : ByteArray), .int .i64 0, .int .i64 0, .int .i64 0, .string (⟨#[]⟩ : ByteArray), .int .i64 0, .int .i64 0, .int .i64 0, .string (⟨#[]⟩ : ByteArray), .int .i64 0, .int .i64 0, .int .i64 0, .int .i64 0, .int .i64 0] 126 (0, 0)) (by (with_reducible repeat (first | refine blk_drewN ?_ _ | refine blk_drew ?_ | refine blk_alloc ?_ _)); refine blk_far ?_ NB312_317.out _; exact qK BK312) NB312_313.out (by simp)); replace BK317 := am_ (KeepBut.blk hk (g' := gb317) (o := .cells #[.int .i64 t314, .int .i64 0, .string (⟨#[]⟩ : ByteArray), .int .i64 0, .int .i64 0, .int .i64 0, .string (⟨#[]⟩ : ByteArray), .int .i64 0, .int .i64 0, .int .i64 t345, .string t351, .int .i64 t354, .int .i64 t348, .int .i64 0, .int .i64 0, .int .i64 0] 126 (0, 0)) (by (with_reducible repeat (first | refine blk_drewN ?_ _ | refine blk_drew ?_ | refine blk_alloc ?_ _)); refine blk_put (cs := #[.int .i64 t314, .int .i64 0, .string (⟨#[]⟩ : ByteArray), .int .i64 0, .int .i64 0, .int .i64 0, .string (⟨#[]⟩ : ByteArray), .int .i64 0, .int .i64 0, .int .i64 t345, .string t351, .int .i64 0, .int .i64 t348, .int .i64 0, .int .i64 0, .int .i64 0]) ?_ 11 _ rfl; exact qK BK317) NB317_313.out (by simp)); replace HB := am_ (hb); replace HI313 := am_ (hi); (try clear hb); (try clear hk); (try clear hi); (try clear zK317); have zK317 := cz16 BK317.out; (try clear fK317); have fK317 := fz16 BK317.out))
   have n0_ : Aside0 ((w63.setCell ⟨gb317, 13, none⟩ (.int .i64 (wrap64 (256 * t357)))).heap[gb312]? = some (.cells #[.int .i64 0, .int .i64 0, .string (⟨#[]⟩ : ByteArray), .int .i64 0, .int .i64 0, .int .i64 0, .string (⟨#[]⟩ : ByteArray), .int .i64 0, .int .i64 0, .int .i64 0, .string (⟨#[]⟩ : ByteArray), .int .i64 0, .int .i64 0, .int .i64 0, .int .i64 0, .int .i64 0] 126 (0, 0))) := ⟨by (with_reducible repeat (first | refine blk_drewN ?_ _ | refine blk_drew ?_ | refine blk_alloc ?_ _)); refine blk_far ?_ NB312_317.out _; exact qK BK312⟩
   have n1_ : Aside0 ((w63.setCell ⟨gb317, 13, none⟩ (.int .i64 (wrap64 (256 * t357)))).heap[gb317]? = some (.cells #[.int .i64 t314, .int .i64 0, .string (⟨#[]⟩ : ByteArray), .int .i64 0, .int .i64 0, .int .i64 0, .string (⟨#[]⟩ : ByteArray), .int .i64 0, .int .i64 0, .int .i64 t345, .string t351, .int .i64 t354, .int .i64 t348, .int .i64 (wrap64 (256 * t357)), .int .i64 0, .int .i64 0] 126 (0, 0))) := ⟨by (with_reducible repeat (first | refine blk_drewN ?_ _ | refine blk_drew ?_ | refine blk_alloc ?_ _)); refine blk_put (cs := #[.int .i64 t314, .int .i64 0, .string (⟨#[]⟩ : ByteArray), .int .i64 0, .int .i64 0, .int .i64 0, .string (⟨#[]⟩ : ByteArray), .int .i64 0, .int .i64 0, .int .i64 t345, .string t351, .int .i64 t354, .int .i64 t348, .int .i64 0, .int .i64 0, .int .i64 0]) ?_ 13 _ rfl; exact qK BK317⟩
   have n2_ : Aside0 (IsS121 w (w63.setCell ⟨gb317, 13, none⟩ (.int .i64 (wrap64 (256 * t357)))) gb313 l0 t358 t359) := ⟨IsS121.qz HI313⟩
   have n3_ : Aside0 (Below w.heap.size w (w63.setCell ⟨gb317, 13, none⟩ (.int .i64 (wrap64 (256 * t357))))) := ⟨qB HB⟩
   (try clear BK312)
   (try clear BK317)
   (try clear HI313)
   (try clear HB)
   generalize (w63.setCell ⟨gb317, 13, none⟩ (.int .i64 (wrap64 (256 * t357)))) = w65 at n0_ n1_ n2_ n3_ ⊢
   have BK312 := n0_
   have BK317 := n1_
   have HI313 := n2_
   have HB := n3_
   clear n0_ n1_ n2_ n3_
   replace BK312 := am_ (blk_drew BK312.out)
   replace BK317 := am_ (blk_drew BK317.out)
   replace HI313 := am_ (IsS121.drew HI313.out)
   replace HB := am_ (below_drew1 HB.out)
   refine start_ (n := 9) (S := fun w' => w'.cell? ⟨gb317, 0, none⟩ = some (.int .i64 t314) ∧ w'.cell? ⟨gb317, 1, none⟩ = some (.int .i64 0) ∧ w'.cell? ⟨gb317, 2, none⟩ = some (.string (⟨#[]⟩ : ByteArray)) ∧ w'.cell? ⟨gb317, 3, none⟩ = some (.int .i64 0) ∧ w'.cell? ⟨gb317, 4, none⟩ = some (.int .i64 0) ∧ w'.cell? ⟨gb317, 5, none⟩ = some (.int .i64 0) ∧ w'.cell? ⟨gb317, 6, none⟩ = some (.string (⟨#[]⟩ : ByteArray)) ∧ w'.cell? ⟨gb317, 7, none⟩ = some (.int .i64 0) ∧ w'.cell? ⟨gb317, 8, none⟩ = some (.int .i64 0) ∧ w'.cell? ⟨gb317, 9, none⟩ = some (.int .i64 t345) ∧ w'.cell? ⟨gb317, 10, none⟩ = some (.string t351) ∧ w'.cell? ⟨gb317, 11, none⟩ = some (.int .i64 t354) ∧ w'.cell? ⟨gb317, 12, none⟩ = some (.int .i64 t348) ∧ w'.cell? ⟨gb317, 13, none⟩ = some (.int .i64 (wrap64 (256 * t357))) ∧ w'.cell? ⟨gb317, 14, none⟩ = some (.int .i64 0) ∧ w'.cell? ⟨gb317, 15, none⟩ = some (.int .i64 0)) (ds := [8]) #[oo,oo,oo,oo,oo,oo,oo,oo,oo] (by kernel_rfl) rfl rfl (cz16 BK317.out) (fun hHeld => ?_); refine with_tabW spec_GetItem.tab18 spec_GetItem.bits18 (fun HT_ HW_ => ?_)
   generalize w65.drew = w66 at BK312 BK317 HI313 HB hHeld ⊢
   refine pq_ 0 77 HT_ #[ii,oo,oo,oo,oo,oo,oo,oo,oo] ?_
   refine pq_ 1 78 HT_ #[ii,ii,oo,oo,oo,oo,oo,oo,oo] ?_
   refine pq_ 3 80 HT_ #[ii,ii,oo,ii,oo,oo,oo,oo,oo] ?_
   refine tz_ (i := 2) (N := some 79) HT_ HW_ #[ii,ii,ii,ii,oo,oo,oo,oo,oo] rfl rfl hHeld ?_
   refine on_ HT_ (i := 4) (N := some 81) #[ii,ii,ii,ii,ii,oo,oo,oo,oo] (fun K hK => ?_)
   refine goes_ Try.func80 (by kernel_rfl) rfl #[.pointer (some ⟨gb313, 0, none⟩)] (by rfl) rfl rfl la_ ?_
   with_reducible refine (spec_l9Byte.calls gb313 l0 t358 t359 t360 t361 t362 w _ ?side1 ?side2 A50.out).mono ?_
   (case side1 => exact IsS121.qz HI313)
   (case side2 => exact qB HB)
   rintro e w67 ⟨rfl, hi, hb, hk⟩
   refine ⟨_, rfl, ?_⟩
   replace BK312 := kB_ BK312 hk NB312_313
   replace BK317 := kB_ BK317 hk NB317_313
   replace HB := am_ (hb)
   replace HI313 := am_ (hi)
   (try clear hb hk hi)
   refine hK.out _ _ (cz16 BK317.out) (fun hHeld => ?_)
   clear hK K
   refine nm_ (some 81) ?_
   refine pq_ 5 82 HT_ #[ii,ii,ii,ii,ii,ii,oo,oo,oo] ?_
   refine pq_ 6 83 HT_ #[ii,ii,ii,ii,ii,ii,ii,oo,oo] ?_
   refine pq_ 7 84 HT_ #[ii,ii,ii,ii,ii,ii,ii,ii,oo] ?_
   refine last_ (i := 8) (N := none) #[ii,ii,ii,ii,ii,ii,ii,ii,ii] rfl rfl (one_of HT_.out (by kernel_rfl)) (by decide) (fun K hK => ?_)
   have hs68 : w67.cell? ⟨gb317, 13, none⟩ = some (.int .i64 (wrap64 (256 * t357))) := (blk_cell BK317.out 13).trans rfl
   have hfs68 := blk_frozen BK317.out 13
   have hns68_0 := NB312_317.out
   have hms68_0 := NB317_312.out
   refine skip_ (w1 := ?_) (by rfl) rfl ?_ ?_
   rotate_left
   ·
    go_simp
    rfl
   refine hK.out _ _ ?_
   clear hK K
   refine done_ (done_of HT_.out (by kernel_rfl)) ?_
   try go_wp2_with (first | ((with_reducible refine gate_callee (f := 81) rfl ?_); refine gl_ (some 86) Try.func81 #[.pointer (some ⟨gb313, 0, none⟩)] ?_; (with_reducible refine (spec_l9Word.calls gb313 l0 t361 t362 t363 t364 t365 w _ ?side1 ?side2 A51.out).mono ?_); (case side1 => exact IsS121.qz HI313); (case side2 => exact qB HB); rintro e w69 ⟨rfl, hi, hb, hk⟩; refine ⟨_, rfl, ?_⟩; replace BK312 := am_ (KeepBut.blk hk (g' := gb312) (o := .cells #[.int .i64 0, .int .i64 0, .string (⟨#[]⟩ : ByteArray), .int .i64 0, .int .i64 0, .int .i64 0, .string (⟨#[]⟩ : ByteArray), .int .i64 0, .int .i64 0, .int .i64 0, .string (⟨#[]⟩ : ByteArray), .int .i64 0, .int .i64 0, .int .i64 0, .int .i64 0, .int .i64 0] 126 (0, 0)) (by (with_reducible repeat (first | refine blk_drewN ?_ _ | refine blk_drew ?_ | refine blk_alloc ?_ _)); refine blk_far ?_ NB312_317.out _; exact qK BK312) NB312_313.out (by simp)); replace BK317 := am_ (KeepBut.blk hk (g' := gb317) (o := .cells #[.int .i64 t314, .int .i64 0, .string (⟨#[]⟩ : ByteArray), .int .i64 0, .int .i64 0, .int .i64 0, .string (⟨#[]⟩ : ByteArray), .int .i64 0, .int .i64 0, .int .i64 t345, .string t351, .int .i64 t354, .int .i64 t348, .int .i64 (wrap64 ((wrap64 (256 * t357)) + t360)), .int .i64 0, .int .i64 0] 126 (0, 0)) (by (with_reducible repeat (first | refine blk_drewN ?_ _ | refine blk_drew ?_ | refine blk_alloc ?_ _)); refine blk_put (cs := #[.int .i64 t314, .int .i64 0, .string (⟨#[]⟩ : ByteArray), .int .i64 0, .int .i64 0, .int .i64 0, .string (⟨#[]⟩ : ByteArray), .int .i64 0, .int .i64 0, .int .i64 t345, .string t351, .int .i64 t354, .int .i64 t348, .int .i64 (wrap64 (256 * t357)), .int .i64 0, .int .i64 0]) ?_ 13 _ rfl; exact qK BK317) NB317_313.out (by simp)); replace HB := am_ (hb); replace HI313 := am_ (hi); (try clear hb); (try clear hk); (try clear hi); (try clear zK317); have zK317 := cz16 BK317.out; (try clear fK317); have fK317 := fz16 BK317.out) | ((with_reducible refine gate_callee (f := 81) rfl ?_); refine gl_ (some 90) Try.func81 #[.pointer (some ⟨gb313, 0, none⟩)] ?_; (with_reducible refine (spec_l9Word.calls gb313 l0 t364 t365 t366 t367 t368 w _ ?side1 ?side2 A52.out).mono ?_); (case side1 => exact IsS121.qz HI313); (case side2 => exact qB HB); rintro e w71 ⟨rfl, hi, hb, hk⟩; refine ⟨_, rfl, ?_⟩; replace BK312 := am_ (KeepBut.blk hk (g' := gb312) (o := .cells #[.int .i64 0, .int .i64 0, .string (⟨#[]⟩ : ByteArray), .int .i64 0, .int .i64 0, .int .i64 0, .string (⟨#[]⟩ : ByteArray), .int .i64 0, .int .i64 0, .int .i64 0, .string (⟨#[]⟩ : ByteArray), .int .i64 0, .int .i64 0, .int .i64 0, .int .i64 0, .int .i64 0] 126 (0, 0)) (by (with_reducible repeat (first | refine blk_drewN ?_ _ | refine blk_drew ?_ | refine blk_alloc ?_ _)); refine blk_far ?_ NB312_317.out _; exact qK BK312) NB312_313.out (by simp)); replace BK317 := am_ (KeepBut.blk hk (g' := gb317) (o := .cells #[.int .i64 t314, .int .i64 0, .string (⟨#[]⟩ : ByteArray), .int .i64 0, .int .i64 0, .int .i64 0, .string (⟨#[]⟩ : ByteArray), .int .i64 0, .int .i64 0, .int .i64 t345, .string t351, .int .i64 t354, .int .i64 t348, .int .i64 (wrap64 ((wrap64 (256 * t357)) + t360)), .int .i64 t363, .int .i64 0] 126 (0, 0)) (by (with_reducible repeat (first | refine blk_drewN ?_ _ | refine blk_drew ?_ | refine blk_alloc ?_ _)); refine blk_put (cs := #[.int .i64 t314, .int .i64 0, .string (⟨#[]⟩ : ByteArray), .int .i64 0, .int .i64 0, .int .i64 0, .string (⟨#[]⟩ : ByteArray), .int .i64 0, .int .i64 0, .int .i64 t345, .string t351, .int .i64 t354, .int .i64 t348, .int .i64 (wrap64 ((wrap64 (256 * t357)) + t360)), .int .i64 0, .int .i64 0]) ?_ 14 _ rfl; exact qK BK317) NB317_313.out (by simp)); replace HB := am_ (hb); replace HI313 := am_ (hi); (try clear hb); (try clear hk); (try clear hi); (try clear zK317); have zK317 := cz16 BK317.out; (try clear fK317); have fK317 := fz16 BK317.out))
   go_meet
   case rel => exact ⟨_, (t367), (t368), (0), ((⟨#[]⟩ : ByteArray)), (0), (0), (0), ((⟨#[]⟩ : ByteArray)), (0), (0), (t345), (t351), (t354), (t348), (wrap64 ((wrap64 (256 * t357)) + t360)), (t363), (t366), H', ⟨by first | omega | exact Nat.le_refl _⟩, ⟨by (with_reducible repeat (first | refine blk_drewN ?_ _ | refine blk_drew ?_ | refine blk_alloc ?_ _)); refine blk_far ?_ NB312_317.out _; exact qK BK312⟩, ⟨by (with_reducible repeat (first | refine blk_drewN ?_ _ | refine blk_drew ?_ | refine blk_alloc ?_ _)); refine blk_put (cs := #[.int .i64 t314, .int .i64 0, .string (⟨#[]⟩ : ByteArray), .int .i64 0, .int .i64 0, .int .i64 0, .string (⟨#[]⟩ : ByteArray), .int .i64 0, .int .i64 0, .int .i64 t345, .string t351, .int .i64 t354, .int .i64 t348, .int .i64 (wrap64 ((wrap64 (256 * t357)) + t360)), .int .i64 t363, .int .i64 0]) ?_ 15 _ rfl; exact qK BK317⟩, ⟨IsS121.qz HI313⟩, ⟨qB HB⟩⟩
  (first | rw [c13b0] | rw [c13b1] | (simp only [i64_w, i32_w]; rw [c13b0]) | skip)
  replace H := bf_ H
  obtain ⟨f_, hf_, ⟨t318, t319, t320⟩, A14, H⟩ := H
  subst hf_
  (try dsimp only at H)
  replace H := bf_ H
  obtain ⟨f_, hf_, ⟨t321, t322, t323⟩, A15, H⟩ := H
  subst hf_
  (try dsimp only at H)
  replace H := bf_ H
  obtain ⟨f_, hf_, ⟨t324, t325, t326⟩, A16, H⟩ := H
  subst hf_
  (try dsimp only at H)
  replace H := bf_ H
  obtain ⟨f_, hf_, ⟨t327, t328, t329⟩, A17, H⟩ := H
  subst hf_
  (try dsimp only at H)
  replace H := bf_ H
  obtain ⟨f_, hf_, ⟨t330, t331, t332⟩, A18, H⟩ := H
  subst hf_
  (try dsimp only at H)
  replace H := bf_ H
  obtain ⟨f_, hf_, ⟨t333, t334, t335⟩, A19, H⟩ := H
  subst hf_
  (try dsimp only at H)
  replace H := bf_ H
  obtain ⟨f_, hf_, ⟨t336, t337, t338⟩, A20, H⟩ := H
  subst hf_
  (try dsimp only at H)
  replace H := bf_ H
  obtain ⟨f_, hf_, ⟨t339, t340, t341⟩, A21, H⟩ := H
  subst hf_
  (try dsimp only at H)
  replace H := bf_ H
  obtain ⟨f_, hf_, ⟨t342, t343, t344⟩, A22, H⟩ := H
  subst hf_
  (try dsimp only at H)
  have H' := Aside0.mk H
  clear H
  try go_wp2_with (first | ((with_reducible refine gate_callee (f := 81) rfl ?_); refine gl_ (some 16) Try.func81 #[.pointer (some ⟨gb313, 0, none⟩)] ?_; (with_reducible refine (spec_l9Word.calls gb313 l0 t315 t316 t318 t319 t320 w _ ?side1 ?side2 A14.out).mono ?_); (case side1 => exact IsS121.qz HI313); (case side2 => exact qB HB); rintro e w23 ⟨rfl, hi, hb, hk⟩; refine ⟨_, rfl, ?_⟩; replace BK312 := kB_ BK312 hk NB312_313; replace BK317 := kB_ BK317 hk NB317_313; replace HB := am_ (hb); replace HI313 := am_ (hi); (try clear hb); (try clear hk); (try clear hi); have hnb24 := NB317_312.out; have hnc24 := NB312_317.out; have hnb25 := NB317_313.out; have hnc25 := NB313_317.out; (try clear zK317); have zK317 := cz16 BK317.out; (try clear fK317); have fK317 := fz16 BK317.out) | ((with_reducible refine gate_callee (f := 80) rfl ?_); refine gl_ (some 20) Try.func80 #[.pointer (some ⟨gb313, 0, none⟩)] ?_; (with_reducible refine (spec_l9Byte.calls gb313 l0 t319 t320 t321 t322 t323 w _ ?side1 ?side2 A15.out).mono ?_); (case side1 => exact IsS121.qz HI313); (case side2 => exact qB HB); rintro e w27 ⟨rfl, hi, hb, hk⟩; refine ⟨_, rfl, ?_⟩; replace BK312 := am_ (KeepBut.blk hk (g' := gb312) (o := .cells #[.int .i64 0, .int .i64 0, .string (⟨#[]⟩ : ByteArray), .int .i64 0, .int .i64 0, .int .i64 0, .string (⟨#[]⟩ : ByteArray), .int .i64 0, .int .i64 0, .int .i64 0, .string (⟨#[]⟩ : ByteArray), .int .i64 0, .int .i64 0, .int .i64 0, .int .i64 0, .int .i64 0] 126 (0, 0)) (by (with_reducible repeat (first | refine blk_drewN ?_ _ | refine blk_drew ?_ | refine blk_alloc ?_ _)); refine blk_far ?_ NB312_317.out _; exact qK BK312) NB312_313.out (by simp)); replace BK317 := am_ (KeepBut.blk hk (g' := gb317) (o := .cells #[.int .i64 t314, .int .i64 t318, .string (⟨#[]⟩ : ByteArray), .int .i64 0, .int .i64 0, .int .i64 0, .string (⟨#[]⟩ : ByteArray), .int .i64 0, .int .i64 0, .int .i64 0, .string (⟨#[]⟩ : ByteArray), .int .i64 0, .int .i64 0, .int .i64 0, .int .i64 0, .int .i64 0] 126 (0, 0)) (by (with_reducible repeat (first | refine blk_drewN ?_ _ | refine blk_drew ?_ | refine blk_alloc ?_ _)); refine blk_put (cs := #[.int .i64 t314, .int .i64 0, .string (⟨#[]⟩ : ByteArray), .int .i64 0, .int .i64 0, .int .i64 0, .string (⟨#[]⟩ : ByteArray), .int .i64 0, .int .i64 0, .int .i64 0, .string (⟨#[]⟩ : ByteArray), .int .i64 0, .int .i64 0, .int .i64 0, .int .i64 0, .int .i64 0]) ?_ 1 _ rfl; exact qK BK317) NB317_313.out (by simp)); replace HB := am_ (hb); replace HI313 := am_ (hi); (try clear hb); (try clear hk); (try clear hi); (try clear zK317); have zK317 := cz16 BK317.out; (try clear fK317); have fK317 := fz16 BK317.out) | ((with_reducible refine gate_callee (f := 116) rfl ?_); refine gl_ (some 24) Try.func116 #[.pointer (some ⟨gb313, 0, none⟩)] ?_; (with_reducible refine (spec_l9Text.calls k gb313 l0 t322 t323 t324 t325 t326 w _ ?side1 ?side2 A16.out).mono ?_); (case side1 => exact IsS121.qz HI313); (case side2 => exact qB HB); rintro e w29 ⟨rfl, hi, hb, hk⟩; refine ⟨_, rfl, ?_⟩; replace BK312 := am_ (KeepBut.blk hk (g' := gb312) (o := .cells #[.int .i64 0, .int .i64 0, .string (⟨#[]⟩ : ByteArray), .int .i64 0, .int .i64 0, .int .i64 0, .string (⟨#[]⟩ : ByteArray), .int .i64 0, .int .i64 0, .int .i64 0, .string (⟨#[]⟩ : ByteArray), .int .i64 0, .int .i64 0, .int .i64 0, .int .i64 0, .int .i64 0] 126 (0, 0)) (by (with_reducible repeat (first | refine blk_drewN ?_ _ | refine blk_drew ?_ | refine blk_alloc ?_ _)); refine blk_far ?_ NB312_317.out _; exact qK BK312) NB312_313.out (by simp)); replace BK317 := am_ (KeepBut.blk hk (g' := gb317) (o := .cells #[.int .i64 t314, .int .i64 t318, .string (⟨#[]⟩ : ByteArray), .int .i64 t321, .int .i64 0, .int .i64 0, .string (⟨#[]⟩ : ByteArray), .int .i64 0, .int .i64 0, .int .i64 0, .string (⟨#[]⟩ : ByteArray), .int .i64 0, .int .i64 0, .int .i64 0, .int .i64 0, .int .i64 0] 126 (0, 0)) (by (with_reducible repeat (first | refine blk_drewN ?_ _ | refine blk_drew ?_ | refine blk_alloc ?_ _)); refine blk_put (cs := #[.int .i64 t314, .int .i64 t318, .string (⟨#[]⟩ : ByteArray), .int .i64 0, .int .i64 0, .int .i64 0, .string (⟨#[]⟩ : ByteArray), .int .i64 0, .int .i64 0, .int .i64 0, .string (⟨#[]⟩ : ByteArray), .int .i64 0, .int .i64 0, .int .i64 0, .int .i64 0, .int .i64 0]) ?_ 3 _ rfl; exact qK BK317) NB317_313.out (by simp)); replace HB := am_ (hb); replace HI313 := am_ (hi); (try clear hb); (try clear hk); (try clear hi); (try clear zK317); have zK317 := cz16 BK317.out; (try clear fK317); have fK317 := fz16 BK317.out) | ((with_reducible refine gate_callee (f := 81) rfl ?_); refine gl_ (some 28) Try.func81 #[.pointer (some ⟨gb313, 0, none⟩)] ?_; (with_reducible refine (spec_l9Word.calls gb313 l0 t325 t326 t327 t328 t329 w _ ?side1 ?side2 A17.out).mono ?_); (case side1 => exact IsS121.qz HI313); (case side2 => exact qB HB); rintro e w31 ⟨rfl, hi, hb, hk⟩; refine ⟨_, rfl, ?_⟩; replace BK312 := am_ (KeepBut.blk hk (g' := gb312) (o := .cells #[.int .i64 0, .int .i64 0, .string (⟨#[]⟩ : ByteArray), .int .i64 0, .int .i64 0, .int .i64 0, .string (⟨#[]⟩ : ByteArray), .int .i64 0, .int .i64 0, .int .i64 0, .string (⟨#[]⟩ : ByteArray), .int .i64 0, .int .i64 0, .int .i64 0, .int .i64 0, .int .i64 0] 126 (0, 0)) (by (with_reducible repeat (first | refine blk_drewN ?_ _ | refine blk_drew ?_ | refine blk_alloc ?_ _)); refine blk_far ?_ NB312_317.out _; exact qK BK312) NB312_313.out (by simp)); replace BK317 := am_ (KeepBut.blk hk (g' := gb317) (o := .cells #[.int .i64 t314, .int .i64 t318, .string t324, .int .i64 t321, .int .i64 0, .int .i64 0, .string (⟨#[]⟩ : ByteArray), .int .i64 0, .int .i64 0, .int .i64 0, .string (⟨#[]⟩ : ByteArray), .int .i64 0, .int .i64 0, .int .i64 0, .int .i64 0, .int .i64 0] 126 (0, 0)) (by (with_reducible repeat (first | refine blk_drewN ?_ _ | refine blk_drew ?_ | refine blk_alloc ?_ _)); refine blk_put (cs := #[.int .i64 t314, .int .i64 t318, .string (⟨#[]⟩ : ByteArray), .int .i64 t321, .int .i64 0, .int .i64 0, .string (⟨#[]⟩ : ByteArray), .int .i64 0, .int .i64 0, .int .i64 0, .string (⟨#[]⟩ : ByteArray), .int .i64 0, .int .i64 0, .int .i64 0, .int .i64 0, .int .i64 0]) ?_ 2 _ rfl; exact qK BK317) NB317_313.out (by simp)); replace HB := am_ (hb); replace HI313 := am_ (hi); (try clear hb); (try clear hk); (try clear hi); (try clear zK317); have zK317 := cz16 BK317.out; (try clear fK317); have fK317 := fz16 BK317.out) | ((with_reducible refine gate_callee (f := 81) rfl ?_); refine gl_ (some 32) Try.func81 #[.pointer (some ⟨gb313, 0, none⟩)] ?_; (with_reducible refine (spec_l9Word.calls gb313 l0 t328 t329 t330 t331 t332 w _ ?side1 ?side2 A18.out).mono ?_); (case side1 => exact IsS121.qz HI313); (case side2 => exact qB HB); rintro e w33 ⟨rfl, hi, hb, hk⟩; refine ⟨_, rfl, ?_⟩; replace BK312 := am_ (KeepBut.blk hk (g' := gb312) (o := .cells #[.int .i64 0, .int .i64 0, .string (⟨#[]⟩ : ByteArray), .int .i64 0, .int .i64 0, .int .i64 0, .string (⟨#[]⟩ : ByteArray), .int .i64 0, .int .i64 0, .int .i64 0, .string (⟨#[]⟩ : ByteArray), .int .i64 0, .int .i64 0, .int .i64 0, .int .i64 0, .int .i64 0] 126 (0, 0)) (by (with_reducible repeat (first | refine blk_drewN ?_ _ | refine blk_drew ?_ | refine blk_alloc ?_ _)); refine blk_far ?_ NB312_317.out _; exact qK BK312) NB312_313.out (by simp)); replace BK317 := am_ (KeepBut.blk hk (g' := gb317) (o := .cells #[.int .i64 t314, .int .i64 t318, .string t324, .int .i64 t321, .int .i64 t327, .int .i64 0, .string (⟨#[]⟩ : ByteArray), .int .i64 0, .int .i64 0, .int .i64 0, .string (⟨#[]⟩ : ByteArray), .int .i64 0, .int .i64 0, .int .i64 0, .int .i64 0, .int .i64 0] 126 (0, 0)) (by (with_reducible repeat (first | refine blk_drewN ?_ _ | refine blk_drew ?_ | refine blk_alloc ?_ _)); refine blk_put (cs := #[.int .i64 t314, .int .i64 t318, .string t324, .int .i64 t321, .int .i64 0, .int .i64 0, .string (⟨#[]⟩ : ByteArray), .int .i64 0, .int .i64 0, .int .i64 0, .string (⟨#[]⟩ : ByteArray), .int .i64 0, .int .i64 0, .int .i64 0, .int .i64 0, .int .i64 0]) ?_ 4 _ rfl; exact qK BK317) NB317_313.out (by simp)); replace HB := am_ (hb); replace HI313 := am_ (hi); (try clear hb); (try clear hk); (try clear hi); (try clear zK317); have zK317 := cz16 BK317.out; (try clear fK317); have fK317 := fz16 BK317.out))
  have n0_ : Aside0 ((w33.setCell ⟨gb317, 5, none⟩ (.int .i64 (wrap64 (256 * t330)))).heap[gb312]? = some (.cells #[.int .i64 0, .int .i64 0, .string (⟨#[]⟩ : ByteArray), .int .i64 0, .int .i64 0, .int .i64 0, .string (⟨#[]⟩ : ByteArray), .int .i64 0, .int .i64 0, .int .i64 0, .string (⟨#[]⟩ : ByteArray), .int .i64 0, .int .i64 0, .int .i64 0, .int .i64 0, .int .i64 0] 126 (0, 0))) := ⟨by (with_reducible repeat (first | refine blk_drewN ?_ _ | refine blk_drew ?_ | refine blk_alloc ?_ _)); refine blk_far ?_ NB312_317.out _; exact qK BK312⟩
  have n1_ : Aside0 ((w33.setCell ⟨gb317, 5, none⟩ (.int .i64 (wrap64 (256 * t330)))).heap[gb317]? = some (.cells #[.int .i64 t314, .int .i64 t318, .string t324, .int .i64 t321, .int .i64 t327, .int .i64 (wrap64 (256 * t330)), .string (⟨#[]⟩ : ByteArray), .int .i64 0, .int .i64 0, .int .i64 0, .string (⟨#[]⟩ : ByteArray), .int .i64 0, .int .i64 0, .int .i64 0, .int .i64 0, .int .i64 0] 126 (0, 0))) := ⟨by (with_reducible repeat (first | refine blk_drewN ?_ _ | refine blk_drew ?_ | refine blk_alloc ?_ _)); refine blk_put (cs := #[.int .i64 t314, .int .i64 t318, .string t324, .int .i64 t321, .int .i64 t327, .int .i64 0, .string (⟨#[]⟩ : ByteArray), .int .i64 0, .int .i64 0, .int .i64 0, .string (⟨#[]⟩ : ByteArray), .int .i64 0, .int .i64 0, .int .i64 0, .int .i64 0, .int .i64 0]) ?_ 5 _ rfl; exact qK BK317⟩
  have n2_ : Aside0 (IsS121 w (w33.setCell ⟨gb317, 5, none⟩ (.int .i64 (wrap64 (256 * t330)))) gb313 l0 t331 t332) := ⟨IsS121.qz HI313⟩
  have n3_ : Aside0 (Below w.heap.size w (w33.setCell ⟨gb317, 5, none⟩ (.int .i64 (wrap64 (256 * t330))))) := ⟨qB HB⟩
  (try clear BK312)
  (try clear BK317)
  (try clear HI313)
  (try clear HB)
  generalize (w33.setCell ⟨gb317, 5, none⟩ (.int .i64 (wrap64 (256 * t330)))) = w35 at n0_ n1_ n2_ n3_ ⊢
  have BK312 := n0_
  have BK317 := n1_
  have HI313 := n2_
  have HB := n3_
  clear n0_ n1_ n2_ n3_
  replace BK312 := am_ (blk_drew BK312.out)
  replace BK317 := am_ (blk_drew BK317.out)
  replace HI313 := am_ (IsS121.drew HI313.out)
  replace HB := am_ (below_drew1 HB.out)
  refine start_ (n := 9) (S := fun w' => w'.cell? ⟨gb317, 0, none⟩ = some (.int .i64 t314) ∧ w'.cell? ⟨gb317, 1, none⟩ = some (.int .i64 t318) ∧ w'.cell? ⟨gb317, 2, none⟩ = some (.string t324) ∧ w'.cell? ⟨gb317, 3, none⟩ = some (.int .i64 t321) ∧ w'.cell? ⟨gb317, 4, none⟩ = some (.int .i64 t327) ∧ w'.cell? ⟨gb317, 5, none⟩ = some (.int .i64 (wrap64 (256 * t330))) ∧ w'.cell? ⟨gb317, 6, none⟩ = some (.string (⟨#[]⟩ : ByteArray)) ∧ w'.cell? ⟨gb317, 7, none⟩ = some (.int .i64 0) ∧ w'.cell? ⟨gb317, 8, none⟩ = some (.int .i64 0) ∧ w'.cell? ⟨gb317, 9, none⟩ = some (.int .i64 0) ∧ w'.cell? ⟨gb317, 10, none⟩ = some (.string (⟨#[]⟩ : ByteArray)) ∧ w'.cell? ⟨gb317, 11, none⟩ = some (.int .i64 0) ∧ w'.cell? ⟨gb317, 12, none⟩ = some (.int .i64 0) ∧ w'.cell? ⟨gb317, 13, none⟩ = some (.int .i64 0) ∧ w'.cell? ⟨gb317, 14, none⟩ = some (.int .i64 0) ∧ w'.cell? ⟨gb317, 15, none⟩ = some (.int .i64 0)) (ds := [8]) #[oo,oo,oo,oo,oo,oo,oo,oo,oo] (by kernel_rfl) rfl rfl (cz16 BK317.out) (fun hHeld => ?_); refine with_tabW spec_GetItem.tab9 spec_GetItem.bits9 (fun HT_ HW_ => ?_)
  generalize w35.drew = w36 at BK312 BK317 HI313 HB hHeld ⊢
  refine pq_ 0 36 HT_ #[ii,oo,oo,oo,oo,oo,oo,oo,oo] ?_
  refine pq_ 1 37 HT_ #[ii,ii,oo,oo,oo,oo,oo,oo,oo] ?_
  refine pq_ 3 39 HT_ #[ii,ii,oo,ii,oo,oo,oo,oo,oo] ?_
  refine tz_ (i := 2) (N := some 38) HT_ HW_ #[ii,ii,ii,ii,oo,oo,oo,oo,oo] rfl rfl hHeld ?_
  refine on_ HT_ (i := 4) (N := some 40) #[ii,ii,ii,ii,ii,oo,oo,oo,oo] (fun K hK => ?_)
  refine goes_ Try.func80 (by kernel_rfl) rfl #[.pointer (some ⟨gb313, 0, none⟩)] (by rfl) rfl rfl la_ ?_
  with_reducible refine (spec_l9Byte.calls gb313 l0 t331 t332 t333 t334 t335 w _ ?side1 ?side2 A19.out).mono ?_
  (case side1 => exact IsS121.qz HI313)
  (case side2 => exact qB HB)
  rintro e w37 ⟨rfl, hi, hb, hk⟩
  refine ⟨_, rfl, ?_⟩
  replace BK312 := kB_ BK312 hk NB312_313
  replace BK317 := kB_ BK317 hk NB317_313
  replace HB := am_ (hb)
  replace HI313 := am_ (hi)
  (try clear hb hk hi)
  refine hK.out _ _ (cz16 BK317.out) (fun hHeld => ?_)
  clear hK K
  refine nm_ (some 40) ?_
  refine pq_ 5 41 HT_ #[ii,ii,ii,ii,ii,ii,oo,oo,oo] ?_
  refine pq_ 6 42 HT_ #[ii,ii,ii,ii,ii,ii,ii,oo,oo] ?_
  refine pq_ 7 43 HT_ #[ii,ii,ii,ii,ii,ii,ii,ii,oo] ?_
  refine last_ (i := 8) (N := none) #[ii,ii,ii,ii,ii,ii,ii,ii,ii] rfl rfl (one_of HT_.out (by kernel_rfl)) (by decide) (fun K hK => ?_)
  have hs38 : w37.cell? ⟨gb317, 5, none⟩ = some (.int .i64 (wrap64 (256 * t330))) := (blk_cell BK317.out 5).trans rfl
  have hfs38 := blk_frozen BK317.out 5
  have hns38_0 := NB312_317.out
  have hms38_0 := NB317_312.out
  refine skip_ (w1 := ?_) (by rfl) rfl ?_ ?_
  rotate_left
  ·
   go_simp
   rfl
  refine hK.out _ _ ?_
  clear hK K
  refine done_ (done_of HT_.out (by kernel_rfl)) ?_
  try go_wp2_with (first | ((with_reducible refine gate_callee (f := 116) rfl ?_); refine gl_ (some 45) Try.func116 #[.pointer (some ⟨gb313, 0, none⟩)] ?_; (with_reducible refine (spec_l9Text.calls k gb313 l0 t334 t335 t336 t337 t338 w _ ?side1 ?side2 A20.out).mono ?_); (case side1 => exact IsS121.qz HI313); (case side2 => exact qB HB); rintro e w39 ⟨rfl, hi, hb, hk⟩; refine ⟨_, rfl, ?_⟩; replace BK312 := am_ (KeepBut.blk hk (g' := gb312) (o := .cells #[.int .i64 0, .int .i64 0, .string (⟨#[]⟩ : ByteArray), .int .i64 0, .int .i64 0, .int .i64 0, .string (⟨#[]⟩ : ByteArray), .int .i64 0, .int .i64 0, .int .i64 0, .string (⟨#[]⟩ : ByteArray), .int .i64 0, .int .i64 0, .int .i64 0, .int .i64 0, .int .i64 0] 126 (0, 0)) (by (with_reducible repeat (first | refine blk_drewN ?_ _ | refine blk_drew ?_ | refine blk_alloc ?_ _)); refine blk_far ?_ NB312_317.out _; exact qK BK312) NB312_313.out (by simp)); replace BK317 := am_ (KeepBut.blk hk (g' := gb317) (o := .cells #[.int .i64 t314, .int .i64 t318, .string t324, .int .i64 t321, .int .i64 t327, .int .i64 (wrap64 ((wrap64 (256 * t330)) + t333)), .string (⟨#[]⟩ : ByteArray), .int .i64 0, .int .i64 0, .int .i64 0, .string (⟨#[]⟩ : ByteArray), .int .i64 0, .int .i64 0, .int .i64 0, .int .i64 0, .int .i64 0] 126 (0, 0)) (by (with_reducible repeat (first | refine blk_drewN ?_ _ | refine blk_drew ?_ | refine blk_alloc ?_ _)); refine blk_put (cs := #[.int .i64 t314, .int .i64 t318, .string t324, .int .i64 t321, .int .i64 t327, .int .i64 (wrap64 (256 * t330)), .string (⟨#[]⟩ : ByteArray), .int .i64 0, .int .i64 0, .int .i64 0, .string (⟨#[]⟩ : ByteArray), .int .i64 0, .int .i64 0, .int .i64 0, .int .i64 0, .int .i64 0]) ?_ 5 _ rfl; exact qK BK317) NB317_313.out (by simp)); replace HB := am_ (hb); replace HI313 := am_ (hi); (try clear hb); (try clear hk); (try clear hi); (try clear zK317); have zK317 := cz16 BK317.out; (try clear fK317); have fK317 := fz16 BK317.out) | ((with_reducible refine gate_callee (f := 81) rfl ?_); refine gl_ (some 49) Try.func81 #[.pointer (some ⟨gb313, 0, none⟩)] ?_; (with_reducible refine (spec_l9Word.calls gb313 l0 t337 t338 t339 t340 t341 w _ ?side1 ?side2 A21.out).mono ?_); (case side1 => exact IsS121.qz HI313); (case side2 => exact qB HB); rintro e w41 ⟨rfl, hi, hb, hk⟩; refine ⟨_, rfl, ?_⟩; replace BK312 := am_ (KeepBut.blk hk (g' := gb312) (o := .cells #[.int .i64 0, .int .i64 0, .string (⟨#[]⟩ : ByteArray), .int .i64 0, .int .i64 0, .int .i64 0, .string (⟨#[]⟩ : ByteArray), .int .i64 0, .int .i64 0, .int .i64 0, .string (⟨#[]⟩ : ByteArray), .int .i64 0, .int .i64 0, .int .i64 0, .int .i64 0, .int .i64 0] 126 (0, 0)) (by (with_reducible repeat (first | refine blk_drewN ?_ _ | refine blk_drew ?_ | refine blk_alloc ?_ _)); refine blk_far ?_ NB312_317.out _; exact qK BK312) NB312_313.out (by simp)); replace BK317 := am_ (KeepBut.blk hk (g' := gb317) (o := .cells #[.int .i64 t314, .int .i64 t318, .string t324, .int .i64 t321, .int .i64 t327, .int .i64 (wrap64 ((wrap64 (256 * t330)) + t333)), .string t336, .int .i64 0, .int .i64 0, .int .i64 0, .string (⟨#[]⟩ : ByteArray), .int .i64 0, .int .i64 0, .int .i64 0, .int .i64 0, .int .i64 0] 126 (0, 0)) (by (with_reducible repeat (first | refine blk_drewN ?_ _ | refine blk_drew ?_ | refine blk_alloc ?_ _)); refine blk_put (cs := #[.int .i64 t314, .int .i64 t318, .string t324, .int .i64 t321, .int .i64 t327, .int .i64 (wrap64 ((wrap64 (256 * t330)) + t333)), .string (⟨#[]⟩ : ByteArray), .int .i64 0, .int .i64 0, .int .i64 0, .string (⟨#[]⟩ : ByteArray), .int .i64 0, .int .i64 0, .int .i64 0, .int .i64 0, .int .i64 0]) ?_ 6 _ rfl; exact qK BK317) NB317_313.out (by simp)); replace HB := am_ (hb); replace HI313 := am_ (hi); (try clear hb); (try clear hk); (try clear hi); (try clear zK317); have zK317 := cz16 BK317.out; (try clear fK317); have fK317 := fz16 BK317.out) | ((with_reducible refine gate_callee (f := 81) rfl ?_); refine gl_ (some 53) Try.func81 #[.pointer (some ⟨gb313, 0, none⟩)] ?_; (with_reducible refine (spec_l9Word.calls gb313 l0 t340 t341 t342 t343 t344 w _ ?side1 ?side2 A22.out).mono ?_); (case side1 => exact IsS121.qz HI313); (case side2 => exact qB HB); rintro e w43 ⟨rfl, hi, hb, hk⟩; refine ⟨_, rfl, ?_⟩; replace BK312 := am_ (KeepBut.blk hk (g' := gb312) (o := .cells #[.int .i64 0, .int .i64 0, .string (⟨#[]⟩ : ByteArray), .int .i64 0, .int .i64 0, .int .i64 0, .string (⟨#[]⟩ : ByteArray), .int .i64 0, .int .i64 0, .int .i64 0, .string (⟨#[]⟩ : ByteArray), .int .i64 0, .int .i64 0, .int .i64 0, .int .i64 0, .int .i64 0] 126 (0, 0)) (by (with_reducible repeat (first | refine blk_drewN ?_ _ | refine blk_drew ?_ | refine blk_alloc ?_ _)); refine blk_far ?_ NB312_317.out _; exact qK BK312) NB312_313.out (by simp)); replace BK317 := am_ (KeepBut.blk hk (g' := gb317) (o := .cells #[.int .i64 t314, .int .i64 t318, .string t324, .int .i64 t321, .int .i64 t327, .int .i64 (wrap64 ((wrap64 (256 * t330)) + t333)), .string t336, .int .i64 t339, .int .i64 0, .int .i64 0, .string (⟨#[]⟩ : ByteArray), .int .i64 0, .int .i64 0, .int .i64 0, .int .i64 0, .int .i64 0] 126 (0, 0)) (by (with_reducible repeat (first | refine blk_drewN ?_ _ | refine blk_drew ?_ | refine blk_alloc ?_ _)); refine blk_put (cs := #[.int .i64 t314, .int .i64 t318, .string t324, .int .i64 t321, .int .i64 t327, .int .i64 (wrap64 ((wrap64 (256 * t330)) + t333)), .string t336, .int .i64 0, .int .i64 0, .int .i64 0, .string (⟨#[]⟩ : ByteArray), .int .i64 0, .int .i64 0, .int .i64 0, .int .i64 0, .int .i64 0]) ?_ 7 _ rfl; exact qK BK317) NB317_313.out (by simp)); replace HB := am_ (hb); replace HI313 := am_ (hi); (try clear hb); (try clear hk); (try clear hi); (try clear zK317); have zK317 := cz16 BK317.out; (try clear fK317); have fK317 := fz16 BK317.out))
  go_meet
  case rel => exact ⟨_, (t343), (t344), (t318), (t324), (t321), (t327), (wrap64 ((wrap64 (256 * t330)) + t333)), (t336), (t339), (t342), (0), ((⟨#[]⟩ : ByteArray)), (0), (0), (0), (0), (0), H', ⟨by first | omega | exact Nat.le_refl _⟩, ⟨by (with_reducible repeat (first | refine blk_drewN ?_ _ | refine blk_drew ?_ | refine blk_alloc ?_ _)); refine blk_far ?_ NB312_317.out _; exact qK BK312⟩, ⟨by (with_reducible repeat (first | refine blk_drewN ?_ _ | refine blk_drew ?_ | refine blk_alloc ?_ _)); refine blk_put (cs := #[.int .i64 t314, .int .i64 t318, .string t324, .int .i64 t321, .int .i64 t327, .int .i64 (wrap64 ((wrap64 (256 * t330)) + t333)), .string t336, .int .i64 t339, .int .i64 0, .int .i64 0, .string (⟨#[]⟩ : ByteArray), .int .i64 0, .int .i64 0, .int .i64 0, .int .i64 0, .int .i64 0]) ?_ 8 _ rfl; exact qK BK317⟩, ⟨IsS121.qz HI313⟩, ⟨qB HB⟩⟩
 case rest =>
  clear HC3
  try clear c1
  try clear c2
  try clear p2
  try clear c5
  try clear p6
  try clear c8
  try clear c9
  try clear c11
  try clear c13
  try clear c13b0
  try clear c13b1
  try clear c24
  try clear c25
  try clear c54
  try clear c55
  try clear p64
  (try clear zK317)
  (try clear zK317)
  (try clear zK317)
  (try clear zK317)
  (try clear zK317)
  (try clear zK317)
  (try clear zK317)
  (try clear zK317)
  (try clear zK317)
  (try clear zK317)
  (try clear zK317)
  (try clear zK317)
  (try clear zK317)
  (try clear zK317)
  (try clear zK317)
  (try clear zK317)
  (try clear zK317)
  (try clear fK317)
  (try clear fK317)
  (try clear fK317)
  (try clear fK317)
  (try clear fK317)
  (try clear fK317)
  (try clear fK317)
  (try clear fK317)
  (try clear fK317)
  (try clear fK317)
  (try clear fK317)
  (try clear fK317)
  (try clear fK317)
  (try clear fK317)
  (try clear fK317)
  (try clear fK317)
  (try clear fK317)
  obtain ⟨kq, x314001_2, x314002_2, x318001_2, x318002_2, x318003_2, x318004_2, x318005_2, x318006_2, x318007_2, x318008_2, x318009_2, x318010_2, x318011_2, x318012_2, x318013_2, x318014_2, x318015_2, HA, HJ2, BK312, BK317, HI313, HB⟩ := hcut
  cases kq with
  | zero => exact absurd HA.out (by simp [spec_GetItem.j0])
  | succ kj2 =>
   have H := HA.out
   clear HA
   simp only [spec_GetItem.j0] at H
   by_cases c73 : x314002_2 = true
   ·
    subst c73
    rw [if_pos rfl] at H
    simp only [Option.some.injEq, Prod.mk.injEq] at H
    obtain ⟨rfl, rfl, rfl, rfl, rfl, rfl, rfl, rfl, rfl, rfl, rfl, rfl, rfl, rfl, rfl, rfl, rfl⟩ := H
    obtain ⟨ASz74_0, cSz74_0, HGz74, hgz74, HSz74_0⟩ := HI313.out
    obtain ⟨HSz74_0, HQz74_0⟩ := HSz74_0
    have z74_0 := cellS121_0 HGz74
    have z74_1 := cellS121_1 HGz74
    have z74_2 := cellS121_2 HGz74
    have f74_1 := blk_frozen HGz74 1
    have f74_2 := blk_frozen HGz74 2
    clear HGz74 hgz74
    have hnb75 := NB312_317.out
    have hnc75 := NB317_312.out
    have hnb76 := NB312_313.out
    have hnc76 := NB313_312.out
    (try clear zK312)
    have zK312 := cz16 BK312.out
    (try clear fK312)
    have fK312 := fz16 BK312.out
    go_wp2_with (first | ((with_reducible refine gate_store (t := 126) (p := 2) rfl ?_); refine store_evs (t := 126) (p := 2) (j := 0) (cs := [.int .i64 0, .int .i64 0, .string (⟨#[]⟩ : ByteArray), .int .i64 0, .int .i64 0, .int .i64 0, .string (⟨#[]⟩ : ByteArray), .int .i64 0, .int .i64 0, .int .i64 0, .string (⟨#[]⟩ : ByteArray), .int .i64 0, .int .i64 0, .int .i64 0, .int .i64 0, .int .i64 0]) (qK BK312) ?_; intro w78 hw; replace BK317 := sK_ hw BK317 NB317_312; replace HI313 := IsS121.s_ hw HI313 NB313_312; replace HB := sB_ hw HB; replace BK312 := sW_ hw BK312; clear hw))
    refine bodyPost_ret (results_ct rfl _ _ gb312 126 #[.int .i64 0, .int .i64 0, .string (⟨#[]⟩ : ByteArray), .int .i64 0, .int .i64 0, .int .i64 0, .string (⟨#[]⟩ : ByteArray), .int .i64 0, .int .i64 0, .int .i64 0, .string (⟨#[]⟩ : ByteArray), .int .i64 0, .int .i64 0, .int .i64 0, .int .i64 0, .int .i64 0] (0, 0) _ rfl (qK BK312) Try.underlying126 rfl (by kernel_rfl)) rfl ?_
    exact ⟨er_, qB HB⟩
   replace c73 := Bool.eq_false_iff.mpr c73
   subst c73
   rw [if_neg (show ¬ (false = true) by decide)] at H
   replace H := bd_ H
   obtain ⟨t369, A79, H⟩ := H
   replace H := bd_ H
   obtain ⟨t372, A80, H⟩ := H
   have HC81 := Aside0.mk H
   clear H
   obtain ⟨ASz82_0, cSz82_0, HGz82, hgz82, HSz82_0⟩ := HI313.out
   obtain ⟨HSz82_0, HQz82_0⟩ := HSz82_0
   have z82_0 := cellS121_0 HGz82
   have z82_1 := cellS121_1 HGz82
   have z82_2 := cellS121_2 HGz82
   have f82_1 := blk_frozen HGz82 1
   have f82_2 := blk_frozen HGz82 2
   clear HGz82 hgz82
   have hnb83 := NB317_312.out
   have hnc83 := NB312_317.out
   have hnb84 := NB317_313.out
   have hnc84 := NB313_317.out
   (try clear zK317)
   have zK317 := cz16 BK317.out
   (try clear fK317)
   have fK317 := fz16 BK317.out
   go_upto_if 103 with (first | (go_at_call 105; (with_reducible refine (spec_PutItem.calls kj2 t314 x318001_2 x318002_2 x318003_2 x318004_2 x318005_2 x318006_2 x318007_2 x318008_2 x318009_2 x318010_2 x318011_2 x318012_2 x318013_2 x318014_2 x318015_2 t369 _ A79.out).mono ?_); rintro e w86 ⟨v370, rfl, ho0, hb⟩; have HO371 := am_ (Kd.R_lower ho0 (below_size (qB HB))); replace BK312 := bK_ BK312 hb; replace BK317 := bK_ BK317 hb; replace HB := bS_ HB hb; replace HI313 := am_ (IsS121.below (IsS121.qz HI313) hb); (try clear hb); (try clear ho0); obtain ⟨Ao87, co87, eo87⟩ := Kd.R_slice HO371.out; subst eo87) | (go_at_call 83; (with_reducible refine (spec_l1Same.calls _ _ t369 _ _ l0 t372 _ ?side1 ?side2 ?side3 ?side4 A80.out).mono ?_); (case side1 => exact qC ((Kd.R_reads' HO371.out).2.2)); (case side2 => exact (Kd.R_reads' HO371.out).2.1); (case side3 => exact qC (Kd.C_below HR0.out HB.out)); (case side4 => exact HC0.out); rintro e w' ⟨rfl, ⟨nd, rfl⟩⟩))
   (try simp only [Act.put, List.setIfInBounds_toArray, List.set_cons_zero, List.set_cons_succ])
   (try (rw [drewN_self w86]; generalize hq_ : World.drewN w86 _ = w86; have n0_ : Aside0 (Kd.R (Kd.int .u8) 5 w86 w.heap.size (fun _ => True) (.slice Ao87 t369.length co87) t369) := ⟨by rw [← hq_]; exact (qR HO371)⟩; have n1_ : Aside0 (w86.heap[gb312]? = some (.cells #[.int .i64 0, .int .i64 0, .string (⟨#[]⟩ : ByteArray), .int .i64 0, .int .i64 0, .int .i64 0, .string (⟨#[]⟩ : ByteArray), .int .i64 0, .int .i64 0, .int .i64 0, .string (⟨#[]⟩ : ByteArray), .int .i64 0, .int .i64 0, .int .i64 0, .int .i64 0, .int .i64 0] 126 (0, 0))) := ⟨by rw [← hq_]; exact (qK BK312)⟩; have n2_ : Aside0 (w86.heap[gb317]? = some (.cells #[.int .i64 t314, .int .i64 x318001_2, .string x318002_2, .int .i64 x318003_2, .int .i64 x318004_2, .int .i64 x318005_2, .string x318006_2, .int .i64 x318007_2, .int .i64 x318008_2, .int .i64 x318009_2, .string x318010_2, .int .i64 x318011_2, .int .i64 x318012_2, .int .i64 x318013_2, .int .i64 x318014_2, .int .i64 x318015_2] 126 (0, 0))) := ⟨by rw [← hq_]; exact (qK BK317)⟩; have n3_ : Aside0 (IsS121 w w86 gb313 l0 x314001_2 false) := ⟨by rw [← hq_]; exact (IsS121.qz HI313)⟩; have n4_ : Aside0 (Below w.heap.size w w86) := ⟨by rw [← hq_]; exact (qB HB)⟩; clear HO371 BK312 BK317 HI313 HB hq_; have HO371 := n0_; have BK312 := n1_; have BK317 := n2_; have HI313 := n3_; have HB := n4_; clear n0_ n1_ n2_ n3_ n4_))
   have H := HC81.out
   clear HC81
   by_cases c88 : t372 = true
   rotate_left
   ·
    replace c88 := Bool.eq_false_iff.mpr c88
    subst c88
    rw [if_neg (show ¬ (false = true) by decide)] at H
    simp only [Option.some.injEq, Prod.mk.injEq] at H
    obtain ⟨rfl, rfl, rfl, rfl, rfl, rfl, rfl, rfl, rfl, rfl, rfl, rfl, rfl, rfl, rfl, rfl, rfl⟩ := H
    have hnb95 := NB312_317.out
    have hnc95 := NB317_312.out
    have hnb96 := NB312_313.out
    have hnc96 := NB313_312.out
    (try clear zK312)
    have zK312 := cz16 BK312.out
    (try clear fK312)
    have fK312 := fz16 BK312.out
    go_wp2_with (first | ((with_reducible refine gate_store (t := 126) (p := 2) rfl ?_); refine store_evs (t := 126) (p := 2) (j := 0) (cs := [.int .i64 0, .int .i64 0, .string (⟨#[]⟩ : ByteArray), .int .i64 0, .int .i64 0, .int .i64 0, .string (⟨#[]⟩ : ByteArray), .int .i64 0, .int .i64 0, .int .i64 0, .string (⟨#[]⟩ : ByteArray), .int .i64 0, .int .i64 0, .int .i64 0, .int .i64 0, .int .i64 0]) (qK BK312) ?_; intro w98 hw; have n0_ := fR0_ hw HO371 BK312; replace BK317 := sK_ hw BK317 NB317_312; replace HI313 := IsS121.s_ hw HI313 NB313_312; replace HB := sB_ hw HB; replace BK312 := sW_ hw BK312; clear hw; clear HO371; have HO371 := n0_; clear n0_))
    refine bodyPost_ret (results_ct rfl _ _ gb312 126 #[.int .i64 0, .int .i64 0, .string (⟨#[]⟩ : ByteArray), .int .i64 0, .int .i64 0, .int .i64 0, .string (⟨#[]⟩ : ByteArray), .int .i64 0, .int .i64 0, .int .i64 0, .string (⟨#[]⟩ : ByteArray), .int .i64 0, .int .i64 0, .int .i64 0, .int .i64 0, .int .i64 0] (0, 0) _ rfl (qK BK312) Try.underlying126 rfl (by kernel_rfl)) rfl ?_
    exact ⟨er_, qB HB⟩
   subst c88
   rw [if_pos rfl] at H
   simp only [Option.some.injEq, Prod.mk.injEq] at H
   obtain ⟨rfl, rfl, rfl, rfl, rfl, rfl, rfl, rfl, rfl, rfl, rfl, rfl, rfl, rfl, rfl, rfl, rfl⟩ := H
   have hnb89 := NB317_312.out
   have hnc89 := NB312_317.out
   have hnb90 := NB317_313.out
   have hnc90 := NB313_317.out
   (try clear zK317)
   have zK317 := cz16 BK317.out
   (try clear fK317)
   have fK317 := fz16 BK317.out
   have hnb92 := NB312_313.out
   have hnc92 := NB313_312.out
   (try clear zK312)
   have zK312 := cz16 BK312.out
   (try clear fK312)
   have fK312 := fz16 BK312.out
   go_wp2_with (first | ((with_reducible refine gate_store (t := 126) (p := 2) rfl ?_); refine store_evs (t := 126) (p := 2) (j := 0) (cs := [.int .i64 t314, .int .i64 x318001_2, .string x318002_2, .int .i64 x318003_2, .int .i64 x318004_2, .int .i64 x318005_2, .string x318006_2, .int .i64 x318007_2, .int .i64 x318008_2, .int .i64 x318009_2, .string x318010_2, .int .i64 x318011_2, .int .i64 x318012_2, .int .i64 x318013_2, .int .i64 x318014_2, .int .i64 x318015_2]) (qK BK312) ?_; intro w94 hw; have n0_ := fR0_ hw HO371 BK312; replace BK317 := sK_ hw BK317 NB317_312; replace HI313 := IsS121.s_ hw HI313 NB313_312; replace HB := sB_ hw HB; replace BK312 := sW_ hw BK312; clear hw; clear HO371; have HO371 := n0_; clear n0_))
   refine bodyPost_ret (results_ct rfl _ _ gb312 126 #[.int .i64 t314, .int .i64 x318001_2, .string x318002_2, .int .i64 x318003_2, .int .i64 x318004_2, .int .i64 x318005_2, .string x318006_2, .int .i64 x318007_2, .int .i64 x318008_2, .int .i64 x318009_2, .string x318010_2, .int .i64 x318011_2, .int .i64 x318012_2, .int .i64 x318013_2, .int .i64 x318014_2, .int .i64 x318015_2] (0, 0) _ rfl (qK BK312) Try.underlying126 rfl (by kernel_rfl)) rfl ?_
   exact ⟨er_, qB HB⟩

end Go.Proofs.Ytiffahfpfgnjnab.PFnExactGetCtl
