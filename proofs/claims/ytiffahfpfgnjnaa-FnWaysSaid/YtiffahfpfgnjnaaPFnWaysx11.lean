-- Written by a program of this session (myprint.py, over the kit's print): contracts of FnWays
import Derived.Test.YtiffahfpfgnjnaaPFnWaysx0
import Derived.Test.YtiffahfpfgnjnaaPFnWaysx3
import Derived.Test.YtiffahfpfgnjnaaPFnWaysx10
namespace Go.Proofs.Ytiffahfpfgnjnaa.PFnWays
open Go.RowKit Go.Proofs.YtiffahfpfgnjnaaW.PrintWords Go.Proofs.YtiffahfpfgnjnaaW.PrintLast Go.Proofs.YtiffahfpfgnjnaaW.PrintMore Go.Proofs.YtiffahfpfgnjnaaV
attribute [local go_sem] max2_int min2_int max_two min_two max_three min_three max_four min_four   -- for this text's walks alone
set_option linter.unusedVariables false
set_option linter.unusedSimpArgs false

/-! ### spec_l9Asker: function 113 -/
mutual
def spec_l9Asker.j0 : Nat → List Int → Int → Int → Int → ByteArray → Int → Int → Int → ByteArray → Int → Int → Option (Int × ByteArray × Int × Int × Int × ByteArray × Int × Int × Int × Int)
 | 0, _, _, _, _, _, _, _, _, _, _, _ => none
 | k + 1, x1000, x1001, x1002, x363000, x363001, x363002, x363003, x363004, x363005, x363006, x363007 => if x363002 = 2 then ((spec_l1Below.f x1000 x1001 x1002 9).bind fun bt369 => ((spec_l1Int.f x1000 bt369.2.1 bt369.2.2 (([0, 7, 300, 100000] : List Int))).bind fun bt375 => ((spec_l7Query.f x1000 bt375.2.1 bt375.2.2).bind fun bt378 => (some (x363000, x363001, x363002, bt369.1, bt375.1, bt378.1, x363006, x363007, bt378.2.1, bt378.2.2))))) else (if x363002 = 3 then (spec_l9Asker.j1 k (x363002 == 3) x1000 x1001 x1002 x363000 x363001 x363002 x363003 x363004 x363005 x363006 x363007) else (spec_l9Asker.j1 k (x363002 == 4) x1000 x1001 x1002 x363000 x363001 x363002 x363003 x363004 x363005 x363006 x363007))
def spec_l9Asker.j1 : Nat → Bool → List Int → Int → Int → Int → ByteArray → Int → Int → Int → ByteArray → Int → Int → Option (Int × ByteArray × Int × Int × Int × ByteArray × Int × Int × Int × Int)
 | 0, _, _, _, _, _, _, _, _, _, _, _, _ => none
 | k + 1, x31, x1000, x1001, x1002, x363000, x363001, x363002, x363003, x363004, x363005, x363006, x363007 => if x31 = true then ((spec_l1Below.f x1000 x1001 x1002 9).bind fun bt381 => ((spec_l1Below.f x1000 bt381.2.1 bt381.2.2 900).bind fun bt384 => (some (x363000, x363001, x363002, x363003, x363004, x363005, wrap64 (1 + bt381.1), wrap64 (1 + bt384.1), bt384.2.1, bt384.2.2)))) else (some (x363000, x363001, x363002, x363003, x363004, x363005, x363006, x363007, x1001, x1002))
end
def spec_l9Asker.f (k : Nat) (s0_0 : List Int) (s0_1 : Int) (s0_2 : Int) : Option (Int × ByteArray × Int × Int × Int × ByteArray × Int × Int × Int × Int) := (spec_l1Below.f s0_0 s0_1 s0_2 9).bind fun bt356 => ((spec_l1Below.f s0_0 bt356.2.1 bt356.2.2 5).bind fun bt359 => (if bt359.1 = 0 then (spec_l9Asker.j0 k s0_0 bt359.2.1 bt359.2.2 (wrap64 (1 + bt356.1)) (⟨#[]⟩ : ByteArray) bt359.1 0 0 (⟨#[]⟩ : ByteArray) 0 0) else ((spec_l1Str.f s0_0 bt359.2.1 bt359.2.2 (([(⟨#[109, 97, 105, 110]⟩ : ByteArray), (⟨#[108, 111, 103, 115]⟩ : ByteArray), (⟨#[97, 100, 109, 105, 110]⟩ : ByteArray)] : List ByteArray))).bind fun bt366 => (spec_l9Asker.j0 k s0_0 bt366.2.1 bt366.2.2 (wrap64 (1 + bt356.1)) bt366.1 bt359.1 0 0 (⟨#[]⟩ : ByteArray) 0 0))))
theorem spec_l9Asker.mono_l : ∀ k, (∀ y0 y1 y2 y3 y4 y5 y6 y7 y8 y9 y10, LeO (spec_l9Asker.j0 k y0 y1 y2 y3 y4 y5 y6 y7 y8 y9 y10) (spec_l9Asker.j0 (k + 1) y0 y1 y2 y3 y4 y5 y6 y7 y8 y9 y10)) ∧ (∀ y0 y1 y2 y3 y4 y5 y6 y7 y8 y9 y10 y11, LeO (spec_l9Asker.j1 k y0 y1 y2 y3 y4 y5 y6 y7 y8 y9 y10 y11) (spec_l9Asker.j1 (k + 1) y0 y1 y2 y3 y4 y5 y6 y7 y8 y9 y10 y11))
 | 0 => ⟨fun _ _ _ _ _ _ _ _ _ _ _ r h => by simp [spec_l9Asker.j0] at h, fun _ _ _ _ _ _ _ _ _ _ _ _ r h => by simp [spec_l9Asker.j1] at h⟩
 | k + 1 => by
  obtain ⟨ih0, ih1⟩ := spec_l9Asker.mono_l k
  refine ⟨?_, ?_⟩
  ·
   intro y0 y1 y2 y3 y4 y5 y6 y7 y8 y9 y10
   unfold spec_l9Asker.j0
   exact mo_
  ·
   intro y0 y1 y2 y3 y4 y5 y6 y7 y8 y9 y10 y11
   unfold spec_l9Asker.j1
   exact mo_
theorem spec_l9Asker.mono : ∀ a0 a1 a2 k, LeO (spec_l9Asker.f k a0 a1 a2) (spec_l9Asker.f (k + 1) a0 a1 a2) := by
 intro a0 a1 a2 k
 obtain ⟨ih0, ih1⟩ := spec_l9Asker.mono_l k
 unfold spec_l9Asker.f
 exact mo_
set_option maxHeartbeats 8000000 in
set_option maxRecDepth 100000 in
theorem spec_l9Asker.calls (k : Nat) (g : Nat) (s0_0 : List Int) (s0_1 : Int) (s0_2 : Int) (r1 : Int) (r2 : ByteArray) (r3 : Int) (r4 : Int) (r5 : Int) (r6 : ByteArray) (r7 : Int) (r8 : Int) (r9 : Int) (r10 : Int) (w0 w : World) (hI : IsS128 w0 w g s0_0 s0_1 s0_2) (hB : Below w0.heap.size w0 w) (h : spec_l9Asker.f k s0_0 s0_1 s0_2 = some (r1, r2, r3, r4, r5, r6, r7, r8, r9, r10)) :
  Calls Try.prog 113 #[.pointer (some ⟨g, 0, none⟩)] w fun e w' => e = .returned (.agg #[.int .i64 r1, .string r2, .int .i64 r3, .int .i64 r4, .int .i64 r5, .string r6, .int .i64 r7, .int .i64 r8]) ∧ IsS128 w0 w' g s0_0 r9 r10 ∧ Below w0.heap.size w0 w' ∧ KeepBut w w' g none := by
 have hu25 := Try.underlying25
 have HI0 := Aside0.mk hI
 have IGHI0 := iG_ HI0.out.ge
 have HK := Aside0.mk (KeepBut.refl w g none)
 have HL := Aside0.mk hB.size
 clear hI
 have HW0 := Aside0.mk hB.size
 have HB := Aside0.mk hB
 clear hB
 have H := h
 unfold spec_l9Asker.f at H
 clear h
 replace H := bf_ H
 obtain ⟨f_, hf_, ⟨t356, t357, t358⟩, A2, H⟩ := H
 subst hf_
 (try dsimp only at H)
 replace H := bf_ H
 obtain ⟨f_, hf_, ⟨t359, t360, t361⟩, A3, H⟩ := H
 subst hf_
 (try dsimp only at H)
 have HC4 := Aside0.mk H
 clear H
 go_enter Try.func113, Try.ntmps113
 go_upto_if 12 with (first | ((with_reducible refine gate_dst (N := 2) rfl ?_); refine bx_ (N := 2) (cs := #[.int .i64 0, .string (⟨#[]⟩ : ByteArray), .int .i64 0, .int .i64 0, .int .i64 0, .string (⟨#[]⟩ : ByteArray), .int .i64 0, .int .i64 0]) (t := 25) ?_; intro gb355 hg w5 hbox hb; replace HB := bS_ HB hb; have BK355 := am_ (hbox); have GW355 := am_ ((gK_ hg (qP HK))); have IGW355 := gI_ GW355; have GE355 := am_ ((Nat.le_trans HW0.out (gK_ hg (qP HK)))); have IGE355 := gI_ GE355; replace HK := kL_ HK hb; have NB0_355 := am_ ((nG_ hg (IsS128.lt (IsS128.q HI0)))); have INB0_355 := nI_ NB0_355; have NB355_0 := am_ (((nG_ hg (IsS128.lt (IsS128.q HI0))).symm)); replace HI0 := am_ (IsS128.below (IsS128.q HI0) hb); clear hb hbox hg) | ((with_reducible refine gate_callee (f := 61) rfl ?_); refine gl_ (some 5) Try.func61 #[.pointer (some ⟨g, 0, none⟩), .int .i64 9] ?_; (with_reducible refine (spec_l1Below.calls g s0_0 s0_1 s0_2 9 t356 t357 t358 w0 _ ?side1 ?side2 A2.out).mono ?_); (case side1 => exact IsS128.q HI0); (case side2 => exact qB HB); rintro e w6 ⟨rfl, hi, hb, hk⟩; refine ⟨_, rfl, ?_⟩; replace BK355 := kB_ BK355 hk NB355_0; replace HK := kT_ HK hk; replace HB := am_ (hb); replace HI0 := am_ (hi); (try clear hb); (try clear hk); (try clear hi)) | ((with_reducible refine gate_callee (f := 61) rfl ?_); refine gl_ (some 8) Try.func61 #[.pointer (some ⟨g, 0, none⟩), .int .i64 5] ?_; (with_reducible refine (spec_l1Below.calls g s0_0 t357 t358 5 t359 t360 t361 w0 _ ?side1 ?side2 A3.out).mono ?_); (case side1 => exact IsS128.q HI0); (case side2 => exact qB HB); rintro e w7 ⟨rfl, hi, hb, hk⟩; refine ⟨_, rfl, ?_⟩; replace BK355 := kB_ BK355 hk NB355_0; replace HK := kT_ HK hk; replace HB := am_ (hb); replace HI0 := am_ (hi); (try clear hb); (try clear hk); (try clear hi)) | ((with_reducible refine gate_dst (N := 3) rfl ?_); refine bx_ (N := 3) (cs := #[.int .i64 0, .string (⟨#[]⟩ : ByteArray), .int .i64 0, .int .i64 0, .int .i64 0, .string (⟨#[]⟩ : ByteArray), .int .i64 0, .int .i64 0]) (t := 25) ?_; intro gb362 hg w8 hbox hb; replace HB := bS_ HB hb; have BK362 := am_ (hbox); have GW362 := am_ ((gK_ hg (qP HK))); have IGW362 := gI_ GW362; have GE362 := am_ ((Nat.le_trans HW0.out (gK_ hg (qP HK)))); have IGE362 := gI_ GE362; replace HK := kL_ HK hb; have NB355_362 := am_ ((gN_ hg (qK BK355))); have NB362_355 := am_ ((gM_ hg (qK BK355))); replace BK355 := bK_ BK355 hb; have NB0_362 := am_ ((nG_ hg (IsS128.lt (IsS128.q HI0)))); have INB0_362 := nI_ NB0_362; have NB362_0 := am_ (((nG_ hg (IsS128.lt (IsS128.q HI0))).symm)); replace HI0 := am_ (IsS128.below (IsS128.q HI0) hb); clear hb hbox hg; have hnb9 := NB362_355.out; have hnc9 := NB355_362.out; have hnb10 := NB362_0.out; have hnc10 := NB0_362.out; (try clear zK362); have zK362 := cz8 BK362.out; (try clear fK362); have fK362 := fz8 BK362.out))
 (try simp only [Act.put, List.setIfInBounds_toArray, List.set_cons_zero, List.set_cons_succ])
 go_cut [] (fun wc => ∃ (kq : Nat) (x1001_3 : Int) (x1002_3 : Int) (x363001_3 : ByteArray), Aside0 (spec_l9Asker.j0 kq s0_0 x1001_3 x1002_3 (wrap64 (1 + t356)) x363001_3 t359 0 0 (⟨#[]⟩ : ByteArray) 0 0 = some (r1, r2, r3, r4, r5, r6, r7, r8, r9, r10)) ∧ Aside0 (kq ≤ k) ∧ Aside0 (wc.heap[gb355]? = some (.cells #[.int .i64 0, .string (⟨#[]⟩ : ByteArray), .int .i64 0, .int .i64 0, .int .i64 0, .string (⟨#[]⟩ : ByteArray), .int .i64 0, .int .i64 0] 25 (0, 0))) ∧ Aside0 (wc.heap[gb362]? = some (.cells #[.int .i64 (wrap64 (1 + t356)), .string x363001_3, .int .i64 t359, .int .i64 0, .int .i64 0, .string (⟨#[]⟩ : ByteArray), .int .i64 0, .int .i64 0] 25 (0, 0))) ∧ Aside0 (IsS128 w0 wc g s0_0 x1001_3 x1002_3) ∧ Aside0 (KeepBut w wc g none) ∧ Aside0 (Below w0.heap.size w0 wc))
 case first =>
  have H := HC4.out
  clear HC4
  by_cases c12 : t359 = 0
  ·
   rw [if_pos c12] at H
   have c12b0 : (t359 == 0) = true := beq_iff_eq.mpr c12
   have c12b1 : (t359 != 0) = false := bne_eq_false_iff_eq.mpr c12
   clear c12
   (first | rw [c12b0] | rw [c12b1] | (simp only [i64_w, i32_w]; rw [c12b0]) | skip)
   have H' := Aside0.mk H
   clear H
   go_wp2
   go_meet
   case rel => exact ⟨_, (t360), (t361), ((⟨#[]⟩ : ByteArray)), H', ⟨by first | omega | exact Nat.le_refl _⟩, ⟨by (with_reducible repeat (first | refine blk_drewN ?_ _ | refine blk_drew ?_ | refine blk_alloc ?_ _)); refine blk_far8 ?_ NB355_362.out; exact qK BK355⟩, ⟨by (with_reducible repeat (first | refine blk_drewN ?_ _ | refine blk_drew ?_ | refine blk_alloc ?_ _)); refine blk_all8 (show _ = some (Go.Obj.cells #[.int .i64 0, .string (⟨#[]⟩ : ByteArray), .int .i64 0, .int .i64 0, .int .i64 0, .string (⟨#[]⟩ : ByteArray), .int .i64 0, .int .i64 0] _ (0, 0)) from ?_); exact qK BK362⟩, ⟨IsS128.q HI0⟩, ⟨qP HK⟩, ⟨qB HB⟩⟩
  rw [if_neg c12] at H
  have c12b0 : (t359 == 0) = false := beq_eq_false_iff_ne.mpr c12
  have c12b1 : (t359 != 0) = true := bne_iff_ne.mpr c12
  (first | rw [c12b0] | rw [c12b1] | (simp only [i64_w, i32_w]; rw [c12b0]) | skip)
  obtain ⟨y363, hy363⟩ : ∃ y_ : List ByteArray, y_ = (([(⟨#[109, 97, 105, 110]⟩ : ByteArray), (⟨#[108, 111, 103, 115]⟩ : ByteArray), (⟨#[97, 100, 109, 105, 110]⟩ : ByteArray)] : List ByteArray)) := ⟨_, rfl⟩
  rw [← hy363] at H
  have Ny363 := Aside0.mk hy363
  clear hy363
  replace H := bf_ H
  obtain ⟨f_, hf_, ⟨t366, t367, t368⟩, A13, H⟩ := H
  subst hf_
  (try dsimp only at H)
  have H' := Aside0.mk H
  clear H
  go_wp2_with (first | ((with_reducible refine gate_dst (N := 14) rfl ?_); refine Kd.R_lit Kd.string _ 9 ?hg (N := 14) ?hd (xs := ([(⟨#[109, 97, 105, 110]⟩ : ByteArray), (⟨#[108, 111, 103, 115]⟩ : ByteArray), (⟨#[97, 100, 109, 105, 110]⟩ : ByteArray)] : List ByteArray)) (inner := [.string (⟨#[109, 97, 105, 110]⟩ : ByteArray), .string (⟨#[108, 111, 103, 115]⟩ : ByteArray), .string (⟨#[97, 100, 109, 105, 110]⟩ : ByteArray)]) (ok := fun _ => True) (okp := fun _ => True) ?hr ?hp (fun _ hk => hk) trivial (Below.refl _ _) (Nat.le_refl _) (by simp) ?_; (case hd => rfl); (case hg => rfl); (case hr => first | (go_simp; done) | (go_simp; rfl)); (case hp => exact (Reps.one (show Kd.M Kd.string _ _ _ (⟨#[109, 97, 105, 110]⟩ : ByteArray) [.string (⟨#[109, 97, 105, 110]⟩ : ByteArray)] from rfl) (Reps.one (show Kd.M Kd.string _ _ _ (⟨#[108, 111, 103, 115]⟩ : ByteArray) [.string (⟨#[108, 111, 103, 115]⟩ : ByteArray)] from rfl) (Reps.one (show Kd.M Kd.string _ _ _ (⟨#[97, 100, 109, 105, 110]⟩ : ByteArray) [.string (⟨#[97, 100, 109, 105, 110]⟩ : ByteArray)] from rfl) (Reps.none _ _))))); intro v364 w14 ho15 hb hg_ hnew_; clear hg_ hnew_; (first | rw [← Ny363.out] at ho15 | (simp only [Int.reduceToNat] at ho15; rw [← Ny363.out] at ho15)); have HO365 := am_ (Kd.R_lower ho15 (keep_size (w := w) (g := g) (row := none) (qP HK))); replace BK355 := am_ (blk_below (g := gb355) (o := .cells #[.int .i64 0, .string (⟨#[]⟩ : ByteArray), .int .i64 0, .int .i64 0, .int .i64 0, .string (⟨#[]⟩ : ByteArray), .int .i64 0, .int .i64 0] 25 (0, 0)) (by (with_reducible repeat (first | refine blk_drewN ?_ _ | refine blk_drew ?_ | refine blk_alloc ?_ _)); refine blk_far8 ?_ NB355_362.out; exact qK BK355) hb); replace BK362 := am_ (blk_below (g := gb362) (o := .cells #[.int .i64 (wrap64 (1 + t356)), .string (⟨#[]⟩ : ByteArray), .int .i64 t359, .int .i64 0, .int .i64 0, .string (⟨#[]⟩ : ByteArray), .int .i64 0, .int .i64 0] 25 (0, 0)) (by exact blk_all8 (qK BK362)) hb); replace HK := kL_ HK hb; replace HB := bS_ HB hb; replace HI0 := am_ (IsS128.below (show IsS128 w0 ((((((((w8.setCell ⟨gb362, 0, none⟩ (.int .i64 (wrap64 (1 + t356)))).setCell ⟨gb362, 1, none⟩ (.string (⟨#[]⟩ : ByteArray))).setCell ⟨gb362, 2, none⟩ (.int .i64 t359)).setCell ⟨gb362, 3, none⟩ (.int .i64 0)).setCell ⟨gb362, 4, none⟩ (.int .i64 0)).setCell ⟨gb362, 5, none⟩ (.string (⟨#[]⟩ : ByteArray))).setCell ⟨gb362, 6, none⟩ (.int .i64 0)).setCell ⟨gb362, 7, none⟩ (.int .i64 0)) g s0_0 t360 t361 from IsS128.q HI0) hb); clear hb ho15; obtain ⟨Ao16, co16, eo16⟩ := Kd.R_slice HO365.out; subst eo16) | ((with_reducible refine gate_callee (f := 116) rfl ?_); refine gl_ (some 15) Try.func116 #[.pointer (some ⟨g, 0, none⟩), .slice Ao16 y363.length co16] ?_; (with_reducible refine (spec_l1Str.calls g s0_0 t360 t361 _ _ y363 t366 t367 t368 w0 _ ?side1 ?side2 ?side3 ?side4 ?side5 A13.out).mono ?_); (case side1 => exact IsS128.q HI0); (case side2 => exact qB HB); (case side3 => exact qC ((Kd.R_reads' HO365.out).2.2)); (case side4 => exact (Kd.R_reads' HO365.out).2.1); (case side5 => exact far_slice (IsS128.own_ne HI0.out HO365.out (by decide))); rintro e w17 ⟨rfl, hi, hb, hk⟩; refine ⟨_, rfl, ?_⟩; replace BK355 := kB_ BK355 hk NB355_0; replace BK362 := kB_ BK362 hk NB362_0; replace HO365 := am_ (Kd.R_mono (Kd.R_keep (IsS128.apart (show IsS128 w0 _ g s0_0 t360 t361 from IsS128.q HI0) (qR HO365) (by decide)) hk (fun _ h => h.2)) (fun _ h => h.1)); replace HK := kT_ HK hk; replace HB := am_ (hb); replace HI0 := am_ (hi); (try clear hb); (try clear hk); (try clear hi); have hnb18 := NB362_355.out; have hnc18 := NB355_362.out; have hnb19 := NB362_0.out; have hnc19 := NB0_362.out; (try clear zK362); have zK362 := cz8 BK362.out; (try clear fK362); have fK362 := fz8 BK362.out))
  go_meet
  case rel => exact ⟨_, (t367), (t368), (t366), H', ⟨by first | omega | exact Nat.le_refl _⟩, ⟨by (with_reducible repeat (first | refine blk_drewN ?_ _ | refine blk_drew ?_ | refine blk_alloc ?_ _)); refine blk_far ?_ NB355_362.out _; exact qK BK355⟩, ⟨by (with_reducible repeat (first | refine blk_drewN ?_ _ | refine blk_drew ?_ | refine blk_alloc ?_ _)); refine blk_put (cs := #[.int .i64 (wrap64 (1 + t356)), .string (⟨#[]⟩ : ByteArray), .int .i64 t359, .int .i64 0, .int .i64 0, .string (⟨#[]⟩ : ByteArray), .int .i64 0, .int .i64 0]) ?_ 1 _ rfl; exact qK BK362⟩, ⟨IsS128.q HI0⟩, ⟨qP HK⟩, ⟨qB HB⟩⟩
 case rest =>
  clear HC4
  try clear c1
  try clear p2
  try clear c6
  try clear p6
  try clear c9
  try clear c10
  try clear c11
  try clear c12
  try clear c12b0
  try clear c12b1
  try clear c18
  try clear c19
  (try clear zK362)
  (try clear zK362)
  (try clear fK362)
  (try clear fK362)
  obtain ⟨kq, x1001_3, x1002_3, x363001_3, HA, HJ3, BK355, BK362, HI0, HK, HB⟩ := hcut
  cases kq with
  | zero => exact absurd HA.out (by simp [spec_l9Asker.j0])
  | succ kj3 =>
   have H := HA.out
   clear HA
   simp only [spec_l9Asker.j0] at H
   by_cases c21 : t359 = 2
   ·
    rw [if_pos c21] at H
    have c21b0 : (t359 == 2) = true := beq_iff_eq.mpr c21
    have c21b1 : (t359 != 2) = false := bne_eq_false_iff_eq.mpr c21
    clear c21
    replace H := bf_ H
    obtain ⟨f_, hf_, ⟨t369, t370, t371⟩, A22, H⟩ := H
    subst hf_
    (try dsimp only at H)
    obtain ⟨y372, hy372⟩ : ∃ y_ : List Int, y_ = (([0, 7, 300, 100000] : List Int)) := ⟨_, rfl⟩
    rw [← hy372] at H
    have Ny372 := Aside0.mk hy372
    clear hy372
    replace H := bf_ H
    obtain ⟨f_, hf_, ⟨t375, t376, t377⟩, A23, H⟩ := H
    subst hf_
    (try dsimp only at H)
    replace H := bf_ H
    obtain ⟨f_, hf_, ⟨t378, t379, t380⟩, A24, H⟩ := H
    subst hf_
    (try dsimp only at H)
    simp only [Option.some.injEq, Prod.mk.injEq] at H
    obtain ⟨rfl, rfl, rfl, rfl, rfl, rfl, rfl, rfl, rfl, rfl⟩ := H
    have hnb25 := NB362_355.out
    have hnc25 := NB355_362.out
    have hnb26 := NB362_0.out
    have hnc26 := NB0_362.out
    (try clear zK362)
    have zK362 := cz8 BK362.out
    (try clear fK362)
    have fK362 := fz8 BK362.out
    go_wp2_with (first | ((with_reducible refine gate_callee (f := 61) rfl ?_); refine gl_ (some 22) Try.func61 #[.pointer (some ⟨g, 0, none⟩), .int .i64 9] ?_; (with_reducible refine (spec_l1Below.calls g s0_0 x1001_3 x1002_3 9 t369 t370 t371 w0 _ ?side1 ?side2 A22.out).mono ?_); (case side1 => exact IsS128.q HI0); (case side2 => exact qB HB); rintro e w28 ⟨rfl, hi, hb, hk⟩; refine ⟨_, rfl, ?_⟩; replace BK355 := kB_ BK355 hk NB355_0; replace BK362 := kB_ BK362 hk NB362_0; replace HK := kT_ HK hk; replace HB := am_ (hb); replace HI0 := am_ (hi); (try clear hb); (try clear hk); (try clear hi); (try clear zK362); have zK362 := cz8 BK362.out; (try clear fK362); have fK362 := fz8 BK362.out) | ((with_reducible refine gate_dst (N := 25) rfl ?_); refine Kd.R_lit (Kd.int .i64) _ 3 ?hg (N := 25) ?hd (xs := ([0, 7, 300, 100000] : List Int)) (inner := [.int .i64 0, .int .i64 7, .int .i64 300, .int .i64 100000]) (ok := fun _ => True) (okp := fun _ => True) ?hr ?hp (fun _ hk => hk) trivial (Below.refl _ _) (Nat.le_refl _) (by simp) ?_; (case hd => rfl); (case hg => rfl); (case hr => first | (go_simp; done) | (go_simp; rfl)); (case hp => exact (Reps.one (show Kd.M (Kd.int .i64) _ _ _ 0 [.int .i64 0] from rfl) (Reps.one (show Kd.M (Kd.int .i64) _ _ _ 7 [.int .i64 7] from rfl) (Reps.one (show Kd.M (Kd.int .i64) _ _ _ 300 [.int .i64 300] from rfl) (Reps.one (show Kd.M (Kd.int .i64) _ _ _ 100000 [.int .i64 100000] from rfl) (Reps.none _ _)))))); intro v373 w30 ho31 hb hg_ hnew_; clear hg_ hnew_; (first | rw [← Ny372.out] at ho31 | (simp only [Int.reduceToNat] at ho31; rw [← Ny372.out] at ho31)); have HO374 := am_ (Kd.R_lower ho31 (keep_size (w := w) (g := g) (row := none) (qP HK))); replace BK355 := am_ (blk_below (g := gb355) (o := .cells #[.int .i64 0, .string (⟨#[]⟩ : ByteArray), .int .i64 0, .int .i64 0, .int .i64 0, .string (⟨#[]⟩ : ByteArray), .int .i64 0, .int .i64 0] 25 (0, 0)) (by (with_reducible repeat (first | refine blk_drewN ?_ _ | refine blk_drew ?_ | refine blk_alloc ?_ _)); refine blk_far ?_ NB355_362.out _; exact qK BK355) hb); replace BK362 := am_ (blk_below (g := gb362) (o := .cells #[.int .i64 (wrap64 (1 + t356)), .string x363001_3, .int .i64 t359, .int .i64 t369, .int .i64 0, .string (⟨#[]⟩ : ByteArray), .int .i64 0, .int .i64 0] 25 (0, 0)) (by (with_reducible repeat (first | refine blk_drewN ?_ _ | refine blk_drew ?_ | refine blk_alloc ?_ _)); refine blk_put (cs := #[.int .i64 (wrap64 (1 + t356)), .string x363001_3, .int .i64 t359, .int .i64 0, .int .i64 0, .string (⟨#[]⟩ : ByteArray), .int .i64 0, .int .i64 0]) ?_ 3 _ rfl; exact qK BK362) hb); replace HK := kL_ HK hb; replace HB := bS_ HB hb; replace HI0 := am_ (IsS128.below (show IsS128 w0 (w28.setCell ⟨gb362, 3, none⟩ (.int .i64 t369)) g s0_0 t370 t371 from IsS128.q HI0) hb); clear hb ho31; obtain ⟨Ao32, co32, eo32⟩ := Kd.R_slice HO374.out; subst eo32) | ((with_reducible refine gate_callee (f := 62) rfl ?_); refine gl_ (some 26) Try.func62 #[.pointer (some ⟨g, 0, none⟩), .slice Ao32 y372.length co32] ?_; (with_reducible refine (spec_l1Int.calls g s0_0 t370 t371 _ _ y372 t375 t376 t377 w0 _ ?side1 ?side2 ?side3 ?side4 ?side5 A23.out).mono ?_); (case side1 => exact IsS128.q HI0); (case side2 => exact qB HB); (case side3 => exact qC ((Kd.R_reads' HO374.out).2.2)); (case side4 => exact (Kd.R_reads' HO374.out).2.1); (case side5 => exact far_slice (IsS128.own_ne HI0.out HO374.out (by decide))); rintro e w33 ⟨rfl, hi, hb, hk⟩; refine ⟨_, rfl, ?_⟩; replace BK355 := kB_ BK355 hk NB355_0; replace BK362 := kB_ BK362 hk NB362_0; replace HO374 := am_ (Kd.R_mono (Kd.R_keep (IsS128.apart (show IsS128 w0 _ g s0_0 t370 t371 from IsS128.q HI0) (qR HO374) (by decide)) hk (fun _ h => h.2)) (fun _ h => h.1)); replace HK := kT_ HK hk; replace HB := am_ (hb); replace HI0 := am_ (hi); (try clear hb); (try clear hk); (try clear hi); (try clear zK362); have zK362 := cz8 BK362.out; (try clear fK362); have fK362 := fz8 BK362.out) | ((with_reducible refine gate_callee (f := 125) rfl ?_); refine gl_ (some 29) Try.func125 #[.pointer (some ⟨g, 0, none⟩)] ?_; (with_reducible refine (spec_l7Query.calls g s0_0 t376 t377 t378 t379 t380 w0 _ ?side1 ?side2 A24.out).mono ?_); (case side1 => exact IsS128.q HI0); (case side2 => exact qB HB); rintro e w35 ⟨rfl, hi, hb, hk⟩; refine ⟨_, rfl, ?_⟩; replace BK355 := am_ (KeepBut.blk hk (g' := gb355) (o := .cells #[.int .i64 0, .string (⟨#[]⟩ : ByteArray), .int .i64 0, .int .i64 0, .int .i64 0, .string (⟨#[]⟩ : ByteArray), .int .i64 0, .int .i64 0] 25 (0, 0)) (by (with_reducible repeat (first | refine blk_drewN ?_ _ | refine blk_drew ?_ | refine blk_alloc ?_ _)); refine blk_far ?_ NB355_362.out _; exact qK BK355) NB355_0.out (by simp)); replace HO374 := am_ (Kd.R_mono (Kd.R_keep (IsS128.apart (show IsS128 w0 _ g s0_0 t376 t377 from IsS128.q HI0) (by (with_reducible repeat (first | apply Kd.R_alloc | apply Kd.R_drewN | apply Kd.R_drew)); exact (Kd.R_mono (Kd.R_far (p := ⟨gb362, 4, none⟩) (Kd.R_types HO374.out BK362.out (by decide)) (fun _ hk => hk.2) (.int .i64 t375)) (fun _ h_ => h_.1))) (by decide)) hk (fun _ h => h.2)) (fun _ h => h.1)); replace BK362 := am_ (KeepBut.blk hk (g' := gb362) (o := .cells #[.int .i64 (wrap64 (1 + t356)), .string x363001_3, .int .i64 t359, .int .i64 t369, .int .i64 t375, .string (⟨#[]⟩ : ByteArray), .int .i64 0, .int .i64 0] 25 (0, 0)) (by (with_reducible repeat (first | refine blk_drewN ?_ _ | refine blk_drew ?_ | refine blk_alloc ?_ _)); refine blk_put (cs := #[.int .i64 (wrap64 (1 + t356)), .string x363001_3, .int .i64 t359, .int .i64 t369, .int .i64 0, .string (⟨#[]⟩ : ByteArray), .int .i64 0, .int .i64 0]) ?_ 4 _ rfl; exact qK BK362) NB362_0.out (by simp)); replace HK := kT_ HK hk; replace HB := am_ (hb); replace HI0 := am_ (hi); (try clear hb); (try clear hk); (try clear hi); (try clear zK362); have zK362 := cz8 BK362.out; (try clear fK362); have fK362 := fz8 BK362.out; have hnb37 := NB355_0.out; have hnc37 := NB0_355.out; (try clear zK355); have zK355 := cz8 BK355.out; (try clear fK355); have fK355 := fz8 BK355.out))
    refine bodyPost_ret (results_cell_row rfl _ _ gb355 25 #[.int .i64 (wrap64 (1 + t356)), .string x363001_3, .int .i64 t359, .int .i64 t369, .int .i64 t375, .string t378, .int .i64 0, .int .i64 0] (0, 0) _ rfl (by exact blk_all8 (blk_far1 (qK BK355) NB355_362.out)) Try.underlying25 rfl (by kernel_rfl)) rfl ?_
    exact ⟨er_, IsS128.q HI0, qB HB, qP HK⟩
   rw [if_neg c21] at H
   have c21b0 : (t359 == 2) = false := beq_eq_false_iff_ne.mpr c21
   have c21b1 : (t359 != 2) = true := bne_iff_ne.mpr c21
   have HC39 := Aside0.mk H
   clear H
   have hnb40 := NB362_355.out
   have hnc40 := NB355_362.out
   have hnb41 := NB362_0.out
   have hnc41 := NB0_362.out
   (try clear zK362)
   have zK362 := cz8 BK362.out
   (try clear fK362)
   have fK362 := fz8 BK362.out
   go_upto_if 31 with (fail)
   go_cut [31] (fun v31 wc => ∃ (kq : Nat) (x31_38 : Bool), v31 = .bool x31_38 ∧ Aside0 (spec_l9Asker.j1 kq x31_38 s0_0 x1001_3 x1002_3 (wrap64 (1 + t356)) x363001_3 t359 0 0 (⟨#[]⟩ : ByteArray) 0 0 = some (r1, r2, r3, r4, r5, r6, r7, r8, r9, r10)) ∧ Aside0 (kq ≤ kj3) ∧ Aside0 (wc.heap[gb355]? = some (.cells #[.int .i64 0, .string (⟨#[]⟩ : ByteArray), .int .i64 0, .int .i64 0, .int .i64 0, .string (⟨#[]⟩ : ByteArray), .int .i64 0, .int .i64 0] 25 (0, 0))) ∧ Aside0 (wc.heap[gb362]? = some (.cells #[.int .i64 (wrap64 (1 + t356)), .string x363001_3, .int .i64 t359, .int .i64 0, .int .i64 0, .string (⟨#[]⟩ : ByteArray), .int .i64 0, .int .i64 0] 25 (0, 0))) ∧ Aside0 (IsS128 w0 wc g s0_0 x1001_3 x1002_3) ∧ Aside0 (KeepBut w wc g none) ∧ Aside0 (Below w0.heap.size w0 wc))
   case first =>
    have H := HC39.out
    clear HC39
    by_cases c43 : t359 = 3
    rotate_left
    ·
     rw [if_neg c43] at H
     have c43b0 : (t359 == 3) = false := beq_eq_false_iff_ne.mpr c43
     have c43b1 : (t359 != 3) = true := bne_iff_ne.mpr c43
     (first | rw [c43b0] | rw [c43b1] | (simp only [i64_w, i32_w]; rw [c43b0]) | skip)
     have H' := Aside0.mk H
     clear H
     go_wp2
     go_meet
     case rel => exact ⟨_, ((t359 == 4)), eqq_, H', ⟨by have := HJ3.out; first | omega | exact Nat.le_refl _⟩, ⟨qK BK355⟩, ⟨qK BK362⟩, ⟨IsS128.q HI0⟩, ⟨qP HK⟩, ⟨qB HB⟩⟩
    rw [if_pos c43] at H
    have c43b0 : (t359 == 3) = true := beq_iff_eq.mpr c43
    have c43b1 : (t359 != 3) = false := bne_eq_false_iff_eq.mpr c43
    clear c43
    (first | rw [c43b0] | rw [c43b1] | (simp only [i64_w, i32_w]; rw [c43b0]) | skip)
    have H' := Aside0.mk H
    clear H
    go_wp2
    go_meet
    case rel => exact ⟨_, ((t359 == 3)), eqq_, H', ⟨by have := HJ3.out; first | omega | exact Nat.le_refl _⟩, ⟨qK BK355⟩, ⟨qK BK362⟩, ⟨IsS128.q HI0⟩, ⟨qP HK⟩, ⟨qB HB⟩⟩
   case rest =>
    clear HC39
    try clear c1
    try clear c2
    try clear p2
    try clear c3
    try clear c4
    try clear c6
    try clear p6
    try clear c9
    try clear c10
    try clear c11
    try clear c12
    try clear c12b0
    try clear c12b1
    try clear c18
    try clear c19
    try clear c21
    try clear c21b0
    try clear c21b1
    try clear c25
    try clear c26
    try clear c37
    try clear c40
    try clear c41
    try clear c43
    try clear c43b0
    try clear c43b1
    (try clear zK362)
    (try clear zK362)
    (try clear zK362)
    (try clear zK362)
    (try clear zK362)
    (try clear zK362)
    (try clear zK355)
    (try clear zK362)
    (try clear fK362)
    (try clear fK362)
    (try clear fK362)
    (try clear fK362)
    (try clear fK362)
    (try clear fK362)
    (try clear fK355)
    (try clear fK362)
    try clear p2
    try clear p6
    obtain ⟨kq, x31_38, rfl, HA, HJ38, BK355, BK362, HI0, HK, HB⟩ := hcut
    cases kq with
    | zero => exact absurd HA.out (by simp [spec_l9Asker.j1])
    | succ kj38 =>
     have H := HA.out
     clear HA
     simp only [spec_l9Asker.j1] at H
     by_cases c44 : x31_38 = true
     ·
      subst c44
      rw [if_pos rfl] at H
      replace H := bf_ H
      obtain ⟨f_, hf_, ⟨t381, t382, t383⟩, A45, H⟩ := H
      subst hf_
      (try dsimp only at H)
      replace H := bf_ H
      obtain ⟨f_, hf_, ⟨t384, t385, t386⟩, A46, H⟩ := H
      subst hf_
      (try dsimp only at H)
      simp only [Option.some.injEq, Prod.mk.injEq] at H
      obtain ⟨rfl, rfl, rfl, rfl, rfl, rfl, rfl, rfl, rfl, rfl⟩ := H
      go_wp2_with (first | ((with_reducible refine gate_callee (f := 61) rfl ?_); refine gl_ (some 35) Try.func61 #[.pointer (some ⟨g, 0, none⟩), .int .i64 9] ?_; (with_reducible refine (spec_l1Below.calls g s0_0 x1001_3 x1002_3 9 t381 t382 t383 w0 _ ?side1 ?side2 A45.out).mono ?_); (case side1 => exact IsS128.q HI0); (case side2 => exact qB HB); rintro e w47 ⟨rfl, hi, hb, hk⟩; refine ⟨_, rfl, ?_⟩; replace BK355 := kB_ BK355 hk NB355_0; replace BK362 := kB_ BK362 hk NB362_0; replace HK := kT_ HK hk; replace HB := am_ (hb); replace HI0 := am_ (hi); (try clear hb); (try clear hk); (try clear hi); have hnb48 := NB362_355.out; have hnc48 := NB355_362.out; have hnb49 := NB362_0.out; have hnc49 := NB0_362.out; (try clear zK362); have zK362 := cz8 BK362.out; (try clear fK362); have fK362 := fz8 BK362.out) | ((with_reducible refine gate_callee (f := 61) rfl ?_); refine gl_ (some 39) Try.func61 #[.pointer (some ⟨g, 0, none⟩), .int .i64 900] ?_; (with_reducible refine (spec_l1Below.calls g s0_0 t382 t383 900 t384 t385 t386 w0 _ ?side1 ?side2 A46.out).mono ?_); (case side1 => exact IsS128.q HI0); (case side2 => exact qB HB); rintro e w51 ⟨rfl, hi, hb, hk⟩; refine ⟨_, rfl, ?_⟩; replace BK355 := am_ (KeepBut.blk hk (g' := gb355) (o := .cells #[.int .i64 0, .string (⟨#[]⟩ : ByteArray), .int .i64 0, .int .i64 0, .int .i64 0, .string (⟨#[]⟩ : ByteArray), .int .i64 0, .int .i64 0] 25 (0, 0)) (by (with_reducible repeat (first | refine blk_drewN ?_ _ | refine blk_drew ?_ | refine blk_alloc ?_ _)); refine blk_far ?_ NB355_362.out _; exact qK BK355) NB355_0.out (by simp)); replace BK362 := am_ (KeepBut.blk hk (g' := gb362) (o := .cells #[.int .i64 (wrap64 (1 + t356)), .string x363001_3, .int .i64 t359, .int .i64 0, .int .i64 0, .string (⟨#[]⟩ : ByteArray), .int .i64 (wrap64 (1 + t381)), .int .i64 0] 25 (0, 0)) (by (with_reducible repeat (first | refine blk_drewN ?_ _ | refine blk_drew ?_ | refine blk_alloc ?_ _)); refine blk_put (cs := #[.int .i64 (wrap64 (1 + t356)), .string x363001_3, .int .i64 t359, .int .i64 0, .int .i64 0, .string (⟨#[]⟩ : ByteArray), .int .i64 0, .int .i64 0]) ?_ 6 _ rfl; exact qK BK362) NB362_0.out (by simp)); replace HK := kT_ HK hk; replace HB := am_ (hb); replace HI0 := am_ (hi); (try clear hb); (try clear hk); (try clear hi); (try clear zK362); have zK362 := cz8 BK362.out; (try clear fK362); have fK362 := fz8 BK362.out; have hnb53 := NB355_0.out; have hnc53 := NB0_355.out; (try clear zK355); have zK355 := cz8 BK355.out; (try clear fK355); have fK355 := fz8 BK355.out))
      refine bodyPost_ret (results_cell_row rfl _ _ gb355 25 #[.int .i64 (wrap64 (1 + t356)), .string x363001_3, .int .i64 t359, .int .i64 0, .int .i64 0, .string (⟨#[]⟩ : ByteArray), .int .i64 (wrap64 (1 + t381)), .int .i64 (wrap64 (1 + t384))] (0, 0) _ rfl (by exact blk_all8 (blk_far1 (qK BK355) NB355_362.out)) Try.underlying25 rfl (by kernel_rfl)) rfl ?_
      exact ⟨er_, IsS128.q HI0, qB HB, qP HK⟩
     replace c44 := Bool.eq_false_iff.mpr c44
     subst c44
     rw [if_neg (show ¬ (false = true) by decide)] at H
     simp only [Option.some.injEq, Prod.mk.injEq] at H
     obtain ⟨rfl, rfl, rfl, rfl, rfl, rfl, rfl, rfl, rfl, rfl⟩ := H
     have hnb55 := NB362_355.out
     have hnc55 := NB355_362.out
     have hnb56 := NB362_0.out
     have hnc56 := NB0_362.out
     (try clear zK362)
     have zK362 := cz8 BK362.out
     (try clear fK362)
     have fK362 := fz8 BK362.out
     have hnb58 := NB355_0.out
     have hnc58 := NB0_355.out
     (try clear zK355)
     have zK355 := cz8 BK355.out
     (try clear fK355)
     have fK355 := fz8 BK355.out
     go_wp2
     refine bodyPost_ret (results_cell_row rfl _ _ gb355 25 #[.int .i64 (wrap64 (1 + t356)), .string x363001_3, .int .i64 t359, .int .i64 0, .int .i64 0, .string (⟨#[]⟩ : ByteArray), .int .i64 0, .int .i64 0] (0, 0) _ rfl (by exact blk_all8 (qK BK355)) Try.underlying25 rfl (by kernel_rfl)) rfl ?_
     exact ⟨er_, IsS128.q HI0, qB HB, qP HK⟩

/-! ### spec_l9Line: function 114 -/
def spec_l9Line.f (s0_0 : List Int) (s0_1 : Int) (s0_2 : Int) : Option (Int × ByteArray × Int × Int × Int × Int × Int × Int × Int) := (spec_l1Below.f s0_0 s0_1 s0_2 9).bind fun bt388 => ((spec_l1Str.f s0_0 bt388.2.1 bt388.2.2 (([(⟨#[109, 97, 105, 110]⟩ : ByteArray), (⟨#[108, 111, 103, 115]⟩ : ByteArray)] : List ByteArray))).bind fun bt394 => ((spec_l1Below.f s0_0 bt394.2.1 bt394.2.2 3).bind fun bt397 => ((spec_l1Below.f s0_0 bt397.2.1 bt397.2.2 3).bind fun bt400 => (if bt400.1 = 0 then ((spec_l1Int.f s0_0 bt400.2.1 bt400.2.2 (([0, 7, 300, 100000] : List Int))).bind fun bt407 => (some (wrap64 (1 + bt388.1), bt394.1, wrap64 (1 + bt397.1), bt400.1, bt407.1, 0, 0, bt407.2.1, bt407.2.2))) else ((spec_l1Below.f s0_0 bt400.2.1 bt400.2.2 9).bind fun bt410 => ((spec_l1Below.f s0_0 bt410.2.1 bt410.2.2 900).bind fun bt413 => (some (wrap64 (1 + bt388.1), bt394.1, wrap64 (1 + bt397.1), bt400.1, 0, wrap64 (1 + bt410.1), wrap64 (1 + bt413.1), bt413.2.1, bt413.2.2))))))))
set_option maxHeartbeats 8000000 in
set_option maxRecDepth 100000 in
theorem spec_l9Line.calls (g : Nat) (s0_0 : List Int) (s0_1 : Int) (s0_2 : Int) (r1 : Int) (r2 : ByteArray) (r3 : Int) (r4 : Int) (r5 : Int) (r6 : Int) (r7 : Int) (r8 : Int) (r9 : Int) (w0 w : World) (hI : IsS128 w0 w g s0_0 s0_1 s0_2) (hB : Below w0.heap.size w0 w) (h : spec_l9Line.f s0_0 s0_1 s0_2 = some (r1, r2, r3, r4, r5, r6, r7, r8, r9)) :
  Calls Try.prog 114 #[.pointer (some ⟨g, 0, none⟩)] w fun e w' => e = .returned (.agg #[.int .i64 r1, .string r2, .int .i64 r3, .int .i64 r4, .int .i64 r5, .int .i64 r6, .int .i64 r7]) ∧ IsS128 w0 w' g s0_0 r8 r9 ∧ Below w0.heap.size w0 w' ∧ KeepBut w w' g none := by
 have hu27 := Try.underlying27
 have HI0 := Aside0.mk hI
 have IGHI0 := iG_ HI0.out.ge
 have HK := Aside0.mk (KeepBut.refl w g none)
 have HL := Aside0.mk hB.size
 clear hI
 have HW0 := Aside0.mk hB.size
 have HB := Aside0.mk hB
 clear hB
 have H := h
 unfold spec_l9Line.f at H
 clear h
 replace H := bf_ H
 obtain ⟨f_, hf_, ⟨t388, t389, t390⟩, A2, H⟩ := H
 subst hf_
 (try dsimp only at H)
 obtain ⟨y391, hy391⟩ : ∃ y_ : List ByteArray, y_ = (([(⟨#[109, 97, 105, 110]⟩ : ByteArray), (⟨#[108, 111, 103, 115]⟩ : ByteArray)] : List ByteArray)) := ⟨_, rfl⟩
 rw [← hy391] at H
 have Ny391 := Aside0.mk hy391
 clear hy391
 replace H := bf_ H
 obtain ⟨f_, hf_, ⟨t394, t395, t396⟩, A3, H⟩ := H
 subst hf_
 (try dsimp only at H)
 replace H := bf_ H
 obtain ⟨f_, hf_, ⟨t397, t398, t399⟩, A4, H⟩ := H
 subst hf_
 (try dsimp only at H)
 replace H := bf_ H
 obtain ⟨f_, hf_, ⟨t400, t401, t402⟩, A5, H⟩ := H
 subst hf_
 (try dsimp only at H)
 by_cases c6 : t400 = 0
 rotate_left
 ·
  rw [if_neg c6] at H
  have c6b0 : (t400 == 0) = false := beq_eq_false_iff_ne.mpr c6
  have c6b1 : (t400 != 0) = true := bne_iff_ne.mpr c6
  replace H := bf_ H
  obtain ⟨f_, hf_, ⟨t410, t411, t412⟩, A27, H⟩ := H
  subst hf_
  (try dsimp only at H)
  replace H := bf_ H
  obtain ⟨f_, hf_, ⟨t413, t414, t415⟩, A28, H⟩ := H
  subst hf_
  (try dsimp only at H)
  simp only [Option.some.injEq, Prod.mk.injEq] at H
  obtain ⟨rfl, rfl, rfl, rfl, rfl, rfl, rfl, rfl, rfl⟩ := H
  go_enter Try.func114, Try.ntmps114
  go_wp2_with (first | ((with_reducible refine gate_dst (N := 2) rfl ?_); refine bx_ (N := 2) (cs := #[.int .i64 0, .string (⟨#[]⟩ : ByteArray), .int .i64 0, .int .i64 0, .int .i64 0, .int .i64 0, .int .i64 0]) (t := 27) ?_; intro gb387 hg w29 hbox hb; replace HB := bS_ HB hb; have BK387 := am_ (hbox); have GW387 := am_ ((gK_ hg (qP HK))); have IGW387 := gI_ GW387; have GE387 := am_ ((Nat.le_trans HW0.out (gK_ hg (qP HK)))); have IGE387 := gI_ GE387; replace HK := kL_ HK hb; have NB0_387 := am_ ((nG_ hg (IsS128.lt (IsS128.q HI0)))); have INB0_387 := nI_ NB0_387; have NB387_0 := am_ (((nG_ hg (IsS128.lt (IsS128.q HI0))).symm)); replace HI0 := am_ (IsS128.below (IsS128.q HI0) hb); clear hb hbox hg) | ((with_reducible refine gate_callee (f := 61) rfl ?_); refine gl_ (some 5) Try.func61 #[.pointer (some ⟨g, 0, none⟩), .int .i64 9] ?_; (with_reducible refine (spec_l1Below.calls g s0_0 s0_1 s0_2 9 t388 t389 t390 w0 _ ?side1 ?side2 A2.out).mono ?_); (case side1 => exact IsS128.q HI0); (case side2 => exact qB HB); rintro e w30 ⟨rfl, hi, hb, hk⟩; refine ⟨_, rfl, ?_⟩; replace BK387 := kB_ BK387 hk NB387_0; replace HK := kT_ HK hk; replace HB := am_ (hb); replace HI0 := am_ (hi); (try clear hb); (try clear hk); (try clear hi)) | ((with_reducible refine gate_dst (N := 8) rfl ?_); refine Kd.R_lit Kd.string _ 9 ?hg (N := 8) ?hd (xs := ([(⟨#[109, 97, 105, 110]⟩ : ByteArray), (⟨#[108, 111, 103, 115]⟩ : ByteArray)] : List ByteArray)) (inner := [.string (⟨#[109, 97, 105, 110]⟩ : ByteArray), .string (⟨#[108, 111, 103, 115]⟩ : ByteArray)]) (ok := fun _ => True) (okp := fun _ => True) ?hr ?hp (fun _ hk => hk) trivial (Below.refl _ _) (Nat.le_refl _) (by simp) ?_; (case hd => rfl); (case hg => rfl); (case hr => first | (go_simp; done) | (go_simp; rfl)); (case hp => exact (Reps.one (show Kd.M Kd.string _ _ _ (⟨#[109, 97, 105, 110]⟩ : ByteArray) [.string (⟨#[109, 97, 105, 110]⟩ : ByteArray)] from rfl) (Reps.one (show Kd.M Kd.string _ _ _ (⟨#[108, 111, 103, 115]⟩ : ByteArray) [.string (⟨#[108, 111, 103, 115]⟩ : ByteArray)] from rfl) (Reps.none _ _)))); intro v392 w31 ho32 hb hg_ hnew_; clear hg_ hnew_; (first | rw [← Ny391.out] at ho32 | (simp only [Int.reduceToNat] at ho32; rw [← Ny391.out] at ho32)); have HO393 := am_ (Kd.R_lower ho32 (keep_size (w := w) (g := g) (row := none) (qP HK))); replace BK387 := bK_ BK387 hb; replace HK := kL_ HK hb; replace HB := bS_ HB hb; replace HI0 := am_ (IsS128.below (IsS128.q HI0) hb); clear hb ho32; obtain ⟨Ao33, co33, eo33⟩ := Kd.R_slice HO393.out; subst eo33) | ((with_reducible refine gate_callee (f := 116) rfl ?_); refine gl_ (some 9) Try.func116 #[.pointer (some ⟨g, 0, none⟩), .slice Ao33 y391.length co33] ?_; (with_reducible refine (spec_l1Str.calls g s0_0 t389 t390 _ _ y391 t394 t395 t396 w0 _ ?side1 ?side2 ?side3 ?side4 ?side5 A3.out).mono ?_); (case side1 => exact IsS128.q HI0); (case side2 => exact qB HB); (case side3 => exact qC ((Kd.R_reads' HO393.out).2.2)); (case side4 => exact (Kd.R_reads' HO393.out).2.1); (case side5 => exact far_slice (IsS128.own_ne HI0.out HO393.out (by decide))); rintro e w34 ⟨rfl, hi, hb, hk⟩; refine ⟨_, rfl, ?_⟩; replace BK387 := kB_ BK387 hk NB387_0; replace HO393 := am_ (Kd.R_mono (Kd.R_keep (IsS128.apart (show IsS128 w0 _ g s0_0 t389 t390 from IsS128.q HI0) (qR HO393) (by decide)) hk (fun _ h => h.2)) (fun _ h => h.1)); replace HK := kT_ HK hk; replace HB := am_ (hb); replace HI0 := am_ (hi); (try clear hb); (try clear hk); (try clear hi)) | ((with_reducible refine gate_callee (f := 61) rfl ?_); refine gl_ (some 11) Try.func61 #[.pointer (some ⟨g, 0, none⟩), .int .i64 3] ?_; (with_reducible refine (spec_l1Below.calls g s0_0 t395 t396 3 t397 t398 t399 w0 _ ?side1 ?side2 A4.out).mono ?_); (case side1 => exact IsS128.q HI0); (case side2 => exact qB HB); rintro e w35 ⟨rfl, hi, hb, hk⟩; refine ⟨_, rfl, ?_⟩; replace BK387 := kB_ BK387 hk NB387_0; replace HO393 := am_ (Kd.R_mono (Kd.R_keep (IsS128.apart (show IsS128 w0 _ g s0_0 t395 t396 from IsS128.q HI0) (qR HO393) (by decide)) hk (fun _ h => h.2)) (fun _ h => h.1)); replace HK := kT_ HK hk; replace HB := am_ (hb); replace HI0 := am_ (hi); (try clear hb); (try clear hk); (try clear hi)) | ((with_reducible refine gate_callee (f := 61) rfl ?_); refine gl_ (some 14) Try.func61 #[.pointer (some ⟨g, 0, none⟩), .int .i64 3] ?_; (with_reducible refine (spec_l1Below.calls g s0_0 t398 t399 3 t400 t401 t402 w0 _ ?side1 ?side2 A5.out).mono ?_); (case side1 => exact IsS128.q HI0); (case side2 => exact qB HB); rintro e w36 ⟨rfl, hi, hb, hk⟩; refine ⟨_, rfl, ?_⟩; replace BK387 := kB_ BK387 hk NB387_0; replace HO393 := am_ (Kd.R_mono (Kd.R_keep (IsS128.apart (show IsS128 w0 _ g s0_0 t398 t399 from IsS128.q HI0) (qR HO393) (by decide)) hk (fun _ h => h.2)) (fun _ h => h.1)); replace HK := kT_ HK hk; replace HB := am_ (hb); replace HI0 := am_ (hi); (try clear hb); (try clear hk); (try clear hi)) | ((with_reducible refine gate_dst (N := 3) rfl ?_); refine bx_ (N := 3) (cs := #[.int .i64 0, .string (⟨#[]⟩ : ByteArray), .int .i64 0, .int .i64 0, .int .i64 0, .int .i64 0, .int .i64 0]) (t := 27) ?_; intro gb403 hg w37 hbox hb; replace HO393 := rB_ HO393 hb; replace HB := bS_ HB hb; have BK403 := am_ (hbox); have GW403 := am_ ((gK_ hg (qP HK))); have IGW403 := gI_ GW403; have GE403 := am_ ((Nat.le_trans HW0.out (gK_ hg (qP HK)))); have IGE403 := gI_ GE403; replace HK := kL_ HK hb; have NB387_403 := am_ ((gN_ hg (qK BK387))); have NB403_387 := am_ ((gM_ hg (qK BK387))); replace BK387 := bK_ BK387 hb; have NB0_403 := am_ ((nG_ hg (IsS128.lt (IsS128.q HI0)))); have INB0_403 := nI_ NB0_403; have NB403_0 := am_ (((nG_ hg (IsS128.lt (IsS128.q HI0))).symm)); replace HI0 := am_ (IsS128.below (IsS128.q HI0) hb); clear hb hbox hg; have hnb38 := NB403_387.out; have hnc38 := NB387_403.out; have hnb39 := NB403_0.out; have hnc39 := NB0_403.out; (try clear zK403); have zK403 := cz7 BK403.out; (try clear fK403); have fK403 := fz7 BK403.out) | ((with_reducible refine gate_callee (f := 61) rfl ?_); refine gl_ (some 24) Try.func61 #[.pointer (some ⟨g, 0, none⟩), .int .i64 9] ?_; (with_reducible refine (spec_l1Below.calls g s0_0 t401 t402 9 t410 t411 t412 w0 _ ?side1 ?side2 A27.out).mono ?_); (case side1 => exact IsS128.q HI0); (case side2 => exact qB HB); rintro e w41 ⟨rfl, hi, hb, hk⟩; refine ⟨_, rfl, ?_⟩; replace BK387 := am_ (KeepBut.blk hk (g' := gb387) (o := .cells #[.int .i64 0, .string (⟨#[]⟩ : ByteArray), .int .i64 0, .int .i64 0, .int .i64 0, .int .i64 0, .int .i64 0] 27 (0, 0)) (by (with_reducible repeat (first | refine blk_drewN ?_ _ | refine blk_drew ?_ | refine blk_alloc ?_ _)); refine blk_far7 ?_ NB387_403.out; exact qK BK387) NB387_0.out (by simp)); replace HO393 := am_ (Kd.R_mono (Kd.R_keep (IsS128.apart (show IsS128 w0 _ g s0_0 t401 t402 from IsS128.q HI0) (by (with_reducible repeat (first | apply Kd.R_alloc | apply Kd.R_drewN | apply Kd.R_drew)); exact (Kd.R_mono (R_far7 (g := gb403) (Kd.R_types HO393.out BK403.out (by decide)) (fun _ hk => hk.2)) (fun _ h_ => h_.1))) (by decide)) hk (fun _ h => h.2)) (fun _ h => h.1)); replace BK403 := am_ (KeepBut.blk hk (g' := gb403) (o := .cells #[.int .i64 (wrap64 (1 + t388)), .string t394, .int .i64 (wrap64 (1 + t397)), .int .i64 t400, .int .i64 0, .int .i64 0, .int .i64 0] 27 (0, 0)) (by exact blk_all7 (qK BK403)) NB403_0.out (by simp)); replace HK := kT_ HK hk; replace HB := am_ (hb); replace HI0 := am_ (hi); (try clear hb); (try clear hk); (try clear hi); (try clear zK403); have zK403 := cz7 BK403.out; (try clear fK403); have fK403 := fz7 BK403.out) | ((with_reducible refine gate_callee (f := 61) rfl ?_); refine gl_ (some 28) Try.func61 #[.pointer (some ⟨g, 0, none⟩), .int .i64 900] ?_; (with_reducible refine (spec_l1Below.calls g s0_0 t411 t412 900 t413 t414 t415 w0 _ ?side1 ?side2 A28.out).mono ?_); (case side1 => exact IsS128.q HI0); (case side2 => exact qB HB); rintro e w43 ⟨rfl, hi, hb, hk⟩; refine ⟨_, rfl, ?_⟩; replace BK387 := am_ (KeepBut.blk hk (g' := gb387) (o := .cells #[.int .i64 0, .string (⟨#[]⟩ : ByteArray), .int .i64 0, .int .i64 0, .int .i64 0, .int .i64 0, .int .i64 0] 27 (0, 0)) (by (with_reducible repeat (first | refine blk_drewN ?_ _ | refine blk_drew ?_ | refine blk_alloc ?_ _)); refine blk_far ?_ NB387_403.out _; exact qK BK387) NB387_0.out (by simp)); replace HO393 := am_ (Kd.R_mono (Kd.R_keep (IsS128.apart (show IsS128 w0 _ g s0_0 t411 t412 from IsS128.q HI0) (by (with_reducible repeat (first | apply Kd.R_alloc | apply Kd.R_drewN | apply Kd.R_drew)); exact (Kd.R_mono (Kd.R_far (p := ⟨gb403, 5, none⟩) (Kd.R_types HO393.out BK403.out (by decide)) (fun _ hk => hk.2) (.int .i64 (wrap64 (1 + t410)))) (fun _ h_ => h_.1))) (by decide)) hk (fun _ h => h.2)) (fun _ h => h.1)); replace BK403 := am_ (KeepBut.blk hk (g' := gb403) (o := .cells #[.int .i64 (wrap64 (1 + t388)), .string t394, .int .i64 (wrap64 (1 + t397)), .int .i64 t400, .int .i64 0, .int .i64 (wrap64 (1 + t410)), .int .i64 0] 27 (0, 0)) (by (with_reducible repeat (first | refine blk_drewN ?_ _ | refine blk_drew ?_ | refine blk_alloc ?_ _)); refine blk_put (cs := #[.int .i64 (wrap64 (1 + t388)), .string t394, .int .i64 (wrap64 (1 + t397)), .int .i64 t400, .int .i64 0, .int .i64 0, .int .i64 0]) ?_ 5 _ rfl; exact qK BK403) NB403_0.out (by simp)); replace HK := kT_ HK hk; replace HB := am_ (hb); replace HI0 := am_ (hi); (try clear hb); (try clear hk); (try clear hi); (try clear zK403); have zK403 := cz7 BK403.out; (try clear fK403); have fK403 := fz7 BK403.out; have hnb45 := NB387_0.out; have hnc45 := NB0_387.out; (try clear zK387); have zK387 := cz7 BK387.out; (try clear fK387); have fK387 := fz7 BK387.out))
  refine bodyPost_ret (results_cell_row rfl _ _ gb387 27 #[.int .i64 (wrap64 (1 + t388)), .string t394, .int .i64 (wrap64 (1 + t397)), .int .i64 t400, .int .i64 0, .int .i64 (wrap64 (1 + t410)), .int .i64 (wrap64 (1 + t413))] (0, 0) _ rfl (by exact blk_all7 (blk_far1 (qK BK387) NB387_403.out)) Try.underlying27 rfl (by kernel_rfl)) rfl ?_
  exact ⟨er_, IsS128.q HI0, qB HB, qP HK⟩
 rw [if_pos c6] at H
 have c6b0 : (t400 == 0) = true := beq_iff_eq.mpr c6
 have c6b1 : (t400 != 0) = false := bne_eq_false_iff_eq.mpr c6
 clear c6
 obtain ⟨y404, hy404⟩ : ∃ y_ : List Int, y_ = (([0, 7, 300, 100000] : List Int)) := ⟨_, rfl⟩
 rw [← hy404] at H
 have Ny404 := Aside0.mk hy404
 clear hy404
 replace H := bf_ H
 obtain ⟨f_, hf_, ⟨t407, t408, t409⟩, A7, H⟩ := H
 subst hf_
 (try dsimp only at H)
 simp only [Option.some.injEq, Prod.mk.injEq] at H
 obtain ⟨rfl, rfl, rfl, rfl, rfl, rfl, rfl, rfl, rfl⟩ := H
 go_enter Try.func114, Try.ntmps114
 go_wp2_with (first | ((with_reducible refine gate_dst (N := 2) rfl ?_); refine bx_ (N := 2) (cs := #[.int .i64 0, .string (⟨#[]⟩ : ByteArray), .int .i64 0, .int .i64 0, .int .i64 0, .int .i64 0, .int .i64 0]) (t := 27) ?_; intro gb387 hg w8 hbox hb; replace HB := bS_ HB hb; have BK387 := am_ (hbox); have GW387 := am_ ((gK_ hg (qP HK))); have IGW387 := gI_ GW387; have GE387 := am_ ((Nat.le_trans HW0.out (gK_ hg (qP HK)))); have IGE387 := gI_ GE387; replace HK := kL_ HK hb; have NB0_387 := am_ ((nG_ hg (IsS128.lt (IsS128.q HI0)))); have INB0_387 := nI_ NB0_387; have NB387_0 := am_ (((nG_ hg (IsS128.lt (IsS128.q HI0))).symm)); replace HI0 := am_ (IsS128.below (IsS128.q HI0) hb); clear hb hbox hg) | ((with_reducible refine gate_callee (f := 61) rfl ?_); refine gl_ (some 5) Try.func61 #[.pointer (some ⟨g, 0, none⟩), .int .i64 9] ?_; (with_reducible refine (spec_l1Below.calls g s0_0 s0_1 s0_2 9 t388 t389 t390 w0 _ ?side1 ?side2 A2.out).mono ?_); (case side1 => exact IsS128.q HI0); (case side2 => exact qB HB); rintro e w9 ⟨rfl, hi, hb, hk⟩; refine ⟨_, rfl, ?_⟩; replace BK387 := kB_ BK387 hk NB387_0; replace HK := kT_ HK hk; replace HB := am_ (hb); replace HI0 := am_ (hi); (try clear hb); (try clear hk); (try clear hi)) | ((with_reducible refine gate_dst (N := 8) rfl ?_); refine Kd.R_lit Kd.string _ 9 ?hg (N := 8) ?hd (xs := ([(⟨#[109, 97, 105, 110]⟩ : ByteArray), (⟨#[108, 111, 103, 115]⟩ : ByteArray)] : List ByteArray)) (inner := [.string (⟨#[109, 97, 105, 110]⟩ : ByteArray), .string (⟨#[108, 111, 103, 115]⟩ : ByteArray)]) (ok := fun _ => True) (okp := fun _ => True) ?hr ?hp (fun _ hk => hk) trivial (Below.refl _ _) (Nat.le_refl _) (by simp) ?_; (case hd => rfl); (case hg => rfl); (case hr => first | (go_simp; done) | (go_simp; rfl)); (case hp => exact (Reps.one (show Kd.M Kd.string _ _ _ (⟨#[109, 97, 105, 110]⟩ : ByteArray) [.string (⟨#[109, 97, 105, 110]⟩ : ByteArray)] from rfl) (Reps.one (show Kd.M Kd.string _ _ _ (⟨#[108, 111, 103, 115]⟩ : ByteArray) [.string (⟨#[108, 111, 103, 115]⟩ : ByteArray)] from rfl) (Reps.none _ _)))); intro v392 w10 ho11 hb hg_ hnew_; clear hg_ hnew_; (first | rw [← Ny391.out] at ho11 | (simp only [Int.reduceToNat] at ho11; rw [← Ny391.out] at ho11)); have HO393 := am_ (Kd.R_lower ho11 (keep_size (w := w) (g := g) (row := none) (qP HK))); replace BK387 := bK_ BK387 hb; replace HK := kL_ HK hb; replace HB := bS_ HB hb; replace HI0 := am_ (IsS128.below (IsS128.q HI0) hb); clear hb ho11; obtain ⟨Ao12, co12, eo12⟩ := Kd.R_slice HO393.out; subst eo12) | ((with_reducible refine gate_callee (f := 116) rfl ?_); refine gl_ (some 9) Try.func116 #[.pointer (some ⟨g, 0, none⟩), .slice Ao12 y391.length co12] ?_; (with_reducible refine (spec_l1Str.calls g s0_0 t389 t390 _ _ y391 t394 t395 t396 w0 _ ?side1 ?side2 ?side3 ?side4 ?side5 A3.out).mono ?_); (case side1 => exact IsS128.q HI0); (case side2 => exact qB HB); (case side3 => exact qC ((Kd.R_reads' HO393.out).2.2)); (case side4 => exact (Kd.R_reads' HO393.out).2.1); (case side5 => exact far_slice (IsS128.own_ne HI0.out HO393.out (by decide))); rintro e w13 ⟨rfl, hi, hb, hk⟩; refine ⟨_, rfl, ?_⟩; replace BK387 := kB_ BK387 hk NB387_0; replace HO393 := am_ (Kd.R_mono (Kd.R_keep (IsS128.apart (show IsS128 w0 _ g s0_0 t389 t390 from IsS128.q HI0) (qR HO393) (by decide)) hk (fun _ h => h.2)) (fun _ h => h.1)); replace HK := kT_ HK hk; replace HB := am_ (hb); replace HI0 := am_ (hi); (try clear hb); (try clear hk); (try clear hi)) | ((with_reducible refine gate_callee (f := 61) rfl ?_); refine gl_ (some 11) Try.func61 #[.pointer (some ⟨g, 0, none⟩), .int .i64 3] ?_; (with_reducible refine (spec_l1Below.calls g s0_0 t395 t396 3 t397 t398 t399 w0 _ ?side1 ?side2 A4.out).mono ?_); (case side1 => exact IsS128.q HI0); (case side2 => exact qB HB); rintro e w14 ⟨rfl, hi, hb, hk⟩; refine ⟨_, rfl, ?_⟩; replace BK387 := kB_ BK387 hk NB387_0; replace HO393 := am_ (Kd.R_mono (Kd.R_keep (IsS128.apart (show IsS128 w0 _ g s0_0 t395 t396 from IsS128.q HI0) (qR HO393) (by decide)) hk (fun _ h => h.2)) (fun _ h => h.1)); replace HK := kT_ HK hk; replace HB := am_ (hb); replace HI0 := am_ (hi); (try clear hb); (try clear hk); (try clear hi)) | ((with_reducible refine gate_callee (f := 61) rfl ?_); refine gl_ (some 14) Try.func61 #[.pointer (some ⟨g, 0, none⟩), .int .i64 3] ?_; (with_reducible refine (spec_l1Below.calls g s0_0 t398 t399 3 t400 t401 t402 w0 _ ?side1 ?side2 A5.out).mono ?_); (case side1 => exact IsS128.q HI0); (case side2 => exact qB HB); rintro e w15 ⟨rfl, hi, hb, hk⟩; refine ⟨_, rfl, ?_⟩; replace BK387 := kB_ BK387 hk NB387_0; replace HO393 := am_ (Kd.R_mono (Kd.R_keep (IsS128.apart (show IsS128 w0 _ g s0_0 t398 t399 from IsS128.q HI0) (qR HO393) (by decide)) hk (fun _ h => h.2)) (fun _ h => h.1)); replace HK := kT_ HK hk; replace HB := am_ (hb); replace HI0 := am_ (hi); (try clear hb); (try clear hk); (try clear hi)) | ((with_reducible refine gate_dst (N := 3) rfl ?_); refine bx_ (N := 3) (cs := #[.int .i64 0, .string (⟨#[]⟩ : ByteArray), .int .i64 0, .int .i64 0, .int .i64 0, .int .i64 0, .int .i64 0]) (t := 27) ?_; intro gb403 hg w16 hbox hb; replace HO393 := rB_ HO393 hb; replace HB := bS_ HB hb; have BK403 := am_ (hbox); have GW403 := am_ ((gK_ hg (qP HK))); have IGW403 := gI_ GW403; have GE403 := am_ ((Nat.le_trans HW0.out (gK_ hg (qP HK)))); have IGE403 := gI_ GE403; replace HK := kL_ HK hb; have NB387_403 := am_ ((gN_ hg (qK BK387))); have NB403_387 := am_ ((gM_ hg (qK BK387))); replace BK387 := bK_ BK387 hb; have NB0_403 := am_ ((nG_ hg (IsS128.lt (IsS128.q HI0)))); have INB0_403 := nI_ NB0_403; have NB403_0 := am_ (((nG_ hg (IsS128.lt (IsS128.q HI0))).symm)); replace HI0 := am_ (IsS128.below (IsS128.q HI0) hb); clear hb hbox hg; have hnb17 := NB403_387.out; have hnc17 := NB387_403.out; have hnb18 := NB403_0.out; have hnc18 := NB0_403.out; (try clear zK403); have zK403 := cz7 BK403.out; (try clear fK403); have fK403 := fz7 BK403.out) | ((with_reducible refine gate_dst (N := 20) rfl ?_); refine Kd.R_lit (Kd.int .i64) _ 3 ?hg (N := 20) ?hd (xs := ([0, 7, 300, 100000] : List Int)) (inner := [.int .i64 0, .int .i64 7, .int .i64 300, .int .i64 100000]) (ok := fun _ => True) (okp := fun _ => True) ?hr ?hp (fun _ hk => hk) trivial (Below.refl _ _) (Nat.le_refl _) (by simp) ?_; (case hd => rfl); (case hg => rfl); (case hr => first | (go_simp; done) | (go_simp; rfl)); (case hp => exact (Reps.one (show Kd.M (Kd.int .i64) _ _ _ 0 [.int .i64 0] from rfl) (Reps.one (show Kd.M (Kd.int .i64) _ _ _ 7 [.int .i64 7] from rfl) (Reps.one (show Kd.M (Kd.int .i64) _ _ _ 300 [.int .i64 300] from rfl) (Reps.one (show Kd.M (Kd.int .i64) _ _ _ 100000 [.int .i64 100000] from rfl) (Reps.none _ _)))))); intro v405 w20 ho21 hb hg_ hnew_; clear hg_ hnew_; (first | rw [← Ny404.out] at ho21 | (simp only [Int.reduceToNat] at ho21; rw [← Ny404.out] at ho21)); replace HO393 := am_ (Kd.R_below (by (with_reducible repeat (first | apply Kd.R_alloc | apply Kd.R_drewN | apply Kd.R_drew)); exact (Kd.R_mono (R_far7 (g := gb403) (Kd.R_types HO393.out BK403.out (by decide)) (fun _ hk => hk.2)) (fun _ h_ => h_.1))) hb); have HO406 := am_ (Kd.R_lower ho21 (keep_size (w := w) (g := g) (row := none) (qP HK))); replace BK387 := am_ (blk_below (g := gb387) (o := .cells #[.int .i64 0, .string (⟨#[]⟩ : ByteArray), .int .i64 0, .int .i64 0, .int .i64 0, .int .i64 0, .int .i64 0] 27 (0, 0)) (by (with_reducible repeat (first | refine blk_drewN ?_ _ | refine blk_drew ?_ | refine blk_alloc ?_ _)); refine blk_far7 ?_ NB387_403.out; exact qK BK387) hb); replace BK403 := am_ (blk_below (g := gb403) (o := .cells #[.int .i64 (wrap64 (1 + t388)), .string t394, .int .i64 (wrap64 (1 + t397)), .int .i64 t400, .int .i64 0, .int .i64 0, .int .i64 0] 27 (0, 0)) (by exact blk_all7 (qK BK403)) hb); replace HK := kL_ HK hb; replace HB := bS_ HB hb; replace HI0 := am_ (IsS128.below (show IsS128 w0 (((((((w16.setCell ⟨gb403, 0, none⟩ (.int .i64 (wrap64 (1 + t388)))).setCell ⟨gb403, 1, none⟩ (.string t394)).setCell ⟨gb403, 2, none⟩ (.int .i64 (wrap64 (1 + t397)))).setCell ⟨gb403, 3, none⟩ (.int .i64 t400)).setCell ⟨gb403, 4, none⟩ (.int .i64 0)).setCell ⟨gb403, 5, none⟩ (.int .i64 0)).setCell ⟨gb403, 6, none⟩ (.int .i64 0)) g s0_0 t401 t402 from IsS128.q HI0) hb); clear hb ho21; obtain ⟨Ao22, co22, eo22⟩ := Kd.R_slice HO406.out; subst eo22) | ((with_reducible refine gate_callee (f := 62) rfl ?_); refine gl_ (some 21) Try.func62 #[.pointer (some ⟨g, 0, none⟩), .slice Ao22 y404.length co22] ?_; (with_reducible refine (spec_l1Int.calls g s0_0 t401 t402 _ _ y404 t407 t408 t409 w0 _ ?side1 ?side2 ?side3 ?side4 ?side5 A7.out).mono ?_); (case side1 => exact IsS128.q HI0); (case side2 => exact qB HB); (case side3 => exact qC ((Kd.R_reads' HO406.out).2.2)); (case side4 => exact (Kd.R_reads' HO406.out).2.1); (case side5 => exact far_slice (IsS128.own_ne HI0.out HO406.out (by decide))); rintro e w23 ⟨rfl, hi, hb, hk⟩; refine ⟨_, rfl, ?_⟩; replace BK387 := kB_ BK387 hk NB387_0; replace HO393 := am_ (Kd.R_mono (Kd.R_keep (IsS128.apart (show IsS128 w0 _ g s0_0 t401 t402 from IsS128.q HI0) (qR HO393) (by decide)) hk (fun _ h => h.2)) (fun _ h => h.1)); replace BK403 := kB_ BK403 hk NB403_0; replace HO406 := am_ (Kd.R_mono (Kd.R_keep (IsS128.apart (show IsS128 w0 _ g s0_0 t401 t402 from IsS128.q HI0) (qR HO406) (by decide)) hk (fun _ h => h.2)) (fun _ h => h.1)); replace HK := kT_ HK hk; replace HB := am_ (hb); replace HI0 := am_ (hi); (try clear hb); (try clear hk); (try clear hi); (try clear zK403); have zK403 := cz7 BK403.out; (try clear fK403); have fK403 := fz7 BK403.out; have hnb25 := NB387_0.out; have hnc25 := NB0_387.out; (try clear zK387); have zK387 := cz7 BK387.out; (try clear fK387); have fK387 := fz7 BK387.out))
 refine bodyPost_ret (results_cell_row rfl _ _ gb387 27 #[.int .i64 (wrap64 (1 + t388)), .string t394, .int .i64 (wrap64 (1 + t397)), .int .i64 t400, .int .i64 t407, .int .i64 0, .int .i64 0] (0, 0) _ rfl (by exact blk_all7 (blk_far1 (qK BK387) NB387_403.out)) Try.underlying27 rfl (by kernel_rfl)) rfl ?_
 exact ⟨er_, IsS128.q HI0, qB HB, qP HK⟩

/-! ### spec_l9Item: function 60 -/
def spec_l9Item.f (k : Nat) (s0_0 : List Int) (s0_1 : Int) (s0_2 : Int) : Option (Int × Int × ByteArray × Int × Int × Int × ByteArray × Int × Int × Int × ByteArray × Int × Int × Int × Int × Int × Int × Int) := (spec_l1Once.f s0_0 s0_1 s0_2 2).bind fun bt417 => (if bt417.1 = true then ((spec_l9Asker.f k s0_0 bt417.2.1 bt417.2.2).bind fun bt420 => (some (1, bt420.1, bt420.2.1, bt420.2.2.1, bt420.2.2.2.1, bt420.2.2.2.2.1, bt420.2.2.2.2.2.1, bt420.2.2.2.2.2.2.1, bt420.2.2.2.2.2.2.2.1, 0, (⟨#[]⟩ : ByteArray), 0, 0, 0, 0, 0, bt420.2.2.2.2.2.2.2.2.1, bt420.2.2.2.2.2.2.2.2.2))) else ((spec_l9Line.f s0_0 bt417.2.1 bt417.2.2).bind fun bt430 => (some (2, 0, (⟨#[]⟩ : ByteArray), 0, 0, 0, (⟨#[]⟩ : ByteArray), 0, 0, bt430.1, bt430.2.1, bt430.2.2.1, bt430.2.2.2.1, bt430.2.2.2.2.1, bt430.2.2.2.2.2.1, bt430.2.2.2.2.2.2.1, bt430.2.2.2.2.2.2.2.1, bt430.2.2.2.2.2.2.2.2))))
theorem spec_l9Item.mono : ∀ a0 a1 a2 k, LeO (spec_l9Item.f k a0 a1 a2) (spec_l9Item.f (k + 1) a0 a1 a2) := by
 intro a0 a1 a2 k
 unfold spec_l9Item.f
 have m0 := @spec_l9Asker.mono; exact mo_
set_option maxHeartbeats 8000000 in
set_option maxRecDepth 100000 in
theorem spec_l9Item.calls (k : Nat) (g : Nat) (s0_0 : List Int) (s0_1 : Int) (s0_2 : Int) (r1 : Int) (r2 : Int) (r3 : ByteArray) (r4 : Int) (r5 : Int) (r6 : Int) (r7 : ByteArray) (r8 : Int) (r9 : Int) (r10 : Int) (r11 : ByteArray) (r12 : Int) (r13 : Int) (r14 : Int) (r15 : Int) (r16 : Int) (r17 : Int) (r18 : Int) (w0 w : World) (hI : IsS128 w0 w g s0_0 s0_1 s0_2) (hB : Below w0.heap.size w0 w) (h : spec_l9Item.f k s0_0 s0_1 s0_2 = some (r1, r2, r3, r4, r5, r6, r7, r8, r9, r10, r11, r12, r13, r14, r15, r16, r17, r18)) :
  Calls Try.prog 60 #[.pointer (some ⟨g, 0, none⟩)] w fun e w' => e = .returned (.agg #[.int .i64 r1, .int .i64 r2, .string r3, .int .i64 r4, .int .i64 r5, .int .i64 r6, .string r7, .int .i64 r8, .int .i64 r9, .int .i64 r10, .string r11, .int .i64 r12, .int .i64 r13, .int .i64 r14, .int .i64 r15, .int .i64 r16]) ∧ IsS128 w0 w' g s0_0 r17 r18 ∧ Below w0.heap.size w0 w' ∧ KeepBut w w' g none := by
 have hu29 := Try.underlying29
 have HI0 := Aside0.mk hI
 have IGHI0 := iG_ HI0.out.ge
 have HK := Aside0.mk (KeepBut.refl w g none)
 have HL := Aside0.mk hB.size
 clear hI
 have HW0 := Aside0.mk hB.size
 have HB := Aside0.mk hB
 clear hB
 have H := h
 unfold spec_l9Item.f at H
 clear h
 replace H := bf_ H
 obtain ⟨f_, hf_, ⟨t417, t418, t419⟩, A2, H⟩ := H
 subst hf_
 (try dsimp only at H)
 by_cases c3 : t417 = true
 ·
  subst c3
  rw [if_pos rfl] at H
  replace H := bf_ H
  obtain ⟨f_, hf_, ⟨t420, t421, t422, t423, t424, t425, t426, t427, t428, t429⟩, A4, H⟩ := H
  subst hf_
  (try dsimp only at H)
  simp only [Option.some.injEq, Prod.mk.injEq] at H
  obtain ⟨rfl, rfl, rfl, rfl, rfl, rfl, rfl, rfl, rfl, rfl, rfl, rfl, rfl, rfl, rfl, rfl, rfl, rfl⟩ := H
  go_enter Try.func60, Try.ntmps60
  go_wp2_with (first | ((with_reducible refine gate_dst (N := 2) rfl ?_); refine bx_ (N := 2) (cs := #[.int .i64 0, .int .i64 0, .string (⟨#[]⟩ : ByteArray), .int .i64 0, .int .i64 0, .int .i64 0, .string (⟨#[]⟩ : ByteArray), .int .i64 0, .int .i64 0, .int .i64 0, .string (⟨#[]⟩ : ByteArray), .int .i64 0, .int .i64 0, .int .i64 0, .int .i64 0, .int .i64 0]) (t := 29) ?_; intro gb416 hg w5 hbox hb; replace HB := bS_ HB hb; have BK416 := am_ (hbox); have GW416 := am_ ((gK_ hg (qP HK))); have IGW416 := gI_ GW416; have GE416 := am_ ((Nat.le_trans HW0.out (gK_ hg (qP HK)))); have IGE416 := gI_ GE416; replace HK := kL_ HK hb; have NB0_416 := am_ ((nG_ hg (IsS128.lt (IsS128.q HI0)))); have INB0_416 := nI_ NB0_416; have NB416_0 := am_ (((nG_ hg (IsS128.lt (IsS128.q HI0))).symm)); replace HI0 := am_ (IsS128.below (IsS128.q HI0) hb); clear hb hbox hg) | ((with_reducible refine gate_callee (f := 110) rfl ?_); refine gl_ (some 4) Try.func110 #[.pointer (some ⟨g, 0, none⟩), .int .i64 2] ?_; (with_reducible refine (spec_l1Once.calls g s0_0 s0_1 s0_2 2 true t418 t419 w0 _ ?side1 ?side2 A2.out).mono ?_); (case side1 => exact IsS128.q HI0); (case side2 => exact qB HB); rintro e w6 ⟨rfl, hi, hb, hk⟩; refine ⟨_, rfl, ?_⟩; replace BK416 := kB_ BK416 hk NB416_0; replace HK := kT_ HK hk; replace HB := am_ (hb); replace HI0 := am_ (hi); (try clear hb); (try clear hk); (try clear hi)) | ((with_reducible refine gate_callee (f := 113) rfl ?_); refine gl_ (some 6) Try.func113 #[.pointer (some ⟨g, 0, none⟩)] ?_; (with_reducible refine (spec_l9Asker.calls k g s0_0 t418 t419 t420 t421 t422 t423 t424 t425 t426 t427 t428 t429 w0 _ ?side1 ?side2 A4.out).mono ?_); (case side1 => exact IsS128.q HI0); (case side2 => exact qB HB); rintro e w7 ⟨rfl, hi, hb, hk⟩; refine ⟨_, rfl, ?_⟩; replace BK416 := kB_ BK416 hk NB416_0; replace HK := kT_ HK hk; replace HB := am_ (hb); replace HI0 := am_ (hi); (try clear hb); (try clear hk); (try clear hi); have hnb8 := NB416_0.out; have hnc8 := NB0_416.out; (try clear zK416); have zK416 := cz16 BK416.out; (try clear fK416); have fK416 := fz16 BK416.out) | ((with_reducible refine gate_store (t := 29) (p := 2) rfl ?_); refine store_evs (t := 29) (p := 2) (j := 0) (cs := [.int .i64 1, .int .i64 t420, .string t421, .int .i64 t422, .int .i64 t423, .int .i64 t424, .string t425, .int .i64 t426, .int .i64 t427, .int .i64 0, .string (⟨#[]⟩ : ByteArray), .int .i64 0, .int .i64 0, .int .i64 0, .int .i64 0, .int .i64 0]) (qK BK416) ?_; intro w10 hw; replace HI0 := IsS128.s_ hw HI0 NB0_416; replace HK := sH_ hw HK; replace HB := sB_ hw HB; replace BK416 := sW_ hw BK416; clear hw))
  refine bodyPost_ret (results_cell_row rfl _ _ gb416 29 #[.int .i64 1, .int .i64 t420, .string t421, .int .i64 t422, .int .i64 t423, .int .i64 t424, .string t425, .int .i64 t426, .int .i64 t427, .int .i64 0, .string (⟨#[]⟩ : ByteArray), .int .i64 0, .int .i64 0, .int .i64 0, .int .i64 0, .int .i64 0] (0, 0) _ rfl (qK BK416) Try.underlying29 rfl (by kernel_rfl)) rfl ?_
  exact ⟨er_, IsS128.q HI0, qB HB, qP HK⟩
 replace c3 := Bool.eq_false_iff.mpr c3
 subst c3
 rw [if_neg (show ¬ (false = true) by decide)] at H
 replace H := bf_ H
 obtain ⟨f_, hf_, ⟨t430, t431, t432, t433, t434, t435, t436, t437, t438⟩, A11, H⟩ := H
 subst hf_
 (try dsimp only at H)
 simp only [Option.some.injEq, Prod.mk.injEq] at H
 obtain ⟨rfl, rfl, rfl, rfl, rfl, rfl, rfl, rfl, rfl, rfl, rfl, rfl, rfl, rfl, rfl, rfl, rfl, rfl⟩ := H
 go_enter Try.func60, Try.ntmps60
 go_wp2_with (first | ((with_reducible refine gate_dst (N := 2) rfl ?_); refine bx_ (N := 2) (cs := #[.int .i64 0, .int .i64 0, .string (⟨#[]⟩ : ByteArray), .int .i64 0, .int .i64 0, .int .i64 0, .string (⟨#[]⟩ : ByteArray), .int .i64 0, .int .i64 0, .int .i64 0, .string (⟨#[]⟩ : ByteArray), .int .i64 0, .int .i64 0, .int .i64 0, .int .i64 0, .int .i64 0]) (t := 29) ?_; intro gb416 hg w12 hbox hb; replace HB := bS_ HB hb; have BK416 := am_ (hbox); have GW416 := am_ ((gK_ hg (qP HK))); have IGW416 := gI_ GW416; have GE416 := am_ ((Nat.le_trans HW0.out (gK_ hg (qP HK)))); have IGE416 := gI_ GE416; replace HK := kL_ HK hb; have NB0_416 := am_ ((nG_ hg (IsS128.lt (IsS128.q HI0)))); have INB0_416 := nI_ NB0_416; have NB416_0 := am_ (((nG_ hg (IsS128.lt (IsS128.q HI0))).symm)); replace HI0 := am_ (IsS128.below (IsS128.q HI0) hb); clear hb hbox hg) | ((with_reducible refine gate_callee (f := 110) rfl ?_); refine gl_ (some 4) Try.func110 #[.pointer (some ⟨g, 0, none⟩), .int .i64 2] ?_; (with_reducible refine (spec_l1Once.calls g s0_0 s0_1 s0_2 2 false t418 t419 w0 _ ?side1 ?side2 A2.out).mono ?_); (case side1 => exact IsS128.q HI0); (case side2 => exact qB HB); rintro e w13 ⟨rfl, hi, hb, hk⟩; refine ⟨_, rfl, ?_⟩; replace BK416 := kB_ BK416 hk NB416_0; replace HK := kT_ HK hk; replace HB := am_ (hb); replace HI0 := am_ (hi); (try clear hb); (try clear hk); (try clear hi)) | ((with_reducible refine gate_callee (f := 114) rfl ?_); refine gl_ (some 9) Try.func114 #[.pointer (some ⟨g, 0, none⟩)] ?_; (with_reducible refine (spec_l9Line.calls g s0_0 t418 t419 t430 t431 t432 t433 t434 t435 t436 t437 t438 w0 _ ?side1 ?side2 A11.out).mono ?_); (case side1 => exact IsS128.q HI0); (case side2 => exact qB HB); rintro e w14 ⟨rfl, hi, hb, hk⟩; refine ⟨_, rfl, ?_⟩; replace BK416 := kB_ BK416 hk NB416_0; replace HK := kT_ HK hk; replace HB := am_ (hb); replace HI0 := am_ (hi); (try clear hb); (try clear hk); (try clear hi); have hnb15 := NB416_0.out; have hnc15 := NB0_416.out; (try clear zK416); have zK416 := cz16 BK416.out; (try clear fK416); have fK416 := fz16 BK416.out) | ((with_reducible refine gate_store (t := 29) (p := 2) rfl ?_); refine store_evs (t := 29) (p := 2) (j := 0) (cs := [.int .i64 2, .int .i64 0, .string (⟨#[]⟩ : ByteArray), .int .i64 0, .int .i64 0, .int .i64 0, .string (⟨#[]⟩ : ByteArray), .int .i64 0, .int .i64 0, .int .i64 t430, .string t431, .int .i64 t432, .int .i64 t433, .int .i64 t434, .int .i64 t435, .int .i64 t436]) (qK BK416) ?_; intro w17 hw; replace HI0 := IsS128.s_ hw HI0 NB0_416; replace HK := sH_ hw HK; replace HB := sB_ hw HB; replace BK416 := sW_ hw BK416; clear hw))
 refine bodyPost_ret (results_cell_row rfl _ _ gb416 29 #[.int .i64 2, .int .i64 0, .string (⟨#[]⟩ : ByteArray), .int .i64 0, .int .i64 0, .int .i64 0, .string (⟨#[]⟩ : ByteArray), .int .i64 0, .int .i64 0, .int .i64 t430, .string t431, .int .i64 t432, .int .i64 t433, .int .i64 t434, .int .i64 t435, .int .i64 t436] (0, 0) _ rfl (qK BK416) Try.underlying29 rfl (by kernel_rfl)) rfl ?_
 exact ⟨er_, IsS128.q HI0, qB HB, qP HK⟩

end Go.Proofs.Ytiffahfpfgnjnaa.PFnWays
