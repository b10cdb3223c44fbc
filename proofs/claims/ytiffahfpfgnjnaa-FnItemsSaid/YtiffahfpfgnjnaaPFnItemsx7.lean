-- Written by a program of this session (myprint.py, over the kit's print): contracts of FnItems
import Derived.Test.YtiffahfpfgnjnaaPFnItemsx0
import Derived.Test.YtiffahfpfgnjnaaPFnItemsx4
import Derived.Test.YtiffahfpfgnjnaaPFnItemsx5
import Derived.Test.YtiffahfpfgnjnaaPFnItemsx6
namespace Go.Proofs.Ytiffahfpfgnjnaa.PFnItems
open Go.RowKit Go.Proofs.YtiffahfpfgnjnaaW.PrintWords Go.Proofs.YtiffahfpfgnjnaaW.PrintLast Go.Proofs.YtiffahfpfgnjnaaW.PrintMore Go.Proofs.YtiffahfpfgnjnaaV
attribute [local go_sem] max2_int min2_int max_two min_two max_three min_three max_four min_four   -- for this text's walks alone
set_option linter.unusedVariables false
set_option linter.unusedSimpArgs false

/-! ### spec_l9AnyLine: function 64 -/
def spec_l9AnyLine.f (s0_0 : List Int) (s0_1 : Int) (s0_2 : Int) : Option (Int × ByteArray × Int × Int × Int × Int × Int × Int × Int) := (spec_l9Line.f s0_0 s0_1 s0_2).bind fun bt294 => ((spec_l1Below.f s0_0 bt294.2.2.2.2.2.2.2.1 bt294.2.2.2.2.2.2.2.2 18).bind fun bt304 => (if bt304.1 = 0 then ((spec_l1Int.f s0_0 bt304.2.1 bt304.2.2 (([0, 9999, 10000] : List Int))).bind fun bt310 => (some (bt310.1, bt294.2.1, bt294.2.2.1, bt294.2.2.2.1, bt294.2.2.2.2.1, bt294.2.2.2.2.2.1, bt294.2.2.2.2.2.2.1, bt310.2.1, bt310.2.2))) else (if bt304.1 = 1 then ((spec_l1Str.f s0_0 bt304.2.1 bt304.2.2 (([(⟨#[]⟩ : ByteArray), (⟨#[77, 97, 105, 110]⟩ : ByteArray), (⟨#[120]⟩ : ByteArray)] : List ByteArray))).bind fun bt316 => (some (bt294.1, bt316.1, bt294.2.2.1, bt294.2.2.2.1, bt294.2.2.2.2.1, bt294.2.2.2.2.2.1, bt294.2.2.2.2.2.2.1, bt316.2.1, bt316.2.2))) else (if bt304.1 = 2 then ((spec_l1Int.f s0_0 bt304.2.1 bt304.2.2 (([(-1), 0, 1, 3] : List Int))).bind fun bt322 => (some (bt294.1, bt294.2.1, bt294.2.2.1, bt322.1, bt294.2.2.2.2.1, bt294.2.2.2.2.2.1, bt294.2.2.2.2.2.2.1, bt322.2.1, bt322.2.2))) else (if bt304.1 = 3 then ((spec_l1Int.f s0_0 bt304.2.1 bt304.2.2 (([0, 60000, 60001] : List Int))).bind fun bt328 => (some (bt294.1, bt294.2.1, bt328.1, bt294.2.2.2.1, bt294.2.2.2.2.1, bt294.2.2.2.2.2.1, bt294.2.2.2.2.2.2.1, bt328.2.1, bt328.2.2))) else (if bt304.1 = 4 then ((spec_l1Int.f s0_0 bt304.2.1 bt304.2.2 (([(-1), 1, 100001] : List Int))).bind fun bt334 => (some (bt294.1, bt294.2.1, bt294.2.2.1, bt294.2.2.2.1, bt334.1, bt294.2.2.2.2.2.1, bt294.2.2.2.2.2.2.1, bt334.2.1, bt334.2.2))) else (if bt304.1 = 5 then ((spec_l1Int.f s0_0 bt304.2.1 bt304.2.2 (([0, 1, 10000] : List Int))).bind fun bt340 => (some (bt294.1, bt294.2.1, bt294.2.2.1, bt294.2.2.2.1, bt294.2.2.2.2.1, bt340.1, bt294.2.2.2.2.2.2.1, bt340.2.1, bt340.2.2))) else (if bt304.1 = 6 then ((spec_l1Int.f s0_0 bt304.2.1 bt304.2.2 (([0, 1, (-1), 65535, 65536] : List Int))).bind fun bt346 => (some (bt294.1, bt294.2.1, bt294.2.2.1, bt294.2.2.2.1, bt294.2.2.2.2.1, bt294.2.2.2.2.2.1, bt346.1, bt346.2.1, bt346.2.2))) else (some (bt294.1, bt294.2.1, bt294.2.2.1, bt294.2.2.2.1, bt294.2.2.2.2.1, bt294.2.2.2.2.2.1, bt294.2.2.2.2.2.2.1, bt304.2.1, bt304.2.2))))))))))
set_option maxHeartbeats 8000000 in
set_option maxRecDepth 100000 in
theorem spec_l9AnyLine.calls (g : Nat) (s0_0 : List Int) (s0_1 : Int) (s0_2 : Int) (r1 : Int) (r2 : ByteArray) (r3 : Int) (r4 : Int) (r5 : Int) (r6 : Int) (r7 : Int) (r8 : Int) (r9 : Int) (w0 w : World) (hI : IsS128 w0 w g s0_0 s0_1 s0_2) (hB : Below w0.heap.size w0 w) (h : spec_l9AnyLine.f s0_0 s0_1 s0_2 = some (r1, r2, r3, r4, r5, r6, r7, r8, r9)) :
  Calls Try.prog 64 #[.pointer (some ⟨g, 0, none⟩)] w fun e w' => e = .returned (.agg #[.int .i64 r1, .string r2, .int .i64 r3, .int .i64 r4, .int .i64 r5, .int .i64 r6, .int .i64 r7]) ∧ IsS128 w0 w' g s0_0 r8 r9 ∧ Below w0.heap.size w0 w' ∧ KeepBut w w' g none := by
 have hu27 := Try.underlying27
 have HI0 := Aside0.mk hI
 have IGHI0 := iG_ HI0.out.ge
 have HK := Aside0.mk (KeepBut.refl w g none)
 have HL := Aside0.mk hB.size
 clear hI
 have HW0 := Aside0.mk hB.size
 have HB := Aside0.mk hB
 clear hB
 have H := h
 unfold spec_l9AnyLine.f at H
 clear h
 replace H := bf_ H
 obtain ⟨f_, hf_, ⟨t294, t295, t296, t297, t298, t299, t300, t301, t302⟩, A2, H⟩ := H
 subst hf_
 (try dsimp only at H)
 replace H := bf_ H
 obtain ⟨f_, hf_, ⟨t304, t305, t306⟩, A3, H⟩ := H
 subst hf_
 (try dsimp only at H)
 by_cases c4 : t304 = 0
 ·
  rw [if_pos c4] at H
  have c4b0 : (t304 == 0) = true := beq_iff_eq.mpr c4
  have c4b1 : (t304 != 0) = false := bne_eq_false_iff_eq.mpr c4
  clear c4
  obtain ⟨y307, hy307⟩ : ∃ y_ : List Int, y_ = (([0, 9999, 10000] : List Int)) := ⟨_, rfl⟩
  rw [← hy307] at H
  have Ny307 := Aside0.mk hy307
  clear hy307
  replace H := bf_ H
  obtain ⟨f_, hf_, ⟨t310, t311, t312⟩, A5, H⟩ := H
  subst hf_
  (try dsimp only at H)
  simp only [Option.some.injEq, Prod.mk.injEq] at H
  obtain ⟨rfl, rfl, rfl, rfl, rfl, rfl, rfl, rfl, rfl⟩ := H
  go_enter Try.func64, Try.ntmps64
  go_wp2_with (first | ((with_reducible refine gate_dst (N := 2) rfl ?_); refine box_event ?hg (N := 2) ?hd (cs := #[.int .i64 0, .string (⟨#[]⟩ : ByteArray), .int .i64 0, .int .i64 0, .int .i64 0, .int .i64 0, .int .i64 0]) (t := 27) ?hr ?_; (case hd => rfl); (case hg => rfl); (case hr => first | (go_simp; done) | (go_simp; rfl)); intro gb293 hg w6 hbox hb; replace HB := bS_ HB hb; have BK293 := am_ (hbox); have GW293 := am_ ((gK_ hg (qP HK))); have IGW293 := gI_ GW293; have GE293 := am_ ((Nat.le_trans HW0.out (gK_ hg (qP HK)))); have IGE293 := gI_ GE293; replace HK := kL_ HK hb; have NB0_293 := am_ ((nG_ hg (IsS128.lt (IsS128.q HI0)))); have INB0_293 := nI_ NB0_293; have NB293_0 := am_ (((nG_ hg (IsS128.lt (IsS128.q HI0))).symm)); replace HI0 := am_ (IsS128.below (IsS128.q HI0) hb); clear hb hbox hg) | ((with_reducible refine gate_callee (f := 114) rfl ?_); refine goesL_ (some 5) rfl rfl Try.func114 (by kernel_rfl) rfl #[.pointer (some ⟨g, 0, none⟩)] rfl la_ ?_; (with_reducible refine (spec_l9Line.calls g s0_0 s0_1 s0_2 t294 t295 t296 t297 t298 t299 t300 t301 t302 w0 _ ?side1 ?side2 A2.out).mono ?_); (case side1 => exact IsS128.q HI0); (case side2 => exact qB HB); rintro e w7 ⟨rfl, hi, hb, hk⟩; refine ⟨_, rfl, ?_⟩; replace BK293 := kB_ BK293 hk NB293_0; replace HK := kT_ HK hk; replace HB := am_ (hb); replace HI0 := am_ (hi); (try clear hb); (try clear hk); (try clear hi)) | ((with_reducible refine gate_dst (N := 3) rfl ?_); refine box_event ?hg (N := 3) ?hd (cs := #[.int .i64 0, .string (⟨#[]⟩ : ByteArray), .int .i64 0, .int .i64 0, .int .i64 0, .int .i64 0, .int .i64 0]) (t := 27) ?hr ?_; (case hd => rfl); (case hg => rfl); (case hr => first | (go_simp; done) | (go_simp; rfl)); intro gb303 hg w8 hbox hb; replace HB := bS_ HB hb; have BK303 := am_ (hbox); have GW303 := am_ ((gK_ hg (qP HK))); have IGW303 := gI_ GW303; have GE303 := am_ ((Nat.le_trans HW0.out (gK_ hg (qP HK)))); have IGE303 := gI_ GE303; replace HK := kL_ HK hb; have NB293_303 := am_ ((gN_ hg (qK BK293))); have NB303_293 := am_ ((gM_ hg (qK BK293))); replace BK293 := bK_ BK293 hb; have NB0_303 := am_ ((nG_ hg (IsS128.lt (IsS128.q HI0)))); have INB0_303 := nI_ NB0_303; have NB303_0 := am_ (((nG_ hg (IsS128.lt (IsS128.q HI0))).symm)); replace HI0 := am_ (IsS128.below (IsS128.q HI0) hb); clear hb hbox hg; have hnb9 := NB303_293.out; have hnc9 := NB293_303.out; have hnb10 := NB303_0.out; have hnc10 := NB0_303.out; (try clear zK303); have zK303 := cz7 BK303.out; (try clear fK303); have fK303 := fz7 BK303.out) | ((with_reducible refine gate_callee (f := 61) rfl ?_); refine goesL_ (some 7) rfl rfl Try.func61 (by kernel_rfl) rfl #[.pointer (some ⟨g, 0, none⟩), .int .i64 18] rfl la_ ?_; (with_reducible refine (spec_l1Below.calls g s0_0 t301 t302 18 t304 t305 t306 w0 _ ?side1 ?side2 A3.out).mono ?_); (case side1 => exact IsS128.q HI0); (case side2 => exact qB HB); rintro e w12 ⟨rfl, hi, hb, hk⟩; refine ⟨_, rfl, ?_⟩; replace BK293 := am_ (KeepBut.blk hk (g' := gb293) (o := .cells #[.int .i64 0, .string (⟨#[]⟩ : ByteArray), .int .i64 0, .int .i64 0, .int .i64 0, .int .i64 0, .int .i64 0] 27 (0, 0)) (by (with_reducible repeat (first | refine blk_drewN ?_ _ | refine blk_drew ?_ | refine blk_alloc ?_ _)); refine blk_far7 ?_ NB293_303.out; exact qK BK293) NB293_0.out (by simp)); replace BK303 := am_ (KeepBut.blk hk (g' := gb303) (o := .cells #[.int .i64 t294, .string t295, .int .i64 t296, .int .i64 t297, .int .i64 t298, .int .i64 t299, .int .i64 t300] 27 (0, 0)) (by exact blk_all7 (qK BK303)) NB303_0.out (by simp)); replace HK := kT_ HK hk; replace HB := am_ (hb); replace HI0 := am_ (hi); (try clear hb); (try clear hk); (try clear hi)) | ((with_reducible refine gate_dst (N := 11) rfl ?_); refine Kd.R_lit (Kd.int .i64) _ 3 ?hg (N := 11) ?hd (xs := ([0, 9999, 10000] : List Int)) (inner := [.int .i64 0, .int .i64 9999, .int .i64 10000]) (ok := fun _ => True) (okp := fun _ => True) ?hr ?hp (fun _ hk => hk) trivial (Below.refl _ _) (Nat.le_refl _) (by simp) ?_; (case hd => rfl); (case hg => rfl); (case hr => first | (go_simp; done) | (go_simp; rfl)); (case hp => exact (Reps.one (show Kd.M (Kd.int .i64) _ _ _ 0 [.int .i64 0] from rfl) (Reps.one (show Kd.M (Kd.int .i64) _ _ _ 9999 [.int .i64 9999] from rfl) (Reps.one (show Kd.M (Kd.int .i64) _ _ _ 10000 [.int .i64 10000] from rfl) (Reps.none _ _))))); intro v308 w13 ho14 hb hg_ hnew_; clear hg_ hnew_; (first | rw [← Ny307.out] at ho14 | (simp only [Int.reduceToNat] at ho14; rw [← Ny307.out] at ho14)); have HO309 := am_ (Kd.R_lower ho14 (keep_size (w := w) (g := g) (row := none) (qP HK))); replace BK293 := bK_ BK293 hb; replace BK303 := bK_ BK303 hb; replace HK := kL_ HK hb; replace HB := bS_ HB hb; replace HI0 := am_ (IsS128.below (IsS128.q HI0) hb); clear hb ho14; obtain ⟨Ao15, co15, eo15⟩ := Kd.R_slice HO309.out; subst eo15) | ((with_reducible refine gate_callee (f := 62) rfl ?_); refine goesL_ (some 12) rfl rfl Try.func62 (by kernel_rfl) rfl #[.pointer (some ⟨g, 0, none⟩), .slice Ao15 y307.length co15] rfl la_ ?_; (with_reducible refine (spec_l1Int.calls g s0_0 t305 t306 _ _ y307 t310 t311 t312 w0 _ ?side1 ?side2 ?side3 ?side4 ?side5 A5.out).mono ?_); (case side1 => exact IsS128.q HI0); (case side2 => exact qB HB); (case side3 => exact qC ((Kd.R_reads' HO309.out).2.2)); (case side4 => exact (Kd.R_reads' HO309.out).2.1); (case side5 => exact far_slice (IsS128.own_ne HI0.out HO309.out (by decide))); rintro e w16 ⟨rfl, hi, hb, hk⟩; refine ⟨_, rfl, ?_⟩; replace BK293 := kB_ BK293 hk NB293_0; replace BK303 := kB_ BK303 hk NB303_0; replace HO309 := am_ (Kd.R_mono (Kd.R_keep (IsS128.apart (show IsS128 w0 _ g s0_0 t305 t306 from IsS128.q HI0) (qR HO309) (by decide)) hk (fun _ h => h.2)) (fun _ h => h.1)); replace HK := kT_ HK hk; replace HB := am_ (hb); replace HI0 := am_ (hi); (try clear hb); (try clear hk); (try clear hi); (try clear zK303); have zK303 := cz7 BK303.out; (try clear fK303); have fK303 := fz7 BK303.out; have hnb18 := NB293_0.out; have hnc18 := NB0_293.out; (try clear zK293); have zK293 := cz7 BK293.out; (try clear fK293); have fK293 := fz7 BK293.out))
  refine bodyPost_ret (results_cell_row rfl _ _ gb293 27 #[.int .i64 t310, .string t295, .int .i64 t296, .int .i64 t297, .int .i64 t298, .int .i64 t299, .int .i64 t300] (0, 0) _ rfl (by exact blk_all7 (blk_far1 (qK BK293) NB293_303.out)) Try.underlying27 rfl (by kernel_rfl)) rfl ?_
  exact ⟨er_, IsS128.q HI0, qB HB, qP HK⟩
 rw [if_neg c4] at H
 have c4b0 : (t304 == 0) = false := beq_eq_false_iff_ne.mpr c4
 have c4b1 : (t304 != 0) = true := bne_iff_ne.mpr c4
 by_cases c20 : t304 = 1
 ·
  rw [if_pos c20] at H
  have c20b0 : (t304 == 1) = true := beq_iff_eq.mpr c20
  have c20b1 : (t304 != 1) = false := bne_eq_false_iff_eq.mpr c20
  clear c20
  obtain ⟨y313, hy313⟩ : ∃ y_ : List ByteArray, y_ = (([(⟨#[]⟩ : ByteArray), (⟨#[77, 97, 105, 110]⟩ : ByteArray), (⟨#[120]⟩ : ByteArray)] : List ByteArray)) := ⟨_, rfl⟩
  rw [← hy313] at H
  have Ny313 := Aside0.mk hy313
  clear hy313
  replace H := bf_ H
  obtain ⟨f_, hf_, ⟨t316, t317, t318⟩, A21, H⟩ := H
  subst hf_
  (try dsimp only at H)
  simp only [Option.some.injEq, Prod.mk.injEq] at H
  obtain ⟨rfl, rfl, rfl, rfl, rfl, rfl, rfl, rfl, rfl⟩ := H
  go_enter Try.func64, Try.ntmps64
  go_wp2_with (first | ((with_reducible refine gate_dst (N := 2) rfl ?_); refine box_event ?hg (N := 2) ?hd (cs := #[.int .i64 0, .string (⟨#[]⟩ : ByteArray), .int .i64 0, .int .i64 0, .int .i64 0, .int .i64 0, .int .i64 0]) (t := 27) ?hr ?_; (case hd => rfl); (case hg => rfl); (case hr => first | (go_simp; done) | (go_simp; rfl)); intro gb293 hg w22 hbox hb; replace HB := bS_ HB hb; have BK293 := am_ (hbox); have GW293 := am_ ((gK_ hg (qP HK))); have IGW293 := gI_ GW293; have GE293 := am_ ((Nat.le_trans HW0.out (gK_ hg (qP HK)))); have IGE293 := gI_ GE293; replace HK := kL_ HK hb; have NB0_293 := am_ ((nG_ hg (IsS128.lt (IsS128.q HI0)))); have INB0_293 := nI_ NB0_293; have NB293_0 := am_ (((nG_ hg (IsS128.lt (IsS128.q HI0))).symm)); replace HI0 := am_ (IsS128.below (IsS128.q HI0) hb); clear hb hbox hg) | ((with_reducible refine gate_callee (f := 114) rfl ?_); refine goesL_ (some 5) rfl rfl Try.func114 (by kernel_rfl) rfl #[.pointer (some ⟨g, 0, none⟩)] rfl la_ ?_; (with_reducible refine (spec_l9Line.calls g s0_0 s0_1 s0_2 t294 t295 t296 t297 t298 t299 t300 t301 t302 w0 _ ?side1 ?side2 A2.out).mono ?_); (case side1 => exact IsS128.q HI0); (case side2 => exact qB HB); rintro e w23 ⟨rfl, hi, hb, hk⟩; refine ⟨_, rfl, ?_⟩; replace BK293 := kB_ BK293 hk NB293_0; replace HK := kT_ HK hk; replace HB := am_ (hb); replace HI0 := am_ (hi); (try clear hb); (try clear hk); (try clear hi)) | ((with_reducible refine gate_dst (N := 3) rfl ?_); refine box_event ?hg (N := 3) ?hd (cs := #[.int .i64 0, .string (⟨#[]⟩ : ByteArray), .int .i64 0, .int .i64 0, .int .i64 0, .int .i64 0, .int .i64 0]) (t := 27) ?hr ?_; (case hd => rfl); (case hg => rfl); (case hr => first | (go_simp; done) | (go_simp; rfl)); intro gb303 hg w24 hbox hb; replace HB := bS_ HB hb; have BK303 := am_ (hbox); have GW303 := am_ ((gK_ hg (qP HK))); have IGW303 := gI_ GW303; have GE303 := am_ ((Nat.le_trans HW0.out (gK_ hg (qP HK)))); have IGE303 := gI_ GE303; replace HK := kL_ HK hb; have NB293_303 := am_ ((gN_ hg (qK BK293))); have NB303_293 := am_ ((gM_ hg (qK BK293))); replace BK293 := bK_ BK293 hb; have NB0_303 := am_ ((nG_ hg (IsS128.lt (IsS128.q HI0)))); have INB0_303 := nI_ NB0_303; have NB303_0 := am_ (((nG_ hg (IsS128.lt (IsS128.q HI0))).symm)); replace HI0 := am_ (IsS128.below (IsS128.q HI0) hb); clear hb hbox hg; have hnb25 := NB303_293.out; have hnc25 := NB293_303.out; have hnb26 := NB303_0.out; have hnc26 := NB0_303.out; (try clear zK303); have zK303 := cz7 BK303.out; (try clear fK303); have fK303 := fz7 BK303.out) | ((with_reducible refine gate_callee (f := 61) rfl ?_); refine goesL_ (some 7) rfl rfl Try.func61 (by kernel_rfl) rfl #[.pointer (some ⟨g, 0, none⟩), .int .i64 18] rfl la_ ?_; (with_reducible refine (spec_l1Below.calls g s0_0 t301 t302 18 t304 t305 t306 w0 _ ?side1 ?side2 A3.out).mono ?_); (case side1 => exact IsS128.q HI0); (case side2 => exact qB HB); rintro e w28 ⟨rfl, hi, hb, hk⟩; refine ⟨_, rfl, ?_⟩; replace BK293 := am_ (KeepBut.blk hk (g' := gb293) (o := .cells #[.int .i64 0, .string (⟨#[]⟩ : ByteArray), .int .i64 0, .int .i64 0, .int .i64 0, .int .i64 0, .int .i64 0] 27 (0, 0)) (by (with_reducible repeat (first | refine blk_drewN ?_ _ | refine blk_drew ?_ | refine blk_alloc ?_ _)); refine blk_far7 ?_ NB293_303.out; exact qK BK293) NB293_0.out (by simp)); replace BK303 := am_ (KeepBut.blk hk (g' := gb303) (o := .cells #[.int .i64 t294, .string t295, .int .i64 t296, .int .i64 t297, .int .i64 t298, .int .i64 t299, .int .i64 t300] 27 (0, 0)) (by exact blk_all7 (qK BK303)) NB303_0.out (by simp)); replace HK := kT_ HK hk; replace HB := am_ (hb); replace HI0 := am_ (hi); (try clear hb); (try clear hk); (try clear hi)) | ((with_reducible refine gate_dst (N := 17) rfl ?_); refine Kd.R_lit Kd.string _ 9 ?hg (N := 17) ?hd (xs := ([(⟨#[]⟩ : ByteArray), (⟨#[77, 97, 105, 110]⟩ : ByteArray), (⟨#[120]⟩ : ByteArray)] : List ByteArray)) (inner := [.string (⟨#[]⟩ : ByteArray), .string (⟨#[77, 97, 105, 110]⟩ : ByteArray), .string (⟨#[120]⟩ : ByteArray)]) (ok := fun _ => True) (okp := fun _ => True) ?hr ?hp (fun _ hk => hk) trivial (Below.refl _ _) (Nat.le_refl _) (by simp) ?_; (case hd => rfl); (case hg => rfl); (case hr => first | (go_simp; done) | (go_simp; rfl)); (case hp => exact (Reps.one (show Kd.M Kd.string _ _ _ (⟨#[]⟩ : ByteArray) [.string (⟨#[]⟩ : ByteArray)] from rfl) (Reps.one (show Kd.M Kd.string _ _ _ (⟨#[77, 97, 105, 110]⟩ : ByteArray) [.string (⟨#[77, 97, 105, 110]⟩ : ByteArray)] from rfl) (Reps.one (show Kd.M Kd.string _ _ _ (⟨#[120]⟩ : ByteArray) [.string (⟨#[120]⟩ : ByteArray)] from rfl) (Reps.none _ _))))); intro v314 w29 ho30 hb hg_ hnew_; clear hg_ hnew_; (first | rw [← Ny313.out] at ho30 | (simp only [Int.reduceToNat] at ho30; rw [← Ny313.out] at ho30)); have HO315 := am_ (Kd.R_lower ho30 (keep_size (w := w) (g := g) (row := none) (qP HK))); replace BK293 := bK_ BK293 hb; replace BK303 := bK_ BK303 hb; replace HK := kL_ HK hb; replace HB := bS_ HB hb; replace HI0 := am_ (IsS128.below (IsS128.q HI0) hb); clear hb ho30; obtain ⟨Ao31, co31, eo31⟩ := Kd.R_slice HO315.out; subst eo31) | ((with_reducible refine gate_callee (f := 116) rfl ?_); refine goesL_ (some 18) rfl rfl Try.func116 (by kernel_rfl) rfl #[.pointer (some ⟨g, 0, none⟩), .slice Ao31 y313.length co31] rfl la_ ?_; (with_reducible refine (spec_l1Str.calls g s0_0 t305 t306 _ _ y313 t316 t317 t318 w0 _ ?side1 ?side2 ?side3 ?side4 ?side5 A21.out).mono ?_); (case side1 => exact IsS128.q HI0); (case side2 => exact qB HB); (case side3 => exact qC ((Kd.R_reads' HO315.out).2.2)); (case side4 => exact (Kd.R_reads' HO315.out).2.1); (case side5 => exact far_slice (IsS128.own_ne HI0.out HO315.out (by decide))); rintro e w32 ⟨rfl, hi, hb, hk⟩; refine ⟨_, rfl, ?_⟩; replace BK293 := kB_ BK293 hk NB293_0; replace BK303 := kB_ BK303 hk NB303_0; replace HO315 := am_ (Kd.R_mono (Kd.R_keep (IsS128.apart (show IsS128 w0 _ g s0_0 t305 t306 from IsS128.q HI0) (qR HO315) (by decide)) hk (fun _ h => h.2)) (fun _ h => h.1)); replace HK := kT_ HK hk; replace HB := am_ (hb); replace HI0 := am_ (hi); (try clear hb); (try clear hk); (try clear hi); (try clear zK303); have zK303 := cz7 BK303.out; (try clear fK303); have fK303 := fz7 BK303.out; have hnb34 := NB293_0.out; have hnc34 := NB0_293.out; (try clear zK293); have zK293 := cz7 BK293.out; (try clear fK293); have fK293 := fz7 BK293.out))
  refine bodyPost_ret (results_cell_row rfl _ _ gb293 27 #[.int .i64 t294, .string t316, .int .i64 t296, .int .i64 t297, .int .i64 t298, .int .i64 t299, .int .i64 t300] (0, 0) _ rfl (by exact blk_all7 (blk_far1 (qK BK293) NB293_303.out)) Try.underlying27 rfl (by kernel_rfl)) rfl ?_
  exact ⟨er_, IsS128.q HI0, qB HB, qP HK⟩
 rw [if_neg c20] at H
 have c20b0 : (t304 == 1) = false := beq_eq_false_iff_ne.mpr c20
 have c20b1 : (t304 != 1) = true := bne_iff_ne.mpr c20
 by_cases c36 : t304 = 2
 ·
  rw [if_pos c36] at H
  have c36b0 : (t304 == 2) = true := beq_iff_eq.mpr c36
  have c36b1 : (t304 != 2) = false := bne_eq_false_iff_eq.mpr c36
  clear c36
  obtain ⟨y319, hy319⟩ : ∃ y_ : List Int, y_ = (([(-1), 0, 1, 3] : List Int)) := ⟨_, rfl⟩
  rw [← hy319] at H
  have Ny319 := Aside0.mk hy319
  clear hy319
  replace H := bf_ H
  obtain ⟨f_, hf_, ⟨t322, t323, t324⟩, A37, H⟩ := H
  subst hf_
  (try dsimp only at H)
  simp only [Option.some.injEq, Prod.mk.injEq] at H
  obtain ⟨rfl, rfl, rfl, rfl, rfl, rfl, rfl, rfl, rfl⟩ := H
  go_enter Try.func64, Try.ntmps64
  go_wp2_with (first | ((with_reducible refine gate_dst (N := 2) rfl ?_); refine box_event ?hg (N := 2) ?hd (cs := #[.int .i64 0, .string (⟨#[]⟩ : ByteArray), .int .i64 0, .int .i64 0, .int .i64 0, .int .i64 0, .int .i64 0]) (t := 27) ?hr ?_; (case hd => rfl); (case hg => rfl); (case hr => first | (go_simp; done) | (go_simp; rfl)); intro gb293 hg w38 hbox hb; replace HB := bS_ HB hb; have BK293 := am_ (hbox); have GW293 := am_ ((gK_ hg (qP HK))); have IGW293 := gI_ GW293; have GE293 := am_ ((Nat.le_trans HW0.out (gK_ hg (qP HK)))); have IGE293 := gI_ GE293; replace HK := kL_ HK hb; have NB0_293 := am_ ((nG_ hg (IsS128.lt (IsS128.q HI0)))); have INB0_293 := nI_ NB0_293; have NB293_0 := am_ (((nG_ hg (IsS128.lt (IsS128.q HI0))).symm)); replace HI0 := am_ (IsS128.below (IsS128.q HI0) hb); clear hb hbox hg) | ((with_reducible refine gate_callee (f := 114) rfl ?_); refine goesL_ (some 5) rfl rfl Try.func114 (by kernel_rfl) rfl #[.pointer (some ⟨g, 0, none⟩)] rfl la_ ?_; (with_reducible refine (spec_l9Line.calls g s0_0 s0_1 s0_2 t294 t295 t296 t297 t298 t299 t300 t301 t302 w0 _ ?side1 ?side2 A2.out).mono ?_); (case side1 => exact IsS128.q HI0); (case side2 => exact qB HB); rintro e w39 ⟨rfl, hi, hb, hk⟩; refine ⟨_, rfl, ?_⟩; replace BK293 := kB_ BK293 hk NB293_0; replace HK := kT_ HK hk; replace HB := am_ (hb); replace HI0 := am_ (hi); (try clear hb); (try clear hk); (try clear hi)) | ((with_reducible refine gate_dst (N := 3) rfl ?_); refine box_event ?hg (N := 3) ?hd (cs := #[.int .i64 0, .string (⟨#[]⟩ : ByteArray), .int .i64 0, .int .i64 0, .int .i64 0, .int .i64 0, .int .i64 0]) (t := 27) ?hr ?_; (case hd => rfl); (case hg => rfl); (case hr => first | (go_simp; done) | (go_simp; rfl)); intro gb303 hg w40 hbox hb; replace HB := bS_ HB hb; have BK303 := am_ (hbox); have GW303 := am_ ((gK_ hg (qP HK))); have IGW303 := gI_ GW303; have GE303 := am_ ((Nat.le_trans HW0.out (gK_ hg (qP HK)))); have IGE303 := gI_ GE303; replace HK := kL_ HK hb; have NB293_303 := am_ ((gN_ hg (qK BK293))); have NB303_293 := am_ ((gM_ hg (qK BK293))); replace BK293 := bK_ BK293 hb; have NB0_303 := am_ ((nG_ hg (IsS128.lt (IsS128.q HI0)))); have INB0_303 := nI_ NB0_303; have NB303_0 := am_ (((nG_ hg (IsS128.lt (IsS128.q HI0))).symm)); replace HI0 := am_ (IsS128.below (IsS128.q HI0) hb); clear hb hbox hg; have hnb41 := NB303_293.out; have hnc41 := NB293_303.out; have hnb42 := NB303_0.out; have hnc42 := NB0_303.out; (try clear zK303); have zK303 := cz7 BK303.out; (try clear fK303); have fK303 := fz7 BK303.out) | ((with_reducible refine gate_callee (f := 61) rfl ?_); refine goesL_ (some 7) rfl rfl Try.func61 (by kernel_rfl) rfl #[.pointer (some ⟨g, 0, none⟩), .int .i64 18] rfl la_ ?_; (with_reducible refine (spec_l1Below.calls g s0_0 t301 t302 18 t304 t305 t306 w0 _ ?side1 ?side2 A3.out).mono ?_); (case side1 => exact IsS128.q HI0); (case side2 => exact qB HB); rintro e w44 ⟨rfl, hi, hb, hk⟩; refine ⟨_, rfl, ?_⟩; replace BK293 := am_ (KeepBut.blk hk (g' := gb293) (o := .cells #[.int .i64 0, .string (⟨#[]⟩ : ByteArray), .int .i64 0, .int .i64 0, .int .i64 0, .int .i64 0, .int .i64 0] 27 (0, 0)) (by (with_reducible repeat (first | refine blk_drewN ?_ _ | refine blk_drew ?_ | refine blk_alloc ?_ _)); refine blk_far7 ?_ NB293_303.out; exact qK BK293) NB293_0.out (by simp)); replace BK303 := am_ (KeepBut.blk hk (g' := gb303) (o := .cells #[.int .i64 t294, .string t295, .int .i64 t296, .int .i64 t297, .int .i64 t298, .int .i64 t299, .int .i64 t300] 27 (0, 0)) (by exact blk_all7 (qK BK303)) NB303_0.out (by simp)); replace HK := kT_ HK hk; replace HB := am_ (hb); replace HI0 := am_ (hi); (try clear hb); (try clear hk); (try clear hi)) | ((with_reducible refine gate_dst (N := 23) rfl ?_); refine Kd.R_lit (Kd.int .i64) _ 3 ?hg (N := 23) ?hd (xs := ([(-1), 0, 1, 3] : List Int)) (inner := [.int .i64 (-1), .int .i64 0, .int .i64 1, .int .i64 3]) (ok := fun _ => True) (okp := fun _ => True) ?hr ?hp (fun _ hk => hk) trivial (Below.refl _ _) (Nat.le_refl _) (by simp) ?_; (case hd => rfl); (case hg => rfl); (case hr => first | (go_simp; done) | (go_simp; rfl)); (case hp => exact (Reps.one (show Kd.M (Kd.int .i64) _ _ _ (-1) [.int .i64 (-1)] from rfl) (Reps.one (show Kd.M (Kd.int .i64) _ _ _ 0 [.int .i64 0] from rfl) (Reps.one (show Kd.M (Kd.int .i64) _ _ _ 1 [.int .i64 1] from rfl) (Reps.one (show Kd.M (Kd.int .i64) _ _ _ 3 [.int .i64 3] from rfl) (Reps.none _ _)))))); intro v320 w45 ho46 hb hg_ hnew_; clear hg_ hnew_; (first | rw [← Ny319.out] at ho46 | (simp only [Int.reduceToNat] at ho46; rw [← Ny319.out] at ho46)); have HO321 := am_ (Kd.R_lower ho46 (keep_size (w := w) (g := g) (row := none) (qP HK))); replace BK293 := bK_ BK293 hb; replace BK303 := bK_ BK303 hb; replace HK := kL_ HK hb; replace HB := bS_ HB hb; replace HI0 := am_ (IsS128.below (IsS128.q HI0) hb); clear hb ho46; obtain ⟨Ao47, co47, eo47⟩ := Kd.R_slice HO321.out; subst eo47) | ((with_reducible refine gate_callee (f := 62) rfl ?_); refine goesL_ (some 24) rfl rfl Try.func62 (by kernel_rfl) rfl #[.pointer (some ⟨g, 0, none⟩), .slice Ao47 y319.length co47] rfl la_ ?_; (with_reducible refine (spec_l1Int.calls g s0_0 t305 t306 _ _ y319 t322 t323 t324 w0 _ ?side1 ?side2 ?side3 ?side4 ?side5 A37.out).mono ?_); (case side1 => exact IsS128.q HI0); (case side2 => exact qB HB); (case side3 => exact qC ((Kd.R_reads' HO321.out).2.2)); (case side4 => exact (Kd.R_reads' HO321.out).2.1); (case side5 => exact far_slice (IsS128.own_ne HI0.out HO321.out (by decide))); rintro e w48 ⟨rfl, hi, hb, hk⟩; refine ⟨_, rfl, ?_⟩; replace BK293 := kB_ BK293 hk NB293_0; replace BK303 := kB_ BK303 hk NB303_0; replace HO321 := am_ (Kd.R_mono (Kd.R_keep (IsS128.apart (show IsS128 w0 _ g s0_0 t305 t306 from IsS128.q HI0) (qR HO321) (by decide)) hk (fun _ h => h.2)) (fun _ h => h.1)); replace HK := kT_ HK hk; replace HB := am_ (hb); replace HI0 := am_ (hi); (try clear hb); (try clear hk); (try clear hi); (try clear zK303); have zK303 := cz7 BK303.out; (try clear fK303); have fK303 := fz7 BK303.out; have hnb50 := NB293_0.out; have hnc50 := NB0_293.out; (try clear zK293); have zK293 := cz7 BK293.out; (try clear fK293); have fK293 := fz7 BK293.out))
  refine bodyPost_ret (results_cell_row rfl _ _ gb293 27 #[.int .i64 t294, .string t295, .int .i64 t296, .int .i64 t322, .int .i64 t298, .int .i64 t299, .int .i64 t300] (0, 0) _ rfl (by exact blk_all7 (blk_far1 (qK BK293) NB293_303.out)) Try.underlying27 rfl (by kernel_rfl)) rfl ?_
  exact ⟨er_, IsS128.q HI0, qB HB, qP HK⟩
 rw [if_neg c36] at H
 have c36b0 : (t304 == 2) = false := beq_eq_false_iff_ne.mpr c36
 have c36b1 : (t304 != 2) = true := bne_iff_ne.mpr c36
 by_cases c52 : t304 = 3
 ·
  rw [if_pos c52] at H
  have c52b0 : (t304 == 3) = true := beq_iff_eq.mpr c52
  have c52b1 : (t304 != 3) = false := bne_eq_false_iff_eq.mpr c52
  clear c52
  obtain ⟨y325, hy325⟩ : ∃ y_ : List Int, y_ = (([0, 60000, 60001] : List Int)) := ⟨_, rfl⟩
  rw [← hy325] at H
  have Ny325 := Aside0.mk hy325
  clear hy325
  replace H := bf_ H
  obtain ⟨f_, hf_, ⟨t328, t329, t330⟩, A53, H⟩ := H
  subst hf_
  (try dsimp only at H)
  simp only [Option.some.injEq, Prod.mk.injEq] at H
  obtain ⟨rfl, rfl, rfl, rfl, rfl, rfl, rfl, rfl, rfl⟩ := H
  go_enter Try.func64, Try.ntmps64
  go_wp2_with (first | ((with_reducible refine gate_dst (N := 2) rfl ?_); refine box_event ?hg (N := 2) ?hd (cs := #[.int .i64 0, .string (⟨#[]⟩ : ByteArray), .int .i64 0, .int .i64 0, .int .i64 0, .int .i64 0, .int .i64 0]) (t := 27) ?hr ?_; (case hd => rfl); (case hg => rfl); (case hr => first | (go_simp; done) | (go_simp; rfl)); intro gb293 hg w54 hbox hb; replace HB := bS_ HB hb; have BK293 := am_ (hbox); have GW293 := am_ ((gK_ hg (qP HK))); have IGW293 := gI_ GW293; have GE293 := am_ ((Nat.le_trans HW0.out (gK_ hg (qP HK)))); have IGE293 := gI_ GE293; replace HK := kL_ HK hb; have NB0_293 := am_ ((nG_ hg (IsS128.lt (IsS128.q HI0)))); have INB0_293 := nI_ NB0_293; have NB293_0 := am_ (((nG_ hg (IsS128.lt (IsS128.q HI0))).symm)); replace HI0 := am_ (IsS128.below (IsS128.q HI0) hb); clear hb hbox hg) | ((with_reducible refine gate_callee (f := 114) rfl ?_); refine goesL_ (some 5) rfl rfl Try.func114 (by kernel_rfl) rfl #[.pointer (some ⟨g, 0, none⟩)] rfl la_ ?_; (with_reducible refine (spec_l9Line.calls g s0_0 s0_1 s0_2 t294 t295 t296 t297 t298 t299 t300 t301 t302 w0 _ ?side1 ?side2 A2.out).mono ?_); (case side1 => exact IsS128.q HI0); (case side2 => exact qB HB); rintro e w55 ⟨rfl, hi, hb, hk⟩; refine ⟨_, rfl, ?_⟩; replace BK293 := kB_ BK293 hk NB293_0; replace HK := kT_ HK hk; replace HB := am_ (hb); replace HI0 := am_ (hi); (try clear hb); (try clear hk); (try clear hi)) | ((with_reducible refine gate_dst (N := 3) rfl ?_); refine box_event ?hg (N := 3) ?hd (cs := #[.int .i64 0, .string (⟨#[]⟩ : ByteArray), .int .i64 0, .int .i64 0, .int .i64 0, .int .i64 0, .int .i64 0]) (t := 27) ?hr ?_; (case hd => rfl); (case hg => rfl); (case hr => first | (go_simp; done) | (go_simp; rfl)); intro gb303 hg w56 hbox hb; replace HB := bS_ HB hb; have BK303 := am_ (hbox); have GW303 := am_ ((gK_ hg (qP HK))); have IGW303 := gI_ GW303; have GE303 := am_ ((Nat.le_trans HW0.out (gK_ hg (qP HK)))); have IGE303 := gI_ GE303; replace HK := kL_ HK hb; have NB293_303 := am_ ((gN_ hg (qK BK293))); have NB303_293 := am_ ((gM_ hg (qK BK293))); replace BK293 := bK_ BK293 hb; have NB0_303 := am_ ((nG_ hg (IsS128.lt (IsS128.q HI0)))); have INB0_303 := nI_ NB0_303; have NB303_0 := am_ (((nG_ hg (IsS128.lt (IsS128.q HI0))).symm)); replace HI0 := am_ (IsS128.below (IsS128.q HI0) hb); clear hb hbox hg; have hnb57 := NB303_293.out; have hnc57 := NB293_303.out; have hnb58 := NB303_0.out; have hnc58 := NB0_303.out; (try clear zK303); have zK303 := cz7 BK303.out; (try clear fK303); have fK303 := fz7 BK303.out) | ((with_reducible refine gate_callee (f := 61) rfl ?_); refine goesL_ (some 7) rfl rfl Try.func61 (by kernel_rfl) rfl #[.pointer (some ⟨g, 0, none⟩), .int .i64 18] rfl la_ ?_; (with_reducible refine (spec_l1Below.calls g s0_0 t301 t302 18 t304 t305 t306 w0 _ ?side1 ?side2 A3.out).mono ?_); (case side1 => exact IsS128.q HI0); (case side2 => exact qB HB); rintro e w60 ⟨rfl, hi, hb, hk⟩; refine ⟨_, rfl, ?_⟩; replace BK293 := am_ (KeepBut.blk hk (g' := gb293) (o := .cells #[.int .i64 0, .string (⟨#[]⟩ : ByteArray), .int .i64 0, .int .i64 0, .int .i64 0, .int .i64 0, .int .i64 0] 27 (0, 0)) (by (with_reducible repeat (first | refine blk_drewN ?_ _ | refine blk_drew ?_ | refine blk_alloc ?_ _)); refine blk_far7 ?_ NB293_303.out; exact qK BK293) NB293_0.out (by simp)); replace BK303 := am_ (KeepBut.blk hk (g' := gb303) (o := .cells #[.int .i64 t294, .string t295, .int .i64 t296, .int .i64 t297, .int .i64 t298, .int .i64 t299, .int .i64 t300] 27 (0, 0)) (by exact blk_all7 (qK BK303)) NB303_0.out (by simp)); replace HK := kT_ HK hk; replace HB := am_ (hb); replace HI0 := am_ (hi); (try clear hb); (try clear hk); (try clear hi)) | ((with_reducible refine gate_dst (N := 29) rfl ?_); refine Kd.R_lit (Kd.int .i64) _ 3 ?hg (N := 29) ?hd (xs := ([0, 60000, 60001] : List Int)) (inner := [.int .i64 0, .int .i64 60000, .int .i64 60001]) (ok := fun _ => True) (okp := fun _ => True) ?hr ?hp (fun _ hk => hk) trivial (Below.refl _ _) (Nat.le_refl _) (by simp) ?_; (case hd => rfl); (case hg => rfl); (case hr => first | (go_simp; done) | (go_simp; rfl)); (case hp => exact (Reps.one (show Kd.M (Kd.int .i64) _ _ _ 0 [.int .i64 0] from rfl) (Reps.one (show Kd.M (Kd.int .i64) _ _ _ 60000 [.int .i64 60000] from rfl) (Reps.one (show Kd.M (Kd.int .i64) _ _ _ 60001 [.int .i64 60001] from rfl) (Reps.none _ _))))); intro v326 w61 ho62 hb hg_ hnew_; clear hg_ hnew_; (first | rw [← Ny325.out] at ho62 | (simp only [Int.reduceToNat] at ho62; rw [← Ny325.out] at ho62)); have HO327 := am_ (Kd.R_lower ho62 (keep_size (w := w) (g := g) (row := none) (qP HK))); replace BK293 := bK_ BK293 hb; replace BK303 := bK_ BK303 hb; replace HK := kL_ HK hb; replace HB := bS_ HB hb; replace HI0 := am_ (IsS128.below (IsS128.q HI0) hb); clear hb ho62; obtain ⟨Ao63, co63, eo63⟩ := Kd.R_slice HO327.out; subst eo63) | ((with_reducible refine gate_callee (f := 62) rfl ?_); refine goesL_ (some 30) rfl rfl Try.func62 (by kernel_rfl) rfl #[.pointer (some ⟨g, 0, none⟩), .slice Ao63 y325.length co63] rfl la_ ?_; (with_reducible refine (spec_l1Int.calls g s0_0 t305 t306 _ _ y325 t328 t329 t330 w0 _ ?side1 ?side2 ?side3 ?side4 ?side5 A53.out).mono ?_); (case side1 => exact IsS128.q HI0); (case side2 => exact qB HB); (case side3 => exact qC ((Kd.R_reads' HO327.out).2.2)); (case side4 => exact (Kd.R_reads' HO327.out).2.1); (case side5 => exact far_slice (IsS128.own_ne HI0.out HO327.out (by decide))); rintro e w64 ⟨rfl, hi, hb, hk⟩; refine ⟨_, rfl, ?_⟩; replace BK293 := kB_ BK293 hk NB293_0; replace BK303 := kB_ BK303 hk NB303_0; replace HO327 := am_ (Kd.R_mono (Kd.R_keep (IsS128.apart (show IsS128 w0 _ g s0_0 t305 t306 from IsS128.q HI0) (qR HO327) (by decide)) hk (fun _ h => h.2)) (fun _ h => h.1)); replace HK := kT_ HK hk; replace HB := am_ (hb); replace HI0 := am_ (hi); (try clear hb); (try clear hk); (try clear hi); (try clear zK303); have zK303 := cz7 BK303.out; (try clear fK303); have fK303 := fz7 BK303.out; have hnb66 := NB293_0.out; have hnc66 := NB0_293.out; (try clear zK293); have zK293 := cz7 BK293.out; (try clear fK293); have fK293 := fz7 BK293.out))
  refine bodyPost_ret (results_cell_row rfl _ _ gb293 27 #[.int .i64 t294, .string t295, .int .i64 t328, .int .i64 t297, .int .i64 t298, .int .i64 t299, .int .i64 t300] (0, 0) _ rfl (by exact blk_all7 (blk_far1 (qK BK293) NB293_303.out)) Try.underlying27 rfl (by kernel_rfl)) rfl ?_
  exact ⟨er_, IsS128.q HI0, qB HB, qP HK⟩
 rw [if_neg c52] at H
 have c52b0 : (t304 == 3) = false := beq_eq_false_iff_ne.mpr c52
 have c52b1 : (t304 != 3) = true := bne_iff_ne.mpr c52
 by_cases c68 : t304 = 4
 ·
  rw [if_pos c68] at H
  have c68b0 : (t304 == 4) = true := beq_iff_eq.mpr c68
  have c68b1 : (t304 != 4) = false := bne_eq_false_iff_eq.mpr c68
  clear c68
  obtain ⟨y331, hy331⟩ : ∃ y_ : List Int, y_ = (([(-1), 1, 100001] : List Int)) := ⟨_, rfl⟩
  rw [← hy331] at H
  have Ny331 := Aside0.mk hy331
  clear hy331
  replace H := bf_ H
  obtain ⟨f_, hf_, ⟨t334, t335, t336⟩, A69, H⟩ := H
  subst hf_
  (try dsimp only at H)
  simp only [Option.some.injEq, Prod.mk.injEq] at H
  obtain ⟨rfl, rfl, rfl, rfl, rfl, rfl, rfl, rfl, rfl⟩ := H
  go_enter Try.func64, Try.ntmps64
  go_wp2_with (first | ((with_reducible refine gate_dst (N := 2) rfl ?_); refine box_event ?hg (N := 2) ?hd (cs := #[.int .i64 0, .string (⟨#[]⟩ : ByteArray), .int .i64 0, .int .i64 0, .int .i64 0, .int .i64 0, .int .i64 0]) (t := 27) ?hr ?_; (case hd => rfl); (case hg => rfl); (case hr => first | (go_simp; done) | (go_simp; rfl)); intro gb293 hg w70 hbox hb; replace HB := bS_ HB hb; have BK293 := am_ (hbox); have GW293 := am_ ((gK_ hg (qP HK))); have IGW293 := gI_ GW293; have GE293 := am_ ((Nat.le_trans HW0.out (gK_ hg (qP HK)))); have IGE293 := gI_ GE293; replace HK := kL_ HK hb; have NB0_293 := am_ ((nG_ hg (IsS128.lt (IsS128.q HI0)))); have INB0_293 := nI_ NB0_293; have NB293_0 := am_ (((nG_ hg (IsS128.lt (IsS128.q HI0))).symm)); replace HI0 := am_ (IsS128.below (IsS128.q HI0) hb); clear hb hbox hg) | ((with_reducible refine gate_callee (f := 114) rfl ?_); refine goesL_ (some 5) rfl rfl Try.func114 (by kernel_rfl) rfl #[.pointer (some ⟨g, 0, none⟩)] rfl la_ ?_; (with_reducible refine (spec_l9Line.calls g s0_0 s0_1 s0_2 t294 t295 t296 t297 t298 t299 t300 t301 t302 w0 _ ?side1 ?side2 A2.out).mono ?_); (case side1 => exact IsS128.q HI0); (case side2 => exact qB HB); rintro e w71 ⟨rfl, hi, hb, hk⟩; refine ⟨_, rfl, ?_⟩; replace BK293 := kB_ BK293 hk NB293_0; replace HK := kT_ HK hk; replace HB := am_ (hb); replace HI0 := am_ (hi); (try clear hb); (try clear hk); (try clear hi)) | ((with_reducible refine gate_dst (N := 3) rfl ?_); refine box_event ?hg (N := 3) ?hd (cs := #[.int .i64 0, .string (⟨#[]⟩ : ByteArray), .int .i64 0, .int .i64 0, .int .i64 0, .int .i64 0, .int .i64 0]) (t := 27) ?hr ?_; (case hd => rfl); (case hg => rfl); (case hr => first | (go_simp; done) | (go_simp; rfl)); intro gb303 hg w72 hbox hb; replace HB := bS_ HB hb; have BK303 := am_ (hbox); have GW303 := am_ ((gK_ hg (qP HK))); have IGW303 := gI_ GW303; have GE303 := am_ ((Nat.le_trans HW0.out (gK_ hg (qP HK)))); have IGE303 := gI_ GE303; replace HK := kL_ HK hb; have NB293_303 := am_ ((gN_ hg (qK BK293))); have NB303_293 := am_ ((gM_ hg (qK BK293))); replace BK293 := bK_ BK293 hb; have NB0_303 := am_ ((nG_ hg (IsS128.lt (IsS128.q HI0)))); have INB0_303 := nI_ NB0_303; have NB303_0 := am_ (((nG_ hg (IsS128.lt (IsS128.q HI0))).symm)); replace HI0 := am_ (IsS128.below (IsS128.q HI0) hb); clear hb hbox hg; have hnb73 := NB303_293.out; have hnc73 := NB293_303.out; have hnb74 := NB303_0.out; have hnc74 := NB0_303.out; (try clear zK303); have zK303 := cz7 BK303.out; (try clear fK303); have fK303 := fz7 BK303.out) | ((with_reducible refine gate_callee (f := 61) rfl ?_); refine goesL_ (some 7) rfl rfl Try.func61 (by kernel_rfl) rfl #[.pointer (some ⟨g, 0, none⟩), .int .i64 18] rfl la_ ?_; (with_reducible refine (spec_l1Below.calls g s0_0 t301 t302 18 t304 t305 t306 w0 _ ?side1 ?side2 A3.out).mono ?_); (case side1 => exact IsS128.q HI0); (case side2 => exact qB HB); rintro e w76 ⟨rfl, hi, hb, hk⟩; refine ⟨_, rfl, ?_⟩; replace BK293 := am_ (KeepBut.blk hk (g' := gb293) (o := .cells #[.int .i64 0, .string (⟨#[]⟩ : ByteArray), .int .i64 0, .int .i64 0, .int .i64 0, .int .i64 0, .int .i64 0] 27 (0, 0)) (by (with_reducible repeat (first | refine blk_drewN ?_ _ | refine blk_drew ?_ | refine blk_alloc ?_ _)); refine blk_far7 ?_ NB293_303.out; exact qK BK293) NB293_0.out (by simp)); replace BK303 := am_ (KeepBut.blk hk (g' := gb303) (o := .cells #[.int .i64 t294, .string t295, .int .i64 t296, .int .i64 t297, .int .i64 t298, .int .i64 t299, .int .i64 t300] 27 (0, 0)) (by exact blk_all7 (qK BK303)) NB303_0.out (by simp)); replace HK := kT_ HK hk; replace HB := am_ (hb); replace HI0 := am_ (hi); (try clear hb); (try clear hk); (try clear hi)) | ((with_reducible refine gate_dst (N := 35) rfl ?_); refine Kd.R_lit (Kd.int .i64) _ 3 ?hg (N := 35) ?hd (xs := ([(-1), 1, 100001] : List Int)) (inner := [.int .i64 (-1), .int .i64 1, .int .i64 100001]) (ok := fun _ => True) (okp := fun _ => True) ?hr ?hp (fun _ hk => hk) trivial (Below.refl _ _) (Nat.le_refl _) (by simp) ?_; (case hd => rfl); (case hg => rfl); (case hr => first | (go_simp; done) | (go_simp; rfl)); (case hp => exact (Reps.one (show Kd.M (Kd.int .i64) _ _ _ (-1) [.int .i64 (-1)] from rfl) (Reps.one (show Kd.M (Kd.int .i64) _ _ _ 1 [.int .i64 1] from rfl) (Reps.one (show Kd.M (Kd.int .i64) _ _ _ 100001 [.int .i64 100001] from rfl) (Reps.none _ _))))); intro v332 w77 ho78 hb hg_ hnew_; clear hg_ hnew_; (first | rw [← Ny331.out] at ho78 | (simp only [Int.reduceToNat] at ho78; rw [← Ny331.out] at ho78)); have HO333 := am_ (Kd.R_lower ho78 (keep_size (w := w) (g := g) (row := none) (qP HK))); replace BK293 := bK_ BK293 hb; replace BK303 := bK_ BK303 hb; replace HK := kL_ HK hb; replace HB := bS_ HB hb; replace HI0 := am_ (IsS128.below (IsS128.q HI0) hb); clear hb ho78; obtain ⟨Ao79, co79, eo79⟩ := Kd.R_slice HO333.out; subst eo79) | ((with_reducible refine gate_callee (f := 62) rfl ?_); refine goesL_ (some 36) rfl rfl Try.func62 (by kernel_rfl) rfl #[.pointer (some ⟨g, 0, none⟩), .slice Ao79 y331.length co79] rfl la_ ?_; (with_reducible refine (spec_l1Int.calls g s0_0 t305 t306 _ _ y331 t334 t335 t336 w0 _ ?side1 ?side2 ?side3 ?side4 ?side5 A69.out).mono ?_); (case side1 => exact IsS128.q HI0); (case side2 => exact qB HB); (case side3 => exact qC ((Kd.R_reads' HO333.out).2.2)); (case side4 => exact (Kd.R_reads' HO333.out).2.1); (case side5 => exact far_slice (IsS128.own_ne HI0.out HO333.out (by decide))); rintro e w80 ⟨rfl, hi, hb, hk⟩; refine ⟨_, rfl, ?_⟩; replace BK293 := kB_ BK293 hk NB293_0; replace BK303 := kB_ BK303 hk NB303_0; replace HO333 := am_ (Kd.R_mono (Kd.R_keep (IsS128.apart (show IsS128 w0 _ g s0_0 t305 t306 from IsS128.q HI0) (qR HO333) (by decide)) hk (fun _ h => h.2)) (fun _ h => h.1)); replace HK := kT_ HK hk; replace HB := am_ (hb); replace HI0 := am_ (hi); (try clear hb); (try clear hk); (try clear hi); (try clear zK303); have zK303 := cz7 BK303.out; (try clear fK303); have fK303 := fz7 BK303.out; have hnb82 := NB293_0.out; have hnc82 := NB0_293.out; (try clear zK293); have zK293 := cz7 BK293.out; (try clear fK293); have fK293 := fz7 BK293.out))
  refine bodyPost_ret (results_cell_row rfl _ _ gb293 27 #[.int .i64 t294, .string t295, .int .i64 t296, .int .i64 t297, .int .i64 t334, .int .i64 t299, .int .i64 t300] (0, 0) _ rfl (by exact blk_all7 (blk_far1 (qK BK293) NB293_303.out)) Try.underlying27 rfl (by kernel_rfl)) rfl ?_
  exact ⟨er_, IsS128.q HI0, qB HB, qP HK⟩
 rw [if_neg c68] at H
 have c68b0 : (t304 == 4) = false := beq_eq_false_iff_ne.mpr c68
 have c68b1 : (t304 != 4) = true := bne_iff_ne.mpr c68
 by_cases c84 : t304 = 5
 ·
  rw [if_pos c84] at H
  have c84b0 : (t304 == 5) = true := beq_iff_eq.mpr c84
  have c84b1 : (t304 != 5) = false := bne_eq_false_iff_eq.mpr c84
  clear c84
  obtain ⟨y337, hy337⟩ : ∃ y_ : List Int, y_ = (([0, 1, 10000] : List Int)) := ⟨_, rfl⟩
  rw [← hy337] at H
  have Ny337 := Aside0.mk hy337
  clear hy337
  replace H := bf_ H
  obtain ⟨f_, hf_, ⟨t340, t341, t342⟩, A85, H⟩ := H
  subst hf_
  (try dsimp only at H)
  simp only [Option.some.injEq, Prod.mk.injEq] at H
  obtain ⟨rfl, rfl, rfl, rfl, rfl, rfl, rfl, rfl, rfl⟩ := H
  go_enter Try.func64, Try.ntmps64
  go_wp2_with (first | ((with_reducible refine gate_dst (N := 2) rfl ?_); refine box_event ?hg (N := 2) ?hd (cs := #[.int .i64 0, .string (⟨#[]⟩ : ByteArray), .int .i64 0, .int .i64 0, .int .i64 0, .int .i64 0, .int .i64 0]) (t := 27) ?hr ?_; (case hd => rfl); (case hg => rfl); (case hr => first | (go_simp; done) | (go_simp; rfl)); intro gb293 hg w86 hbox hb; replace HB := bS_ HB hb; have BK293 := am_ (hbox); have GW293 := am_ ((gK_ hg (qP HK))); have IGW293 := gI_ GW293; have GE293 := am_ ((Nat.le_trans HW0.out (gK_ hg (qP HK)))); have IGE293 := gI_ GE293; replace HK := kL_ HK hb; have NB0_293 := am_ ((nG_ hg (IsS128.lt (IsS128.q HI0)))); have INB0_293 := nI_ NB0_293; have NB293_0 := am_ (((nG_ hg (IsS128.lt (IsS128.q HI0))).symm)); replace HI0 := am_ (IsS128.below (IsS128.q HI0) hb); clear hb hbox hg) | ((with_reducible refine gate_callee (f := 114) rfl ?_); refine goesL_ (some 5) rfl rfl Try.func114 (by kernel_rfl) rfl #[.pointer (some ⟨g, 0, none⟩)] rfl la_ ?_; (with_reducible refine (spec_l9Line.calls g s0_0 s0_1 s0_2 t294 t295 t296 t297 t298 t299 t300 t301 t302 w0 _ ?side1 ?side2 A2.out).mono ?_); (case side1 => exact IsS128.q HI0); (case side2 => exact qB HB); rintro e w87 ⟨rfl, hi, hb, hk⟩; refine ⟨_, rfl, ?_⟩; replace BK293 := kB_ BK293 hk NB293_0; replace HK := kT_ HK hk; replace HB := am_ (hb); replace HI0 := am_ (hi); (try clear hb); (try clear hk); (try clear hi)) | ((with_reducible refine gate_dst (N := 3) rfl ?_); refine box_event ?hg (N := 3) ?hd (cs := #[.int .i64 0, .string (⟨#[]⟩ : ByteArray), .int .i64 0, .int .i64 0, .int .i64 0, .int .i64 0, .int .i64 0]) (t := 27) ?hr ?_; (case hd => rfl); (case hg => rfl); (case hr => first | (go_simp; done) | (go_simp; rfl)); intro gb303 hg w88 hbox hb; replace HB := bS_ HB hb; have BK303 := am_ (hbox); have GW303 := am_ ((gK_ hg (qP HK))); have IGW303 := gI_ GW303; have GE303 := am_ ((Nat.le_trans HW0.out (gK_ hg (qP HK)))); have IGE303 := gI_ GE303; replace HK := kL_ HK hb; have NB293_303 := am_ ((gN_ hg (qK BK293))); have NB303_293 := am_ ((gM_ hg (qK BK293))); replace BK293 := bK_ BK293 hb; have NB0_303 := am_ ((nG_ hg (IsS128.lt (IsS128.q HI0)))); have INB0_303 := nI_ NB0_303; have NB303_0 := am_ (((nG_ hg (IsS128.lt (IsS128.q HI0))).symm)); replace HI0 := am_ (IsS128.below (IsS128.q HI0) hb); clear hb hbox hg; have hnb89 := NB303_293.out; have hnc89 := NB293_303.out; have hnb90 := NB303_0.out; have hnc90 := NB0_303.out; (try clear zK303); have zK303 := cz7 BK303.out; (try clear fK303); have fK303 := fz7 BK303.out) | ((with_reducible refine gate_callee (f := 61) rfl ?_); refine goesL_ (some 7) rfl rfl Try.func61 (by kernel_rfl) rfl #[.pointer (some ⟨g, 0, none⟩), .int .i64 18] rfl la_ ?_; (with_reducible refine (spec_l1Below.calls g s0_0 t301 t302 18 t304 t305 t306 w0 _ ?side1 ?side2 A3.out).mono ?_); (case side1 => exact IsS128.q HI0); (case side2 => exact qB HB); rintro e w92 ⟨rfl, hi, hb, hk⟩; refine ⟨_, rfl, ?_⟩; replace BK293 := am_ (KeepBut.blk hk (g' := gb293) (o := .cells #[.int .i64 0, .string (⟨#[]⟩ : ByteArray), .int .i64 0, .int .i64 0, .int .i64 0, .int .i64 0, .int .i64 0] 27 (0, 0)) (by (with_reducible repeat (first | refine blk_drewN ?_ _ | refine blk_drew ?_ | refine blk_alloc ?_ _)); refine blk_far7 ?_ NB293_303.out; exact qK BK293) NB293_0.out (by simp)); replace BK303 := am_ (KeepBut.blk hk (g' := gb303) (o := .cells #[.int .i64 t294, .string t295, .int .i64 t296, .int .i64 t297, .int .i64 t298, .int .i64 t299, .int .i64 t300] 27 (0, 0)) (by exact blk_all7 (qK BK303)) NB303_0.out (by simp)); replace HK := kT_ HK hk; replace HB := am_ (hb); replace HI0 := am_ (hi); (try clear hb); (try clear hk); (try clear hi)) | ((with_reducible refine gate_dst (N := 41) rfl ?_); refine Kd.R_lit (Kd.int .i64) _ 3 ?hg (N := 41) ?hd (xs := ([0, 1, 10000] : List Int)) (inner := [.int .i64 0, .int .i64 1, .int .i64 10000]) (ok := fun _ => True) (okp := fun _ => True) ?hr ?hp (fun _ hk => hk) trivial (Below.refl _ _) (Nat.le_refl _) (by simp) ?_; (case hd => rfl); (case hg => rfl); (case hr => first | (go_simp; done) | (go_simp; rfl)); (case hp => exact (Reps.one (show Kd.M (Kd.int .i64) _ _ _ 0 [.int .i64 0] from rfl) (Reps.one (show Kd.M (Kd.int .i64) _ _ _ 1 [.int .i64 1] from rfl) (Reps.one (show Kd.M (Kd.int .i64) _ _ _ 10000 [.int .i64 10000] from rfl) (Reps.none _ _))))); intro v338 w93 ho94 hb hg_ hnew_; clear hg_ hnew_; (first | rw [← Ny337.out] at ho94 | (simp only [Int.reduceToNat] at ho94; rw [← Ny337.out] at ho94)); have HO339 := am_ (Kd.R_lower ho94 (keep_size (w := w) (g := g) (row := none) (qP HK))); replace BK293 := bK_ BK293 hb; replace BK303 := bK_ BK303 hb; replace HK := kL_ HK hb; replace HB := bS_ HB hb; replace HI0 := am_ (IsS128.below (IsS128.q HI0) hb); clear hb ho94; obtain ⟨Ao95, co95, eo95⟩ := Kd.R_slice HO339.out; subst eo95) | ((with_reducible refine gate_callee (f := 62) rfl ?_); refine goesL_ (some 42) rfl rfl Try.func62 (by kernel_rfl) rfl #[.pointer (some ⟨g, 0, none⟩), .slice Ao95 y337.length co95] rfl la_ ?_; (with_reducible refine (spec_l1Int.calls g s0_0 t305 t306 _ _ y337 t340 t341 t342 w0 _ ?side1 ?side2 ?side3 ?side4 ?side5 A85.out).mono ?_); (case side1 => exact IsS128.q HI0); (case side2 => exact qB HB); (case side3 => exact qC ((Kd.R_reads' HO339.out).2.2)); (case side4 => exact (Kd.R_reads' HO339.out).2.1); (case side5 => exact far_slice (IsS128.own_ne HI0.out HO339.out (by decide))); rintro e w96 ⟨rfl, hi, hb, hk⟩; refine ⟨_, rfl, ?_⟩; replace BK293 := kB_ BK293 hk NB293_0; replace BK303 := kB_ BK303 hk NB303_0; replace HO339 := am_ (Kd.R_mono (Kd.R_keep (IsS128.apart (show IsS128 w0 _ g s0_0 t305 t306 from IsS128.q HI0) (qR HO339) (by decide)) hk (fun _ h => h.2)) (fun _ h => h.1)); replace HK := kT_ HK hk; replace HB := am_ (hb); replace HI0 := am_ (hi); (try clear hb); (try clear hk); (try clear hi); (try clear zK303); have zK303 := cz7 BK303.out; (try clear fK303); have fK303 := fz7 BK303.out; have hnb98 := NB293_0.out; have hnc98 := NB0_293.out; (try clear zK293); have zK293 := cz7 BK293.out; (try clear fK293); have fK293 := fz7 BK293.out))
  refine bodyPost_ret (results_cell_row rfl _ _ gb293 27 #[.int .i64 t294, .string t295, .int .i64 t296, .int .i64 t297, .int .i64 t298, .int .i64 t340, .int .i64 t300] (0, 0) _ rfl (by exact blk_all7 (blk_far1 (qK BK293) NB293_303.out)) Try.underlying27 rfl (by kernel_rfl)) rfl ?_
  exact ⟨er_, IsS128.q HI0, qB HB, qP HK⟩
 rw [if_neg c84] at H
 have c84b0 : (t304 == 5) = false := beq_eq_false_iff_ne.mpr c84
 have c84b1 : (t304 != 5) = true := bne_iff_ne.mpr c84
 by_cases c100 : t304 = 6
 rotate_left
 ·
  rw [if_neg c100] at H
  have c100b0 : (t304 == 6) = false := beq_eq_false_iff_ne.mpr c100
  have c100b1 : (t304 != 6) = true := bne_iff_ne.mpr c100
  simp only [Option.some.injEq, Prod.mk.injEq] at H
  obtain ⟨rfl, rfl, rfl, rfl, rfl, rfl, rfl, rfl, rfl⟩ := H
  go_enter Try.func64, Try.ntmps64
  go_wp2_with (first | ((with_reducible refine gate_dst (N := 2) rfl ?_); refine box_event ?hg (N := 2) ?hd (cs := #[.int .i64 0, .string (⟨#[]⟩ : ByteArray), .int .i64 0, .int .i64 0, .int .i64 0, .int .i64 0, .int .i64 0]) (t := 27) ?hr ?_; (case hd => rfl); (case hg => rfl); (case hr => first | (go_simp; done) | (go_simp; rfl)); intro gb293 hg w116 hbox hb; replace HB := bS_ HB hb; have BK293 := am_ (hbox); have GW293 := am_ ((gK_ hg (qP HK))); have IGW293 := gI_ GW293; have GE293 := am_ ((Nat.le_trans HW0.out (gK_ hg (qP HK)))); have IGE293 := gI_ GE293; replace HK := kL_ HK hb; have NB0_293 := am_ ((nG_ hg (IsS128.lt (IsS128.q HI0)))); have INB0_293 := nI_ NB0_293; have NB293_0 := am_ (((nG_ hg (IsS128.lt (IsS128.q HI0))).symm)); replace HI0 := am_ (IsS128.below (IsS128.q HI0) hb); clear hb hbox hg) | ((with_reducible refine gate_callee (f := 114) rfl ?_); refine goesL_ (some 5) rfl rfl Try.func114 (by kernel_rfl) rfl #[.pointer (some ⟨g, 0, none⟩)] rfl la_ ?_; (with_reducible refine (spec_l9Line.calls g s0_0 s0_1 s0_2 t294 t295 t296 t297 t298 t299 t300 t301 t302 w0 _ ?side1 ?side2 A2.out).mono ?_); (case side1 => exact IsS128.q HI0); (case side2 => exact qB HB); rintro e w117 ⟨rfl, hi, hb, hk⟩; refine ⟨_, rfl, ?_⟩; replace BK293 := kB_ BK293 hk NB293_0; replace HK := kT_ HK hk; replace HB := am_ (hb); replace HI0 := am_ (hi); (try clear hb); (try clear hk); (try clear hi)) | ((with_reducible refine gate_dst (N := 3) rfl ?_); refine box_event ?hg (N := 3) ?hd (cs := #[.int .i64 0, .string (⟨#[]⟩ : ByteArray), .int .i64 0, .int .i64 0, .int .i64 0, .int .i64 0, .int .i64 0]) (t := 27) ?hr ?_; (case hd => rfl); (case hg => rfl); (case hr => first | (go_simp; done) | (go_simp; rfl)); intro gb303 hg w118 hbox hb; replace HB := bS_ HB hb; have BK303 := am_ (hbox); have GW303 := am_ ((gK_ hg (qP HK))); have IGW303 := gI_ GW303; have GE303 := am_ ((Nat.le_trans HW0.out (gK_ hg (qP HK)))); have IGE303 := gI_ GE303; replace HK := kL_ HK hb; have NB293_303 := am_ ((gN_ hg (qK BK293))); have NB303_293 := am_ ((gM_ hg (qK BK293))); replace BK293 := bK_ BK293 hb; have NB0_303 := am_ ((nG_ hg (IsS128.lt (IsS128.q HI0)))); have INB0_303 := nI_ NB0_303; have NB303_0 := am_ (((nG_ hg (IsS128.lt (IsS128.q HI0))).symm)); replace HI0 := am_ (IsS128.below (IsS128.q HI0) hb); clear hb hbox hg; have hnb119 := NB303_293.out; have hnc119 := NB293_303.out; have hnb120 := NB303_0.out; have hnc120 := NB0_303.out; (try clear zK303); have zK303 := cz7 BK303.out; (try clear fK303); have fK303 := fz7 BK303.out) | ((with_reducible refine gate_callee (f := 61) rfl ?_); refine goesL_ (some 7) rfl rfl Try.func61 (by kernel_rfl) rfl #[.pointer (some ⟨g, 0, none⟩), .int .i64 18] rfl la_ ?_; (with_reducible refine (spec_l1Below.calls g s0_0 t301 t302 18 t304 t305 t306 w0 _ ?side1 ?side2 A3.out).mono ?_); (case side1 => exact IsS128.q HI0); (case side2 => exact qB HB); rintro e w122 ⟨rfl, hi, hb, hk⟩; refine ⟨_, rfl, ?_⟩; replace BK293 := am_ (KeepBut.blk hk (g' := gb293) (o := .cells #[.int .i64 0, .string (⟨#[]⟩ : ByteArray), .int .i64 0, .int .i64 0, .int .i64 0, .int .i64 0, .int .i64 0] 27 (0, 0)) (by (with_reducible repeat (first | refine blk_drewN ?_ _ | refine blk_drew ?_ | refine blk_alloc ?_ _)); refine blk_far7 ?_ NB293_303.out; exact qK BK293) NB293_0.out (by simp)); replace BK303 := am_ (KeepBut.blk hk (g' := gb303) (o := .cells #[.int .i64 t294, .string t295, .int .i64 t296, .int .i64 t297, .int .i64 t298, .int .i64 t299, .int .i64 t300] 27 (0, 0)) (by exact blk_all7 (qK BK303)) NB303_0.out (by simp)); replace HK := kT_ HK hk; replace HB := am_ (hb); replace HI0 := am_ (hi); (try clear hb); (try clear hk); (try clear hi); (try clear zK303); have zK303 := cz7 BK303.out; (try clear fK303); have fK303 := fz7 BK303.out; have hnb124 := NB293_0.out; have hnc124 := NB0_293.out; (try clear zK293); have zK293 := cz7 BK293.out; (try clear fK293); have fK293 := fz7 BK293.out))
  refine bodyPost_ret (results_cell_row rfl _ _ gb293 27 #[.int .i64 t294, .string t295, .int .i64 t296, .int .i64 t297, .int .i64 t298, .int .i64 t299, .int .i64 t300] (0, 0) _ rfl (by exact blk_all7 (qK BK293)) Try.underlying27 rfl (by kernel_rfl)) rfl ?_
  exact ⟨er_, IsS128.q HI0, qB HB, qP HK⟩
 rw [if_pos c100] at H
 have c100b0 : (t304 == 6) = true := beq_iff_eq.mpr c100
 have c100b1 : (t304 != 6) = false := bne_eq_false_iff_eq.mpr c100
 clear c100
 obtain ⟨y343, hy343⟩ : ∃ y_ : List Int, y_ = (([0, 1, (-1), 65535, 65536] : List Int)) := ⟨_, rfl⟩
 rw [← hy343] at H
 have Ny343 := Aside0.mk hy343
 clear hy343
 replace H := bf_ H
 obtain ⟨f_, hf_, ⟨t346, t347, t348⟩, A101, H⟩ := H
 subst hf_
 (try dsimp only at H)
 simp only [Option.some.injEq, Prod.mk.injEq] at H
 obtain ⟨rfl, rfl, rfl, rfl, rfl, rfl, rfl, rfl, rfl⟩ := H
 go_enter Try.func64, Try.ntmps64
 go_wp2_with (first | ((with_reducible refine gate_dst (N := 2) rfl ?_); refine box_event ?hg (N := 2) ?hd (cs := #[.int .i64 0, .string (⟨#[]⟩ : ByteArray), .int .i64 0, .int .i64 0, .int .i64 0, .int .i64 0, .int .i64 0]) (t := 27) ?hr ?_; (case hd => rfl); (case hg => rfl); (case hr => first | (go_simp; done) | (go_simp; rfl)); intro gb293 hg w102 hbox hb; replace HB := bS_ HB hb; have BK293 := am_ (hbox); have GW293 := am_ ((gK_ hg (qP HK))); have IGW293 := gI_ GW293; have GE293 := am_ ((Nat.le_trans HW0.out (gK_ hg (qP HK)))); have IGE293 := gI_ GE293; replace HK := kL_ HK hb; have NB0_293 := am_ ((nG_ hg (IsS128.lt (IsS128.q HI0)))); have INB0_293 := nI_ NB0_293; have NB293_0 := am_ (((nG_ hg (IsS128.lt (IsS128.q HI0))).symm)); replace HI0 := am_ (IsS128.below (IsS128.q HI0) hb); clear hb hbox hg) | ((with_reducible refine gate_callee (f := 114) rfl ?_); refine goesL_ (some 5) rfl rfl Try.func114 (by kernel_rfl) rfl #[.pointer (some ⟨g, 0, none⟩)] rfl la_ ?_; (with_reducible refine (spec_l9Line.calls g s0_0 s0_1 s0_2 t294 t295 t296 t297 t298 t299 t300 t301 t302 w0 _ ?side1 ?side2 A2.out).mono ?_); (case side1 => exact IsS128.q HI0); (case side2 => exact qB HB); rintro e w103 ⟨rfl, hi, hb, hk⟩; refine ⟨_, rfl, ?_⟩; replace BK293 := kB_ BK293 hk NB293_0; replace HK := kT_ HK hk; replace HB := am_ (hb); replace HI0 := am_ (hi); (try clear hb); (try clear hk); (try clear hi)) | ((with_reducible refine gate_dst (N := 3) rfl ?_); refine box_event ?hg (N := 3) ?hd (cs := #[.int .i64 0, .string (⟨#[]⟩ : ByteArray), .int .i64 0, .int .i64 0, .int .i64 0, .int .i64 0, .int .i64 0]) (t := 27) ?hr ?_; (case hd => rfl); (case hg => rfl); (case hr => first | (go_simp; done) | (go_simp; rfl)); intro gb303 hg w104 hbox hb; replace HB := bS_ HB hb; have BK303 := am_ (hbox); have GW303 := am_ ((gK_ hg (qP HK))); have IGW303 := gI_ GW303; have GE303 := am_ ((Nat.le_trans HW0.out (gK_ hg (qP HK)))); have IGE303 := gI_ GE303; replace HK := kL_ HK hb; have NB293_303 := am_ ((gN_ hg (qK BK293))); have NB303_293 := am_ ((gM_ hg (qK BK293))); replace BK293 := bK_ BK293 hb; have NB0_303 := am_ ((nG_ hg (IsS128.lt (IsS128.q HI0)))); have INB0_303 := nI_ NB0_303; have NB303_0 := am_ (((nG_ hg (IsS128.lt (IsS128.q HI0))).symm)); replace HI0 := am_ (IsS128.below (IsS128.q HI0) hb); clear hb hbox hg; have hnb105 := NB303_293.out; have hnc105 := NB293_303.out; have hnb106 := NB303_0.out; have hnc106 := NB0_303.out; (try clear zK303); have zK303 := cz7 BK303.out; (try clear fK303); have fK303 := fz7 BK303.out) | ((with_reducible refine gate_callee (f := 61) rfl ?_); refine goesL_ (some 7) rfl rfl Try.func61 (by kernel_rfl) rfl #[.pointer (some ⟨g, 0, none⟩), .int .i64 18] rfl la_ ?_; (with_reducible refine (spec_l1Below.calls g s0_0 t301 t302 18 t304 t305 t306 w0 _ ?side1 ?side2 A3.out).mono ?_); (case side1 => exact IsS128.q HI0); (case side2 => exact qB HB); rintro e w108 ⟨rfl, hi, hb, hk⟩; refine ⟨_, rfl, ?_⟩; replace BK293 := am_ (KeepBut.blk hk (g' := gb293) (o := .cells #[.int .i64 0, .string (⟨#[]⟩ : ByteArray), .int .i64 0, .int .i64 0, .int .i64 0, .int .i64 0, .int .i64 0] 27 (0, 0)) (by (with_reducible repeat (first | refine blk_drewN ?_ _ | refine blk_drew ?_ | refine blk_alloc ?_ _)); refine blk_far7 ?_ NB293_303.out; exact qK BK293) NB293_0.out (by simp)); replace BK303 := am_ (KeepBut.blk hk (g' := gb303) (o := .cells #[.int .i64 t294, .string t295, .int .i64 t296, .int .i64 t297, .int .i64 t298, .int .i64 t299, .int .i64 t300] 27 (0, 0)) (by exact blk_all7 (qK BK303)) NB303_0.out (by simp)); replace HK := kT_ HK hk; replace HB := am_ (hb); replace HI0 := am_ (hi); (try clear hb); (try clear hk); (try clear hi)) | ((with_reducible refine gate_dst (N := 47) rfl ?_); refine Kd.R_lit (Kd.int .i64) _ 3 ?hg (N := 47) ?hd (xs := ([0, 1, (-1), 65535, 65536] : List Int)) (inner := [.int .i64 0, .int .i64 1, .int .i64 (-1), .int .i64 65535, .int .i64 65536]) (ok := fun _ => True) (okp := fun _ => True) ?hr ?hp (fun _ hk => hk) trivial (Below.refl _ _) (Nat.le_refl _) (by simp) ?_; (case hd => rfl); (case hg => rfl); (case hr => first | (go_simp; done) | (go_simp; rfl)); (case hp => exact (Reps.one (show Kd.M (Kd.int .i64) _ _ _ 0 [.int .i64 0] from rfl) (Reps.one (show Kd.M (Kd.int .i64) _ _ _ 1 [.int .i64 1] from rfl) (Reps.one (show Kd.M (Kd.int .i64) _ _ _ (-1) [.int .i64 (-1)] from rfl) (Reps.one (show Kd.M (Kd.int .i64) _ _ _ 65535 [.int .i64 65535] from rfl) (Reps.one (show Kd.M (Kd.int .i64) _ _ _ 65536 [.int .i64 65536] from rfl) (Reps.none _ _))))))); intro v344 w109 ho110 hb hg_ hnew_; clear hg_ hnew_; (first | rw [← Ny343.out] at ho110 | (simp only [Int.reduceToNat] at ho110; rw [← Ny343.out] at ho110)); have HO345 := am_ (Kd.R_lower ho110 (keep_size (w := w) (g := g) (row := none) (qP HK))); replace BK293 := bK_ BK293 hb; replace BK303 := bK_ BK303 hb; replace HK := kL_ HK hb; replace HB := bS_ HB hb; replace HI0 := am_ (IsS128.below (IsS128.q HI0) hb); clear hb ho110; obtain ⟨Ao111, co111, eo111⟩ := Kd.R_slice HO345.out; subst eo111) | ((with_reducible refine gate_callee (f := 62) rfl ?_); refine goesL_ (some 48) rfl rfl Try.func62 (by kernel_rfl) rfl #[.pointer (some ⟨g, 0, none⟩), .slice Ao111 y343.length co111] rfl la_ ?_; (with_reducible refine (spec_l1Int.calls g s0_0 t305 t306 _ _ y343 t346 t347 t348 w0 _ ?side1 ?side2 ?side3 ?side4 ?side5 A101.out).mono ?_); (case side1 => exact IsS128.q HI0); (case side2 => exact qB HB); (case side3 => exact qC ((Kd.R_reads' HO345.out).2.2)); (case side4 => exact (Kd.R_reads' HO345.out).2.1); (case side5 => exact far_slice (IsS128.own_ne HI0.out HO345.out (by decide))); rintro e w112 ⟨rfl, hi, hb, hk⟩; refine ⟨_, rfl, ?_⟩; replace BK293 := kB_ BK293 hk NB293_0; replace BK303 := kB_ BK303 hk NB303_0; replace HO345 := am_ (Kd.R_mono (Kd.R_keep (IsS128.apart (show IsS128 w0 _ g s0_0 t305 t306 from IsS128.q HI0) (qR HO345) (by decide)) hk (fun _ h => h.2)) (fun _ h => h.1)); replace HK := kT_ HK hk; replace HB := am_ (hb); replace HI0 := am_ (hi); (try clear hb); (try clear hk); (try clear hi); (try clear zK303); have zK303 := cz7 BK303.out; (try clear fK303); have fK303 := fz7 BK303.out; have hnb114 := NB293_0.out; have hnc114 := NB0_293.out; (try clear zK293); have zK293 := cz7 BK293.out; (try clear fK293); have fK293 := fz7 BK293.out))
 refine bodyPost_ret (results_cell_row rfl _ _ gb293 27 #[.int .i64 t294, .string t295, .int .i64 t296, .int .i64 t297, .int .i64 t298, .int .i64 t299, .int .i64 t346] (0, 0) _ rfl (by exact blk_all7 (blk_far1 (qK BK293) NB293_303.out)) Try.underlying27 rfl (by kernel_rfl)) rfl ?_
 exact ⟨er_, IsS128.q HI0, qB HB, qP HK⟩

/-! ### spec_DrawPutItem: function 8 -/
def spec_DrawPutItem.f (k : Nat) (l0 : List Int) : Option (Int × Int × ByteArray × Int × Int × Int × ByteArray × Int × Int × Int × ByteArray × Int × Int × Int × Int × Int) := (spec_l1New.f k l0).bind fun bt350 => ((spec_l9Item.f k bt350.1 bt350.2.1 bt350.2.2).bind fun bt354 => ((spec_l1Below.f bt350.1 bt354.2.2.2.2.2.2.2.2.2.2.2.2.2.2.2.2.1 bt354.2.2.2.2.2.2.2.2.2.2.2.2.2.2.2.2.2 8).bind fun bt373 => (if bt373.1 = 0 then ((spec_l1Int.f bt350.1 bt373.2.1 bt373.2.2 (([0, 1, 2, 3] : List Int))).bind fun bt379 => (some (bt379.1, bt354.2.1, bt354.2.2.1, bt354.2.2.2.1, bt354.2.2.2.2.1, bt354.2.2.2.2.2.1, bt354.2.2.2.2.2.2.1, bt354.2.2.2.2.2.2.2.1, bt354.2.2.2.2.2.2.2.2.1, bt354.2.2.2.2.2.2.2.2.2.1, bt354.2.2.2.2.2.2.2.2.2.2.1, bt354.2.2.2.2.2.2.2.2.2.2.2.1, bt354.2.2.2.2.2.2.2.2.2.2.2.2.1, bt354.2.2.2.2.2.2.2.2.2.2.2.2.2.1, bt354.2.2.2.2.2.2.2.2.2.2.2.2.2.2.1, bt354.2.2.2.2.2.2.2.2.2.2.2.2.2.2.2.1))) else (if bt373.1 = 1 then ((spec_l9AnyAsker.f k bt350.1 bt373.2.1 bt373.2.2).bind fun bt382 => (some (bt354.1, bt382.1, bt382.2.1, bt382.2.2.1, bt382.2.2.2.1, bt382.2.2.2.2.1, bt382.2.2.2.2.2.1, bt382.2.2.2.2.2.2.1, bt382.2.2.2.2.2.2.2.1, bt354.2.2.2.2.2.2.2.2.2.1, bt354.2.2.2.2.2.2.2.2.2.2.1, bt354.2.2.2.2.2.2.2.2.2.2.2.1, bt354.2.2.2.2.2.2.2.2.2.2.2.2.1, bt354.2.2.2.2.2.2.2.2.2.2.2.2.2.1, bt354.2.2.2.2.2.2.2.2.2.2.2.2.2.2.1, bt354.2.2.2.2.2.2.2.2.2.2.2.2.2.2.2.1))) else (if bt373.1 = 2 then ((spec_l9AnyLine.f bt350.1 bt373.2.1 bt373.2.2).bind fun bt392 => (some (bt354.1, bt354.2.1, bt354.2.2.1, bt354.2.2.2.1, bt354.2.2.2.2.1, bt354.2.2.2.2.2.1, bt354.2.2.2.2.2.2.1, bt354.2.2.2.2.2.2.2.1, bt354.2.2.2.2.2.2.2.2.1, bt392.1, bt392.2.1, bt392.2.2.1, bt392.2.2.2.1, bt392.2.2.2.2.1, bt392.2.2.2.2.2.1, bt392.2.2.2.2.2.2.1))) else (some (bt354.1, bt354.2.1, bt354.2.2.1, bt354.2.2.2.1, bt354.2.2.2.2.1, bt354.2.2.2.2.2.1, bt354.2.2.2.2.2.2.1, bt354.2.2.2.2.2.2.2.1, bt354.2.2.2.2.2.2.2.2.1, bt354.2.2.2.2.2.2.2.2.2.1, bt354.2.2.2.2.2.2.2.2.2.2.1, bt354.2.2.2.2.2.2.2.2.2.2.2.1, bt354.2.2.2.2.2.2.2.2.2.2.2.2.1, bt354.2.2.2.2.2.2.2.2.2.2.2.2.2.1, bt354.2.2.2.2.2.2.2.2.2.2.2.2.2.2.1, bt354.2.2.2.2.2.2.2.2.2.2.2.2.2.2.2.1)))))))
theorem spec_DrawPutItem.mono : ∀ a0 k, LeO (spec_DrawPutItem.f k a0) (spec_DrawPutItem.f (k + 1) a0) := by
 intro a0 k
 unfold spec_DrawPutItem.f
 repeat' first
   | (with_reducible exact spec_l1New.mono _ _)
   | (with_reducible exact spec_l9AnyAsker.mono _ _ _ _)
   | (with_reducible exact spec_l9Item.mono _ _ _ _)
   | (with_reducible exact LeO.refl _)
   | (with_reducible exact LeO.none _)
   | (with_reducible refine LeO.ite ?_ ?_)
   | (with_reducible refine LeO.bind ?_ (fun _ => ?_))
set_option maxHeartbeats 8000000 in
set_option maxRecDepth 100000 in
theorem spec_DrawPutItem.calls (k : Nat) (A0 : Option Addr) (c0 : Nat) (l0 : List Int) (r1 : Int) (r2 : Int) (r3 : ByteArray) (r4 : Int) (r5 : Int) (r6 : Int) (r7 : ByteArray) (r8 : Int) (r9 : Int) (r10 : Int) (r11 : ByteArray) (r12 : Int) (r13 : Int) (r14 : Int) (r15 : Int) (r16 : Int) (w : World) (hr0 : Kd.C (Kd.int .u8) w A0 l0.length l0) (hc0 : l0.length ≤ c0) (h : spec_DrawPutItem.f k l0 = some (r1, r2, r3, r4, r5, r6, r7, r8, r9, r10, r11, r12, r13, r14, r15, r16)) :
  Calls Try.prog 8 #[.slice A0 l0.length c0] w fun e w' => e = .returned (.agg #[.int .i64 r1, .int .i64 r2, .string r3, .int .i64 r4, .int .i64 r5, .int .i64 r6, .string r7, .int .i64 r8, .int .i64 r9, .int .i64 r10, .string r11, .int .i64 r12, .int .i64 r13, .int .i64 r14, .int .i64 r15, .int .i64 r16]) ∧ Below w.heap.size w w' := by
 have hu29 := Try.underlying29
 have hu25 := Try.underlying25
 have hu27 := Try.underlying27
 have HR0 := Aside0.mk hr0
 have HC0 := Aside0.mk hc0
 clear hr0 hc0
 have HB := Aside0.mk (Below.refl w.heap.size w)
 have H := h
 unfold spec_DrawPutItem.f at H
 clear h
 replace H := bf_ H
 obtain ⟨f_, hf_, ⟨t350, t351, t352⟩, A2, H⟩ := H
 subst hf_
 (try dsimp only at H)
 replace H := bf_ H
 obtain ⟨f_, hf_, ⟨t354, t355, t356, t357, t358, t359, t360, t361, t362, t363, t364, t365, t366, t367, t368, t369, t370, t371⟩, A3, H⟩ := H
 subst hf_
 (try dsimp only at H)
 replace H := bf_ H
 obtain ⟨f_, hf_, ⟨t373, t374, t375⟩, A4, H⟩ := H
 subst hf_
 (try dsimp only at H)
 have HC5 := Aside0.mk H
 clear H
 go_enter Try.func8, Try.ntmps8
 go_upto_if 11 with (first | ((with_reducible refine gate_dst (N := 2) rfl ?_); refine box_event ?hg (N := 2) ?hd (cs := #[.int .i64 0, .int .i64 0, .string (⟨#[]⟩ : ByteArray), .int .i64 0, .int .i64 0, .int .i64 0, .string (⟨#[]⟩ : ByteArray), .int .i64 0, .int .i64 0, .int .i64 0, .string (⟨#[]⟩ : ByteArray), .int .i64 0, .int .i64 0, .int .i64 0, .int .i64 0, .int .i64 0]) (t := 29) ?hr ?_; (case hd => rfl); (case hg => rfl); (case hr => first | (go_simp; done) | (go_simp; rfl)); intro gb349 hg w6 hbox hb; have BK349 := am_ (hbox); have GW349 := gA_ hg HB; have GE349 := GW349; have IGE349 := gI_ GE349; replace HB := bS_ HB hb; clear hb hbox hg) | ((with_reducible refine gate_callee (f := 59) rfl ?_); refine goesL_ (some 6) rfl rfl Try.func59 (by kernel_rfl) rfl #[.slice A0 l0.length c0] rfl la_ ?_; (with_reducible refine (spec_l1New.calls k _ _ l0 t350 t351 t352 w _ ?side1 ?side2 ?side3 A2.out).mono ?_); (case side1 => exact qB HB); (case side2 => exact HR0.out); (case side3 => exact HC0.out); rintro e w7 ⟨g353, rfl, hi, hb, hb2⟩; refine ⟨_, rfl, ?_⟩; replace HB := am_ (hb); have HI353 := am_ (hi); have IGHI353 := iG_ HI353.out.ge; have NB353_349 := am_ (IsS128.ne_blk hi (blk_below (qK BK349) hb2) (by decide)); have NB349_353 := am_ (Ne.symm (IsS128.ne_blk hi (blk_below (qK BK349) hb2) (by decide))); replace BK349 := am_ (blk_below (qK BK349) hb2); (try clear hb); (try clear hb2); (try clear hi)) | ((with_reducible refine gate_callee (f := 60) rfl ?_); refine goesL_ (some 8) rfl rfl Try.func60 (by kernel_rfl) rfl #[.pointer (some ⟨g353, 0, none⟩)] rfl la_ ?_; (with_reducible refine (spec_l9Item.calls k g353 t350 t351 t352 t354 t355 t356 t357 t358 t359 t360 t361 t362 t363 t364 t365 t366 t367 t368 t369 t370 t371 w _ ?side1 ?side2 A3.out).mono ?_); (case side1 => repeat (first | (with_reducible first | exact HI353.out | apply IsS128.alloc | apply IsS128.drewN | apply IsS128.drew | apply IsS128.set_1 | apply IsS128.set_2 | refine IsS128.far ?_ NB353_349.out _) | exact HI353.out)); (case side2 => exact qB HB); rintro e w8 ⟨rfl, hi, hb, hk⟩; refine ⟨_, rfl, ?_⟩; replace BK349 := kB_ BK349 hk NB349_353; replace HB := am_ (hb); replace HI353 := am_ (hi); (try clear hb); (try clear hk); (try clear hi)) | ((with_reducible refine gate_dst (N := 4) rfl ?_); refine box_event ?hg (N := 4) ?hd (cs := #[.int .i64 0, .int .i64 0, .string (⟨#[]⟩ : ByteArray), .int .i64 0, .int .i64 0, .int .i64 0, .string (⟨#[]⟩ : ByteArray), .int .i64 0, .int .i64 0, .int .i64 0, .string (⟨#[]⟩ : ByteArray), .int .i64 0, .int .i64 0, .int .i64 0, .int .i64 0, .int .i64 0]) (t := 29) ?hr ?_; (case hd => rfl); (case hg => rfl); (case hr => first | (go_simp; done) | (go_simp; rfl)); intro gb372 hg w9 hbox hb; have BK372 := am_ (hbox); have GW372 := am_ ((by rw [hg]; exact (below_size (qB HB)) : w.heap.size ≤ gb372)); have IGW372 := gI_ GW372; have GE372 := am_ ((by rw [hg]; exact (below_size (qB HB)) : w.heap.size ≤ gb372)); have IGE372 := gI_ GE372; replace HB := bS_ HB hb; have NB349_372 := am_ ((gN_ hg (qK BK349))); have NB372_349 := am_ ((gM_ hg (qK BK349))); replace BK349 := bK_ BK349 hb; have NB353_372 := am_ ((by rw [hg]; exact Nat.ne_of_lt (IsS128.lt (show IsS128 w _ g353 t350 t370 t371 from by repeat (first | (with_reducible first | exact HI353.out | apply IsS128.alloc | apply IsS128.drewN | apply IsS128.drew | apply IsS128.set_1 | apply IsS128.set_2 | refine IsS128.far ?_ NB353_349.out _) | exact HI353.out))) : g353 ≠ gb372)); have NB372_353 := am_ ((by rw [hg]; exact Nat.ne_of_gt (IsS128.lt (show IsS128 w _ g353 t350 t370 t371 from by repeat (first | (with_reducible first | exact HI353.out | apply IsS128.alloc | apply IsS128.drewN | apply IsS128.drew | apply IsS128.set_1 | apply IsS128.set_2 | refine IsS128.far ?_ NB353_349.out _) | exact HI353.out))) : gb372 ≠ g353)); replace HI353 := am_ (IsS128.below (by repeat (first | (with_reducible first | exact HI353.out | apply IsS128.alloc | apply IsS128.drewN | apply IsS128.drew | apply IsS128.set_1 | apply IsS128.set_2 | refine IsS128.far ?_ NB353_349.out _) | exact HI353.out)) hb); clear hb hbox hg; have hnb10 := NB372_349.out; have hnc10 := NB349_372.out; have hnb11 := NB372_353.out; have hnc11 := NB353_372.out; (try clear zK372); have zK372 := cz16 BK372.out; (try clear fK372); have fK372 := fz16 BK372.out) | ((with_reducible refine gate_store (t := 29) (p := 4) rfl ?_); refine store_evs (t := 29) (p := 4) (j := 0) (cs := [.int .i64 t354, .int .i64 t355, .string t356, .int .i64 t357, .int .i64 t358, .int .i64 t359, .string t360, .int .i64 t361, .int .i64 t362, .int .i64 t363, .string t364, .int .i64 t365, .int .i64 t366, .int .i64 t367, .int .i64 t368, .int .i64 t369]) (qK BK372) ?_; intro w13 hw; replace BK349 := sK_ hw BK349 NB349_372; replace HI353 := IsS128.s_ hw HI353 NB353_372; replace HB := sB_ hw HB; replace BK372 := sW_ hw BK372; clear hw) | ((with_reducible refine gate_callee (f := 61) rfl ?_); refine goesL_ (some 10) rfl rfl Try.func61 (by kernel_rfl) rfl #[.pointer (some ⟨g353, 0, none⟩), .int .i64 8] rfl la_ ?_; (with_reducible refine (spec_l1Below.calls g353 t350 t370 t371 8 t373 t374 t375 w _ ?side1 ?side2 A4.out).mono ?_); (case side1 => repeat (first | (with_reducible first | exact HI353.out | apply IsS128.alloc | apply IsS128.drewN | apply IsS128.drew | apply IsS128.set_1 | apply IsS128.set_2 | refine IsS128.far ?_ NB353_349.out _ | refine IsS128.far ?_ NB353_372.out _) | exact HI353.out)); (case side2 => exact qB HB); rintro e w14 ⟨rfl, hi, hb, hk⟩; refine ⟨_, rfl, ?_⟩; replace BK349 := kB_ BK349 hk NB349_353; replace BK372 := kB_ BK372 hk NB372_353; replace HB := am_ (hb); replace HI353 := am_ (hi); (try clear hb); (try clear hk); (try clear hi)))
 (try simp only [Act.put, List.setIfInBounds_toArray, List.set_cons_zero, List.set_cons_succ])
 have H := HC5.out
 clear HC5
 by_cases c15 : t373 = 0
 ·
  rw [if_pos c15] at H
  have c15b0 : (t373 == 0) = true := beq_iff_eq.mpr c15
  have c15b1 : (t373 != 0) = false := bne_eq_false_iff_eq.mpr c15
  clear c15
  (first | rw [c15b0] | rw [c15b1] | (simp only [i64_w, i32_w]; rw [c15b0]) | skip)
  obtain ⟨y376, hy376⟩ : ∃ y_ : List Int, y_ = (([0, 1, 2, 3] : List Int)) := ⟨_, rfl⟩
  rw [← hy376] at H
  have Ny376 := Aside0.mk hy376
  clear hy376
  replace H := bf_ H
  obtain ⟨f_, hf_, ⟨t379, t380, t381⟩, A16, H⟩ := H
  subst hf_
  (try dsimp only at H)
  simp only [Option.some.injEq, Prod.mk.injEq] at H
  obtain ⟨rfl, rfl, rfl, rfl, rfl, rfl, rfl, rfl, rfl, rfl, rfl, rfl, rfl, rfl, rfl, rfl⟩ := H
  go_wp2_with (first | ((with_reducible refine gate_dst (N := 14) rfl ?_); refine Kd.R_lit (Kd.int .i64) _ 3 ?hg (N := 14) ?hd (xs := ([0, 1, 2, 3] : List Int)) (inner := [.int .i64 0, .int .i64 1, .int .i64 2, .int .i64 3]) (ok := fun _ => True) (okp := fun _ => True) ?hr ?hp (fun _ hk => hk) trivial (Below.refl _ _) (Nat.le_refl _) (by simp) ?_; (case hd => rfl); (case hg => rfl); (case hr => first | (go_simp; done) | (go_simp; rfl) | ((try (obtain ⟨_, _, rfl⟩ := Kd.R_slice HO378.out)); first | (go_simp; done) | (go_simp; rfl))); (case hp => exact (Reps.one (show Kd.M (Kd.int .i64) _ _ _ 0 [.int .i64 0] from rfl) (Reps.one (show Kd.M (Kd.int .i64) _ _ _ 1 [.int .i64 1] from rfl) (Reps.one (show Kd.M (Kd.int .i64) _ _ _ 2 [.int .i64 2] from rfl) (Reps.one (show Kd.M (Kd.int .i64) _ _ _ 3 [.int .i64 3] from rfl) (Reps.none _ _)))))); intro v377 w17 ho18 hb hg_ hnew_; clear hg_ hnew_; (first | rw [← Ny376.out] at ho18 | (simp only [Int.reduceToNat] at ho18; rw [← Ny376.out] at ho18)); have HO378 := am_ (Kd.R_lower ho18 (below_size (qB HB))); replace BK349 := bK_ BK349 hb; replace BK372 := bK_ BK372 hb; replace HB := bS_ HB hb; replace HI353 := am_ (IsS128.below (by repeat (first | (with_reducible first | exact HI353.out | apply IsS128.alloc | apply IsS128.drewN | apply IsS128.drew | apply IsS128.set_1 | apply IsS128.set_2 | refine IsS128.far ?_ NB353_349.out _ | refine IsS128.far ?_ NB353_372.out _) | exact HI353.out)) hb); clear hb ho18; obtain ⟨Ao19, co19, eo19⟩ := Kd.R_slice HO378.out; subst eo19) | ((with_reducible refine gate_callee (f := 62) rfl ?_); refine goesL_ (some 15) rfl rfl Try.func62 (by kernel_rfl) rfl #[.pointer (some ⟨g353, 0, none⟩), .slice Ao19 y376.length co19] rfl la_ ?_; (with_reducible refine (spec_l1Int.calls g353 t350 t374 t375 _ _ y376 t379 t380 t381 w _ ?side1 ?side2 ?side3 ?side4 ?side5 A16.out).mono ?_); (case side1 => repeat (first | (with_reducible first | exact HI353.out | apply IsS128.alloc | apply IsS128.drewN | apply IsS128.drew | apply IsS128.set_1 | apply IsS128.set_2 | refine IsS128.far ?_ NB353_349.out _ | refine IsS128.far ?_ NB353_372.out _) | exact HI353.out)); (case side2 => exact qB HB); (case side3 => exact qC ((Kd.R_reads' HO378.out).2.2)); (case side4 => exact (Kd.R_reads' HO378.out).2.1); (case side5 => exact far_slice (IsS128.own_ne HI353.out HO378.out (by decide))); rintro e w20 ⟨rfl, hi, hb, hk⟩; refine ⟨_, rfl, ?_⟩; replace BK349 := kB_ BK349 hk NB349_353; replace BK372 := kB_ BK372 hk NB372_353; replace HO378 := am_ (Kd.R_mono (Kd.R_keep (IsS128.apart (show IsS128 w _ g353 t350 t374 t375 from by repeat (first | (with_reducible first | exact HI353.out | apply IsS128.alloc | apply IsS128.drewN | apply IsS128.drew | apply IsS128.set_1 | apply IsS128.set_2 | refine IsS128.far ?_ NB353_349.out _ | refine IsS128.far ?_ NB353_372.out _) | exact HI353.out)) (qR HO378) (by decide)) hk (fun _ h => h.2)) (fun _ h => h.1)); replace HB := am_ (hb); replace HI353 := am_ (hi); (try clear hb); (try clear hk); (try clear hi); have hnb21 := NB372_349.out; have hnc21 := NB349_372.out; have hnb22 := NB372_353.out; have hnc22 := NB353_372.out; (try clear zK372); have zK372 := cz16 BK372.out; (try clear fK372); have fK372 := fz16 BK372.out) | ((with_reducible refine gate_store (t := 3) (p := 16) rfl ?_); refine store_event (t := 3) (p := 16) (v := ?vo_w24) (w1 := (w20.setCell ⟨gb372, 0, none⟩ (.int .i64 t379))) ?hg ?ho ?hn ?hr ?_; (case ho => rfl); (case hg => rfl); (case hn => rfl); (case hr => first | (go_simp; done) | (go_simp; rfl) | ((try (obtain ⟨_, _, rfl⟩ := Kd.R_slice HO378.out)); first | (go_simp; done) | (go_simp; rfl))); intro w24 hw; have n0_ : Aside0 (Kd.R (Kd.int .i64) 3 w24 w.heap.size (fun _ => True) (.slice Ao19 y376.length co19) y376) := ⟨(by rw [hw]; exact (by (with_reducible repeat (first | apply Kd.R_alloc | apply Kd.R_drewN | apply Kd.R_drew)); exact Kd.R_mono (Kd.R_far (p := ⟨gb372, 0, none⟩) (Kd.R_types HO378.out BK372.out (by decide)) (fun _ hk => hk.2) (.int .i64 t379)) (fun _ hk => trivial)))⟩; have n1_ : Aside0 (w24.heap[gb349]? = some (.cells #[.int .i64 0, .int .i64 0, .string (⟨#[]⟩ : ByteArray), .int .i64 0, .int .i64 0, .int .i64 0, .string (⟨#[]⟩ : ByteArray), .int .i64 0, .int .i64 0, .int .i64 0, .string (⟨#[]⟩ : ByteArray), .int .i64 0, .int .i64 0, .int .i64 0, .int .i64 0, .int .i64 0] 29 (0, 0))) := ⟨(by rw [hw]; exact (by (with_reducible repeat (first | refine blk_drewN ?_ _ | refine blk_drew ?_ | refine blk_alloc ?_ _)); refine blk_far ?_ NB349_372.out _; exact qK BK349))⟩; have n2_ : Aside0 (w24.heap[gb372]? = some (.cells #[.int .i64 t379, .int .i64 t355, .string t356, .int .i64 t357, .int .i64 t358, .int .i64 t359, .string t360, .int .i64 t361, .int .i64 t362, .int .i64 t363, .string t364, .int .i64 t365, .int .i64 t366, .int .i64 t367, .int .i64 t368, .int .i64 t369] 29 (0, 0))) := ⟨(by rw [hw]; exact (by (with_reducible repeat (first | refine blk_drewN ?_ _ | refine blk_drew ?_ | refine blk_alloc ?_ _)); refine blk_put (cs := #[.int .i64 t354, .int .i64 t355, .string t356, .int .i64 t357, .int .i64 t358, .int .i64 t359, .string t360, .int .i64 t361, .int .i64 t362, .int .i64 t363, .string t364, .int .i64 t365, .int .i64 t366, .int .i64 t367, .int .i64 t368, .int .i64 t369]) ?_ 0 _ rfl; exact qK BK372))⟩; have n3_ : Aside0 (IsS128 w w24 g353 t350 t380 t381) := ⟨(by rw [hw]; exact (by repeat (first | (with_reducible first | exact HI353.out | apply IsS128.alloc | apply IsS128.drewN | apply IsS128.drew | apply IsS128.set_1 | apply IsS128.set_2 | refine IsS128.far ?_ NB353_349.out _ | refine IsS128.far ?_ NB353_372.out _) | exact HI353.out)))⟩; have n4_ : Aside0 (Below w.heap.size w w24) := ⟨(by rw [hw]; exact (qB HB))⟩; clear hw; clear HO378; clear BK349; clear BK372; clear HI353; clear HB; have HO378 := n0_; have BK349 := n1_; have BK372 := n2_; have HI353 := n3_; have HB := n4_; clear n0_ n1_ n2_ n3_ n4_; (try clear zK372); have zK372 := cz16 BK372.out; (try clear fK372); have fK372 := fz16 BK372.out; have hnb26 := NB349_353.out; have hnc26 := NB353_349.out; (try clear zK349); have zK349 := cz16 BK349.out; (try clear fK349); have fK349 := fz16 BK349.out) | ((with_reducible refine gate_store (t := 29) (p := 2) rfl ?_); refine store_evs (t := 29) (p := 2) (j := 0) (cs := [.int .i64 t379, .int .i64 t355, .string t356, .int .i64 t357, .int .i64 t358, .int .i64 t359, .string t360, .int .i64 t361, .int .i64 t362, .int .i64 t363, .string t364, .int .i64 t365, .int .i64 t366, .int .i64 t367, .int .i64 t368, .int .i64 t369]) (qK BK349) ?_; intro w28 hw; have n0_ : Aside0 (Kd.R (Kd.int .i64) 3 w28 w.heap.size (fun _ => True) (.slice Ao19 y376.length co19) y376) := ⟨(by rw [hw]; exact (by (with_reducible repeat (first | apply Kd.R_alloc | apply Kd.R_drewN | apply Kd.R_drew)); exact Kd.R_mono (sR_ (g := gb349) (Kd.R_types HO378.out BK349.out (by decide)) (fun _ hk => hk.2)) (fun _ hk => trivial)))⟩; replace BK372 := sK_ hw BK372 NB372_349; replace HI353 := IsS128.s_ hw HI353 NB353_349; replace HB := sB_ hw HB; replace BK349 := sW_ hw BK349; clear hw; clear HO378; have HO378 := n0_; clear n0_))
  refine bodyPost_ret (results_cell_row rfl _ _ gb349 29 #[.int .i64 t379, .int .i64 t355, .string t356, .int .i64 t357, .int .i64 t358, .int .i64 t359, .string t360, .int .i64 t361, .int .i64 t362, .int .i64 t363, .string t364, .int .i64 t365, .int .i64 t366, .int .i64 t367, .int .i64 t368, .int .i64 t369] (0, 0) _ rfl (qK BK349) Try.underlying29 rfl (by kernel_rfl)) rfl ?_
  exact ⟨er_, qB HB⟩
 rw [if_neg c15] at H
 have c15b0 : (t373 == 0) = false := beq_eq_false_iff_ne.mpr c15
 have c15b1 : (t373 != 0) = true := bne_iff_ne.mpr c15
 (first | rw [c15b0] | rw [c15b1] | (simp only [i64_w, i32_w]; rw [c15b0]) | skip)
 by_cases c29 : t373 = 1
 ·
  rw [if_pos c29] at H
  have c29b0 : (t373 == 1) = true := beq_iff_eq.mpr c29
  have c29b1 : (t373 != 1) = false := bne_eq_false_iff_eq.mpr c29
  clear c29
  replace H := bf_ H
  obtain ⟨f_, hf_, ⟨t382, t383, t384, t385, t386, t387, t388, t389, t390, t391⟩, A30, H⟩ := H
  subst hf_
  (try dsimp only at H)
  simp only [Option.some.injEq, Prod.mk.injEq] at H
  obtain ⟨rfl, rfl, rfl, rfl, rfl, rfl, rfl, rfl, rfl, rfl, rfl, rfl, rfl, rfl, rfl, rfl⟩ := H
  go_wp2_with (first | ((with_reducible refine gate_callee (f := 63) rfl ?_); refine goesL_ (some 20) rfl rfl Try.func63 (by kernel_rfl) rfl #[.pointer (some ⟨g353, 0, none⟩)] rfl la_ ?_; (with_reducible refine (spec_l9AnyAsker.calls k g353 t350 t374 t375 t382 t383 t384 t385 t386 t387 t388 t389 t390 t391 w _ ?side1 ?side2 A30.out).mono ?_); (case side1 => repeat (first | (with_reducible first | exact HI353.out | apply IsS128.alloc | apply IsS128.drewN | apply IsS128.drew | apply IsS128.set_1 | apply IsS128.set_2 | refine IsS128.far ?_ NB353_349.out _ | refine IsS128.far ?_ NB353_372.out _) | exact HI353.out)); (case side2 => exact qB HB); rintro e w31 ⟨rfl, hi, hb, hk⟩; refine ⟨_, rfl, ?_⟩; replace BK349 := kB_ BK349 hk NB349_353; replace BK372 := kB_ BK372 hk NB372_353; replace HB := am_ (hb); replace HI353 := am_ (hi); (try clear hb); (try clear hk); (try clear hi); have hnb32 := NB372_349.out; have hnc32 := NB349_372.out; have hnb33 := NB372_353.out; have hnc33 := NB353_372.out; (try clear zK372); have zK372 := cz16 BK372.out; (try clear fK372); have fK372 := fz16 BK372.out) | ((with_reducible refine gate_store (t := 25) (p := 21) rfl ?_); refine store_evs (t := 25) (p := 21) (j := 1) (cs := [.int .i64 t382, .string t383, .int .i64 t384, .int .i64 t385, .int .i64 t386, .string t387, .int .i64 t388, .int .i64 t389]) (qK BK372) ?_; intro w35 hw; replace BK349 := sK_ hw BK349 NB349_372; replace HI353 := IsS128.s_ hw HI353 NB353_372; replace HB := sB_ hw HB; replace BK372 : Aside0 (w35.heap[gb372]? = some (.cells #[.int .i64 t354, .int .i64 t382, .string t383, .int .i64 t384, .int .i64 t385, .int .i64 t386, .string t387, .int .i64 t388, .int .i64 t389, .int .i64 t363, .string t364, .int .i64 t365, .int .i64 t366, .int .i64 t367, .int .i64 t368, .int .i64 t369] 29 (0, 0))) := sP_ hw BK372; clear hw; (try clear zK372); have zK372 := cz16 BK372.out; (try clear fK372); have fK372 := fz16 BK372.out; have hnb37 := NB349_353.out; have hnc37 := NB353_349.out; (try clear zK349); have zK349 := cz16 BK349.out; (try clear fK349); have fK349 := fz16 BK349.out) | ((with_reducible refine gate_store (t := 29) (p := 2) rfl ?_); refine store_evs (t := 29) (p := 2) (j := 0) (cs := [.int .i64 t354, .int .i64 t382, .string t383, .int .i64 t384, .int .i64 t385, .int .i64 t386, .string t387, .int .i64 t388, .int .i64 t389, .int .i64 t363, .string t364, .int .i64 t365, .int .i64 t366, .int .i64 t367, .int .i64 t368, .int .i64 t369]) (qK BK349) ?_; intro w39 hw; replace BK372 := sK_ hw BK372 NB372_349; replace HI353 := IsS128.s_ hw HI353 NB353_349; replace HB := sB_ hw HB; replace BK349 := sW_ hw BK349; clear hw))
  refine bodyPost_ret (results_cell_row rfl _ _ gb349 29 #[.int .i64 t354, .int .i64 t382, .string t383, .int .i64 t384, .int .i64 t385, .int .i64 t386, .string t387, .int .i64 t388, .int .i64 t389, .int .i64 t363, .string t364, .int .i64 t365, .int .i64 t366, .int .i64 t367, .int .i64 t368, .int .i64 t369] (0, 0) _ rfl (qK BK349) Try.underlying29 rfl (by kernel_rfl)) rfl ?_
  exact ⟨er_, qB HB⟩
 rw [if_neg c29] at H
 have c29b0 : (t373 == 1) = false := beq_eq_false_iff_ne.mpr c29
 have c29b1 : (t373 != 1) = true := bne_iff_ne.mpr c29
 by_cases c40 : t373 = 2
 ·
  rw [if_pos c40] at H
  have c40b0 : (t373 == 2) = true := beq_iff_eq.mpr c40
  have c40b1 : (t373 != 2) = false := bne_eq_false_iff_eq.mpr c40
  clear c40
  replace H := bf_ H
  obtain ⟨f_, hf_, ⟨t392, t393, t394, t395, t396, t397, t398, t399, t400⟩, A41, H⟩ := H
  subst hf_
  (try dsimp only at H)
  simp only [Option.some.injEq, Prod.mk.injEq] at H
  obtain ⟨rfl, rfl, rfl, rfl, rfl, rfl, rfl, rfl, rfl, rfl, rfl, rfl, rfl, rfl, rfl, rfl⟩ := H
  go_wp2_with (first | ((with_reducible refine gate_callee (f := 64) rfl ?_); refine goesL_ (some 25) rfl rfl Try.func64 (by kernel_rfl) rfl #[.pointer (some ⟨g353, 0, none⟩)] rfl la_ ?_; (with_reducible refine (spec_l9AnyLine.calls g353 t350 t374 t375 t392 t393 t394 t395 t396 t397 t398 t399 t400 w _ ?side1 ?side2 A41.out).mono ?_); (case side1 => repeat (first | (with_reducible first | exact HI353.out | apply IsS128.alloc | apply IsS128.drewN | apply IsS128.drew | apply IsS128.set_1 | apply IsS128.set_2 | refine IsS128.far ?_ NB353_349.out _ | refine IsS128.far ?_ NB353_372.out _) | exact HI353.out)); (case side2 => exact qB HB); rintro e w42 ⟨rfl, hi, hb, hk⟩; refine ⟨_, rfl, ?_⟩; replace BK349 := kB_ BK349 hk NB349_353; replace BK372 := kB_ BK372 hk NB372_353; replace HB := am_ (hb); replace HI353 := am_ (hi); (try clear hb); (try clear hk); (try clear hi); have hnb43 := NB372_349.out; have hnc43 := NB349_372.out; have hnb44 := NB372_353.out; have hnc44 := NB353_372.out; (try clear zK372); have zK372 := cz16 BK372.out; (try clear fK372); have fK372 := fz16 BK372.out) | ((with_reducible refine gate_store (t := 27) (p := 26) rfl ?_); refine store_evs (t := 27) (p := 26) (j := 9) (cs := [.int .i64 t392, .string t393, .int .i64 t394, .int .i64 t395, .int .i64 t396, .int .i64 t397, .int .i64 t398]) (qK BK372) ?_; intro w46 hw; replace BK349 := sK_ hw BK349 NB349_372; replace HI353 := IsS128.s_ hw HI353 NB353_372; replace HB := sB_ hw HB; replace BK372 : Aside0 (w46.heap[gb372]? = some (.cells #[.int .i64 t354, .int .i64 t355, .string t356, .int .i64 t357, .int .i64 t358, .int .i64 t359, .string t360, .int .i64 t361, .int .i64 t362, .int .i64 t392, .string t393, .int .i64 t394, .int .i64 t395, .int .i64 t396, .int .i64 t397, .int .i64 t398] 29 (0, 0))) := sP_ hw BK372; clear hw; (try clear zK372); have zK372 := cz16 BK372.out; (try clear fK372); have fK372 := fz16 BK372.out; have hnb48 := NB349_353.out; have hnc48 := NB353_349.out; (try clear zK349); have zK349 := cz16 BK349.out; (try clear fK349); have fK349 := fz16 BK349.out) | ((with_reducible refine gate_store (t := 29) (p := 2) rfl ?_); refine store_evs (t := 29) (p := 2) (j := 0) (cs := [.int .i64 t354, .int .i64 t355, .string t356, .int .i64 t357, .int .i64 t358, .int .i64 t359, .string t360, .int .i64 t361, .int .i64 t362, .int .i64 t392, .string t393, .int .i64 t394, .int .i64 t395, .int .i64 t396, .int .i64 t397, .int .i64 t398]) (qK BK349) ?_; intro w50 hw; replace BK372 := sK_ hw BK372 NB372_349; replace HI353 := IsS128.s_ hw HI353 NB353_349; replace HB := sB_ hw HB; replace BK349 := sW_ hw BK349; clear hw))
  refine bodyPost_ret (results_cell_row rfl _ _ gb349 29 #[.int .i64 t354, .int .i64 t355, .string t356, .int .i64 t357, .int .i64 t358, .int .i64 t359, .string t360, .int .i64 t361, .int .i64 t362, .int .i64 t392, .string t393, .int .i64 t394, .int .i64 t395, .int .i64 t396, .int .i64 t397, .int .i64 t398] (0, 0) _ rfl (qK BK349) Try.underlying29 rfl (by kernel_rfl)) rfl ?_
  exact ⟨er_, qB HB⟩
 rw [if_neg c40] at H
 have c40b0 : (t373 == 2) = false := beq_eq_false_iff_ne.mpr c40
 have c40b1 : (t373 != 2) = true := bne_iff_ne.mpr c40
 simp only [Option.some.injEq, Prod.mk.injEq] at H
 obtain ⟨rfl, rfl, rfl, rfl, rfl, rfl, rfl, rfl, rfl, rfl, rfl, rfl, rfl, rfl, rfl, rfl⟩ := H
 have hnb51 := NB372_349.out
 have hnc51 := NB349_372.out
 have hnb52 := NB372_353.out
 have hnc52 := NB353_372.out
 (try clear zK372)
 have zK372 := cz16 BK372.out
 (try clear fK372)
 have fK372 := fz16 BK372.out
 have hnb54 := NB349_353.out
 have hnc54 := NB353_349.out
 (try clear zK349)
 have zK349 := cz16 BK349.out
 (try clear fK349)
 have fK349 := fz16 BK349.out
 go_wp2_with (first | ((with_reducible refine gate_store (t := 29) (p := 2) rfl ?_); refine store_evs (t := 29) (p := 2) (j := 0) (cs := [.int .i64 t354, .int .i64 t355, .string t356, .int .i64 t357, .int .i64 t358, .int .i64 t359, .string t360, .int .i64 t361, .int .i64 t362, .int .i64 t363, .string t364, .int .i64 t365, .int .i64 t366, .int .i64 t367, .int .i64 t368, .int .i64 t369]) (qK BK349) ?_; intro w56 hw; replace BK372 := sK_ hw BK372 NB372_349; replace HI353 := IsS128.s_ hw HI353 NB353_349; replace HB := sB_ hw HB; replace BK349 := sW_ hw BK349; clear hw))
 refine bodyPost_ret (results_cell_row rfl _ _ gb349 29 #[.int .i64 t354, .int .i64 t355, .string t356, .int .i64 t357, .int .i64 t358, .int .i64 t359, .string t360, .int .i64 t361, .int .i64 t362, .int .i64 t363, .string t364, .int .i64 t365, .int .i64 t366, .int .i64 t367, .int .i64 t368, .int .i64 t369] (0, 0) _ rfl (qK BK349) Try.underlying29 rfl (by kernel_rfl)) rfl ?_
 exact ⟨er_, qB HB⟩

/-! ### impl_isIn: function 87 -/
def impl_isIn.f (a0 : Int) (a1 : Int) (a2 : Int) : Option (Bool) := if a1 ≤ a0 then (some (decide (a0 ≤ a2))) else (some false)
set_option maxHeartbeats 8000000 in
set_option maxRecDepth 100000 in
theorem impl_isIn.calls (a0 : Int) (a1 : Int) (a2 : Int) (r : Bool) (w : World) (h : impl_isIn.f a0 a1 a2 = some r) :
  Calls Try.prog 87 #[.int .i64 a0, .int .i64 a1, .int .i64 a2] w fun e w' => e = .returned (.bool r) ∧ Drawn0 w w' := by
 have H := h
 unfold impl_isIn.f at H
 clear h
 by_cases c4 : a1 ≤ a0
 ·
  rw [if_pos c4] at H
  have c4b0 : decide (a1 ≤ a0) = true := decide_eq_true c4
  clear c4
  obtain rfl := Option.some.inj H
  go_enter Try.func87, Try.ntmps87
  go_wp2
  go_ret
  exact ⟨by first | rfl | (simp; done) | (simp [*]; done), by repeat (first | exact Drawn0.refl _ | apply Drawn0.step)⟩
 rw [if_neg c4] at H
 have c4b0 : decide (a1 ≤ a0) = false := decide_eq_false c4
 clear c4
 obtain rfl := Option.some.inj H
 go_enter Try.func87, Try.ntmps87
 go_wp2
 go_ret
 exact ⟨by first | rfl | (simp; done) | (simp [*]; done), by repeat (first | exact Drawn0.refl _ | apply Drawn0.step)⟩

/-! ### impl_wordOk: function 65 -/
def impl_wordOk.f (a0 : Int) : Option (Bool) := (impl_isIn.f a0 0 65535).bind fun t401 => (some t401)
set_option maxHeartbeats 8000000 in
set_option maxRecDepth 100000 in
theorem impl_wordOk.calls (a0 : Int) (r : Bool) (w : World) (h : impl_wordOk.f a0 = some r) :
  Calls Try.prog 65 #[.int .i64 a0] w fun e w' => e = .returned (.bool r) ∧ Drawn0 w w' := by
 have H : ((impl_isIn.f a0 0 65535).bind fun t401 => (some t401)) = some r := h
 clear h
 replace H := bd_ H
 obtain ⟨t401, A2, H⟩ := H
 obtain rfl := Option.some.inj H
 go_enter Try.func65, Try.ntmps65
 go_wp2_with (first | ((with_reducible refine gate_callee (f := 87) rfl ?_); refine goesL_ (some 4) rfl rfl Try.func87 (by kernel_rfl) rfl #[.int .i64 a0, .int .i64 0, .int .i64 65535] rfl la_ ?_; (with_reducible refine (impl_isIn.calls a0 0 65535 t401 _ A2.out).mono ?_); rintro e w' ⟨rfl, ⟨nd, rfl⟩⟩; refine ⟨_, rfl, ?_⟩))
 go_ret
 exact ⟨by first | rfl | (simp; done) | (simp [*]; done), by repeat (first | exact Drawn0.refl _ | apply Drawn0.step)⟩

/-! ### impl_sockIdOk: function 79 -/
def impl_sockIdOk.f (a0 : Int) : Option (Bool) := (impl_isIn.f a0 1 9999).bind fun t402 => (some t402)
set_option maxHeartbeats 8000000 in
set_option maxRecDepth 100000 in
theorem impl_sockIdOk.calls (a0 : Int) (r : Bool) (w : World) (h : impl_sockIdOk.f a0 = some r) :
  Calls Try.prog 79 #[.int .i64 a0] w fun e w' => e = .returned (.bool r) ∧ Drawn0 w w' := by
 have H : ((impl_isIn.f a0 1 9999).bind fun t402 => (some t402)) = some r := h
 clear h
 replace H := bd_ H
 obtain ⟨t402, A2, H⟩ := H
 obtain rfl := Option.some.inj H
 go_enter Try.func79, Try.ntmps79
 go_wp2_with (first | ((with_reducible refine gate_callee (f := 87) rfl ?_); refine goesL_ (some 4) rfl rfl Try.func87 (by kernel_rfl) rfl #[.int .i64 a0, .int .i64 1, .int .i64 9999] rfl la_ ?_; (with_reducible refine (impl_isIn.calls a0 1 9999 t402 _ A2.out).mono ?_); rintro e w' ⟨rfl, ⟨nd, rfl⟩⟩; refine ⟨_, rfl, ?_⟩))
 go_ret
 exact ⟨by first | rfl | (simp; done) | (simp [*]; done), by repeat (first | exact Drawn0.refl _ | apply Drawn0.step)⟩

/-! ### impl_nameOk: function 80 -/
def impl_nameOk.l0 : Nat → ByteArray → Int → Int → Option (Bool)
 | 0, _, _, _ => none
 | k + 1, x0, x5, x6 => if x6 < x5 then (if 0 ≤ x6 then (if x6 < (x0.size : Int) then (if (bt x0 x6) < 97 then (some false) else (if (bt x0 x6) > 122 then (some false) else (impl_nameOk.l0 k x0 x5 (wrap64 (x6 + 1))))) else (none)) else (none)) else ((impl_isIn.f (x0.size : Int) 1 8).bind fun t403 => (some t403))
def impl_nameOk.f (k : Nat) (a0 : ByteArray) : Option (Bool) := impl_nameOk.l0 k a0 (a0.size : Int) 0
theorem impl_nameOk.mono_l : ∀ k, (∀ y0 y1 y2, LeO (impl_nameOk.l0 k y0 y1 y2) (impl_nameOk.l0 (k + 1) y0 y1 y2))
 | 0 => fun _ _ _ r h => by simp [impl_nameOk.l0] at h
 | k + 1 => by
  have ih0 := impl_nameOk.mono_l k
  ·
   intro y0 y1 y2
   unfold impl_nameOk.l0
   repeat' first
   | (with_reducible exact ih0 _ _ _)
   | (with_reducible exact LeO.refl _)
   | (with_reducible exact LeO.none _)
   | (with_reducible refine LeO.ite ?_ ?_)
   | (with_reducible refine LeO.bind ?_ (fun _ => ?_))
theorem impl_nameOk.mono : ∀ a0 k, LeO (impl_nameOk.f k a0) (impl_nameOk.f (k + 1) a0) := by
 intro a0 k
 have ih0 := impl_nameOk.mono_l k
 unfold impl_nameOk.f
 repeat' first
   | (with_reducible exact ih0 _ _ _)
   | (with_reducible exact LeO.refl _)
   | (with_reducible exact LeO.none _)
   | (with_reducible refine LeO.ite ?_ ?_)
   | (with_reducible refine LeO.bind ?_ (fun _ => ?_))
set_option maxHeartbeats 8000000 in
set_option maxRecDepth 100000 in
theorem impl_nameOk.calls (k : Nat) (a0 : ByteArray) (r : Bool) (w : World) (h : impl_nameOk.f k a0 = some r) :
  Calls Try.prog 80 #[.string a0] w fun e w' => e = .returned (.bool r) ∧ Drawn0 w w' := by
 have H : (impl_nameOk.l0 k a0 (a0.size : Int) 0) = some r := h
 clear h
 have H' := Aside0.mk H
 clear H
 go_enter Try.func80, Try.ntmps80
 go_wp2
 go_loopg [6] k (fun kq v6 w' => ∃ (x6_1 : Int), v6 = .int .i64 x6_1 ∧ Aside0 (impl_nameOk.l0 kq a0 (a0.size : Int) x6_1 = some r) ∧ Aside0 (kq ≤ k) ∧ Drawn0 w w')
 case atStart => exact ⟨(0), eqq_, H', ⟨Nat.le_refl _⟩, by repeat (first | exact Drawn0.refl _ | apply Drawn0.step)⟩
 case round =>
  clear H'
  obtain ⟨x6_1, rfl, HA, HK1, ⟨m1, rfl⟩⟩ := hrel
  cases gk with
  | zero => exact absurd HA.out (by simp [impl_nameOk.l0])
  | succ k1 =>
   have H := HA.out
   clear HA
   simp only [impl_nameOk.l0] at H
   by_cases c2 : x6_1 < (a0.size : Int)
   rotate_left
   ·
    rw [if_neg c2] at H
    have c2b0 : decide (x6_1 < (a0.size : Int)) = false := decide_eq_false c2
    clear c2
    replace H := bd_ H
    obtain ⟨t403, A9, H⟩ := H
    obtain rfl := Option.some.inj H
    go_wp2_with (first | ((with_reducible refine gate_callee (f := 87) rfl ?_); refine goesL_ (some 22) rfl rfl Try.func87 (by kernel_rfl) rfl #[.int .i64 (a0.size : Int), .int .i64 1, .int .i64 8] rfl la_ ?_; (with_reducible refine (impl_isIn.calls (a0.size : Int) 1 8 t403 _ A9.out).mono ?_); rintro e w' ⟨rfl, ⟨nd, rfl⟩⟩; refine ⟨_, rfl, ?_⟩))
    go_ret
    exact ⟨by first | rfl | (simp; done) | (simp [*]; done), by repeat (first | exact Drawn0.refl _ | apply Drawn0.step)⟩
   rw [if_pos c2] at H
   have c2b0 : decide (x6_1 < (a0.size : Int)) = true := decide_eq_true c2
   clear c2
   by_cases c3 : 0 ≤ x6_1
   case neg => exact nn_ c3 H
   rw [if_pos c3] at H
   have c3b0 : decide (0 ≤ x6_1) = true := decide_eq_true c3
   clear c3
   by_cases c4 : x6_1 < (a0.size : Int)
   case neg => exact nn_ c4 H
   rw [if_pos c4] at H
   have c4b0 : decide (x6_1 < (a0.size : Int)) = true := decide_eq_true c4
   clear c4
   by_cases c6 : (bt a0 x6_1) < 97
   ·
    rw [if_pos c6] at H
    have c6b0 : decide ((bt a0 x6_1) < 97) = true := decide_eq_true c6
    clear c6
    obtain rfl := Option.some.inj H
    have p5 : 0 ≤ (x6_1 : Int) := od_
    have q5 : x6_1 < (a0.size : Int) := od_
    have hx5 := bt_at a0 x6_1
    replace p5 := eq_true p5
    replace q5 := eq_true q5
    go_wp2
    go_ret
    exact ⟨by first | rfl | (simp; done) | (simp [*]; done), by repeat (first | exact Drawn0.refl _ | apply Drawn0.step)⟩
   rw [if_neg c6] at H
   have c6b0 : decide ((bt a0 x6_1) < 97) = false := decide_eq_false c6
   clear c6
   by_cases c8 : (bt a0 x6_1) > 122
   ·
    rw [if_pos c8] at H
    have c8b0 : decide (122 < (bt a0 x6_1)) = true := decide_eq_true c8
    clear c8
    obtain rfl := Option.some.inj H
    have p5 : 0 ≤ (x6_1 : Int) := od_
    have q5 : x6_1 < (a0.size : Int) := od_
    have hx5 := bt_at a0 x6_1
    replace p5 := eq_true p5
    replace q5 := eq_true q5
    have p7 : 0 ≤ (x6_1 : Int) := od_
    have q7 : x6_1 < (a0.size : Int) := od_
    have hx7 := bt_at a0 x6_1
    replace p7 := eq_true p7
    replace q7 := eq_true q7
    go_wp2
    go_ret
    exact ⟨by first | rfl | (simp; done) | (simp [*]; done), by repeat (first | exact Drawn0.refl _ | apply Drawn0.step)⟩
   rw [if_neg c8] at H
   have c8b0 : decide (122 < (bt a0 x6_1)) = false := decide_eq_false c8
   clear c8
   have H' := Aside0.mk H
   clear H
   have p5 : 0 ≤ (x6_1 : Int) := od_
   have q5 : x6_1 < (a0.size : Int) := od_
   have hx5 := bt_at a0 x6_1
   replace p5 := eq_true p5
   replace q5 := eq_true q5
   have p7 : 0 ≤ (x6_1 : Int) := od_
   have q7 : x6_1 < (a0.size : Int) := od_
   have hx7 := bt_at a0 x6_1
   replace p7 := eq_true p7
   replace q7 := eq_true q7
   go_wp2
   go_roundg k1
   case measure => have := HK1.out; omega
   case rel => exact ⟨(wrap64 (x6_1 + 1)), eqq_, H', ⟨by have := HK1.out; omega⟩, by repeat (first | exact Drawn0.refl _ | apply Drawn0.step)⟩

/-! ### impl_sinceOk: function 81 -/
def impl_sinceOk.f (a0 : Int) : Option (Bool) := (impl_isIn.f a0 0 100000).bind fun t404 => (some t404)
set_option maxHeartbeats 8000000 in
set_option maxRecDepth 100000 in
theorem impl_sinceOk.calls (a0 : Int) (r : Bool) (w : World) (h : impl_sinceOk.f a0 = some r) :
  Calls Try.prog 81 #[.int .i64 a0] w fun e w' => e = .returned (.bool r) ∧ Drawn0 w w' := by
 have H : ((impl_isIn.f a0 0 100000).bind fun t404 => (some t404)) = some r := h
 clear h
 replace H := bd_ H
 obtain ⟨t404, A2, H⟩ := H
 obtain rfl := Option.some.inj H
 go_enter Try.func81, Try.ntmps81
 go_wp2_with (first | ((with_reducible refine gate_callee (f := 87) rfl ?_); refine goesL_ (some 4) rfl rfl Try.func87 (by kernel_rfl) rfl #[.int .i64 a0, .int .i64 0, .int .i64 100000] rfl la_ ?_; (with_reducible refine (impl_isIn.calls a0 0 100000 t404 _ A2.out).mono ?_); rintro e w' ⟨rfl, ⟨nd, rfl⟩⟩; refine ⟨_, rfl, ?_⟩))
 go_ret
 exact ⟨by first | rfl | (simp; done) | (simp [*]; done), by repeat (first | exact Drawn0.refl _ | apply Drawn0.step)⟩

/-! ### impl_TextOk: function 82 -/
def impl_TextOk.l0 : Nat → ByteArray → Int → Int → Option (Bool)
 | 0, _, _, _ => none
 | k + 1, x0, x5, x6 => if x6 < x5 then (if 0 ≤ x6 then (if x6 < (x0.size : Int) then (if (bt x0 x6) < 32 then (some false) else (if (bt x0 x6) > 126 then (some false) else (impl_TextOk.l0 k x0 x5 (wrap64 (x6 + 1))))) else (none)) else (none)) else (some (decide ((x0.size : Int) ≤ 100)))
def impl_TextOk.f (k : Nat) (a0 : ByteArray) : Option (Bool) := impl_TextOk.l0 k a0 (a0.size : Int) 0
theorem impl_TextOk.mono_l : ∀ k, (∀ y0 y1 y2, LeO (impl_TextOk.l0 k y0 y1 y2) (impl_TextOk.l0 (k + 1) y0 y1 y2))
 | 0 => fun _ _ _ r h => by simp [impl_TextOk.l0] at h
 | k + 1 => by
  have ih0 := impl_TextOk.mono_l k
  ·
   intro y0 y1 y2
   unfold impl_TextOk.l0
   repeat' first
   | (with_reducible exact ih0 _ _ _)
   | (with_reducible exact LeO.refl _)
   | (with_reducible exact LeO.none _)
   | (with_reducible refine LeO.ite ?_ ?_)
   | (with_reducible refine LeO.bind ?_ (fun _ => ?_))
theorem impl_TextOk.mono : ∀ a0 k, LeO (impl_TextOk.f k a0) (impl_TextOk.f (k + 1) a0) := by
 intro a0 k
 have ih0 := impl_TextOk.mono_l k
 unfold impl_TextOk.f
 repeat' first
   | (with_reducible exact ih0 _ _ _)
   | (with_reducible exact LeO.refl _)
   | (with_reducible exact LeO.none _)
   | (with_reducible refine LeO.ite ?_ ?_)
   | (with_reducible refine LeO.bind ?_ (fun _ => ?_))
set_option maxHeartbeats 8000000 in
set_option maxRecDepth 100000 in
theorem impl_TextOk.calls (k : Nat) (a0 : ByteArray) (r : Bool) (w : World) (h : impl_TextOk.f k a0 = some r) :
  Calls Try.prog 82 #[.string a0] w fun e w' => e = .returned (.bool r) ∧ Drawn0 w w' := by
 have H : (impl_TextOk.l0 k a0 (a0.size : Int) 0) = some r := h
 clear h
 have H' := Aside0.mk H
 clear H
 go_enter Try.func82, Try.ntmps82
 go_wp2
 go_loopg [6] k (fun kq v6 w' => ∃ (x6_1 : Int), v6 = .int .i64 x6_1 ∧ Aside0 (impl_TextOk.l0 kq a0 (a0.size : Int) x6_1 = some r) ∧ Aside0 (kq ≤ k) ∧ Drawn0 w w')
 case atStart => exact ⟨(0), eqq_, H', ⟨Nat.le_refl _⟩, by repeat (first | exact Drawn0.refl _ | apply Drawn0.step)⟩
 case round =>
  clear H'
  obtain ⟨x6_1, rfl, HA, HK1, ⟨m1, rfl⟩⟩ := hrel
  cases gk with
  | zero => exact absurd HA.out (by simp [impl_TextOk.l0])
  | succ k1 =>
   have H := HA.out
   clear HA
   simp only [impl_TextOk.l0] at H
   by_cases c2 : x6_1 < (a0.size : Int)
   rotate_left
   ·
    rw [if_neg c2] at H
    have c2b0 : decide (x6_1 < (a0.size : Int)) = false := decide_eq_false c2
    clear c2
    obtain rfl := Option.some.inj H
    go_wp2
    go_ret
    exact ⟨by first | rfl | (simp; done) | (simp [*]; done), by repeat (first | exact Drawn0.refl _ | apply Drawn0.step)⟩
   rw [if_pos c2] at H
   have c2b0 : decide (x6_1 < (a0.size : Int)) = true := decide_eq_true c2
   clear c2
   by_cases c3 : 0 ≤ x6_1
   case neg => exact nn_ c3 H
   rw [if_pos c3] at H
   have c3b0 : decide (0 ≤ x6_1) = true := decide_eq_true c3
   clear c3
   by_cases c4 : x6_1 < (a0.size : Int)
   case neg => exact nn_ c4 H
   rw [if_pos c4] at H
   have c4b0 : decide (x6_1 < (a0.size : Int)) = true := decide_eq_true c4
   clear c4
   by_cases c6 : (bt a0 x6_1) < 32
   ·
    rw [if_pos c6] at H
    have c6b0 : decide ((bt a0 x6_1) < 32) = true := decide_eq_true c6
    clear c6
    obtain rfl := Option.some.inj H
    have p5 : 0 ≤ (x6_1 : Int) := od_
    have q5 : x6_1 < (a0.size : Int) := od_
    have hx5 := bt_at a0 x6_1
    replace p5 := eq_true p5
    replace q5 := eq_true q5
    go_wp2
    go_ret
    exact ⟨by first | rfl | (simp; done) | (simp [*]; done), by repeat (first | exact Drawn0.refl _ | apply Drawn0.step)⟩
   rw [if_neg c6] at H
   have c6b0 : decide ((bt a0 x6_1) < 32) = false := decide_eq_false c6
   clear c6
   by_cases c8 : (bt a0 x6_1) > 126
   ·
    rw [if_pos c8] at H
    have c8b0 : decide (126 < (bt a0 x6_1)) = true := decide_eq_true c8
    clear c8
    obtain rfl := Option.some.inj H
    have p5 : 0 ≤ (x6_1 : Int) := od_
    have q5 : x6_1 < (a0.size : Int) := od_
    have hx5 := bt_at a0 x6_1
    replace p5 := eq_true p5
    replace q5 := eq_true q5
    have p7 : 0 ≤ (x6_1 : Int) := od_
    have q7 : x6_1 < (a0.size : Int) := od_
    have hx7 := bt_at a0 x6_1
    replace p7 := eq_true p7
    replace q7 := eq_true q7
    go_wp2
    go_ret
    exact ⟨by first | rfl | (simp; done) | (simp [*]; done), by repeat (first | exact Drawn0.refl _ | apply Drawn0.step)⟩
   rw [if_neg c8] at H
   have c8b0 : decide (126 < (bt a0 x6_1)) = false := decide_eq_false c8
   clear c8
   have H' := Aside0.mk H
   clear H
   have p5 : 0 ≤ (x6_1 : Int) := od_
   have q5 : x6_1 < (a0.size : Int) := od_
   have hx5 := bt_at a0 x6_1
   replace p5 := eq_true p5
   replace q5 := eq_true q5
   have p7 : 0 ≤ (x6_1 : Int) := od_
   have q7 : x6_1 < (a0.size : Int) := od_
   have hx7 := bt_at a0 x6_1
   replace p7 := eq_true p7
   replace q7 := eq_true q7
   go_wp2
   go_roundg k1
   case measure => have := HK1.out; omega
   case rel => exact ⟨(wrap64 (x6_1 + 1)), eqq_, H', ⟨by have := HK1.out; omega⟩, by repeat (first | exact Drawn0.refl _ | apply Drawn0.step)⟩

end Go.Proofs.Ytiffahfpfgnjnaa.PFnItems
