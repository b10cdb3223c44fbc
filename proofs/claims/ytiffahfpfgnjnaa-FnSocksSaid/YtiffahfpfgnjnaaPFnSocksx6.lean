-- Written by a program of this session (myprint.py, over the kit's print): contracts of FnSocks
import Derived.Test.YtiffahfpfgnjnaaPFnSocksx0
import Derived.Test.YtiffahfpfgnjnaaPFnSocksx2
import Derived.Test.YtiffahfpfgnjnaaPFnSocksx5
namespace Go.Proofs.Ytiffahfpfgnjnaa.PFnSocks
open Go.RowKit Go.Proofs.YtiffahfpfgnjnaaW.PrintWords Go.Proofs.YtiffahfpfgnjnaaW.PrintLast Go.Proofs.YtiffahfpfgnjnaaW.PrintMore Go.Proofs.YtiffahfpfgnjnaaV
attribute [local go_sem] max2_int min2_int max_two min_two max_three min_three max_four min_four   -- for this text's walks alone
set_option linter.unusedVariables false
set_option linter.unusedSimpArgs false

/-! ### spec_l8Any: function 90 -/
def spec_l8Any.f (k : Nat) (s0_0 : List Int) (s0_1 : Int) (s0_2 : Int) : Option (Int × Int × Int × Bool × List Int × List Int × Int × Int × Int × Int) := (spec_l8Draw.f k s0_0 s0_1 s0_2).bind fun bt308 => ((spec_l1Below.f s0_0 bt308.2.2.2.2.2.2.2.2.1 bt308.2.2.2.2.2.2.2.2.2 16).bind fun bt323 => (if bt323.1 = 0 then ((spec_l1Int.f s0_0 bt323.2.1 bt323.2.2 (([0, 9999, 10000] : List Int))).bind fun bt329 => (some (bt329.1, bt308.2.1, bt308.2.2.1, bt308.2.2.2.1, bt308.2.2.2.2.1, bt308.2.2.2.2.2.1, bt308.2.2.2.2.2.2.1, bt308.2.2.2.2.2.2.2.1, bt329.2.1, bt329.2.2))) else (if bt323.1 = 1 then ((spec_l1Int.f s0_0 bt323.2.1 bt323.2.2 (([0, 1, 2, 3] : List Int))).bind fun bt335 => (some (bt308.1, bt335.1, bt308.2.2.1, bt308.2.2.2.1, bt308.2.2.2.2.1, bt308.2.2.2.2.2.1, bt308.2.2.2.2.2.2.1, bt308.2.2.2.2.2.2.2.1, bt335.2.1, bt335.2.2))) else (if bt323.1 = 2 then ((spec_l1Int.f s0_0 bt323.2.1 bt323.2.2 (([0, 4] : List Int))).bind fun bt341 => (some (bt308.1, bt308.2.1, bt341.1, bt308.2.2.2.1, bt308.2.2.2.2.1, bt308.2.2.2.2.2.1, bt308.2.2.2.2.2.2.1, bt308.2.2.2.2.2.2.2.1, bt341.2.1, bt341.2.2))) else (if bt323.1 = 3 then ((spec_l1Int.f s0_0 bt323.2.1 bt323.2.2 (([(-1), 1, 3] : List Int))).bind fun bt347 => (some (bt308.1, bt308.2.1, bt308.2.2.1, bt308.2.2.2.1, bt308.2.2.2.2.1, bt308.2.2.2.2.2.1, bt347.1, bt308.2.2.2.2.2.2.2.1, bt347.2.1, bt347.2.2))) else (if bt323.1 = 4 then ((spec_l1Int.f s0_0 bt323.2.1 bt323.2.2 (([(-1), 1, 900] : List Int))).bind fun bt353 => (some (bt308.1, bt308.2.1, bt308.2.2.1, bt308.2.2.2.1, bt308.2.2.2.2.1, bt308.2.2.2.2.2.1, bt308.2.2.2.2.2.2.1, bt353.1, bt353.2.1, bt353.2.2))) else (if bt323.1 = 5 then ((spec_l1Int.f s0_0 bt323.2.1 bt323.2.2 (([238, 239, 240, 241] : List Int))).bind fun bt359 => ((spec_l1Bytes.f k s0_0 bt359.2.1 bt359.2.2 bt359.1).bind fun bt362 => (some (bt308.1, bt308.2.1, bt308.2.2.1, bt308.2.2.2.1, bt362.1, bt308.2.2.2.2.2.1, bt308.2.2.2.2.2.2.1, bt308.2.2.2.2.2.2.2.1, bt362.2.1, bt362.2.2)))) else (some (bt308.1, bt308.2.1, bt308.2.2.1, bt308.2.2.2.1, bt308.2.2.2.2.1, bt308.2.2.2.2.2.1, bt308.2.2.2.2.2.2.1, bt308.2.2.2.2.2.2.2.1, bt323.2.1, bt323.2.2)))))))))
theorem spec_l8Any.mono : ∀ a0 a1 a2 k, LeO (spec_l8Any.f k a0 a1 a2) (spec_l8Any.f (k + 1) a0 a1 a2) := by
 intro a0 a1 a2 k
 unfold spec_l8Any.f
 have m0 := @spec_l1Bytes.mono; have m1 := @spec_l8Draw.mono; exact mo_
set_option maxHeartbeats 8000000 in
set_option maxRecDepth 100000 in
theorem spec_l8Any.calls (k : Nat) (g : Nat) (s0_0 : List Int) (s0_1 : Int) (s0_2 : Int) (r1 : Int) (r2 : Int) (r3 : Int) (r4 : Bool) (r5 : List Int) (r6 : List Int) (r7 : Int) (r8 : Int) (r9 : Int) (r10 : Int) (w0 w : World) (hI : IsS128 w0 w g s0_0 s0_1 s0_2) (hB : Below w0.heap.size w0 w) (h : spec_l8Any.f k s0_0 s0_1 s0_2 = some (r1, r2, r3, r4, r5, r6, r7, r8, r9, r10)) :
  Calls Try.prog 90 #[.pointer (some ⟨g, 0, none⟩)] w fun e w' => ∃ v4_ v5_ : Value, e = .returned (.agg #[.int .i64 r1, .int .i64 r2, .int .i64 r3, .bool r4, v4_, v5_, .int .i64 r7, .int .i64 r8]) ∧ Kd.R (Kd.int .u8) 5 w' w.heap.size (fun k_ => nv v5_ k_) v4_ r5 ∧ Kd.R (Kd.int .u8) 5 w' w.heap.size (fun k_ => nv v4_ k_) v5_ r6 ∧ IsS128 w0 w' g s0_0 r9 r10 ∧ Below w0.heap.size w0 w' ∧ KeepBut w w' g none := by
 have hu41 := Try.underlying41
 have HI0 := Aside0.mk hI
 have IGHI0 := iG_ HI0.out.ge
 have HK := Aside0.mk (KeepBut.refl w g none)
 have HL := Aside0.mk hB.size
 clear hI
 have HW0 := Aside0.mk hB.size
 have HB := Aside0.mk hB
 clear hB
 have H := h
 unfold spec_l8Any.f at H
 clear h
 replace H := bf_ H
 obtain ⟨f_, hf_, ⟨t308, t309, t310, t311, t312, t315, t318, t319, t320, t321⟩, A2, H⟩ := H
 subst hf_
 (try dsimp only at H)
 replace H := bf_ H
 obtain ⟨f_, hf_, ⟨t323, t324, t325⟩, A3, H⟩ := H
 subst hf_
 (try dsimp only at H)
 by_cases c4 : t323 = 0
 ·
  rw [if_pos c4] at H
  have c4b0 : (t323 == 0) = true := beq_iff_eq.mpr c4
  have c4b1 : (t323 != 0) = false := bne_eq_false_iff_eq.mpr c4
  clear c4
  obtain ⟨y326, hy326⟩ : ∃ y_ : List Int, y_ = (([0, 9999, 10000] : List Int)) := ⟨_, rfl⟩
  rw [← hy326] at H
  have Ny326 := Aside0.mk hy326
  clear hy326
  replace H := bf_ H
  obtain ⟨f_, hf_, ⟨t329, t330, t331⟩, A5, H⟩ := H
  subst hf_
  (try dsimp only at H)
  simp only [Option.some.injEq, Prod.mk.injEq] at H
  obtain ⟨rfl, rfl, rfl, rfl, rfl, rfl, rfl, rfl, rfl, rfl⟩ := H
  go_enter Try.func90, Try.ntmps90
  go_wp2_with (first | ((with_reducible refine gate_dst (N := 2) rfl ?_); refine bx_ (N := 2) (cs := #[.int .i64 0, .int .i64 0, .int .i64 0, .bool false, .slice none 0 0, .slice none 0 0, .int .i64 0, .int .i64 0]) (t := 41) ?_; intro gb307 hg w6 hbox hb; replace HB := bS_ HB hb; have BK307 := am_ (hbox); have GW307 := am_ ((gK_ hg (qP HK))); have IGW307 := gI_ GW307; have GE307 := am_ ((Nat.le_trans HW0.out (gK_ hg (qP HK)))); have IGE307 := gI_ GE307; replace HK := kL_ HK hb; have NB0_307 := am_ ((nG_ hg (IsS128.lt (IsS128.q HI0)))); have INB0_307 := nI_ NB0_307; have NB307_0 := am_ (((nG_ hg (IsS128.lt (IsS128.q HI0))).symm)); replace HI0 := am_ (IsS128.below (IsS128.q HI0) hb); clear hb hbox hg) | ((with_reducible refine gate_callee (f := 122) rfl ?_); refine gl_ (some 5) Try.func122 #[.pointer (some ⟨g, 0, none⟩)] ?_; (with_reducible refine (spec_l8Draw.calls k g s0_0 s0_1 s0_2 t308 t309 t310 t311 t312 t315 t318 t319 t320 t321 w0 _ ?side1 ?side2 A2.out).mono ?_); (case side1 => exact IsS128.q HI0); (case side2 => exact qB HB); rintro e w7 ⟨v313, v316, rfl, ho0, ho1, hi, hb, hk⟩; refine ⟨_, rfl, ?_⟩; replace BK307 := kB_ BK307 hk NB307_0; have HO314 := am_ (Kd.R_lower ho0 (keep_size (w := w) (g := g) (row := none) (qP HK))); have HO317 := am_ (Kd.R_lower ho1 (keep_size (w := w) (g := g) (row := none) (qP HK))); replace HK := kT_ HK hk; replace HB := am_ (hb); replace HI0 := am_ (hi); (try clear hb); (try clear hk); (try clear hi); (try clear ho0); (try clear ho1)) | ((with_reducible refine gate_dst (N := 3) rfl ?_); refine bx_ (N := 3) (cs := #[.int .i64 0, .int .i64 0, .int .i64 0, .bool false, .slice none 0 0, .slice none 0 0, .int .i64 0, .int .i64 0]) (t := 41) ?_; intro gb322 hg w8 hbox hb; replace HO314 := rB_ HO314 hb; replace HO317 := rB_ HO317 hb; replace HB := bS_ HB hb; have BK322 := am_ (hbox); have GW322 := am_ ((gK_ hg (qP HK))); have IGW322 := gI_ GW322; have GE322 := am_ ((Nat.le_trans HW0.out (gK_ hg (qP HK)))); have IGE322 := gI_ GE322; replace HK := kL_ HK hb; have NB307_322 := am_ ((gN_ hg (qK BK307))); have NB322_307 := am_ ((gM_ hg (qK BK307))); replace BK307 := bK_ BK307 hb; have NB0_322 := am_ ((nG_ hg (IsS128.lt (IsS128.q HI0)))); have INB0_322 := nI_ NB0_322; have NB322_0 := am_ (((nG_ hg (IsS128.lt (IsS128.q HI0))).symm)); replace HI0 := am_ (IsS128.below (IsS128.q HI0) hb); clear hb hbox hg; have hnb9 := NB322_307.out; have hnc9 := NB307_322.out; have hnb10 := NB322_0.out; have hnc10 := NB0_322.out; (try clear zK322); have zK322 := cz8 BK322.out; (try clear fK322); have fK322 := fz8 BK322.out; obtain ⟨Ao12, co12, eo12⟩ := Kd.R_slice HO314.out; subst eo12; obtain ⟨Ao13, co13, eo13⟩ := Kd.R_slice HO317.out; subst eo13) | ((with_reducible refine gate_callee (f := 61) rfl ?_); refine gl_ (some 7) Try.func61 #[.pointer (some ⟨g, 0, none⟩), .int .i64 16] ?_; (with_reducible refine (spec_l1Below.calls g s0_0 t320 t321 16 t323 t324 t325 w0 _ ?side1 ?side2 A3.out).mono ?_); (case side1 => exact IsS128.q HI0); (case side2 => exact qB HB); rintro e w14 ⟨rfl, hi, hb, hk⟩; refine ⟨_, rfl, ?_⟩; replace BK307 := am_ (KeepBut.blk hk (g' := gb307) (o := .cells #[.int .i64 0, .int .i64 0, .int .i64 0, .bool false, .slice none 0 0, .slice none 0 0, .int .i64 0, .int .i64 0] 41 (0, 0)) (by (with_reducible repeat (first | refine blk_drewN ?_ _ | refine blk_drew ?_ | refine blk_alloc ?_ _)); refine blk_far8 ?_ NB307_322.out; exact qK BK307) NB307_0.out (by simp)); replace HO314 := am_ (Kd.R_mono (Kd.R_keep (IsS128.apart (show IsS128 w0 _ g s0_0 t320 t321 from IsS128.q HI0) (fR2_ HO314 BK322) (by decide)) hk (fun _ h => h.2)) (fun _ h => h.1)); replace HO317 := am_ (Kd.R_mono (Kd.R_keep (IsS128.apart (show IsS128 w0 _ g s0_0 t320 t321 from IsS128.q HI0) (fR2_ HO317 BK322) (by decide)) hk (fun _ h => h.2)) (fun _ h => h.1)); replace BK322 := am_ (KeepBut.blk hk (g' := gb322) (o := .cells #[.int .i64 t308, .int .i64 t309, .int .i64 t310, .bool t311, .slice Ao12 t312.length co12, .slice Ao13 t315.length co13, .int .i64 t318, .int .i64 t319] 41 (0, 0)) (by exact blk_all8 (qK BK322)) NB322_0.out (by simp)); replace HK := kT_ HK hk; replace HB := am_ (hb); replace HI0 := am_ (hi); (try clear hb); (try clear hk); (try clear hi)) | ((with_reducible refine gate_dst (N := 11) rfl ?_); refine Kd.R_lit (Kd.int .i64) _ 3 ?hg (N := 11) ?hd (xs := ([0, 9999, 10000] : List Int)) (inner := [.int .i64 0, .int .i64 9999, .int .i64 10000]) (ok := fun _ => True) (okp := fun _ => True) ?hr ?hp (fun _ hk => hk) trivial (Below.refl _ _) (Nat.le_refl _) (by simp) ?_; (case hd => rfl); (case hg => rfl); (case hr => first | (go_simp; done) | (go_simp; rfl)); (case hp => exact (Reps.one (show Kd.M (Kd.int .i64) _ _ _ 0 [.int .i64 0] from rfl) (Reps.one (show Kd.M (Kd.int .i64) _ _ _ 9999 [.int .i64 9999] from rfl) (Reps.one (show Kd.M (Kd.int .i64) _ _ _ 10000 [.int .i64 10000] from rfl) (Reps.none _ _))))); intro v327 w15 ho16 hb hg_ hnew_; clear hg_ hnew_; (first | rw [← Ny326.out] at ho16 | (simp only [Int.reduceToNat] at ho16; rw [← Ny326.out] at ho16)); replace HO314 := rB_ HO314 hb; replace HO317 := rB_ HO317 hb; have HO328 := am_ (Kd.R_lower ho16 (keep_size (w := w) (g := g) (row := none) (qP HK))); replace BK307 := bK_ BK307 hb; replace BK322 := bK_ BK322 hb; replace HK := kL_ HK hb; replace HB := bS_ HB hb; replace HI0 := am_ (IsS128.below (IsS128.q HI0) hb); clear hb ho16; obtain ⟨Ao17, co17, eo17⟩ := Kd.R_slice HO328.out; subst eo17) | ((with_reducible refine gate_callee (f := 62) rfl ?_); refine gl_ (some 12) Try.func62 #[.pointer (some ⟨g, 0, none⟩), .slice Ao17 y326.length co17] ?_; (with_reducible refine (spec_l1Int.calls g s0_0 t324 t325 _ _ y326 t329 t330 t331 w0 _ ?side1 ?side2 ?side3 ?side4 ?side5 A5.out).mono ?_); (case side1 => exact IsS128.q HI0); (case side2 => exact qB HB); (case side3 => exact qC ((Kd.R_reads' HO328.out).2.2)); (case side4 => exact (Kd.R_reads' HO328.out).2.1); (case side5 => exact far_slice (IsS128.own_ne HI0.out HO328.out (by decide))); rintro e w18 ⟨rfl, hi, hb, hk⟩; refine ⟨_, rfl, ?_⟩; replace BK307 := kB_ BK307 hk NB307_0; replace HO314 := am_ (Kd.R_mono (Kd.R_keep (IsS128.apart (show IsS128 w0 _ g s0_0 t324 t325 from IsS128.q HI0) (qR HO314) (by decide)) hk (fun _ h => h.2)) (fun _ h => h.1)); replace HO317 := am_ (Kd.R_mono (Kd.R_keep (IsS128.apart (show IsS128 w0 _ g s0_0 t324 t325 from IsS128.q HI0) (qR HO317) (by decide)) hk (fun _ h => h.2)) (fun _ h => h.1)); replace BK322 := kB_ BK322 hk NB322_0; replace HO328 := am_ (Kd.R_mono (Kd.R_keep (IsS128.apart (show IsS128 w0 _ g s0_0 t324 t325 from IsS128.q HI0) (qR HO328) (by decide)) hk (fun _ h => h.2)) (fun _ h => h.1)); replace HK := kT_ HK hk; replace HB := am_ (hb); replace HI0 := am_ (hi); (try clear hb); (try clear hk); (try clear hi); (try clear zK322); have zK322 := cz8 BK322.out; (try clear fK322); have fK322 := fz8 BK322.out; have hnb20 := NB307_0.out; have hnc20 := NB0_307.out; (try clear zK307); have zK307 := cz8 BK307.out; (try clear fK307); have fK307 := fz8 BK307.out))
  refine bodyPost_ret (results_cell_row rfl _ _ gb307 41 #[.int .i64 t329, .int .i64 t309, .int .i64 t310, .bool t311, .slice Ao12 t312.length co12, .slice Ao13 t315.length co13, .int .i64 t318, .int .i64 t319] (0, 0) _ rfl (by exact blk_all8 (blk_far1 (qK BK307) NB307_322.out)) Try.underlying41 rfl (by kernel_rfl)) rfl ?_
  exact ⟨_, _, er_, by (with_reducible repeat (first | apply Kd.R_alloc | apply Kd.R_drewN | apply Kd.R_drew)); exact Kd.R_mono (R_far8 (g := gb307) (Kd.R_far (p := ⟨gb322, 0, none⟩) (Kd.R_types (Kd.R_types HO314.out BK322.out (by decide)) BK307.out (by decide)) (fun _ hk => hk.1.2) (.int .i64 t329)) (fun _ hk => hk.2)) (fun _ hk => hk.1.1), by (with_reducible repeat (first | apply Kd.R_alloc | apply Kd.R_drewN | apply Kd.R_drew)); exact Kd.R_mono (R_far8 (g := gb307) (Kd.R_far (p := ⟨gb322, 0, none⟩) (Kd.R_types (Kd.R_types HO317.out BK322.out (by decide)) BK307.out (by decide)) (fun _ hk => hk.1.2) (.int .i64 t329)) (fun _ hk => hk.2)) (fun _ hk => hk.1.1), IsS128.q HI0, qB HB, qP HK⟩
 rw [if_neg c4] at H
 have c4b0 : (t323 == 0) = false := beq_eq_false_iff_ne.mpr c4
 have c4b1 : (t323 != 0) = true := bne_iff_ne.mpr c4
 by_cases c22 : t323 = 1
 ·
  rw [if_pos c22] at H
  have c22b0 : (t323 == 1) = true := beq_iff_eq.mpr c22
  have c22b1 : (t323 != 1) = false := bne_eq_false_iff_eq.mpr c22
  clear c22
  obtain ⟨y332, hy332⟩ : ∃ y_ : List Int, y_ = (([0, 1, 2, 3] : List Int)) := ⟨_, rfl⟩
  rw [← hy332] at H
  have Ny332 := Aside0.mk hy332
  clear hy332
  replace H := bf_ H
  obtain ⟨f_, hf_, ⟨t335, t336, t337⟩, A23, H⟩ := H
  subst hf_
  (try dsimp only at H)
  simp only [Option.some.injEq, Prod.mk.injEq] at H
  obtain ⟨rfl, rfl, rfl, rfl, rfl, rfl, rfl, rfl, rfl, rfl⟩ := H
  go_enter Try.func90, Try.ntmps90
  go_wp2_with (first | ((with_reducible refine gate_dst (N := 2) rfl ?_); refine bx_ (N := 2) (cs := #[.int .i64 0, .int .i64 0, .int .i64 0, .bool false, .slice none 0 0, .slice none 0 0, .int .i64 0, .int .i64 0]) (t := 41) ?_; intro gb307 hg w24 hbox hb; replace HB := bS_ HB hb; have BK307 := am_ (hbox); have GW307 := am_ ((gK_ hg (qP HK))); have IGW307 := gI_ GW307; have GE307 := am_ ((Nat.le_trans HW0.out (gK_ hg (qP HK)))); have IGE307 := gI_ GE307; replace HK := kL_ HK hb; have NB0_307 := am_ ((nG_ hg (IsS128.lt (IsS128.q HI0)))); have INB0_307 := nI_ NB0_307; have NB307_0 := am_ (((nG_ hg (IsS128.lt (IsS128.q HI0))).symm)); replace HI0 := am_ (IsS128.below (IsS128.q HI0) hb); clear hb hbox hg) | ((with_reducible refine gate_callee (f := 122) rfl ?_); refine gl_ (some 5) Try.func122 #[.pointer (some ⟨g, 0, none⟩)] ?_; (with_reducible refine (spec_l8Draw.calls k g s0_0 s0_1 s0_2 t308 t309 t310 t311 t312 t315 t318 t319 t320 t321 w0 _ ?side1 ?side2 A2.out).mono ?_); (case side1 => exact IsS128.q HI0); (case side2 => exact qB HB); rintro e w25 ⟨v313, v316, rfl, ho0, ho1, hi, hb, hk⟩; refine ⟨_, rfl, ?_⟩; replace BK307 := kB_ BK307 hk NB307_0; have HO314 := am_ (Kd.R_lower ho0 (keep_size (w := w) (g := g) (row := none) (qP HK))); have HO317 := am_ (Kd.R_lower ho1 (keep_size (w := w) (g := g) (row := none) (qP HK))); replace HK := kT_ HK hk; replace HB := am_ (hb); replace HI0 := am_ (hi); (try clear hb); (try clear hk); (try clear hi); (try clear ho0); (try clear ho1)) | ((with_reducible refine gate_dst (N := 3) rfl ?_); refine bx_ (N := 3) (cs := #[.int .i64 0, .int .i64 0, .int .i64 0, .bool false, .slice none 0 0, .slice none 0 0, .int .i64 0, .int .i64 0]) (t := 41) ?_; intro gb322 hg w26 hbox hb; replace HO314 := rB_ HO314 hb; replace HO317 := rB_ HO317 hb; replace HB := bS_ HB hb; have BK322 := am_ (hbox); have GW322 := am_ ((gK_ hg (qP HK))); have IGW322 := gI_ GW322; have GE322 := am_ ((Nat.le_trans HW0.out (gK_ hg (qP HK)))); have IGE322 := gI_ GE322; replace HK := kL_ HK hb; have NB307_322 := am_ ((gN_ hg (qK BK307))); have NB322_307 := am_ ((gM_ hg (qK BK307))); replace BK307 := bK_ BK307 hb; have NB0_322 := am_ ((nG_ hg (IsS128.lt (IsS128.q HI0)))); have INB0_322 := nI_ NB0_322; have NB322_0 := am_ (((nG_ hg (IsS128.lt (IsS128.q HI0))).symm)); replace HI0 := am_ (IsS128.below (IsS128.q HI0) hb); clear hb hbox hg; have hnb27 := NB322_307.out; have hnc27 := NB307_322.out; have hnb28 := NB322_0.out; have hnc28 := NB0_322.out; (try clear zK322); have zK322 := cz8 BK322.out; (try clear fK322); have fK322 := fz8 BK322.out; obtain ⟨Ao30, co30, eo30⟩ := Kd.R_slice HO314.out; subst eo30; obtain ⟨Ao31, co31, eo31⟩ := Kd.R_slice HO317.out; subst eo31) | ((with_reducible refine gate_callee (f := 61) rfl ?_); refine gl_ (some 7) Try.func61 #[.pointer (some ⟨g, 0, none⟩), .int .i64 16] ?_; (with_reducible refine (spec_l1Below.calls g s0_0 t320 t321 16 t323 t324 t325 w0 _ ?side1 ?side2 A3.out).mono ?_); (case side1 => exact IsS128.q HI0); (case side2 => exact qB HB); rintro e w32 ⟨rfl, hi, hb, hk⟩; refine ⟨_, rfl, ?_⟩; replace BK307 := am_ (KeepBut.blk hk (g' := gb307) (o := .cells #[.int .i64 0, .int .i64 0, .int .i64 0, .bool false, .slice none 0 0, .slice none 0 0, .int .i64 0, .int .i64 0] 41 (0, 0)) (by (with_reducible repeat (first | refine blk_drewN ?_ _ | refine blk_drew ?_ | refine blk_alloc ?_ _)); refine blk_far8 ?_ NB307_322.out; exact qK BK307) NB307_0.out (by simp)); replace HO314 := am_ (Kd.R_mono (Kd.R_keep (IsS128.apart (show IsS128 w0 _ g s0_0 t320 t321 from IsS128.q HI0) (fR2_ HO314 BK322) (by decide)) hk (fun _ h => h.2)) (fun _ h => h.1)); replace HO317 := am_ (Kd.R_mono (Kd.R_keep (IsS128.apart (show IsS128 w0 _ g s0_0 t320 t321 from IsS128.q HI0) (fR2_ HO317 BK322) (by decide)) hk (fun _ h => h.2)) (fun _ h => h.1)); replace BK322 := am_ (KeepBut.blk hk (g' := gb322) (o := .cells #[.int .i64 t308, .int .i64 t309, .int .i64 t310, .bool t311, .slice Ao30 t312.length co30, .slice Ao31 t315.length co31, .int .i64 t318, .int .i64 t319] 41 (0, 0)) (by exact blk_all8 (qK BK322)) NB322_0.out (by simp)); replace HK := kT_ HK hk; replace HB := am_ (hb); replace HI0 := am_ (hi); (try clear hb); (try clear hk); (try clear hi)) | ((with_reducible refine gate_dst (N := 17) rfl ?_); refine Kd.R_lit (Kd.int .i64) _ 3 ?hg (N := 17) ?hd (xs := ([0, 1, 2, 3] : List Int)) (inner := [.int .i64 0, .int .i64 1, .int .i64 2, .int .i64 3]) (ok := fun _ => True) (okp := fun _ => True) ?hr ?hp (fun _ hk => hk) trivial (Below.refl _ _) (Nat.le_refl _) (by simp) ?_; (case hd => rfl); (case hg => rfl); (case hr => first | (go_simp; done) | (go_simp; rfl)); (case hp => exact (Reps.one (show Kd.M (Kd.int .i64) _ _ _ 0 [.int .i64 0] from rfl) (Reps.one (show Kd.M (Kd.int .i64) _ _ _ 1 [.int .i64 1] from rfl) (Reps.one (show Kd.M (Kd.int .i64) _ _ _ 2 [.int .i64 2] from rfl) (Reps.one (show Kd.M (Kd.int .i64) _ _ _ 3 [.int .i64 3] from rfl) (Reps.none _ _)))))); intro v333 w33 ho34 hb hg_ hnew_; clear hg_ hnew_; (first | rw [← Ny332.out] at ho34 | (simp only [Int.reduceToNat] at ho34; rw [← Ny332.out] at ho34)); replace HO314 := rB_ HO314 hb; replace HO317 := rB_ HO317 hb; have HO334 := am_ (Kd.R_lower ho34 (keep_size (w := w) (g := g) (row := none) (qP HK))); replace BK307 := bK_ BK307 hb; replace BK322 := bK_ BK322 hb; replace HK := kL_ HK hb; replace HB := bS_ HB hb; replace HI0 := am_ (IsS128.below (IsS128.q HI0) hb); clear hb ho34; obtain ⟨Ao35, co35, eo35⟩ := Kd.R_slice HO334.out; subst eo35) | ((with_reducible refine gate_callee (f := 62) rfl ?_); refine gl_ (some 18) Try.func62 #[.pointer (some ⟨g, 0, none⟩), .slice Ao35 y332.length co35] ?_; (with_reducible refine (spec_l1Int.calls g s0_0 t324 t325 _ _ y332 t335 t336 t337 w0 _ ?side1 ?side2 ?side3 ?side4 ?side5 A23.out).mono ?_); (case side1 => exact IsS128.q HI0); (case side2 => exact qB HB); (case side3 => exact qC ((Kd.R_reads' HO334.out).2.2)); (case side4 => exact (Kd.R_reads' HO334.out).2.1); (case side5 => exact far_slice (IsS128.own_ne HI0.out HO334.out (by decide))); rintro e w36 ⟨rfl, hi, hb, hk⟩; refine ⟨_, rfl, ?_⟩; replace BK307 := kB_ BK307 hk NB307_0; replace HO314 := am_ (Kd.R_mono (Kd.R_keep (IsS128.apart (show IsS128 w0 _ g s0_0 t324 t325 from IsS128.q HI0) (qR HO314) (by decide)) hk (fun _ h => h.2)) (fun _ h => h.1)); replace HO317 := am_ (Kd.R_mono (Kd.R_keep (IsS128.apart (show IsS128 w0 _ g s0_0 t324 t325 from IsS128.q HI0) (qR HO317) (by decide)) hk (fun _ h => h.2)) (fun _ h => h.1)); replace BK322 := kB_ BK322 hk NB322_0; replace HO334 := am_ (Kd.R_mono (Kd.R_keep (IsS128.apart (show IsS128 w0 _ g s0_0 t324 t325 from IsS128.q HI0) (qR HO334) (by decide)) hk (fun _ h => h.2)) (fun _ h => h.1)); replace HK := kT_ HK hk; replace HB := am_ (hb); replace HI0 := am_ (hi); (try clear hb); (try clear hk); (try clear hi); (try clear zK322); have zK322 := cz8 BK322.out; (try clear fK322); have fK322 := fz8 BK322.out; have hnb38 := NB307_0.out; have hnc38 := NB0_307.out; (try clear zK307); have zK307 := cz8 BK307.out; (try clear fK307); have fK307 := fz8 BK307.out))
  refine bodyPost_ret (results_cell_row rfl _ _ gb307 41 #[.int .i64 t308, .int .i64 t335, .int .i64 t310, .bool t311, .slice Ao30 t312.length co30, .slice Ao31 t315.length co31, .int .i64 t318, .int .i64 t319] (0, 0) _ rfl (by exact blk_all8 (blk_far1 (qK BK307) NB307_322.out)) Try.underlying41 rfl (by kernel_rfl)) rfl ?_
  exact ⟨_, _, er_, by (with_reducible repeat (first | apply Kd.R_alloc | apply Kd.R_drewN | apply Kd.R_drew)); exact Kd.R_mono (R_far8 (g := gb307) (Kd.R_far (p := ⟨gb322, 1, none⟩) (Kd.R_types (Kd.R_types HO314.out BK322.out (by decide)) BK307.out (by decide)) (fun _ hk => hk.1.2) (.int .i64 t335)) (fun _ hk => hk.2)) (fun _ hk => hk.1.1), by (with_reducible repeat (first | apply Kd.R_alloc | apply Kd.R_drewN | apply Kd.R_drew)); exact Kd.R_mono (R_far8 (g := gb307) (Kd.R_far (p := ⟨gb322, 1, none⟩) (Kd.R_types (Kd.R_types HO317.out BK322.out (by decide)) BK307.out (by decide)) (fun _ hk => hk.1.2) (.int .i64 t335)) (fun _ hk => hk.2)) (fun _ hk => hk.1.1), IsS128.q HI0, qB HB, qP HK⟩
 rw [if_neg c22] at H
 have c22b0 : (t323 == 1) = false := beq_eq_false_iff_ne.mpr c22
 have c22b1 : (t323 != 1) = true := bne_iff_ne.mpr c22
 by_cases c40 : t323 = 2
 ·
  rw [if_pos c40] at H
  have c40b0 : (t323 == 2) = true := beq_iff_eq.mpr c40
  have c40b1 : (t323 != 2) = false := bne_eq_false_iff_eq.mpr c40
  clear c40
  obtain ⟨y338, hy338⟩ : ∃ y_ : List Int, y_ = (([0, 4] : List Int)) := ⟨_, rfl⟩
  rw [← hy338] at H
  have Ny338 := Aside0.mk hy338
  clear hy338
  replace H := bf_ H
  obtain ⟨f_, hf_, ⟨t341, t342, t343⟩, A41, H⟩ := H
  subst hf_
  (try dsimp only at H)
  simp only [Option.some.injEq, Prod.mk.injEq] at H
  obtain ⟨rfl, rfl, rfl, rfl, rfl, rfl, rfl, rfl, rfl, rfl⟩ := H
  go_enter Try.func90, Try.ntmps90
  go_wp2_with (first | ((with_reducible refine gate_dst (N := 2) rfl ?_); refine bx_ (N := 2) (cs := #[.int .i64 0, .int .i64 0, .int .i64 0, .bool false, .slice none 0 0, .slice none 0 0, .int .i64 0, .int .i64 0]) (t := 41) ?_; intro gb307 hg w42 hbox hb; replace HB := bS_ HB hb; have BK307 := am_ (hbox); have GW307 := am_ ((gK_ hg (qP HK))); have IGW307 := gI_ GW307; have GE307 := am_ ((Nat.le_trans HW0.out (gK_ hg (qP HK)))); have IGE307 := gI_ GE307; replace HK := kL_ HK hb; have NB0_307 := am_ ((nG_ hg (IsS128.lt (IsS128.q HI0)))); have INB0_307 := nI_ NB0_307; have NB307_0 := am_ (((nG_ hg (IsS128.lt (IsS128.q HI0))).symm)); replace HI0 := am_ (IsS128.below (IsS128.q HI0) hb); clear hb hbox hg) | ((with_reducible refine gate_callee (f := 122) rfl ?_); refine gl_ (some 5) Try.func122 #[.pointer (some ⟨g, 0, none⟩)] ?_; (with_reducible refine (spec_l8Draw.calls k g s0_0 s0_1 s0_2 t308 t309 t310 t311 t312 t315 t318 t319 t320 t321 w0 _ ?side1 ?side2 A2.out).mono ?_); (case side1 => exact IsS128.q HI0); (case side2 => exact qB HB); rintro e w43 ⟨v313, v316, rfl, ho0, ho1, hi, hb, hk⟩; refine ⟨_, rfl, ?_⟩; replace BK307 := kB_ BK307 hk NB307_0; have HO314 := am_ (Kd.R_lower ho0 (keep_size (w := w) (g := g) (row := none) (qP HK))); have HO317 := am_ (Kd.R_lower ho1 (keep_size (w := w) (g := g) (row := none) (qP HK))); replace HK := kT_ HK hk; replace HB := am_ (hb); replace HI0 := am_ (hi); (try clear hb); (try clear hk); (try clear hi); (try clear ho0); (try clear ho1)) | ((with_reducible refine gate_dst (N := 3) rfl ?_); refine bx_ (N := 3) (cs := #[.int .i64 0, .int .i64 0, .int .i64 0, .bool false, .slice none 0 0, .slice none 0 0, .int .i64 0, .int .i64 0]) (t := 41) ?_; intro gb322 hg w44 hbox hb; replace HO314 := rB_ HO314 hb; replace HO317 := rB_ HO317 hb; replace HB := bS_ HB hb; have BK322 := am_ (hbox); have GW322 := am_ ((gK_ hg (qP HK))); have IGW322 := gI_ GW322; have GE322 := am_ ((Nat.le_trans HW0.out (gK_ hg (qP HK)))); have IGE322 := gI_ GE322; replace HK := kL_ HK hb; have NB307_322 := am_ ((gN_ hg (qK BK307))); have NB322_307 := am_ ((gM_ hg (qK BK307))); replace BK307 := bK_ BK307 hb; have NB0_322 := am_ ((nG_ hg (IsS128.lt (IsS128.q HI0)))); have INB0_322 := nI_ NB0_322; have NB322_0 := am_ (((nG_ hg (IsS128.lt (IsS128.q HI0))).symm)); replace HI0 := am_ (IsS128.below (IsS128.q HI0) hb); clear hb hbox hg; have hnb45 := NB322_307.out; have hnc45 := NB307_322.out; have hnb46 := NB322_0.out; have hnc46 := NB0_322.out; (try clear zK322); have zK322 := cz8 BK322.out; (try clear fK322); have fK322 := fz8 BK322.out; obtain ⟨Ao48, co48, eo48⟩ := Kd.R_slice HO314.out; subst eo48; obtain ⟨Ao49, co49, eo49⟩ := Kd.R_slice HO317.out; subst eo49) | ((with_reducible refine gate_callee (f := 61) rfl ?_); refine gl_ (some 7) Try.func61 #[.pointer (some ⟨g, 0, none⟩), .int .i64 16] ?_; (with_reducible refine (spec_l1Below.calls g s0_0 t320 t321 16 t323 t324 t325 w0 _ ?side1 ?side2 A3.out).mono ?_); (case side1 => exact IsS128.q HI0); (case side2 => exact qB HB); rintro e w50 ⟨rfl, hi, hb, hk⟩; refine ⟨_, rfl, ?_⟩; replace BK307 := am_ (KeepBut.blk hk (g' := gb307) (o := .cells #[.int .i64 0, .int .i64 0, .int .i64 0, .bool false, .slice none 0 0, .slice none 0 0, .int .i64 0, .int .i64 0] 41 (0, 0)) (by (with_reducible repeat (first | refine blk_drewN ?_ _ | refine blk_drew ?_ | refine blk_alloc ?_ _)); refine blk_far8 ?_ NB307_322.out; exact qK BK307) NB307_0.out (by simp)); replace HO314 := am_ (Kd.R_mono (Kd.R_keep (IsS128.apart (show IsS128 w0 _ g s0_0 t320 t321 from IsS128.q HI0) (fR2_ HO314 BK322) (by decide)) hk (fun _ h => h.2)) (fun _ h => h.1)); replace HO317 := am_ (Kd.R_mono (Kd.R_keep (IsS128.apart (show IsS128 w0 _ g s0_0 t320 t321 from IsS128.q HI0) (fR2_ HO317 BK322) (by decide)) hk (fun _ h => h.2)) (fun _ h => h.1)); replace BK322 := am_ (KeepBut.blk hk (g' := gb322) (o := .cells #[.int .i64 t308, .int .i64 t309, .int .i64 t310, .bool t311, .slice Ao48 t312.length co48, .slice Ao49 t315.length co49, .int .i64 t318, .int .i64 t319] 41 (0, 0)) (by exact blk_all8 (qK BK322)) NB322_0.out (by simp)); replace HK := kT_ HK hk; replace HB := am_ (hb); replace HI0 := am_ (hi); (try clear hb); (try clear hk); (try clear hi)) | ((with_reducible refine gate_dst (N := 23) rfl ?_); refine Kd.R_lit (Kd.int .i64) _ 3 ?hg (N := 23) ?hd (xs := ([0, 4] : List Int)) (inner := [.int .i64 0, .int .i64 4]) (ok := fun _ => True) (okp := fun _ => True) ?hr ?hp (fun _ hk => hk) trivial (Below.refl _ _) (Nat.le_refl _) (by simp) ?_; (case hd => rfl); (case hg => rfl); (case hr => first | (go_simp; done) | (go_simp; rfl)); (case hp => exact (Reps.one (show Kd.M (Kd.int .i64) _ _ _ 0 [.int .i64 0] from rfl) (Reps.one (show Kd.M (Kd.int .i64) _ _ _ 4 [.int .i64 4] from rfl) (Reps.none _ _)))); intro v339 w51 ho52 hb hg_ hnew_; clear hg_ hnew_; (first | rw [← Ny338.out] at ho52 | (simp only [Int.reduceToNat] at ho52; rw [← Ny338.out] at ho52)); replace HO314 := rB_ HO314 hb; replace HO317 := rB_ HO317 hb; have HO340 := am_ (Kd.R_lower ho52 (keep_size (w := w) (g := g) (row := none) (qP HK))); replace BK307 := bK_ BK307 hb; replace BK322 := bK_ BK322 hb; replace HK := kL_ HK hb; replace HB := bS_ HB hb; replace HI0 := am_ (IsS128.below (IsS128.q HI0) hb); clear hb ho52; obtain ⟨Ao53, co53, eo53⟩ := Kd.R_slice HO340.out; subst eo53) | ((with_reducible refine gate_callee (f := 62) rfl ?_); refine gl_ (some 24) Try.func62 #[.pointer (some ⟨g, 0, none⟩), .slice Ao53 y338.length co53] ?_; (with_reducible refine (spec_l1Int.calls g s0_0 t324 t325 _ _ y338 t341 t342 t343 w0 _ ?side1 ?side2 ?side3 ?side4 ?side5 A41.out).mono ?_); (case side1 => exact IsS128.q HI0); (case side2 => exact qB HB); (case side3 => exact qC ((Kd.R_reads' HO340.out).2.2)); (case side4 => exact (Kd.R_reads' HO340.out).2.1); (case side5 => exact far_slice (IsS128.own_ne HI0.out HO340.out (by decide))); rintro e w54 ⟨rfl, hi, hb, hk⟩; refine ⟨_, rfl, ?_⟩; replace BK307 := kB_ BK307 hk NB307_0; replace HO314 := am_ (Kd.R_mono (Kd.R_keep (IsS128.apart (show IsS128 w0 _ g s0_0 t324 t325 from IsS128.q HI0) (qR HO314) (by decide)) hk (fun _ h => h.2)) (fun _ h => h.1)); replace HO317 := am_ (Kd.R_mono (Kd.R_keep (IsS128.apart (show IsS128 w0 _ g s0_0 t324 t325 from IsS128.q HI0) (qR HO317) (by decide)) hk (fun _ h => h.2)) (fun _ h => h.1)); replace BK322 := kB_ BK322 hk NB322_0; replace HO340 := am_ (Kd.R_mono (Kd.R_keep (IsS128.apart (show IsS128 w0 _ g s0_0 t324 t325 from IsS128.q HI0) (qR HO340) (by decide)) hk (fun _ h => h.2)) (fun _ h => h.1)); replace HK := kT_ HK hk; replace HB := am_ (hb); replace HI0 := am_ (hi); (try clear hb); (try clear hk); (try clear hi); (try clear zK322); have zK322 := cz8 BK322.out; (try clear fK322); have fK322 := fz8 BK322.out; have hnb56 := NB307_0.out; have hnc56 := NB0_307.out; (try clear zK307); have zK307 := cz8 BK307.out; (try clear fK307); have fK307 := fz8 BK307.out))
  refine bodyPost_ret (results_cell_row rfl _ _ gb307 41 #[.int .i64 t308, .int .i64 t309, .int .i64 t341, .bool t311, .slice Ao48 t312.length co48, .slice Ao49 t315.length co49, .int .i64 t318, .int .i64 t319] (0, 0) _ rfl (by exact blk_all8 (blk_far1 (qK BK307) NB307_322.out)) Try.underlying41 rfl (by kernel_rfl)) rfl ?_
  exact ⟨_, _, er_, by (with_reducible repeat (first | apply Kd.R_alloc | apply Kd.R_drewN | apply Kd.R_drew)); exact Kd.R_mono (R_far8 (g := gb307) (Kd.R_far (p := ⟨gb322, 2, none⟩) (Kd.R_types (Kd.R_types HO314.out BK322.out (by decide)) BK307.out (by decide)) (fun _ hk => hk.1.2) (.int .i64 t341)) (fun _ hk => hk.2)) (fun _ hk => hk.1.1), by (with_reducible repeat (first | apply Kd.R_alloc | apply Kd.R_drewN | apply Kd.R_drew)); exact Kd.R_mono (R_far8 (g := gb307) (Kd.R_far (p := ⟨gb322, 2, none⟩) (Kd.R_types (Kd.R_types HO317.out BK322.out (by decide)) BK307.out (by decide)) (fun _ hk => hk.1.2) (.int .i64 t341)) (fun _ hk => hk.2)) (fun _ hk => hk.1.1), IsS128.q HI0, qB HB, qP HK⟩
 rw [if_neg c40] at H
 have c40b0 : (t323 == 2) = false := beq_eq_false_iff_ne.mpr c40
 have c40b1 : (t323 != 2) = true := bne_iff_ne.mpr c40
 by_cases c58 : t323 = 3
 ·
  rw [if_pos c58] at H
  have c58b0 : (t323 == 3) = true := beq_iff_eq.mpr c58
  have c58b1 : (t323 != 3) = false := bne_eq_false_iff_eq.mpr c58
  clear c58
  obtain ⟨y344, hy344⟩ : ∃ y_ : List Int, y_ = (([(-1), 1, 3] : List Int)) := ⟨_, rfl⟩
  rw [← hy344] at H
  have Ny344 := Aside0.mk hy344
  clear hy344
  replace H := bf_ H
  obtain ⟨f_, hf_, ⟨t347, t348, t349⟩, A59, H⟩ := H
  subst hf_
  (try dsimp only at H)
  simp only [Option.some.injEq, Prod.mk.injEq] at H
  obtain ⟨rfl, rfl, rfl, rfl, rfl, rfl, rfl, rfl, rfl, rfl⟩ := H
  go_enter Try.func90, Try.ntmps90
  go_wp2_with (first | ((with_reducible refine gate_dst (N := 2) rfl ?_); refine bx_ (N := 2) (cs := #[.int .i64 0, .int .i64 0, .int .i64 0, .bool false, .slice none 0 0, .slice none 0 0, .int .i64 0, .int .i64 0]) (t := 41) ?_; intro gb307 hg w60 hbox hb; replace HB := bS_ HB hb; have BK307 := am_ (hbox); have GW307 := am_ ((gK_ hg (qP HK))); have IGW307 := gI_ GW307; have GE307 := am_ ((Nat.le_trans HW0.out (gK_ hg (qP HK)))); have IGE307 := gI_ GE307; replace HK := kL_ HK hb; have NB0_307 := am_ ((nG_ hg (IsS128.lt (IsS128.q HI0)))); have INB0_307 := nI_ NB0_307; have NB307_0 := am_ (((nG_ hg (IsS128.lt (IsS128.q HI0))).symm)); replace HI0 := am_ (IsS128.below (IsS128.q HI0) hb); clear hb hbox hg) | ((with_reducible refine gate_callee (f := 122) rfl ?_); refine gl_ (some 5) Try.func122 #[.pointer (some ⟨g, 0, none⟩)] ?_; (with_reducible refine (spec_l8Draw.calls k g s0_0 s0_1 s0_2 t308 t309 t310 t311 t312 t315 t318 t319 t320 t321 w0 _ ?side1 ?side2 A2.out).mono ?_); (case side1 => exact IsS128.q HI0); (case side2 => exact qB HB); rintro e w61 ⟨v313, v316, rfl, ho0, ho1, hi, hb, hk⟩; refine ⟨_, rfl, ?_⟩; replace BK307 := kB_ BK307 hk NB307_0; have HO314 := am_ (Kd.R_lower ho0 (keep_size (w := w) (g := g) (row := none) (qP HK))); have HO317 := am_ (Kd.R_lower ho1 (keep_size (w := w) (g := g) (row := none) (qP HK))); replace HK := kT_ HK hk; replace HB := am_ (hb); replace HI0 := am_ (hi); (try clear hb); (try clear hk); (try clear hi); (try clear ho0); (try clear ho1)) | ((with_reducible refine gate_dst (N := 3) rfl ?_); refine bx_ (N := 3) (cs := #[.int .i64 0, .int .i64 0, .int .i64 0, .bool false, .slice none 0 0, .slice none 0 0, .int .i64 0, .int .i64 0]) (t := 41) ?_; intro gb322 hg w62 hbox hb; replace HO314 := rB_ HO314 hb; replace HO317 := rB_ HO317 hb; replace HB := bS_ HB hb; have BK322 := am_ (hbox); have GW322 := am_ ((gK_ hg (qP HK))); have IGW322 := gI_ GW322; have GE322 := am_ ((Nat.le_trans HW0.out (gK_ hg (qP HK)))); have IGE322 := gI_ GE322; replace HK := kL_ HK hb; have NB307_322 := am_ ((gN_ hg (qK BK307))); have NB322_307 := am_ ((gM_ hg (qK BK307))); replace BK307 := bK_ BK307 hb; have NB0_322 := am_ ((nG_ hg (IsS128.lt (IsS128.q HI0)))); have INB0_322 := nI_ NB0_322; have NB322_0 := am_ (((nG_ hg (IsS128.lt (IsS128.q HI0))).symm)); replace HI0 := am_ (IsS128.below (IsS128.q HI0) hb); clear hb hbox hg; have hnb63 := NB322_307.out; have hnc63 := NB307_322.out; have hnb64 := NB322_0.out; have hnc64 := NB0_322.out; (try clear zK322); have zK322 := cz8 BK322.out; (try clear fK322); have fK322 := fz8 BK322.out; obtain ⟨Ao66, co66, eo66⟩ := Kd.R_slice HO314.out; subst eo66; obtain ⟨Ao67, co67, eo67⟩ := Kd.R_slice HO317.out; subst eo67) | ((with_reducible refine gate_callee (f := 61) rfl ?_); refine gl_ (some 7) Try.func61 #[.pointer (some ⟨g, 0, none⟩), .int .i64 16] ?_; (with_reducible refine (spec_l1Below.calls g s0_0 t320 t321 16 t323 t324 t325 w0 _ ?side1 ?side2 A3.out).mono ?_); (case side1 => exact IsS128.q HI0); (case side2 => exact qB HB); rintro e w68 ⟨rfl, hi, hb, hk⟩; refine ⟨_, rfl, ?_⟩; replace BK307 := am_ (KeepBut.blk hk (g' := gb307) (o := .cells #[.int .i64 0, .int .i64 0, .int .i64 0, .bool false, .slice none 0 0, .slice none 0 0, .int .i64 0, .int .i64 0] 41 (0, 0)) (by (with_reducible repeat (first | refine blk_drewN ?_ _ | refine blk_drew ?_ | refine blk_alloc ?_ _)); refine blk_far8 ?_ NB307_322.out; exact qK BK307) NB307_0.out (by simp)); replace HO314 := am_ (Kd.R_mono (Kd.R_keep (IsS128.apart (show IsS128 w0 _ g s0_0 t320 t321 from IsS128.q HI0) (fR2_ HO314 BK322) (by decide)) hk (fun _ h => h.2)) (fun _ h => h.1)); replace HO317 := am_ (Kd.R_mono (Kd.R_keep (IsS128.apart (show IsS128 w0 _ g s0_0 t320 t321 from IsS128.q HI0) (fR2_ HO317 BK322) (by decide)) hk (fun _ h => h.2)) (fun _ h => h.1)); replace BK322 := am_ (KeepBut.blk hk (g' := gb322) (o := .cells #[.int .i64 t308, .int .i64 t309, .int .i64 t310, .bool t311, .slice Ao66 t312.length co66, .slice Ao67 t315.length co67, .int .i64 t318, .int .i64 t319] 41 (0, 0)) (by exact blk_all8 (qK BK322)) NB322_0.out (by simp)); replace HK := kT_ HK hk; replace HB := am_ (hb); replace HI0 := am_ (hi); (try clear hb); (try clear hk); (try clear hi)) | ((with_reducible refine gate_dst (N := 29) rfl ?_); refine Kd.R_lit (Kd.int .i64) _ 3 ?hg (N := 29) ?hd (xs := ([(-1), 1, 3] : List Int)) (inner := [.int .i64 (-1), .int .i64 1, .int .i64 3]) (ok := fun _ => True) (okp := fun _ => True) ?hr ?hp (fun _ hk => hk) trivial (Below.refl _ _) (Nat.le_refl _) (by simp) ?_; (case hd => rfl); (case hg => rfl); (case hr => first | (go_simp; done) | (go_simp; rfl)); (case hp => exact (Reps.one (show Kd.M (Kd.int .i64) _ _ _ (-1) [.int .i64 (-1)] from rfl) (Reps.one (show Kd.M (Kd.int .i64) _ _ _ 1 [.int .i64 1] from rfl) (Reps.one (show Kd.M (Kd.int .i64) _ _ _ 3 [.int .i64 3] from rfl) (Reps.none _ _))))); intro v345 w69 ho70 hb hg_ hnew_; clear hg_ hnew_; (first | rw [← Ny344.out] at ho70 | (simp only [Int.reduceToNat] at ho70; rw [← Ny344.out] at ho70)); replace HO314 := rB_ HO314 hb; replace HO317 := rB_ HO317 hb; have HO346 := am_ (Kd.R_lower ho70 (keep_size (w := w) (g := g) (row := none) (qP HK))); replace BK307 := bK_ BK307 hb; replace BK322 := bK_ BK322 hb; replace HK := kL_ HK hb; replace HB := bS_ HB hb; replace HI0 := am_ (IsS128.below (IsS128.q HI0) hb); clear hb ho70; obtain ⟨Ao71, co71, eo71⟩ := Kd.R_slice HO346.out; subst eo71) | ((with_reducible refine gate_callee (f := 62) rfl ?_); refine gl_ (some 30) Try.func62 #[.pointer (some ⟨g, 0, none⟩), .slice Ao71 y344.length co71] ?_; (with_reducible refine (spec_l1Int.calls g s0_0 t324 t325 _ _ y344 t347 t348 t349 w0 _ ?side1 ?side2 ?side3 ?side4 ?side5 A59.out).mono ?_); (case side1 => exact IsS128.q HI0); (case side2 => exact qB HB); (case side3 => exact qC ((Kd.R_reads' HO346.out).2.2)); (case side4 => exact (Kd.R_reads' HO346.out).2.1); (case side5 => exact far_slice (IsS128.own_ne HI0.out HO346.out (by decide))); rintro e w72 ⟨rfl, hi, hb, hk⟩; refine ⟨_, rfl, ?_⟩; replace BK307 := kB_ BK307 hk NB307_0; replace HO314 := am_ (Kd.R_mono (Kd.R_keep (IsS128.apart (show IsS128 w0 _ g s0_0 t324 t325 from IsS128.q HI0) (qR HO314) (by decide)) hk (fun _ h => h.2)) (fun _ h => h.1)); replace HO317 := am_ (Kd.R_mono (Kd.R_keep (IsS128.apart (show IsS128 w0 _ g s0_0 t324 t325 from IsS128.q HI0) (qR HO317) (by decide)) hk (fun _ h => h.2)) (fun _ h => h.1)); replace BK322 := kB_ BK322 hk NB322_0; replace HO346 := am_ (Kd.R_mono (Kd.R_keep (IsS128.apart (show IsS128 w0 _ g s0_0 t324 t325 from IsS128.q HI0) (qR HO346) (by decide)) hk (fun _ h => h.2)) (fun _ h => h.1)); replace HK := kT_ HK hk; replace HB := am_ (hb); replace HI0 := am_ (hi); (try clear hb); (try clear hk); (try clear hi); (try clear zK322); have zK322 := cz8 BK322.out; (try clear fK322); have fK322 := fz8 BK322.out; have hnb74 := NB307_0.out; have hnc74 := NB0_307.out; (try clear zK307); have zK307 := cz8 BK307.out; (try clear fK307); have fK307 := fz8 BK307.out))
  refine bodyPost_ret (results_cell_row rfl _ _ gb307 41 #[.int .i64 t308, .int .i64 t309, .int .i64 t310, .bool t311, .slice Ao66 t312.length co66, .slice Ao67 t315.length co67, .int .i64 t347, .int .i64 t319] (0, 0) _ rfl (by exact blk_all8 (blk_far1 (qK BK307) NB307_322.out)) Try.underlying41 rfl (by kernel_rfl)) rfl ?_
  exact ⟨_, _, er_, by (with_reducible repeat (first | apply Kd.R_alloc | apply Kd.R_drewN | apply Kd.R_drew)); exact Kd.R_mono (R_far8 (g := gb307) (Kd.R_far (p := ⟨gb322, 6, none⟩) (Kd.R_types (Kd.R_types HO314.out BK322.out (by decide)) BK307.out (by decide)) (fun _ hk => hk.1.2) (.int .i64 t347)) (fun _ hk => hk.2)) (fun _ hk => hk.1.1), by (with_reducible repeat (first | apply Kd.R_alloc | apply Kd.R_drewN | apply Kd.R_drew)); exact Kd.R_mono (R_far8 (g := gb307) (Kd.R_far (p := ⟨gb322, 6, none⟩) (Kd.R_types (Kd.R_types HO317.out BK322.out (by decide)) BK307.out (by decide)) (fun _ hk => hk.1.2) (.int .i64 t347)) (fun _ hk => hk.2)) (fun _ hk => hk.1.1), IsS128.q HI0, qB HB, qP HK⟩
 rw [if_neg c58] at H
 have c58b0 : (t323 == 3) = false := beq_eq_false_iff_ne.mpr c58
 have c58b1 : (t323 != 3) = true := bne_iff_ne.mpr c58
 by_cases c76 : t323 = 4
 ·
  rw [if_pos c76] at H
  have c76b0 : (t323 == 4) = true := beq_iff_eq.mpr c76
  have c76b1 : (t323 != 4) = false := bne_eq_false_iff_eq.mpr c76
  clear c76
  obtain ⟨y350, hy350⟩ : ∃ y_ : List Int, y_ = (([(-1), 1, 900] : List Int)) := ⟨_, rfl⟩
  rw [← hy350] at H
  have Ny350 := Aside0.mk hy350
  clear hy350
  replace H := bf_ H
  obtain ⟨f_, hf_, ⟨t353, t354, t355⟩, A77, H⟩ := H
  subst hf_
  (try dsimp only at H)
  simp only [Option.some.injEq, Prod.mk.injEq] at H
  obtain ⟨rfl, rfl, rfl, rfl, rfl, rfl, rfl, rfl, rfl, rfl⟩ := H
  go_enter Try.func90, Try.ntmps90
  go_wp2_with (first | ((with_reducible refine gate_dst (N := 2) rfl ?_); refine bx_ (N := 2) (cs := #[.int .i64 0, .int .i64 0, .int .i64 0, .bool false, .slice none 0 0, .slice none 0 0, .int .i64 0, .int .i64 0]) (t := 41) ?_; intro gb307 hg w78 hbox hb; replace HB := bS_ HB hb; have BK307 := am_ (hbox); have GW307 := am_ ((gK_ hg (qP HK))); have IGW307 := gI_ GW307; have GE307 := am_ ((Nat.le_trans HW0.out (gK_ hg (qP HK)))); have IGE307 := gI_ GE307; replace HK := kL_ HK hb; have NB0_307 := am_ ((nG_ hg (IsS128.lt (IsS128.q HI0)))); have INB0_307 := nI_ NB0_307; have NB307_0 := am_ (((nG_ hg (IsS128.lt (IsS128.q HI0))).symm)); replace HI0 := am_ (IsS128.below (IsS128.q HI0) hb); clear hb hbox hg) | ((with_reducible refine gate_callee (f := 122) rfl ?_); refine gl_ (some 5) Try.func122 #[.pointer (some ⟨g, 0, none⟩)] ?_; (with_reducible refine (spec_l8Draw.calls k g s0_0 s0_1 s0_2 t308 t309 t310 t311 t312 t315 t318 t319 t320 t321 w0 _ ?side1 ?side2 A2.out).mono ?_); (case side1 => exact IsS128.q HI0); (case side2 => exact qB HB); rintro e w79 ⟨v313, v316, rfl, ho0, ho1, hi, hb, hk⟩; refine ⟨_, rfl, ?_⟩; replace BK307 := kB_ BK307 hk NB307_0; have HO314 := am_ (Kd.R_lower ho0 (keep_size (w := w) (g := g) (row := none) (qP HK))); have HO317 := am_ (Kd.R_lower ho1 (keep_size (w := w) (g := g) (row := none) (qP HK))); replace HK := kT_ HK hk; replace HB := am_ (hb); replace HI0 := am_ (hi); (try clear hb); (try clear hk); (try clear hi); (try clear ho0); (try clear ho1)) | ((with_reducible refine gate_dst (N := 3) rfl ?_); refine bx_ (N := 3) (cs := #[.int .i64 0, .int .i64 0, .int .i64 0, .bool false, .slice none 0 0, .slice none 0 0, .int .i64 0, .int .i64 0]) (t := 41) ?_; intro gb322 hg w80 hbox hb; replace HO314 := rB_ HO314 hb; replace HO317 := rB_ HO317 hb; replace HB := bS_ HB hb; have BK322 := am_ (hbox); have GW322 := am_ ((gK_ hg (qP HK))); have IGW322 := gI_ GW322; have GE322 := am_ ((Nat.le_trans HW0.out (gK_ hg (qP HK)))); have IGE322 := gI_ GE322; replace HK := kL_ HK hb; have NB307_322 := am_ ((gN_ hg (qK BK307))); have NB322_307 := am_ ((gM_ hg (qK BK307))); replace BK307 := bK_ BK307 hb; have NB0_322 := am_ ((nG_ hg (IsS128.lt (IsS128.q HI0)))); have INB0_322 := nI_ NB0_322; have NB322_0 := am_ (((nG_ hg (IsS128.lt (IsS128.q HI0))).symm)); replace HI0 := am_ (IsS128.below (IsS128.q HI0) hb); clear hb hbox hg; have hnb81 := NB322_307.out; have hnc81 := NB307_322.out; have hnb82 := NB322_0.out; have hnc82 := NB0_322.out; (try clear zK322); have zK322 := cz8 BK322.out; (try clear fK322); have fK322 := fz8 BK322.out; obtain ⟨Ao84, co84, eo84⟩ := Kd.R_slice HO314.out; subst eo84; obtain ⟨Ao85, co85, eo85⟩ := Kd.R_slice HO317.out; subst eo85) | ((with_reducible refine gate_callee (f := 61) rfl ?_); refine gl_ (some 7) Try.func61 #[.pointer (some ⟨g, 0, none⟩), .int .i64 16] ?_; (with_reducible refine (spec_l1Below.calls g s0_0 t320 t321 16 t323 t324 t325 w0 _ ?side1 ?side2 A3.out).mono ?_); (case side1 => exact IsS128.q HI0); (case side2 => exact qB HB); rintro e w86 ⟨rfl, hi, hb, hk⟩; refine ⟨_, rfl, ?_⟩; replace BK307 := am_ (KeepBut.blk hk (g' := gb307) (o := .cells #[.int .i64 0, .int .i64 0, .int .i64 0, .bool false, .slice none 0 0, .slice none 0 0, .int .i64 0, .int .i64 0] 41 (0, 0)) (by (with_reducible repeat (first | refine blk_drewN ?_ _ | refine blk_drew ?_ | refine blk_alloc ?_ _)); refine blk_far8 ?_ NB307_322.out; exact qK BK307) NB307_0.out (by simp)); replace HO314 := am_ (Kd.R_mono (Kd.R_keep (IsS128.apart (show IsS128 w0 _ g s0_0 t320 t321 from IsS128.q HI0) (fR2_ HO314 BK322) (by decide)) hk (fun _ h => h.2)) (fun _ h => h.1)); replace HO317 := am_ (Kd.R_mono (Kd.R_keep (IsS128.apart (show IsS128 w0 _ g s0_0 t320 t321 from IsS128.q HI0) (fR2_ HO317 BK322) (by decide)) hk (fun _ h => h.2)) (fun _ h => h.1)); replace BK322 := am_ (KeepBut.blk hk (g' := gb322) (o := .cells #[.int .i64 t308, .int .i64 t309, .int .i64 t310, .bool t311, .slice Ao84 t312.length co84, .slice Ao85 t315.length co85, .int .i64 t318, .int .i64 t319] 41 (0, 0)) (by exact blk_all8 (qK BK322)) NB322_0.out (by simp)); replace HK := kT_ HK hk; replace HB := am_ (hb); replace HI0 := am_ (hi); (try clear hb); (try clear hk); (try clear hi)) | ((with_reducible refine gate_dst (N := 35) rfl ?_); refine Kd.R_lit (Kd.int .i64) _ 3 ?hg (N := 35) ?hd (xs := ([(-1), 1, 900] : List Int)) (inner := [.int .i64 (-1), .int .i64 1, .int .i64 900]) (ok := fun _ => True) (okp := fun _ => True) ?hr ?hp (fun _ hk => hk) trivial (Below.refl _ _) (Nat.le_refl _) (by simp) ?_; (case hd => rfl); (case hg => rfl); (case hr => first | (go_simp; done) | (go_simp; rfl)); (case hp => exact (Reps.one (show Kd.M (Kd.int .i64) _ _ _ (-1) [.int .i64 (-1)] from rfl) (Reps.one (show Kd.M (Kd.int .i64) _ _ _ 1 [.int .i64 1] from rfl) (Reps.one (show Kd.M (Kd.int .i64) _ _ _ 900 [.int .i64 900] from rfl) (Reps.none _ _))))); intro v351 w87 ho88 hb hg_ hnew_; clear hg_ hnew_; (first | rw [← Ny350.out] at ho88 | (simp only [Int.reduceToNat] at ho88; rw [← Ny350.out] at ho88)); replace HO314 := rB_ HO314 hb; replace HO317 := rB_ HO317 hb; have HO352 := am_ (Kd.R_lower ho88 (keep_size (w := w) (g := g) (row := none) (qP HK))); replace BK307 := bK_ BK307 hb; replace BK322 := bK_ BK322 hb; replace HK := kL_ HK hb; replace HB := bS_ HB hb; replace HI0 := am_ (IsS128.below (IsS128.q HI0) hb); clear hb ho88; obtain ⟨Ao89, co89, eo89⟩ := Kd.R_slice HO352.out; subst eo89) | ((with_reducible refine gate_callee (f := 62) rfl ?_); refine gl_ (some 36) Try.func62 #[.pointer (some ⟨g, 0, none⟩), .slice Ao89 y350.length co89] ?_; (with_reducible refine (spec_l1Int.calls g s0_0 t324 t325 _ _ y350 t353 t354 t355 w0 _ ?side1 ?side2 ?side3 ?side4 ?side5 A77.out).mono ?_); (case side1 => exact IsS128.q HI0); (case side2 => exact qB HB); (case side3 => exact qC ((Kd.R_reads' HO352.out).2.2)); (case side4 => exact (Kd.R_reads' HO352.out).2.1); (case side5 => exact far_slice (IsS128.own_ne HI0.out HO352.out (by decide))); rintro e w90 ⟨rfl, hi, hb, hk⟩; refine ⟨_, rfl, ?_⟩; replace BK307 := kB_ BK307 hk NB307_0; replace HO314 := am_ (Kd.R_mono (Kd.R_keep (IsS128.apart (show IsS128 w0 _ g s0_0 t324 t325 from IsS128.q HI0) (qR HO314) (by decide)) hk (fun _ h => h.2)) (fun _ h => h.1)); replace HO317 := am_ (Kd.R_mono (Kd.R_keep (IsS128.apart (show IsS128 w0 _ g s0_0 t324 t325 from IsS128.q HI0) (qR HO317) (by decide)) hk (fun _ h => h.2)) (fun _ h => h.1)); replace BK322 := kB_ BK322 hk NB322_0; replace HO352 := am_ (Kd.R_mono (Kd.R_keep (IsS128.apart (show IsS128 w0 _ g s0_0 t324 t325 from IsS128.q HI0) (qR HO352) (by decide)) hk (fun _ h => h.2)) (fun _ h => h.1)); replace HK := kT_ HK hk; replace HB := am_ (hb); replace HI0 := am_ (hi); (try clear hb); (try clear hk); (try clear hi); (try clear zK322); have zK322 := cz8 BK322.out; (try clear fK322); have fK322 := fz8 BK322.out; have hnb92 := NB307_0.out; have hnc92 := NB0_307.out; (try clear zK307); have zK307 := cz8 BK307.out; (try clear fK307); have fK307 := fz8 BK307.out))
  refine bodyPost_ret (results_cell_row rfl _ _ gb307 41 #[.int .i64 t308, .int .i64 t309, .int .i64 t310, .bool t311, .slice Ao84 t312.length co84, .slice Ao85 t315.length co85, .int .i64 t318, .int .i64 t353] (0, 0) _ rfl (by exact blk_all8 (blk_far1 (qK BK307) NB307_322.out)) Try.underlying41 rfl (by kernel_rfl)) rfl ?_
  exact ⟨_, _, er_, by (with_reducible repeat (first | apply Kd.R_alloc | apply Kd.R_drewN | apply Kd.R_drew)); exact Kd.R_mono (R_far8 (g := gb307) (Kd.R_far (p := ⟨gb322, 7, none⟩) (Kd.R_types (Kd.R_types HO314.out BK322.out (by decide)) BK307.out (by decide)) (fun _ hk => hk.1.2) (.int .i64 t353)) (fun _ hk => hk.2)) (fun _ hk => hk.1.1), by (with_reducible repeat (first | apply Kd.R_alloc | apply Kd.R_drewN | apply Kd.R_drew)); exact Kd.R_mono (R_far8 (g := gb307) (Kd.R_far (p := ⟨gb322, 7, none⟩) (Kd.R_types (Kd.R_types HO317.out BK322.out (by decide)) BK307.out (by decide)) (fun _ hk => hk.1.2) (.int .i64 t353)) (fun _ hk => hk.2)) (fun _ hk => hk.1.1), IsS128.q HI0, qB HB, qP HK⟩
 rw [if_neg c76] at H
 have c76b0 : (t323 == 4) = false := beq_eq_false_iff_ne.mpr c76
 have c76b1 : (t323 != 4) = true := bne_iff_ne.mpr c76
 by_cases c94 : t323 = 5
 rotate_left
 ·
  rw [if_neg c94] at H
  have c94b0 : (t323 == 5) = false := beq_eq_false_iff_ne.mpr c94
  have c94b1 : (t323 != 5) = true := bne_iff_ne.mpr c94
  simp only [Option.some.injEq, Prod.mk.injEq] at H
  obtain ⟨rfl, rfl, rfl, rfl, rfl, rfl, rfl, rfl, rfl, rfl⟩ := H
  go_enter Try.func90, Try.ntmps90
  go_wp2_with (first | ((with_reducible refine gate_dst (N := 2) rfl ?_); refine bx_ (N := 2) (cs := #[.int .i64 0, .int .i64 0, .int .i64 0, .bool false, .slice none 0 0, .slice none 0 0, .int .i64 0, .int .i64 0]) (t := 41) ?_; intro gb307 hg w115 hbox hb; replace HB := bS_ HB hb; have BK307 := am_ (hbox); have GW307 := am_ ((gK_ hg (qP HK))); have IGW307 := gI_ GW307; have GE307 := am_ ((Nat.le_trans HW0.out (gK_ hg (qP HK)))); have IGE307 := gI_ GE307; replace HK := kL_ HK hb; have NB0_307 := am_ ((nG_ hg (IsS128.lt (IsS128.q HI0)))); have INB0_307 := nI_ NB0_307; have NB307_0 := am_ (((nG_ hg (IsS128.lt (IsS128.q HI0))).symm)); replace HI0 := am_ (IsS128.below (IsS128.q HI0) hb); clear hb hbox hg) | ((with_reducible refine gate_callee (f := 122) rfl ?_); refine gl_ (some 5) Try.func122 #[.pointer (some ⟨g, 0, none⟩)] ?_; (with_reducible refine (spec_l8Draw.calls k g s0_0 s0_1 s0_2 t308 t309 t310 t311 t312 t315 t318 t319 t320 t321 w0 _ ?side1 ?side2 A2.out).mono ?_); (case side1 => exact IsS128.q HI0); (case side2 => exact qB HB); rintro e w116 ⟨v313, v316, rfl, ho0, ho1, hi, hb, hk⟩; refine ⟨_, rfl, ?_⟩; replace BK307 := kB_ BK307 hk NB307_0; have HO314 := am_ (Kd.R_lower ho0 (keep_size (w := w) (g := g) (row := none) (qP HK))); have HO317 := am_ (Kd.R_lower ho1 (keep_size (w := w) (g := g) (row := none) (qP HK))); replace HK := kT_ HK hk; replace HB := am_ (hb); replace HI0 := am_ (hi); (try clear hb); (try clear hk); (try clear hi); (try clear ho0); (try clear ho1)) | ((with_reducible refine gate_dst (N := 3) rfl ?_); refine bx_ (N := 3) (cs := #[.int .i64 0, .int .i64 0, .int .i64 0, .bool false, .slice none 0 0, .slice none 0 0, .int .i64 0, .int .i64 0]) (t := 41) ?_; intro gb322 hg w117 hbox hb; replace HO314 := rB_ HO314 hb; replace HO317 := rB_ HO317 hb; replace HB := bS_ HB hb; have BK322 := am_ (hbox); have GW322 := am_ ((gK_ hg (qP HK))); have IGW322 := gI_ GW322; have GE322 := am_ ((Nat.le_trans HW0.out (gK_ hg (qP HK)))); have IGE322 := gI_ GE322; replace HK := kL_ HK hb; have NB307_322 := am_ ((gN_ hg (qK BK307))); have NB322_307 := am_ ((gM_ hg (qK BK307))); replace BK307 := bK_ BK307 hb; have NB0_322 := am_ ((nG_ hg (IsS128.lt (IsS128.q HI0)))); have INB0_322 := nI_ NB0_322; have NB322_0 := am_ (((nG_ hg (IsS128.lt (IsS128.q HI0))).symm)); replace HI0 := am_ (IsS128.below (IsS128.q HI0) hb); clear hb hbox hg; have hnb118 := NB322_307.out; have hnc118 := NB307_322.out; have hnb119 := NB322_0.out; have hnc119 := NB0_322.out; (try clear zK322); have zK322 := cz8 BK322.out; (try clear fK322); have fK322 := fz8 BK322.out; obtain ⟨Ao121, co121, eo121⟩ := Kd.R_slice HO314.out; subst eo121; obtain ⟨Ao122, co122, eo122⟩ := Kd.R_slice HO317.out; subst eo122) | ((with_reducible refine gate_callee (f := 61) rfl ?_); refine gl_ (some 7) Try.func61 #[.pointer (some ⟨g, 0, none⟩), .int .i64 16] ?_; (with_reducible refine (spec_l1Below.calls g s0_0 t320 t321 16 t323 t324 t325 w0 _ ?side1 ?side2 A3.out).mono ?_); (case side1 => exact IsS128.q HI0); (case side2 => exact qB HB); rintro e w123 ⟨rfl, hi, hb, hk⟩; refine ⟨_, rfl, ?_⟩; replace BK307 := am_ (KeepBut.blk hk (g' := gb307) (o := .cells #[.int .i64 0, .int .i64 0, .int .i64 0, .bool false, .slice none 0 0, .slice none 0 0, .int .i64 0, .int .i64 0] 41 (0, 0)) (by (with_reducible repeat (first | refine blk_drewN ?_ _ | refine blk_drew ?_ | refine blk_alloc ?_ _)); refine blk_far8 ?_ NB307_322.out; exact qK BK307) NB307_0.out (by simp)); replace HO314 := am_ (Kd.R_mono (Kd.R_keep (IsS128.apart (show IsS128 w0 _ g s0_0 t320 t321 from IsS128.q HI0) (fR2_ HO314 BK322) (by decide)) hk (fun _ h => h.2)) (fun _ h => h.1)); replace HO317 := am_ (Kd.R_mono (Kd.R_keep (IsS128.apart (show IsS128 w0 _ g s0_0 t320 t321 from IsS128.q HI0) (fR2_ HO317 BK322) (by decide)) hk (fun _ h => h.2)) (fun _ h => h.1)); replace BK322 := am_ (KeepBut.blk hk (g' := gb322) (o := .cells #[.int .i64 t308, .int .i64 t309, .int .i64 t310, .bool t311, .slice Ao121 t312.length co121, .slice Ao122 t315.length co122, .int .i64 t318, .int .i64 t319] 41 (0, 0)) (by exact blk_all8 (qK BK322)) NB322_0.out (by simp)); replace HK := kT_ HK hk; replace HB := am_ (hb); replace HI0 := am_ (hi); (try clear hb); (try clear hk); (try clear hi); (try clear zK322); have zK322 := cz8 BK322.out; (try clear fK322); have fK322 := fz8 BK322.out; have hnb125 := NB307_0.out; have hnc125 := NB0_307.out; (try clear zK307); have zK307 := cz8 BK307.out; (try clear fK307); have fK307 := fz8 BK307.out))
  refine bodyPost_ret (results_cell_row rfl _ _ gb307 41 #[.int .i64 t308, .int .i64 t309, .int .i64 t310, .bool t311, .slice Ao121 t312.length co121, .slice Ao122 t315.length co122, .int .i64 t318, .int .i64 t319] (0, 0) _ rfl (by exact blk_all8 (qK BK307)) Try.underlying41 rfl (by kernel_rfl)) rfl ?_
  exact ⟨_, _, er_, (fR2_ HO314 BK307), (fR2_ HO317 BK307), IsS128.q HI0, qB HB, qP HK⟩
 rw [if_pos c94] at H
 have c94b0 : (t323 == 5) = true := beq_iff_eq.mpr c94
 have c94b1 : (t323 != 5) = false := bne_eq_false_iff_eq.mpr c94
 clear c94
 obtain ⟨y356, hy356⟩ : ∃ y_ : List Int, y_ = (([238, 239, 240, 241] : List Int)) := ⟨_, rfl⟩
 rw [← hy356] at H
 have Ny356 := Aside0.mk hy356
 clear hy356
 replace H := bf_ H
 obtain ⟨f_, hf_, ⟨t359, t360, t361⟩, A95, H⟩ := H
 subst hf_
 (try dsimp only at H)
 replace H := bf_ H
 obtain ⟨f_, hf_, ⟨t362, t365, t366⟩, A96, H⟩ := H
 subst hf_
 (try dsimp only at H)
 simp only [Option.some.injEq, Prod.mk.injEq] at H
 obtain ⟨rfl, rfl, rfl, rfl, rfl, rfl, rfl, rfl, rfl, rfl⟩ := H
 go_enter Try.func90, Try.ntmps90
 go_wp2_with (first | ((with_reducible refine gate_dst (N := 2) rfl ?_); refine bx_ (N := 2) (cs := #[.int .i64 0, .int .i64 0, .int .i64 0, .bool false, .slice none 0 0, .slice none 0 0, .int .i64 0, .int .i64 0]) (t := 41) ?_; intro gb307 hg w97 hbox hb; replace HB := bS_ HB hb; have BK307 := am_ (hbox); have GW307 := am_ ((gK_ hg (qP HK))); have IGW307 := gI_ GW307; have GE307 := am_ ((Nat.le_trans HW0.out (gK_ hg (qP HK)))); have IGE307 := gI_ GE307; replace HK := kL_ HK hb; have NB0_307 := am_ ((nG_ hg (IsS128.lt (IsS128.q HI0)))); have INB0_307 := nI_ NB0_307; have NB307_0 := am_ (((nG_ hg (IsS128.lt (IsS128.q HI0))).symm)); replace HI0 := am_ (IsS128.below (IsS128.q HI0) hb); clear hb hbox hg) | ((with_reducible refine gate_callee (f := 122) rfl ?_); refine gl_ (some 5) Try.func122 #[.pointer (some ⟨g, 0, none⟩)] ?_; (with_reducible refine (spec_l8Draw.calls k g s0_0 s0_1 s0_2 t308 t309 t310 t311 t312 t315 t318 t319 t320 t321 w0 _ ?side1 ?side2 A2.out).mono ?_); (case side1 => exact IsS128.q HI0); (case side2 => exact qB HB); rintro e w98 ⟨v313, v316, rfl, ho0, ho1, hi, hb, hk⟩; refine ⟨_, rfl, ?_⟩; replace BK307 := kB_ BK307 hk NB307_0; have HO314 := am_ (Kd.R_lower ho0 (keep_size (w := w) (g := g) (row := none) (qP HK))); have HO317 := am_ (Kd.R_lower ho1 (keep_size (w := w) (g := g) (row := none) (qP HK))); replace HK := kT_ HK hk; replace HB := am_ (hb); replace HI0 := am_ (hi); (try clear hb); (try clear hk); (try clear hi); (try clear ho0); (try clear ho1)) | ((with_reducible refine gate_dst (N := 3) rfl ?_); refine bx_ (N := 3) (cs := #[.int .i64 0, .int .i64 0, .int .i64 0, .bool false, .slice none 0 0, .slice none 0 0, .int .i64 0, .int .i64 0]) (t := 41) ?_; intro gb322 hg w99 hbox hb; replace HO314 := rB_ HO314 hb; replace HO317 := rB_ HO317 hb; replace HB := bS_ HB hb; have BK322 := am_ (hbox); have GW322 := am_ ((gK_ hg (qP HK))); have IGW322 := gI_ GW322; have GE322 := am_ ((Nat.le_trans HW0.out (gK_ hg (qP HK)))); have IGE322 := gI_ GE322; replace HK := kL_ HK hb; have NB307_322 := am_ ((gN_ hg (qK BK307))); have NB322_307 := am_ ((gM_ hg (qK BK307))); replace BK307 := bK_ BK307 hb; have NB0_322 := am_ ((nG_ hg (IsS128.lt (IsS128.q HI0)))); have INB0_322 := nI_ NB0_322; have NB322_0 := am_ (((nG_ hg (IsS128.lt (IsS128.q HI0))).symm)); replace HI0 := am_ (IsS128.below (IsS128.q HI0) hb); clear hb hbox hg; have hnb100 := NB322_307.out; have hnc100 := NB307_322.out; have hnb101 := NB322_0.out; have hnc101 := NB0_322.out; (try clear zK322); have zK322 := cz8 BK322.out; (try clear fK322); have fK322 := fz8 BK322.out; obtain ⟨Ao103, co103, eo103⟩ := Kd.R_slice HO314.out; subst eo103; obtain ⟨Ao104, co104, eo104⟩ := Kd.R_slice HO317.out; subst eo104) | ((with_reducible refine gate_callee (f := 61) rfl ?_); refine gl_ (some 7) Try.func61 #[.pointer (some ⟨g, 0, none⟩), .int .i64 16] ?_; (with_reducible refine (spec_l1Below.calls g s0_0 t320 t321 16 t323 t324 t325 w0 _ ?side1 ?side2 A3.out).mono ?_); (case side1 => exact IsS128.q HI0); (case side2 => exact qB HB); rintro e w105 ⟨rfl, hi, hb, hk⟩; refine ⟨_, rfl, ?_⟩; replace BK307 := am_ (KeepBut.blk hk (g' := gb307) (o := .cells #[.int .i64 0, .int .i64 0, .int .i64 0, .bool false, .slice none 0 0, .slice none 0 0, .int .i64 0, .int .i64 0] 41 (0, 0)) (by (with_reducible repeat (first | refine blk_drewN ?_ _ | refine blk_drew ?_ | refine blk_alloc ?_ _)); refine blk_far8 ?_ NB307_322.out; exact qK BK307) NB307_0.out (by simp)); replace HO314 := am_ (Kd.R_mono (Kd.R_keep (IsS128.apart (show IsS128 w0 _ g s0_0 t320 t321 from IsS128.q HI0) (fR2_ HO314 BK322) (by decide)) hk (fun _ h => h.2)) (fun _ h => h.1)); replace HO317 := am_ (Kd.R_mono (Kd.R_keep (IsS128.apart (show IsS128 w0 _ g s0_0 t320 t321 from IsS128.q HI0) (fR2_ HO317 BK322) (by decide)) hk (fun _ h => h.2)) (fun _ h => h.1)); replace BK322 := am_ (KeepBut.blk hk (g' := gb322) (o := .cells #[.int .i64 t308, .int .i64 t309, .int .i64 t310, .bool t311, .slice Ao103 t312.length co103, .slice Ao104 t315.length co104, .int .i64 t318, .int .i64 t319] 41 (0, 0)) (by exact blk_all8 (qK BK322)) NB322_0.out (by simp)); replace HK := kT_ HK hk; replace HB := am_ (hb); replace HI0 := am_ (hi); (try clear hb); (try clear hk); (try clear hi)) | ((with_reducible refine gate_dst (N := 42) rfl ?_); refine Kd.R_lit (Kd.int .i64) _ 3 ?hg (N := 42) ?hd (xs := ([238, 239, 240, 241] : List Int)) (inner := [.int .i64 238, .int .i64 239, .int .i64 240, .int .i64 241]) (ok := fun _ => True) (okp := fun _ => True) ?hr ?hp (fun _ hk => hk) trivial (Below.refl _ _) (Nat.le_refl _) (by simp) ?_; (case hd => rfl); (case hg => rfl); (case hr => first | (go_simp; done) | (go_simp; rfl)); (case hp => exact (Reps.one (show Kd.M (Kd.int .i64) _ _ _ 238 [.int .i64 238] from rfl) (Reps.one (show Kd.M (Kd.int .i64) _ _ _ 239 [.int .i64 239] from rfl) (Reps.one (show Kd.M (Kd.int .i64) _ _ _ 240 [.int .i64 240] from rfl) (Reps.one (show Kd.M (Kd.int .i64) _ _ _ 241 [.int .i64 241] from rfl) (Reps.none _ _)))))); intro v357 w106 ho107 hb hg_ hnew_; clear hg_ hnew_; (first | rw [← Ny356.out] at ho107 | (simp only [Int.reduceToNat] at ho107; rw [← Ny356.out] at ho107)); replace HO314 := rB_ HO314 hb; replace HO317 := rB_ HO317 hb; have HO358 := am_ (Kd.R_lower ho107 (keep_size (w := w) (g := g) (row := none) (qP HK))); replace BK307 := bK_ BK307 hb; replace BK322 := bK_ BK322 hb; replace HK := kL_ HK hb; replace HB := bS_ HB hb; replace HI0 := am_ (IsS128.below (IsS128.q HI0) hb); clear hb ho107; obtain ⟨Ao108, co108, eo108⟩ := Kd.R_slice HO358.out; subst eo108) | ((with_reducible refine gate_callee (f := 62) rfl ?_); refine gl_ (some 43) Try.func62 #[.pointer (some ⟨g, 0, none⟩), .slice Ao108 y356.length co108] ?_; (with_reducible refine (spec_l1Int.calls g s0_0 t324 t325 _ _ y356 t359 t360 t361 w0 _ ?side1 ?side2 ?side3 ?side4 ?side5 A95.out).mono ?_); (case side1 => exact IsS128.q HI0); (case side2 => exact qB HB); (case side3 => exact qC ((Kd.R_reads' HO358.out).2.2)); (case side4 => exact (Kd.R_reads' HO358.out).2.1); (case side5 => exact far_slice (IsS128.own_ne HI0.out HO358.out (by decide))); rintro e w109 ⟨rfl, hi, hb, hk⟩; refine ⟨_, rfl, ?_⟩; replace BK307 := kB_ BK307 hk NB307_0; replace HO314 := am_ (Kd.R_mono (Kd.R_keep (IsS128.apart (show IsS128 w0 _ g s0_0 t324 t325 from IsS128.q HI0) (qR HO314) (by decide)) hk (fun _ h => h.2)) (fun _ h => h.1)); replace HO317 := am_ (Kd.R_mono (Kd.R_keep (IsS128.apart (show IsS128 w0 _ g s0_0 t324 t325 from IsS128.q HI0) (qR HO317) (by decide)) hk (fun _ h => h.2)) (fun _ h => h.1)); replace BK322 := kB_ BK322 hk NB322_0; replace HO358 := am_ (Kd.R_mono (Kd.R_keep (IsS128.apart (show IsS128 w0 _ g s0_0 t324 t325 from IsS128.q HI0) (qR HO358) (by decide)) hk (fun _ h => h.2)) (fun _ h => h.1)); replace HK := kT_ HK hk; replace HB := am_ (hb); replace HI0 := am_ (hi); (try clear hb); (try clear hk); (try clear hi)) | ((with_reducible refine gate_callee (f := 91) rfl ?_); refine gl_ (some 44) Try.func91 #[.pointer (some ⟨g, 0, none⟩), .int .i64 t359] ?_; (with_reducible refine (spec_l1Bytes.calls k g s0_0 t360 t361 t359 t362 t365 t366 w0 _ ?side1 ?side2 A96.out).mono ?_); (case side1 => exact IsS128.q HI0); (case side2 => exact qB HB); rintro e w110 ⟨v363, rfl, ho0, hi, hb, hk⟩; refine ⟨_, rfl, ?_⟩; replace BK307 := kB_ BK307 hk NB307_0; replace BK322 := kB_ BK322 hk NB322_0; replace HO358 := am_ (Kd.R_mono (Kd.R_keep (IsS128.apart (show IsS128 w0 _ g s0_0 t360 t361 from IsS128.q HI0) (qR HO358) (by decide)) hk (fun _ h => h.2)) (fun _ h => h.1)); have HO364 := am_ (Kd.R_lower (Kd.R_new' (Kd.R_new' ho0 (Kd.R_lt (qR HO314))) (Kd.R_lt (qR HO317))) (keep_size (w := w) (g := g) (row := none) (qP HK))); replace HO314 := am_ (Kd.R_mono (Kd.R_told (Kd.R_oldK (IsS128.apart (show IsS128 w0 _ g s0_0 t360 t361 from IsS128.q HI0) (qR HO314) (by decide)) hk) (Kd.R_base ho0)) (fun _ h_ => h_.1)); replace HO317 := am_ (Kd.R_mono (Kd.R_told (Kd.R_oldK (IsS128.apart (show IsS128 w0 _ g s0_0 t360 t361 from IsS128.q HI0) (qR HO317) (by decide)) hk) (Kd.R_base ho0)) (fun _ h_ => h_.1)); replace HK := kT_ HK hk; replace HB := am_ (hb); replace HI0 := am_ (hi); (try clear hb); (try clear hk); (try clear hi); (try clear ho0); obtain ⟨Ao111, co111, eo111⟩ := Kd.R_slice HO364.out; subst eo111; (try clear zK322); have zK322 := cz8 BK322.out; (try clear fK322); have fK322 := fz8 BK322.out; have hnb113 := NB307_0.out; have hnc113 := NB0_307.out; (try clear zK307); have zK307 := cz8 BK307.out; (try clear fK307); have fK307 := fz8 BK307.out))
 refine bodyPost_ret (results_cell_row rfl _ _ gb307 41 #[.int .i64 t308, .int .i64 t309, .int .i64 t310, .bool t311, .slice Ao111 t362.length co111, .slice Ao104 t315.length co104, .int .i64 t318, .int .i64 t319] (0, 0) _ rfl (by exact blk_all8 (blk_far1 (qK BK307) NB307_322.out)) Try.underlying41 rfl (by kernel_rfl)) rfl ?_
 exact ⟨_, _, er_, by (with_reducible repeat (first | apply Kd.R_alloc | apply Kd.R_drewN | apply Kd.R_drew)); exact Kd.R_mono (R_far8 (g := gb307) (Kd.R_far (p := ⟨gb322, 4, none⟩) (Kd.R_types (Kd.R_types HO364.out BK322.out (by decide)) BK307.out (by decide)) (fun _ hk => hk.1.2) (.slice Ao111 t362.length co111)) (fun _ hk => hk.2)) (fun _ hk => hk.1.1.2), by (with_reducible repeat (first | apply Kd.R_alloc | apply Kd.R_drewN | apply Kd.R_drew)); exact Kd.R_mono (R_far8 (g := gb307) (Kd.R_far (p := ⟨gb322, 4, none⟩) (Kd.R_types (Kd.R_types HO317.out BK322.out (by decide)) BK307.out (by decide)) (fun _ hk => hk.1.2) (.slice Ao111 t362.length co111)) (fun _ hk => hk.2)) (fun _ hk => hk.1.1.2), IsS128.q HI0, qB HB, qP HK⟩

/-! ### spec_DrawHear: function 21 -/
def spec_DrawHear.f (k : Nat) (l0 : List Int) : Option (Int × Int × Int × Bool × List Int × List Int × Int × Int × List Int) := (spec_l1New.f k l0).bind fun bt368 => ((spec_l8Any.f k bt368.1 bt368.2.1 bt368.2.2).bind fun bt372 => ((spec_l1Int.f bt368.1 bt372.2.2.2.2.2.2.2.2.1 bt372.2.2.2.2.2.2.2.2.2 (([0, 1, 2, 3, 240] : List Int))).bind fun bt390 => ((spec_l1Bytes.f k bt368.1 bt390.2.1 bt390.2.2 bt390.1).bind fun bt393 => (some (bt372.1, bt372.2.1, bt372.2.2.1, bt372.2.2.2.1, bt372.2.2.2.2.1, bt372.2.2.2.2.2.1, bt372.2.2.2.2.2.2.1, bt372.2.2.2.2.2.2.2.1, bt393.1)))))
theorem spec_DrawHear.mono : ∀ a0 k, LeO (spec_DrawHear.f k a0) (spec_DrawHear.f (k + 1) a0) := by
 intro a0 k
 unfold spec_DrawHear.f
 have m0 := @spec_l1Bytes.mono; have m1 := @spec_l1New.mono; have m2 := @spec_l8Any.mono; exact mo_
def spec_DrawHear.T3 : Bool × List (List Nat × List Nat) := (true, [([], []), ([], []), ([], []), ([], []), ([2, 3], [2, 3]), ([1, 4, 4], [1, 4]), ([0, 5, 0], [0]), ([5, 6, 0, 1, 2, 3, 4, 5, 6], [5])])
def spec_DrawHear.B3 : List Nat := [0, 0, 0, 0, 12, 30, 63, 127]
theorem spec_DrawHear.tab3 : rtab .any (opsOf Try.f21 3) = spec_DrawHear.T3 := by kernel_rfl
theorem spec_DrawHear.bits3 : waitsOk spec_DrawHear.T3.2 spec_DrawHear.B3 = true := by kernel_rfl
set_option maxHeartbeats 8000000 in
set_option maxRecDepth 100000 in
theorem spec_DrawHear.calls (k : Nat) (A0 : Option Addr) (c0 : Nat) (l0 : List Int) (r1 : Int) (r2 : Int) (r3 : Int) (r4 : Bool) (r5 : List Int) (r6 : List Int) (r7 : Int) (r8 : Int) (r9 : List Int) (w : World) (hr0 : Kd.C (Kd.int .u8) w A0 l0.length l0) (hc0 : l0.length ≤ c0) (h : spec_DrawHear.f k l0 = some (r1, r2, r3, r4, r5, r6, r7, r8, r9)) :
  Calls Try.prog 21 #[.slice A0 l0.length c0] w fun e w' => ∃ v4_ v5_ v8_ : Value, e = .returned (.tuple #[.agg #[.int .i64 r1, .int .i64 r2, .int .i64 r3, .bool r4, v4_, v5_, .int .i64 r7, .int .i64 r8], v8_]) ∧ Kd.R (Kd.int .u8) 5 w' w.heap.size (fun k_ => nv v5_ k_ ∧ nv v8_ k_) v4_ r5 ∧ Kd.R (Kd.int .u8) 5 w' w.heap.size (fun k_ => nv v4_ k_ ∧ nv v8_ k_) v5_ r6 ∧ Kd.R (Kd.int .u8) 5 w' w.heap.size (fun k_ => nv v4_ k_ ∧ nv v5_ k_) v8_ r9 ∧ Below w.heap.size w w' := by
 have hu41 := Try.underlying41
 have HR0 := Aside0.mk hr0
 have HC0 := Aside0.mk hc0
 clear hr0 hc0
 have HB := Aside0.mk (Below.refl w.heap.size w)
 have H := h
 unfold spec_DrawHear.f at H
 clear h
 replace H := bf_ H
 obtain ⟨f_, hf_, ⟨t368, t369, t370⟩, A2, H⟩ := H
 subst hf_
 (try dsimp only at H)
 replace H := bf_ H
 obtain ⟨f_, hf_, ⟨t372, t373, t374, t375, t376, t379, t382, t383, t384, t385⟩, A3, H⟩ := H
 subst hf_
 (try dsimp only at H)
 obtain ⟨y387, hy387⟩ : ∃ y_ : List Int, y_ = (([0, 1, 2, 3, 240] : List Int)) := ⟨_, rfl⟩
 rw [← hy387] at H
 have Ny387 := Aside0.mk hy387
 clear hy387
 replace H := bf_ H
 obtain ⟨f_, hf_, ⟨t390, t391, t392⟩, A4, H⟩ := H
 subst hf_
 (try dsimp only at H)
 replace H := bf_ H
 obtain ⟨f_, hf_, ⟨t393, t396, t397⟩, A5, H⟩ := H
 subst hf_
 (try dsimp only at H)
 simp only [Option.some.injEq, Prod.mk.injEq] at H
 obtain ⟨rfl, rfl, rfl, rfl, rfl, rfl, rfl, rfl, rfl⟩ := H
 go_enter Try.func21, Try.ntmps21
 try go_wp2_with (first | ((with_reducible refine gate_dst (N := 2) rfl ?_); refine bx_ (N := 2) (cs := #[.int .i64 0, .int .i64 0, .int .i64 0, .bool false, .slice none 0 0, .slice none 0 0, .int .i64 0, .int .i64 0]) (t := 41) ?_; intro gb367 hg w6 hbox hb; have BK367 := am_ (hbox); have GW367 := gA_ hg HB; have GE367 := GW367; have IGE367 := gI_ GE367; replace HB := bS_ HB hb; clear hb hbox hg) | ((with_reducible refine gate_callee (f := 59) rfl ?_); refine gl_ (some 7) Try.func59 #[.slice A0 l0.length c0] ?_; (with_reducible refine (spec_l1New.calls k _ _ l0 t368 t369 t370 w _ ?side1 ?side2 ?side3 A2.out).mono ?_); (case side1 => exact qB HB); (case side2 => exact HR0.out); (case side3 => exact HC0.out); rintro e w7 ⟨g371, rfl, hi, hb, hb2⟩; refine ⟨_, rfl, ?_⟩; replace HB := am_ (hb); have HI371 := am_ (hi); have IGHI371 := iG_ HI371.out.ge; have NB371_367 := am_ (IsS128.ne_blk hi (blk_below (qK BK367) hb2) (by decide)); have NB367_371 := am_ (Ne.symm (IsS128.ne_blk hi (blk_below (qK BK367) hb2) (by decide))); replace BK367 := am_ (blk_below (qK BK367) hb2); (try clear hb); (try clear hb2); (try clear hi)) | ((with_reducible refine gate_callee (f := 90) rfl ?_); refine gl_ (some 9) Try.func90 #[.pointer (some ⟨g371, 0, none⟩)] ?_; (with_reducible refine (spec_l8Any.calls k g371 t368 t369 t370 t372 t373 t374 t375 t376 t379 t382 t383 t384 t385 w _ ?side1 ?side2 A3.out).mono ?_); (case side1 => repeat (first | (with_reducible first | exact HI371.out | apply IsS128.alloc | apply IsS128.drewN | apply IsS128.drew | apply IsS128.set_1 | apply IsS128.set_2 | refine IsS128.far ?_ NB371_367.out _) | exact HI371.out)); (case side2 => exact qB HB); rintro e w8 ⟨v377, v380, rfl, ho0, ho1, hi, hb, hk⟩; refine ⟨_, rfl, ?_⟩; replace BK367 := kB_ BK367 hk NB367_371; have HO378 := am_ (Kd.R_lower ho0 (below_size (qB HB))); have HO381 := am_ (Kd.R_lower ho1 (below_size (qB HB))); replace HB := am_ (hb); replace HI371 := am_ (hi); (try clear hb); (try clear hk); (try clear hi); (try clear ho0); (try clear ho1)) | ((with_reducible refine gate_dst (N := 5) rfl ?_); refine bx_ (N := 5) (cs := #[.int .i64 0, .int .i64 0, .int .i64 0, .bool false, .slice none 0 0, .slice none 0 0, .int .i64 0, .int .i64 0]) (t := 41) ?_; intro gb386 hg w9 hbox hb; replace HO378 := rB_ HO378 hb; replace HO381 := rB_ HO381 hb; have BK386 := am_ (hbox); have GW386 := am_ ((by rw [hg]; exact (below_size (qB HB)) : w.heap.size ≤ gb386)); have IGW386 := gI_ GW386; have GE386 := am_ ((by rw [hg]; exact (below_size (qB HB)) : w.heap.size ≤ gb386)); have IGE386 := gI_ GE386; replace HB := bS_ HB hb; have NB367_386 := am_ ((gN_ hg (qK BK367))); have NB386_367 := am_ ((gM_ hg (qK BK367))); replace BK367 := bK_ BK367 hb; have NB371_386 := am_ ((by rw [hg]; exact Nat.ne_of_lt (IsS128.lt (show IsS128 w _ g371 t368 t384 t385 from by repeat (first | (with_reducible first | exact HI371.out | apply IsS128.alloc | apply IsS128.drewN | apply IsS128.drew | apply IsS128.set_1 | apply IsS128.set_2 | refine IsS128.far ?_ NB371_367.out _) | exact HI371.out))) : g371 ≠ gb386)); have NB386_371 := am_ ((by rw [hg]; exact Nat.ne_of_gt (IsS128.lt (show IsS128 w _ g371 t368 t384 t385 from by repeat (first | (with_reducible first | exact HI371.out | apply IsS128.alloc | apply IsS128.drewN | apply IsS128.drew | apply IsS128.set_1 | apply IsS128.set_2 | refine IsS128.far ?_ NB371_367.out _) | exact HI371.out))) : gb386 ≠ g371)); replace HI371 := am_ (IsS128.below (by repeat (first | (with_reducible first | exact HI371.out | apply IsS128.alloc | apply IsS128.drewN | apply IsS128.drew | apply IsS128.set_1 | apply IsS128.set_2 | refine IsS128.far ?_ NB371_367.out _) | exact HI371.out)) hb); clear hb hbox hg; have hnb10 := NB386_367.out; have hnc10 := NB367_386.out; have hnb11 := NB386_371.out; have hnc11 := NB371_386.out; (try clear zK386); have zK386 := cz8 BK386.out; (try clear fK386); have fK386 := fz8 BK386.out; obtain ⟨Ao13, co13, eo13⟩ := Kd.R_slice HO378.out; subst eo13; obtain ⟨Ao14, co14, eo14⟩ := Kd.R_slice HO381.out; subst eo14))
 have n0_ : Aside0 (Kd.R (Kd.int .u8) 5 ((((((((w9.setCell ⟨gb386, 0, none⟩ (.int .i64 t372)).setCell ⟨gb386, 1, none⟩ (.int .i64 t373)).setCell ⟨gb386, 2, none⟩ (.int .i64 t374)).setCell ⟨gb386, 3, none⟩ (.bool t375)).setCell ⟨gb386, 4, none⟩ (.slice Ao13 t376.length co13)).setCell ⟨gb386, 5, none⟩ (.slice Ao14 t379.length co14)).setCell ⟨gb386, 6, none⟩ (.int .i64 t382)).setCell ⟨gb386, 7, none⟩ (.int .i64 t383)) w.heap.size (fun k_ => nb Ao14 t379.length co14 k_) (.slice Ao13 t376.length co13) t376) := fR3_ HO378 BK386
 have n1_ : Aside0 (Kd.R (Kd.int .u8) 5 ((((((((w9.setCell ⟨gb386, 0, none⟩ (.int .i64 t372)).setCell ⟨gb386, 1, none⟩ (.int .i64 t373)).setCell ⟨gb386, 2, none⟩ (.int .i64 t374)).setCell ⟨gb386, 3, none⟩ (.bool t375)).setCell ⟨gb386, 4, none⟩ (.slice Ao13 t376.length co13)).setCell ⟨gb386, 5, none⟩ (.slice Ao14 t379.length co14)).setCell ⟨gb386, 6, none⟩ (.int .i64 t382)).setCell ⟨gb386, 7, none⟩ (.int .i64 t383)) w.heap.size (fun k_ => nb Ao13 t376.length co13 k_) (.slice Ao14 t379.length co14) t379) := fR3_ HO381 BK386
 have n2_ : Aside0 (((((((((w9.setCell ⟨gb386, 0, none⟩ (.int .i64 t372)).setCell ⟨gb386, 1, none⟩ (.int .i64 t373)).setCell ⟨gb386, 2, none⟩ (.int .i64 t374)).setCell ⟨gb386, 3, none⟩ (.bool t375)).setCell ⟨gb386, 4, none⟩ (.slice Ao13 t376.length co13)).setCell ⟨gb386, 5, none⟩ (.slice Ao14 t379.length co14)).setCell ⟨gb386, 6, none⟩ (.int .i64 t382)).setCell ⟨gb386, 7, none⟩ (.int .i64 t383)).heap[gb367]? = some (.cells #[.int .i64 0, .int .i64 0, .int .i64 0, .bool false, .slice none 0 0, .slice none 0 0, .int .i64 0, .int .i64 0] 41 (0, 0))) := ⟨by (with_reducible repeat (first | refine blk_drewN ?_ _ | refine blk_drew ?_ | refine blk_alloc ?_ _)); refine blk_far8 ?_ NB367_386.out; exact qK BK367⟩
 have n3_ : Aside0 (((((((((w9.setCell ⟨gb386, 0, none⟩ (.int .i64 t372)).setCell ⟨gb386, 1, none⟩ (.int .i64 t373)).setCell ⟨gb386, 2, none⟩ (.int .i64 t374)).setCell ⟨gb386, 3, none⟩ (.bool t375)).setCell ⟨gb386, 4, none⟩ (.slice Ao13 t376.length co13)).setCell ⟨gb386, 5, none⟩ (.slice Ao14 t379.length co14)).setCell ⟨gb386, 6, none⟩ (.int .i64 t382)).setCell ⟨gb386, 7, none⟩ (.int .i64 t383)).heap[gb386]? = some (.cells #[.int .i64 t372, .int .i64 t373, .int .i64 t374, .bool t375, .slice Ao13 t376.length co13, .slice Ao14 t379.length co14, .int .i64 t382, .int .i64 t383] 41 (0, 0))) := ⟨by (with_reducible repeat (first | refine blk_drewN ?_ _ | refine blk_drew ?_ | refine blk_alloc ?_ _)); refine blk_all8 (show _ = some (Go.Obj.cells #[.int .i64 0, .int .i64 0, .int .i64 0, .bool false, .slice none 0 0, .slice none 0 0, .int .i64 0, .int .i64 0] _ (0, 0)) from ?_); exact qK BK386⟩
 have n4_ : Aside0 (IsS128 w ((((((((w9.setCell ⟨gb386, 0, none⟩ (.int .i64 t372)).setCell ⟨gb386, 1, none⟩ (.int .i64 t373)).setCell ⟨gb386, 2, none⟩ (.int .i64 t374)).setCell ⟨gb386, 3, none⟩ (.bool t375)).setCell ⟨gb386, 4, none⟩ (.slice Ao13 t376.length co13)).setCell ⟨gb386, 5, none⟩ (.slice Ao14 t379.length co14)).setCell ⟨gb386, 6, none⟩ (.int .i64 t382)).setCell ⟨gb386, 7, none⟩ (.int .i64 t383)) g371 t368 t384 t385) := ⟨by repeat (first | (with_reducible first | exact HI371.out | apply IsS128.alloc | apply IsS128.drewN | apply IsS128.drew | apply IsS128.set_1 | apply IsS128.set_2 | refine IsS128.far ?_ NB371_367.out _ | refine IsS128.far ?_ NB371_386.out _) | exact HI371.out)⟩
 have n5_ : Aside0 (Below w.heap.size w ((((((((w9.setCell ⟨gb386, 0, none⟩ (.int .i64 t372)).setCell ⟨gb386, 1, none⟩ (.int .i64 t373)).setCell ⟨gb386, 2, none⟩ (.int .i64 t374)).setCell ⟨gb386, 3, none⟩ (.bool t375)).setCell ⟨gb386, 4, none⟩ (.slice Ao13 t376.length co13)).setCell ⟨gb386, 5, none⟩ (.slice Ao14 t379.length co14)).setCell ⟨gb386, 6, none⟩ (.int .i64 t382)).setCell ⟨gb386, 7, none⟩ (.int .i64 t383))) := ⟨qB HB⟩
 (try clear HO378)
 (try clear HO381)
 (try clear BK367)
 (try clear BK386)
 (try clear HI371)
 (try clear HB)
 generalize ((((((((w9.setCell ⟨gb386, 0, none⟩ (.int .i64 t372)).setCell ⟨gb386, 1, none⟩ (.int .i64 t373)).setCell ⟨gb386, 2, none⟩ (.int .i64 t374)).setCell ⟨gb386, 3, none⟩ (.bool t375)).setCell ⟨gb386, 4, none⟩ (.slice Ao13 t376.length co13)).setCell ⟨gb386, 5, none⟩ (.slice Ao14 t379.length co14)).setCell ⟨gb386, 6, none⟩ (.int .i64 t382)).setCell ⟨gb386, 7, none⟩ (.int .i64 t383)) = w15 at n0_ n1_ n2_ n3_ n4_ n5_ ⊢
 have HO378 := n0_
 have HO381 := n1_
 have BK367 := n2_
 have BK386 := n3_
 have HI371 := n4_
 have HB := n5_
 clear n0_ n1_ n2_ n3_ n4_ n5_
 replace HO378 := am_ (Kd.R_drew HO378.out)
 replace HO381 := am_ (Kd.R_drew HO381.out)
 replace BK367 := am_ (blk_drew BK367.out)
 replace BK386 := am_ (blk_drew BK386.out)
 replace HI371 := am_ (IsS128.drew HI371.out)
 replace HB := am_ (below_drew1 HB.out)
 refine start_ (n := 8) (S := fun w' => w'.cell? ⟨gb386, 0, none⟩ = some (.int .i64 t372) ∧ w'.cell? ⟨gb386, 1, none⟩ = some (.int .i64 t373) ∧ w'.cell? ⟨gb386, 2, none⟩ = some (.int .i64 t374) ∧ w'.cell? ⟨gb386, 3, none⟩ = some (.bool t375) ∧ w'.cell? ⟨gb386, 4, none⟩ = some (.slice Ao13 t376.length co13) ∧ w'.cell? ⟨gb386, 5, none⟩ = some (.slice Ao14 t379.length co14) ∧ w'.cell? ⟨gb386, 6, none⟩ = some (.int .i64 t382) ∧ w'.cell? ⟨gb386, 7, none⟩ = some (.int .i64 t383)) (ds := []) #[oo,oo,oo,oo,oo,oo,oo,oo] (by kernel_rfl) rfl rfl (cz8 BK386.out) (fun hHeld => ?_); refine with_tabW spec_DrawHear.tab3 spec_DrawHear.bits3 (fun HT_ HW_ => ?_)
 generalize w15.drew = w16 at HO378 HO381 BK367 BK386 HI371 HB hHeld ⊢
 refine pq_ 1 11 HT_ #[oo,ii,oo,oo,oo,oo,oo,oo] ?_
 refine pq_ 2 12 HT_ #[oo,ii,ii,oo,oo,oo,oo,oo] ?_
 refine tz_ (i := 0) (N := some 10) HT_ HW_ #[ii,ii,ii,oo,oo,oo,oo,oo] rfl rfl hHeld ?_ (hy := fun w' ⟨s0, s1, s2, s3, s4, s5, s6, s7⟩ => ldr8 s0 s1 s2 s3 s4 s5 s6 s7)
 refine on_ HT_ (i := 3) (N := some 13) #[ii,ii,ii,ii,oo,oo,oo,oo] (fun K hK => ?_)
 refine Kd.R_lit_step (Kd.int .i64) _ 3 ?hg (N := 13) ?hd (xs := ([0, 1, 2, 3, 240] : List Int)) (inner := [.int .i64 0, .int .i64 1, .int .i64 2, .int .i64 3, .int .i64 240]) (ok := fun _ => True) (okp := fun _ => True) ?hr ?hp (fun _ hk => hk) trivial (Below.refl _ _) (Nat.le_refl _) (by simp) ?_; (case hd => rfl); (case hg => rfl); (case hr => first | (go_simp; done) | (go_simp; rfl)); (case hp => exact (Reps.one (show Kd.M (Kd.int .i64) _ _ _ 0 [.int .i64 0] from rfl) (Reps.one (show Kd.M (Kd.int .i64) _ _ _ 1 [.int .i64 1] from rfl) (Reps.one (show Kd.M (Kd.int .i64) _ _ _ 2 [.int .i64 2] from rfl) (Reps.one (show Kd.M (Kd.int .i64) _ _ _ 3 [.int .i64 3] from rfl) (Reps.one (show Kd.M (Kd.int .i64) _ _ _ 240 [.int .i64 240] from rfl) (Reps.none _ _)))))))
 intro v388 w17 ho18 hb hg_ hnew_
 clear hg_ hnew_
 (first | rw [← Ny387.out] at ho18 | (simp only [Int.reduceToNat] at ho18; rw [← Ny387.out] at ho18))
 replace HO378 := rB_ HO378 hb
 replace HO381 := rB_ HO381 hb
 have HO389 := am_ (Kd.R_lower ho18 (below_size (qB HB)))
 replace BK367 := bK_ BK367 hb
 replace BK386 := bK_ BK386 hb
 replace HB := bS_ HB hb
 replace HI371 := am_ (IsS128.below (by repeat (first | (with_reducible first | exact HI371.out | apply IsS128.alloc | apply IsS128.drewN | apply IsS128.drew | apply IsS128.set_1 | apply IsS128.set_2 | refine IsS128.far ?_ NB371_367.out _ | refine IsS128.far ?_ NB371_386.out _) | exact HI371.out)) hb)
 clear hb ho18
 obtain ⟨Ao19, co19, eo19⟩ := Kd.R_slice HO389.out
 (first | subst eo19 | (injection eo19 with f1_ f2_ f3_; have f4_ := f1_.symm; have f5_ := f3_.symm; clear f1_ f2_ f3_; subst f4_; subst f5_))
 refine hK.out _ _ (cz8 BK386.out) (fun hHeld => ?_)
 clear hK K
 refine nm_ (some 13) ?_
 refine on_ HT_ (i := 4) (N := some 14) #[ii,ii,ii,ii,ii,oo,oo,oo] (fun K hK => ?_)
 refine goes_ Try.func62 (by kernel_rfl) rfl #[.pointer (some ⟨g371, 0, none⟩), .slice Ao19 y387.length co19] (by rfl) rfl rfl la_ ?_
 with_reducible refine (spec_l1Int.calls g371 t368 t384 t385 _ _ y387 t390 t391 t392 w _ ?side1 ?side2 ?side3 ?side4 ?side5 A4.out).mono ?_
 (case side1 => repeat (first | (with_reducible first | exact HI371.out | apply IsS128.alloc | apply IsS128.drewN | apply IsS128.drew | apply IsS128.set_1 | apply IsS128.set_2 | refine IsS128.far ?_ NB371_367.out _ | refine IsS128.far ?_ NB371_386.out _) | exact HI371.out))
 (case side2 => exact qB HB)
 (case side3 => exact qC ((Kd.R_reads' HO389.out).2.2))
 (case side4 => exact (Kd.R_reads' HO389.out).2.1)
 (case side5 => exact far_slice (IsS128.own_ne HI371.out HO389.out (by decide)))
 rintro e w20 ⟨rfl, hi, hb, hk⟩
 refine ⟨_, rfl, ?_⟩
 replace BK367 := kB_ BK367 hk NB367_371
 replace HO378 := am_ (Kd.R_mono (Kd.R_keep (IsS128.apart (show IsS128 w _ g371 t368 t384 t385 from by repeat (first | (with_reducible first | exact HI371.out | apply IsS128.alloc | apply IsS128.drewN | apply IsS128.drew | apply IsS128.set_1 | apply IsS128.set_2 | refine IsS128.far ?_ NB371_367.out _ | refine IsS128.far ?_ NB371_386.out _) | exact HI371.out)) (qR HO378) (by decide)) hk (fun _ h => h.2)) (fun _ h => h.1))
 replace HO381 := am_ (Kd.R_mono (Kd.R_keep (IsS128.apart (show IsS128 w _ g371 t368 t384 t385 from by repeat (first | (with_reducible first | exact HI371.out | apply IsS128.alloc | apply IsS128.drewN | apply IsS128.drew | apply IsS128.set_1 | apply IsS128.set_2 | refine IsS128.far ?_ NB371_367.out _ | refine IsS128.far ?_ NB371_386.out _) | exact HI371.out)) (qR HO381) (by decide)) hk (fun _ h => h.2)) (fun _ h => h.1))
 replace BK386 := kB_ BK386 hk NB386_371
 replace HO389 := am_ (Kd.R_mono (Kd.R_keep (IsS128.apart (show IsS128 w _ g371 t368 t384 t385 from by repeat (first | (with_reducible first | exact HI371.out | apply IsS128.alloc | apply IsS128.drewN | apply IsS128.drew | apply IsS128.set_1 | apply IsS128.set_2 | refine IsS128.far ?_ NB371_367.out _ | refine IsS128.far ?_ NB371_386.out _) | exact HI371.out)) (qR HO389) (by decide)) hk (fun _ h => h.2)) (fun _ h => h.1))
 replace HB := am_ (hb)
 replace HI371 := am_ (hi)
 (try clear hb hk hi)
 refine hK.out _ _ (cz8 BK386.out) (fun hHeld => ?_)
 clear hK K
 refine nm_ (some 14) ?_
 refine on_ HT_ (i := 5) (N := some 15) #[ii,ii,ii,ii,ii,ii,oo,oo] (fun K hK => ?_)
 refine goes_ Try.func91 (by kernel_rfl) rfl #[.pointer (some ⟨g371, 0, none⟩), .int .i64 t390] (by rfl) rfl rfl la_ ?_
 with_reducible refine (spec_l1Bytes.calls k g371 t368 t391 t392 t390 t393 t396 t397 w _ ?side1 ?side2 A5.out).mono ?_
 (case side1 => repeat (first | (with_reducible first | exact HI371.out | apply IsS128.alloc | apply IsS128.drewN | apply IsS128.drew | apply IsS128.set_1 | apply IsS128.set_2 | refine IsS128.far ?_ NB371_367.out _ | refine IsS128.far ?_ NB371_386.out _) | exact HI371.out))
 (case side2 => exact qB HB)
 rintro e w21 ⟨v394, rfl, ho0, hi, hb, hk⟩
 refine ⟨_, rfl, ?_⟩
 replace BK367 := kB_ BK367 hk NB367_371
 replace BK386 := kB_ BK386 hk NB386_371
 replace HO389 := am_ (Kd.R_mono (Kd.R_keep (IsS128.apart (show IsS128 w _ g371 t368 t391 t392 from by repeat (first | (with_reducible first | exact HI371.out | apply IsS128.alloc | apply IsS128.drewN | apply IsS128.drew | apply IsS128.set_1 | apply IsS128.set_2 | refine IsS128.far ?_ NB371_367.out _ | refine IsS128.far ?_ NB371_386.out _) | exact HI371.out)) (qR HO389) (by decide)) hk (fun _ h => h.2)) (fun _ h => h.1))
 have HO395 := am_ (Kd.R_lower (Kd.R_new' (Kd.R_new' ho0 (Kd.R_lt (qR HO378))) (Kd.R_lt (qR HO381))) (below_size (qB HB)))
 replace HO378 := am_ (Kd.R_mono (Kd.R_told (Kd.R_oldK (IsS128.apart (show IsS128 w _ g371 t368 t391 t392 from by repeat (first | (with_reducible first | exact HI371.out | apply IsS128.alloc | apply IsS128.drewN | apply IsS128.drew | apply IsS128.set_1 | apply IsS128.set_2 | refine IsS128.far ?_ NB371_367.out _ | refine IsS128.far ?_ NB371_386.out _) | exact HI371.out)) (qR HO378) (by decide)) hk) (Kd.R_base ho0)) (fun _ h_ => h_.1))
 replace HO381 := am_ (Kd.R_mono (Kd.R_told (Kd.R_oldK (IsS128.apart (show IsS128 w _ g371 t368 t391 t392 from by repeat (first | (with_reducible first | exact HI371.out | apply IsS128.alloc | apply IsS128.drewN | apply IsS128.drew | apply IsS128.set_1 | apply IsS128.set_2 | refine IsS128.far ?_ NB371_367.out _ | refine IsS128.far ?_ NB371_386.out _) | exact HI371.out)) (qR HO381) (by decide)) hk) (Kd.R_base ho0)) (fun _ h_ => h_.1))
 replace HB := am_ (hb)
 replace HI371 := am_ (hi)
 (try clear hb hk hi ho0)
 refine hK.out _ _ (cz8 BK386.out) (fun hHeld => ?_)
 clear hK K
 refine nm_ (some 15) ?_
 refine on_ HT_ (i := 6) (N := none) #[ii,ii,ii,ii,ii,ii,ii,oo] (fun K hK => ?_)
 have hs22 : w21.cell? ⟨gb367, 0, none⟩ = some (.int .i64 0) := (blk_cell BK367.out 0).trans rfl
 have hfs22 := blk_frozen BK367.out 0
 have hns22_1 := NB386_367.out
 have hms22_1 := NB367_386.out
 have hs23 : w21.cell? ⟨gb367, 1, none⟩ = some (.int .i64 0) := (blk_cell BK367.out 1).trans rfl
 have hfs23 := blk_frozen BK367.out 1
 have hns23_1 := NB386_367.out
 have hms23_1 := NB367_386.out
 have hs24 : w21.cell? ⟨gb367, 2, none⟩ = some (.int .i64 0) := (blk_cell BK367.out 2).trans rfl
 have hfs24 := blk_frozen BK367.out 2
 have hns24_1 := NB386_367.out
 have hms24_1 := NB367_386.out
 have hs25 : w21.cell? ⟨gb367, 3, none⟩ = some (.bool false) := (blk_cell BK367.out 3).trans rfl
 have hfs25 := blk_frozen BK367.out 3
 have hns25_1 := NB386_367.out
 have hms25_1 := NB367_386.out
 have hs26 : w21.cell? ⟨gb367, 4, none⟩ = some (.slice none 0 0) := (blk_cell BK367.out 4).trans rfl
 have hfs26 := blk_frozen BK367.out 4
 have hns26_1 := NB386_367.out
 have hms26_1 := NB367_386.out
 have hs27 : w21.cell? ⟨gb367, 5, none⟩ = some (.slice none 0 0) := (blk_cell BK367.out 5).trans rfl
 have hfs27 := blk_frozen BK367.out 5
 have hns27_1 := NB386_367.out
 have hms27_1 := NB367_386.out
 have hs28 : w21.cell? ⟨gb367, 6, none⟩ = some (.int .i64 0) := (blk_cell BK367.out 6).trans rfl
 have hfs28 := blk_frozen BK367.out 6
 have hns28_1 := NB386_367.out
 have hms28_1 := NB367_386.out
 have hs29 : w21.cell? ⟨gb367, 7, none⟩ = some (.int .i64 0) := (blk_cell BK367.out 7).trans rfl
 have hfs29 := blk_frozen BK367.out 7
 have hns29_1 := NB386_367.out
 have hms29_1 := NB367_386.out
 refine skip_ (w1 := ?_) (by rfl) rfl ?_ ?_
 rotate_left
 ·
  go_simp
  rfl
 refine hK.out _ _ ⟨((cell_far (p := ⟨gb367, _, none⟩) NB386_367.out _).trans (((cell_far (p := ⟨gb367, _, none⟩) NB386_367.out _).trans (((cell_far (p := ⟨gb367, _, none⟩) NB386_367.out _).trans (((cell_far (p := ⟨gb367, _, none⟩) NB386_367.out _).trans (((cell_far (p := ⟨gb367, _, none⟩) NB386_367.out _).trans (((cell_far (p := ⟨gb367, _, none⟩) NB386_367.out _).trans (((cell_far (p := ⟨gb367, _, none⟩) NB386_367.out _).trans (((cell_far (p := ⟨gb367, _, none⟩) NB386_367.out _).trans (hHeld.1)))))))))))))))), ((cell_far (p := ⟨gb367, _, none⟩) NB386_367.out _).trans (((cell_far (p := ⟨gb367, _, none⟩) NB386_367.out _).trans (((cell_far (p := ⟨gb367, _, none⟩) NB386_367.out _).trans (((cell_far (p := ⟨gb367, _, none⟩) NB386_367.out _).trans (((cell_far (p := ⟨gb367, _, none⟩) NB386_367.out _).trans (((cell_far (p := ⟨gb367, _, none⟩) NB386_367.out _).trans (((cell_far (p := ⟨gb367, _, none⟩) NB386_367.out _).trans (((cell_far (p := ⟨gb367, _, none⟩) NB386_367.out _).trans (hHeld.2.1)))))))))))))))), ((cell_far (p := ⟨gb367, _, none⟩) NB386_367.out _).trans (((cell_far (p := ⟨gb367, _, none⟩) NB386_367.out _).trans (((cell_far (p := ⟨gb367, _, none⟩) NB386_367.out _).trans (((cell_far (p := ⟨gb367, _, none⟩) NB386_367.out _).trans (((cell_far (p := ⟨gb367, _, none⟩) NB386_367.out _).trans (((cell_far (p := ⟨gb367, _, none⟩) NB386_367.out _).trans (((cell_far (p := ⟨gb367, _, none⟩) NB386_367.out _).trans (((cell_far (p := ⟨gb367, _, none⟩) NB386_367.out _).trans (hHeld.2.2.1)))))))))))))))), ((cell_far (p := ⟨gb367, _, none⟩) NB386_367.out _).trans (((cell_far (p := ⟨gb367, _, none⟩) NB386_367.out _).trans (((cell_far (p := ⟨gb367, _, none⟩) NB386_367.out _).trans (((cell_far (p := ⟨gb367, _, none⟩) NB386_367.out _).trans (((cell_far (p := ⟨gb367, _, none⟩) NB386_367.out _).trans (((cell_far (p := ⟨gb367, _, none⟩) NB386_367.out _).trans (((cell_far (p := ⟨gb367, _, none⟩) NB386_367.out _).trans (((cell_far (p := ⟨gb367, _, none⟩) NB386_367.out _).trans (hHeld.2.2.2.1)))))))))))))))), ((cell_far (p := ⟨gb367, _, none⟩) NB386_367.out _).trans (((cell_far (p := ⟨gb367, _, none⟩) NB386_367.out _).trans (((cell_far (p := ⟨gb367, _, none⟩) NB386_367.out _).trans (((cell_far (p := ⟨gb367, _, none⟩) NB386_367.out _).trans (((cell_far (p := ⟨gb367, _, none⟩) NB386_367.out _).trans (((cell_far (p := ⟨gb367, _, none⟩) NB386_367.out _).trans (((cell_far (p := ⟨gb367, _, none⟩) NB386_367.out _).trans (((cell_far (p := ⟨gb367, _, none⟩) NB386_367.out _).trans (hHeld.2.2.2.2.1)))))))))))))))), ((cell_far (p := ⟨gb367, _, none⟩) NB386_367.out _).trans (((cell_far (p := ⟨gb367, _, none⟩) NB386_367.out _).trans (((cell_far (p := ⟨gb367, _, none⟩) NB386_367.out _).trans (((cell_far (p := ⟨gb367, _, none⟩) NB386_367.out _).trans (((cell_far (p := ⟨gb367, _, none⟩) NB386_367.out _).trans (((cell_far (p := ⟨gb367, _, none⟩) NB386_367.out _).trans (((cell_far (p := ⟨gb367, _, none⟩) NB386_367.out _).trans (((cell_far (p := ⟨gb367, _, none⟩) NB386_367.out _).trans (hHeld.2.2.2.2.2.1)))))))))))))))), ((cell_far (p := ⟨gb367, _, none⟩) NB386_367.out _).trans (((cell_far (p := ⟨gb367, _, none⟩) NB386_367.out _).trans (((cell_far (p := ⟨gb367, _, none⟩) NB386_367.out _).trans (((cell_far (p := ⟨gb367, _, none⟩) NB386_367.out _).trans (((cell_far (p := ⟨gb367, _, none⟩) NB386_367.out _).trans (((cell_far (p := ⟨gb367, _, none⟩) NB386_367.out _).trans (((cell_far (p := ⟨gb367, _, none⟩) NB386_367.out _).trans (((cell_far (p := ⟨gb367, _, none⟩) NB386_367.out _).trans (hHeld.2.2.2.2.2.2.1)))))))))))))))), ((cell_far (p := ⟨gb367, _, none⟩) NB386_367.out _).trans (((cell_far (p := ⟨gb367, _, none⟩) NB386_367.out _).trans (((cell_far (p := ⟨gb367, _, none⟩) NB386_367.out _).trans (((cell_far (p := ⟨gb367, _, none⟩) NB386_367.out _).trans (((cell_far (p := ⟨gb367, _, none⟩) NB386_367.out _).trans (((cell_far (p := ⟨gb367, _, none⟩) NB386_367.out _).trans (((cell_far (p := ⟨gb367, _, none⟩) NB386_367.out _).trans (((cell_far (p := ⟨gb367, _, none⟩) NB386_367.out _).trans (hHeld.2.2.2.2.2.2.2))))))))))))))))⟩ (fun hHeld => ?_)
 clear hK K
 refine pq_ 7 3 HT_ #[ii,ii,ii,ii,ii,ii,ii,ii] ?_
 refine done_ (done_of HT_.out (by kernel_rfl)) ?_
 try go_wp2
 refine bodyPost_ret (results_ct rfl _ _ gb367 41 #[.int .i64 t372, .int .i64 t373, .int .i64 t374, .bool t375, .slice Ao13 t376.length co13, .slice Ao14 t379.length co14, .int .i64 t382, .int .i64 t383] (0, 0) _ rfl (by exact blk_all8 (qK BK367)) Try.underlying41 rfl (by kernel_rfl)) rfl ?_
 exact ⟨_, _, _, er_, (fR1_ HO378 BK367), (fR1_ HO381 BK367), (fR1_ HO395 BK367), qB HB⟩

/-! ### impl_isIn: function 87 -/
def impl_isIn.f (a0 : Int) (a1 : Int) (a2 : Int) : Option (Bool) := if a1 ≤ a0 then (some (decide (a0 ≤ a2))) else (some false)
set_option maxHeartbeats 8000000 in
set_option maxRecDepth 100000 in
theorem impl_isIn.calls (a0 : Int) (a1 : Int) (a2 : Int) (r : Bool) (w : World) (h : impl_isIn.f a0 a1 a2 = some r) :
  Calls Try.prog 87 #[.int .i64 a0, .int .i64 a1, .int .i64 a2] w fun e w' => e = .returned (.bool r) ∧ Drawn0 w w' := by
 have H := h
 unfold impl_isIn.f at H
 clear h
 by_cases c4 : a1 ≤ a0
 ·
  rw [if_pos c4] at H
  have c4b0 : decide (a1 ≤ a0) = true := decide_eq_true c4
  clear c4
  obtain rfl := Option.some.inj H
  go_enter Try.func87, Try.ntmps87
  go_wp2
  go_ret
  exact ⟨by first | rfl | (simp; done) | (simp [*]; done), by repeat (first | exact Drawn0.refl _ | apply Drawn0.step)⟩
 rw [if_neg c4] at H
 have c4b0 : decide (a1 ≤ a0) = false := decide_eq_false c4
 clear c4
 obtain rfl := Option.some.inj H
 go_enter Try.func87, Try.ntmps87
 go_wp2
 go_ret
 exact ⟨by first | rfl | (simp; done) | (simp [*]; done), by repeat (first | exact Drawn0.refl _ | apply Drawn0.step)⟩

/-! ### impl_sockIdOk: function 79 -/
def impl_sockIdOk.f (a0 : Int) : Option (Bool) := (impl_isIn.f a0 1 9999).bind fun t398 => (some t398)
set_option maxHeartbeats 8000000 in
set_option maxRecDepth 100000 in
theorem impl_sockIdOk.calls (a0 : Int) (r : Bool) (w : World) (h : impl_sockIdOk.f a0 = some r) :
  Calls Try.prog 79 #[.int .i64 a0] w fun e w' => e = .returned (.bool r) ∧ Drawn0 w w' := by
 have H : ((impl_isIn.f a0 1 9999).bind fun t398 => (some t398)) = some r := h
 clear h
 replace H := bd_ H
 obtain ⟨t398, A2, H⟩ := H
 obtain rfl := Option.some.inj H
 go_enter Try.func79, Try.ntmps79
 go_wp2_with (first | ((with_reducible refine gate_callee (f := 87) rfl ?_); refine gl_ (some 4) Try.func87 #[.int .i64 a0, .int .i64 1, .int .i64 9999] ?_; (with_reducible refine (impl_isIn.calls a0 1 9999 t398 _ A2.out).mono ?_); rintro e w' ⟨rfl, ⟨nd, rfl⟩⟩; refine ⟨_, rfl, ?_⟩))
 go_ret
 exact ⟨by first | rfl | (simp; done) | (simp [*]; done), by repeat (first | exact Drawn0.refl _ | apply Drawn0.step)⟩

/-! ### impl_SockOk: function 30 -/
def impl_SockOk.j0 : Nat → Bool → Int → Int → Int → Bool → List Int → List Int → Int → Int → Option (Bool)
 | 0, _, _, _, _, _, _, _, _, _ => none
 | k + 1, x18, x400000, x400001, x400002, x400003, x400004, x400005, x400006, x400007 => if x18 = true then (some false) else (if x400001 = 1 then (if x400006 = 0 then (some (x400007 == 0)) else (some false)) else (if x400001 = 2 then ((impl_isIn.f x400006 0 2).bind fun t402 => (if t402 = true then ((impl_isIn.f x400007 0 (x400005.length : Int)).bind fun t403 => (some t403)) else (some false))) else (some false)))
def impl_SockOk.f (k : Nat) (a0_0 : Int) (a0_1 : Int) (a0_2 : Int) (a0_3 : Bool) (l0_4 : List Int) (l0_5 : List Int) (a0_6 : Int) (a0_7 : Int) : Option (Bool) := (impl_sockIdOk.f a0_0).bind fun t400 => (if t400 = true then ((impl_isIn.f a0_2 1 3).bind fun t401 => (if t401 = true then (impl_SockOk.j0 k (decide ((l0_4.length : Int) > 240)) a0_0 a0_1 a0_2 a0_3 l0_4 l0_5 a0_6 a0_7) else (impl_SockOk.j0 k true a0_0 a0_1 a0_2 a0_3 l0_4 l0_5 a0_6 a0_7))) else (impl_SockOk.j0 k true a0_0 a0_1 a0_2 a0_3 l0_4 l0_5 a0_6 a0_7))
theorem impl_SockOk.mono_l : ∀ k, (∀ y0 y1 y2 y3 y4 y5 y6 y7 y8, LeO (impl_SockOk.j0 k y0 y1 y2 y3 y4 y5 y6 y7 y8) (impl_SockOk.j0 (k + 1) y0 y1 y2 y3 y4 y5 y6 y7 y8))
 | 0 => fun _ _ _ _ _ _ _ _ _ r h => by simp [impl_SockOk.j0] at h
 | k + 1 => by
  have ih0 := impl_SockOk.mono_l k
  ·
   intro y0 y1 y2 y3 y4 y5 y6 y7 y8
   unfold impl_SockOk.j0
   exact mo_
theorem impl_SockOk.mono : ∀ a0 a1 a2 a3 a4 a5 a6 a7 k, LeO (impl_SockOk.f k a0 a1 a2 a3 a4 a5 a6 a7) (impl_SockOk.f (k + 1) a0 a1 a2 a3 a4 a5 a6 a7) := by
 intro a0 a1 a2 a3 a4 a5 a6 a7 k
 have ih0 := impl_SockOk.mono_l k
 unfold impl_SockOk.f
 exact mo_
set_option maxHeartbeats 8000000 in
set_option maxRecDepth 100000 in
theorem impl_SockOk.calls (k : Nat) (a0_0 : Int) (a0_1 : Int) (a0_2 : Int) (a0_3 : Bool) (A0_4 : Option Addr) (c0_4 : Nat) (l0_4 : List Int) (A0_5 : Option Addr) (c0_5 : Nat) (l0_5 : List Int) (a0_6 : Int) (a0_7 : Int) (r : Bool) (w : World) (hr0_4 : Kd.C (Kd.int .u8) w A0_4 l0_4.length l0_4) (hc0_4 : l0_4.length ≤ c0_4) (hr0_5 : Kd.C (Kd.int .u8) w A0_5 l0_5.length l0_5) (hc0_5 : l0_5.length ≤ c0_5) (h : impl_SockOk.f k a0_0 a0_1 a0_2 a0_3 l0_4 l0_5 a0_6 a0_7 = some r) :
  Calls Try.prog 30 #[.agg #[.int .i64 a0_0, .int .i64 a0_1, .int .i64 a0_2, .bool a0_3, .slice A0_4 l0_4.length c0_4, .slice A0_5 l0_5.length c0_5, .int .i64 a0_6, .int .i64 a0_7]] w fun e w' => e = .returned (.bool r) ∧ Below w.heap.size w w' := by
 have hu41 := Try.underlying41
 have HR0_4 := Aside0.mk hr0_4
 have HC0_4 := Aside0.mk hc0_4
 clear hr0_4 hc0_4
 have HR0_5 := Aside0.mk hr0_5
 have HC0_5 := Aside0.mk hc0_5
 clear hr0_5 hc0_5
 have HB := Aside0.mk (Below.refl w.heap.size w)
 have H := h
 unfold impl_SockOk.f at H
 clear h
 have HC2 := Aside0.mk H
 clear H
 go_enter Try.func30, Try.ntmps30
 go_upto_region 1 with (first | ((with_reducible refine gate_dst (N := 1) rfl ?_); (try (refine gate_guard (by rfl) ?_; dsimp only)); refine bx_ (N := 1) (cs := #[.int .i64 a0_0, .int .i64 a0_1, .int .i64 a0_2, .bool a0_3, .slice A0_4 l0_4.length c0_4, .slice A0_5 l0_5.length c0_5, .int .i64 a0_6, .int .i64 a0_7]) (t := 41) ?_; intro gb399 hg w3 hbox hb; have BK399 := am_ (hbox); have GW399 := gA_ hg HB; have GE399 := GW399; have IGE399 := gI_ GE399; replace HB := bS_ HB hb; clear hb hbox hg))
 (try simp only [Act.put, List.setIfInBounds_toArray, List.set_cons_zero, List.set_cons_succ])
 go_cut [18] (fun v18 wc => ∃ (kq : Nat) (x18_1 : Bool), v18 = .bool x18_1 ∧ Aside0 (impl_SockOk.j0 kq x18_1 a0_0 a0_1 a0_2 a0_3 l0_4 l0_5 a0_6 a0_7 = some r) ∧ Aside0 (kq ≤ k) ∧ Aside0 (wc.heap[gb399]? = some (.cells #[.int .i64 a0_0, .int .i64 a0_1, .int .i64 a0_2, .bool a0_3, (.slice A0_4 l0_4.length c0_4), (.slice A0_5 l0_5.length c0_5), .int .i64 a0_6, .int .i64 a0_7] 41 (0, 0))) ∧ Aside0 (Below w.heap.size w wc))
 case first =>
  have H := HC2.out
  clear HC2
  replace H := bd_ H
  obtain ⟨t400, A4, H⟩ := H
  by_cases c5 : t400 = true
  rotate_left
  ·
   replace c5 := Bool.eq_false_iff.mpr c5
   subst c5
   rw [if_neg (show ¬ (false = true) by decide)] at H
   have H' := Aside0.mk H
   clear H
   (try clear zK399)
   have zK399 := cz8 BK399.out
   go_wp2_with (first | ((with_reducible refine gate_callee (f := 79) rfl ?_); refine gl_ (some 5) Try.func79 #[.int .i64 a0_0] ?_; (with_reducible refine (impl_sockIdOk.calls a0_0 false _ A4.out).mono ?_); rintro e w' ⟨rfl, ⟨nd, rfl⟩⟩; refine ⟨_, rfl, ?_⟩))
   go_meet
   case rel => exact ⟨_, (true), eqq_, H', ⟨by first | omega | exact Nat.le_refl _⟩, ⟨qK BK399⟩, ⟨qB HB⟩⟩
  subst c5
  rw [if_pos rfl] at H
  replace H := bd_ H
  obtain ⟨t401, A6, H⟩ := H
  by_cases c7 : t401 = true
  ·
   subst c7
   rw [if_pos rfl] at H
   have H' := Aside0.mk H
   clear H
   (try clear zK399)
   have zK399 := cz8 BK399.out
   go_wp2_with (first | ((with_reducible refine gate_callee (f := 79) rfl ?_); refine gl_ (some 5) Try.func79 #[.int .i64 a0_0] ?_; (with_reducible refine (impl_sockIdOk.calls a0_0 true _ A4.out).mono ?_); rintro e w' ⟨rfl, ⟨nd, rfl⟩⟩; refine ⟨_, rfl, ?_⟩) | (go_at_call 87; (with_reducible refine (impl_isIn.calls a0_2 1 3 true _ A6.out).mono ?_); rintro e w' ⟨rfl, ⟨nd, rfl⟩⟩))
   go_meet
   case rel => exact ⟨_, (decide ((l0_4.length : Int) > 240)), eqq_, H', ⟨by first | omega | exact Nat.le_refl _⟩, ⟨qK BK399⟩, ⟨qB HB⟩⟩
  replace c7 := Bool.eq_false_iff.mpr c7
  subst c7
  rw [if_neg (show ¬ (false = true) by decide)] at H
  have H' := Aside0.mk H
  clear H
  (try clear zK399)
  have zK399 := cz8 BK399.out
  go_wp2_with (first | ((with_reducible refine gate_callee (f := 79) rfl ?_); refine gl_ (some 5) Try.func79 #[.int .i64 a0_0] ?_; (with_reducible refine (impl_sockIdOk.calls a0_0 true _ A4.out).mono ?_); rintro e w' ⟨rfl, ⟨nd, rfl⟩⟩; refine ⟨_, rfl, ?_⟩) | (go_at_call 87; (with_reducible refine (impl_isIn.calls a0_2 1 3 false _ A6.out).mono ?_); rintro e w' ⟨rfl, ⟨nd, rfl⟩⟩))
  go_meet
  case rel => exact ⟨_, (true), eqq_, H', ⟨by first | omega | exact Nat.le_refl _⟩, ⟨qK BK399⟩, ⟨qB HB⟩⟩
 case rest =>
  clear HC2
  try clear p2
  try clear c3
  try clear c5
  try clear c7
  (try clear zK399)
  (try clear zK399)
  (try clear zK399)
  (try clear f10)
  (try clear f8)
  (try clear f9)
  obtain ⟨kq, x18_1, rfl, HA, HJ1, BK399, HB⟩ := hcut
  cases kq with
  | zero => exact absurd HA.out (by simp [impl_SockOk.j0])
  | succ kj1 =>
   have H := HA.out
   clear HA
   simp only [impl_SockOk.j0] at H
   by_cases c11 : x18_1 = true
   ·
    subst c11
    rw [if_pos rfl] at H
    obtain rfl := Option.some.inj H
    go_wp2
    go_ret
    exact ⟨er_, qB HB⟩
   replace c11 := Bool.eq_false_iff.mpr c11
   subst c11
   rw [if_neg (show ¬ (false = true) by decide)] at H
   by_cases c12 : a0_1 = 1
   ·
    rw [if_pos c12] at H
    have c12b0 : (a0_1 == 1) = true := beq_iff_eq.mpr c12
    have c12b1 : (a0_1 != 1) = false := bne_eq_false_iff_eq.mpr c12
    clear c12
    by_cases c13 : a0_6 = 0
    rotate_left
    ·
     rw [if_neg c13] at H
     have c13b0 : (a0_6 == 0) = false := beq_eq_false_iff_ne.mpr c13
     have c13b1 : (a0_6 != 0) = true := bne_iff_ne.mpr c13
     obtain rfl := Option.some.inj H
     (try clear zK399)
     have zK399 := cz8 BK399.out
     go_wp2
     go_ret
     exact ⟨er_, qB HB⟩
    rw [if_pos c13] at H
    have c13b0 : (a0_6 == 0) = true := beq_iff_eq.mpr c13
    have c13b1 : (a0_6 != 0) = false := bne_eq_false_iff_eq.mpr c13
    clear c13
    obtain rfl := Option.some.inj H
    (try clear zK399)
    have zK399 := cz8 BK399.out
    go_wp2
    go_ret
    exact ⟨er_, qB HB⟩
   rw [if_neg c12] at H
   have c12b0 : (a0_1 == 1) = false := beq_eq_false_iff_ne.mpr c12
   have c12b1 : (a0_1 != 1) = true := bne_iff_ne.mpr c12
   by_cases c16 : a0_1 = 2
   rotate_left
   ·
    rw [if_neg c16] at H
    have c16b0 : (a0_1 == 2) = false := beq_eq_false_iff_ne.mpr c16
    have c16b1 : (a0_1 != 2) = true := bne_iff_ne.mpr c16
    obtain rfl := Option.some.inj H
    (try clear zK399)
    have zK399 := cz8 BK399.out
    go_wp2
    go_ret
    exact ⟨er_, qB HB⟩
   rw [if_pos c16] at H
   have c16b0 : (a0_1 == 2) = true := beq_iff_eq.mpr c16
   have c16b1 : (a0_1 != 2) = false := bne_eq_false_iff_eq.mpr c16
   clear c16
   replace H := bd_ H
   obtain ⟨t402, A17, H⟩ := H
   by_cases c18 : t402 = true
   rotate_left
   ·
    replace c18 := Bool.eq_false_iff.mpr c18
    subst c18
    rw [if_neg (show ¬ (false = true) by decide)] at H
    obtain rfl := Option.some.inj H
    (try clear zK399)
    have zK399 := cz8 BK399.out
    go_wp2_with (first | ((with_reducible refine gate_callee (f := 87) rfl ?_); refine gl_ (some 35) Try.func87 #[.int .i64 a0_6, .int .i64 0, .int .i64 2] ?_; (with_reducible refine (impl_isIn.calls a0_6 0 2 false _ A17.out).mono ?_); rintro e w' ⟨rfl, ⟨nd, rfl⟩⟩; refine ⟨_, rfl, ?_⟩))
    go_ret
    exact ⟨er_, qB HB⟩
   subst c18
   rw [if_pos rfl] at H
   replace H := bd_ H
   obtain ⟨t403, A19, H⟩ := H
   obtain rfl := Option.some.inj H
   (try clear zK399)
   have zK399 := cz8 BK399.out
   go_wp2_with (first | ((with_reducible refine gate_callee (f := 87) rfl ?_); refine gl_ (some 35) Try.func87 #[.int .i64 a0_6, .int .i64 0, .int .i64 2] ?_; (with_reducible refine (impl_isIn.calls a0_6 0 2 true _ A17.out).mono ?_); rintro e w' ⟨rfl, ⟨nd, rfl⟩⟩; refine ⟨_, rfl, ?_⟩) | (go_at_call 87; (with_reducible refine (impl_isIn.calls a0_7 0 (l0_5.length : Int) t403 _ A19.out).mono ?_); rintro e w' ⟨rfl, ⟨nd, rfl⟩⟩))
   go_ret
   exact ⟨er_, qB HB⟩

end Go.Proofs.Ytiffahfpfgnjnaa.PFnSocks
