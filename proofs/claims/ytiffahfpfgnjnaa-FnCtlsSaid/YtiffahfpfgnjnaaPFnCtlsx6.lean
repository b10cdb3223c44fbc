-- Written by a program of this session (myprint.py, over the kit's print): contracts of FnCtls
import Derived.Test.YtiffahfpfgnjnaaPFnCtlsx5
namespace Go.Proofs.Ytiffahfpfgnjnaa.PFnCtls
open Go.RowKit Go.Proofs.YtiffahfpfgnjnaaW.PrintWords Go.Proofs.YtiffahfpfgnjnaaW.PrintLast Go.Proofs.YtiffahfpfgnjnaaW.PrintMore Go.Proofs.YtiffahfpfgnjnaaV
attribute [local go_sem] max2_int min2_int max_two min_two max_three min_three max_four min_four
set_option linter.unusedVariables false
set_option linter.unusedSimpArgs false

/-! ### spec_l11Any: function 106 -/
def spec_l11Any.f (k : Nat) (s0_0 : List Int) (s0_1 : Int) (s0_2 : Int) : Option (Int × Int × Int × Int × Int × Bool × Int × (List (S29)) × Int × Int) := (spec_l11Draw.f k s0_0 s0_1 s0_2).bind fun bt269 => ((spec_l1Below.f s0_0 bt269.2.2.2.2.2.2.2.2.1 bt269.2.2.2.2.2.2.2.2.2 16).bind fun bt282 => (if bt282.1 = 0 then ((spec_l1Int.f s0_0 bt282.2.1 bt282.2.2 (([0, 1, 2, 3, 4] : List Int))).bind fun bt288 => (some (bt288.1, bt269.2.1, bt269.2.2.1, bt269.2.2.2.1, bt269.2.2.2.2.1, bt269.2.2.2.2.2.1, bt269.2.2.2.2.2.2.1, bt269.2.2.2.2.2.2.2.1, bt288.2.1, bt288.2.2))) else (if bt282.1 = 1 then ((spec_l1Int.f s0_0 bt282.2.1 bt282.2.2 (([(-1), 2] : List Int))).bind fun bt294 => (some (bt269.1, bt294.1, bt269.2.2.1, bt269.2.2.2.1, bt269.2.2.2.2.1, bt269.2.2.2.2.2.1, bt269.2.2.2.2.2.2.1, bt269.2.2.2.2.2.2.2.1, bt294.2.1, bt294.2.2))) else (if bt282.1 = 2 then ((spec_l1Int.f s0_0 bt282.2.1 bt282.2.2 (([0, 60000, 60001] : List Int))).bind fun bt300 => (some (bt269.1, bt269.2.1, bt300.1, bt269.2.2.2.1, bt269.2.2.2.2.1, bt269.2.2.2.2.2.1, bt269.2.2.2.2.2.2.1, bt269.2.2.2.2.2.2.2.1, bt300.2.1, bt300.2.2))) else (if bt282.1 = 3 then ((spec_l1Int.f s0_0 bt282.2.1 bt282.2.2 (([(-1), 20, 21] : List Int))).bind fun bt306 => (some (bt269.1, bt269.2.1, bt269.2.2.1, bt306.1, bt269.2.2.2.2.1, bt269.2.2.2.2.2.1, bt269.2.2.2.2.2.2.1, bt269.2.2.2.2.2.2.2.1, bt306.2.1, bt306.2.2))) else (if bt282.1 = 4 then ((spec_l1Int.f s0_0 bt282.2.1 bt282.2.2 (([0, 20, 21] : List Int))).bind fun bt312 => (some (bt269.1, bt269.2.1, bt269.2.2.1, bt269.2.2.2.1, bt312.1, bt269.2.2.2.2.2.1, bt269.2.2.2.2.2.2.1, bt269.2.2.2.2.2.2.2.1, bt312.2.1, bt312.2.2))) else (if bt282.1 = 5 then ((spec_l1Int.f s0_0 bt282.2.1 bt282.2.2 (([(-1), 65536] : List Int))).bind fun bt318 => (some (bt269.1, bt269.2.1, bt269.2.2.1, bt269.2.2.2.1, bt269.2.2.2.2.1, bt269.2.2.2.2.2.1, bt318.1, bt269.2.2.2.2.2.2.2.1, bt318.2.1, bt318.2.2))) else (if bt282.1 = 6 then ((spec_l9Item.f k s0_0 bt282.2.1 bt282.2.2).bind fun bt321 => ((some (([(⟨0, (⟨0, (⟨#[]⟩ : ByteArray), 0, 0, 0, (⟨#[]⟩ : ByteArray), 0, 0⟩ : S25), (⟨0, (⟨#[]⟩ : ByteArray), 0, 0, 0, 0, 0⟩ : S27)⟩ : S29), (⟨bt321.1, (⟨bt321.2.1, bt321.2.2.1, bt321.2.2.2.1, bt321.2.2.2.2.1, bt321.2.2.2.2.2.1, bt321.2.2.2.2.2.2.1, bt321.2.2.2.2.2.2.2.1, bt321.2.2.2.2.2.2.2.2.1⟩ : S25), (⟨bt321.2.2.2.2.2.2.2.2.2.1, bt321.2.2.2.2.2.2.2.2.2.2.1, bt321.2.2.2.2.2.2.2.2.2.2.2.1, bt321.2.2.2.2.2.2.2.2.2.2.2.2.1, bt321.2.2.2.2.2.2.2.2.2.2.2.2.2.1, bt321.2.2.2.2.2.2.2.2.2.2.2.2.2.2.1, bt321.2.2.2.2.2.2.2.2.2.2.2.2.2.2.2.1⟩ : S27)⟩ : S29)] : List (S29)) : List (S29))).bind fun y339 => (if bt269.2.2.2.2.2.2.2.1.length + y339.length < 925904528653 then (some (bt269.1, bt269.2.1, bt269.2.2.1, bt269.2.2.2.1, bt269.2.2.2.2.1, bt269.2.2.2.2.2.1, bt269.2.2.2.2.2.2.1, (bt269.2.2.2.2.2.2.2.1 ++ y339), bt321.2.2.2.2.2.2.2.2.2.2.2.2.2.2.2.2.1, bt321.2.2.2.2.2.2.2.2.2.2.2.2.2.2.2.2.2)) else (none)))) else (if bt282.1 = 7 then ((spec_l9Item.f k s0_0 bt282.2.1 bt282.2.2).bind fun bt345 => ((spec_l9Item.f k s0_0 bt345.2.2.2.2.2.2.2.2.2.2.2.2.2.2.2.2.1 bt345.2.2.2.2.2.2.2.2.2.2.2.2.2.2.2.2.2).bind fun bt363 => ((spec_l9Item.f k s0_0 bt363.2.2.2.2.2.2.2.2.2.2.2.2.2.2.2.2.1 bt363.2.2.2.2.2.2.2.2.2.2.2.2.2.2.2.2.2).bind fun bt381 => ((some (([(⟨bt345.1, (⟨bt345.2.1, bt345.2.2.1, bt345.2.2.2.1, bt345.2.2.2.2.1, bt345.2.2.2.2.2.1, bt345.2.2.2.2.2.2.1, bt345.2.2.2.2.2.2.2.1, bt345.2.2.2.2.2.2.2.2.1⟩ : S25), (⟨bt345.2.2.2.2.2.2.2.2.2.1, bt345.2.2.2.2.2.2.2.2.2.2.1, bt345.2.2.2.2.2.2.2.2.2.2.2.1, bt345.2.2.2.2.2.2.2.2.2.2.2.2.1, bt345.2.2.2.2.2.2.2.2.2.2.2.2.2.1, bt345.2.2.2.2.2.2.2.2.2.2.2.2.2.2.1, bt345.2.2.2.2.2.2.2.2.2.2.2.2.2.2.2.1⟩ : S27)⟩ : S29), (⟨bt363.1, (⟨bt363.2.1, bt363.2.2.1, bt363.2.2.2.1, bt363.2.2.2.2.1, bt363.2.2.2.2.2.1, bt363.2.2.2.2.2.2.1, bt363.2.2.2.2.2.2.2.1, bt363.2.2.2.2.2.2.2.2.1⟩ : S25), (⟨bt363.2.2.2.2.2.2.2.2.2.1, bt363.2.2.2.2.2.2.2.2.2.2.1, bt363.2.2.2.2.2.2.2.2.2.2.2.1, bt363.2.2.2.2.2.2.2.2.2.2.2.2.1, bt363.2.2.2.2.2.2.2.2.2.2.2.2.2.1, bt363.2.2.2.2.2.2.2.2.2.2.2.2.2.2.1, bt363.2.2.2.2.2.2.2.2.2.2.2.2.2.2.2.1⟩ : S27)⟩ : S29), (⟨bt381.1, (⟨bt381.2.1, bt381.2.2.1, bt381.2.2.2.1, bt381.2.2.2.2.1, bt381.2.2.2.2.2.1, bt381.2.2.2.2.2.2.1, bt381.2.2.2.2.2.2.2.1, bt381.2.2.2.2.2.2.2.2.1⟩ : S25), (⟨bt381.2.2.2.2.2.2.2.2.2.1, bt381.2.2.2.2.2.2.2.2.2.2.1, bt381.2.2.2.2.2.2.2.2.2.2.2.1, bt381.2.2.2.2.2.2.2.2.2.2.2.2.1, bt381.2.2.2.2.2.2.2.2.2.2.2.2.2.1, bt381.2.2.2.2.2.2.2.2.2.2.2.2.2.2.1, bt381.2.2.2.2.2.2.2.2.2.2.2.2.2.2.2.1⟩ : S27)⟩ : S29)] : List (S29)) : List (S29))).bind fun y399 => (if bt269.2.2.2.2.2.2.2.1.length + y399.length < 925904528653 then (some (bt269.1, bt269.2.1, bt269.2.2.1, bt269.2.2.2.1, bt269.2.2.2.2.1, bt269.2.2.2.2.2.1, bt269.2.2.2.2.2.2.1, (bt269.2.2.2.2.2.2.2.1 ++ y399), bt381.2.2.2.2.2.2.2.2.2.2.2.2.2.2.2.2.1, bt381.2.2.2.2.2.2.2.2.2.2.2.2.2.2.2.2.2)) else (none)))))) else (some (bt269.1, bt269.2.1, bt269.2.2.1, bt269.2.2.2.1, bt269.2.2.2.2.1, bt269.2.2.2.2.2.1, bt269.2.2.2.2.2.2.1, bt269.2.2.2.2.2.2.2.1, bt282.2.1, bt282.2.2)))))))))))
theorem spec_l11Any.mono : ∀ a0 a1 a2 k, LeO (spec_l11Any.f k a0 a1 a2) (spec_l11Any.f (k + 1) a0 a1 a2) := by
 intro a0 a1 a2 k
 unfold spec_l11Any.f
 have m0 := @spec_l11Draw.mono; have m1 := @spec_l9Item.mono; exact mo_
def spec_l11Any.T16 : Bool × List (List Nat × List Nat) := (true, [([], []), ([0], [0]), ([], []), ([], []), ([3], [3]), ([2, 4], [2, 4]), ([1, 5, 4], [1, 5]), ([0, 1, 2, 3, 4, 5, 6], []), ([7, 6, 6, 0, 1, 2, 3, 4, 5, 6], [6, 7])])
def spec_l11Any.B16 : List Nat := [0, 1, 0, 0, 8, 28, 63, 127, 255]
theorem spec_l11Any.tab16 : rtab .any (opsOf Try.f106 16) = spec_l11Any.T16 := by kernel_rfl
theorem spec_l11Any.bits16 : waitsOk spec_l11Any.T16.2 spec_l11Any.B16 = true := by kernel_rfl
def spec_l11Any.T18 : Bool × List (List Nat × List Nat) := (true, [([], []), ([0], [0]), ([], []), ([2], [2]), ([], []), ([4, 3], [4]), ([], []), ([6, 5], [6]), ([3, 5, 7], [3, 5, 7]), ([1, 8, 7], [1, 8]), ([0, 1, 2, 3, 4, 5, 6, 7, 8, 9], []), ([10, 9, 9, 0, 1, 2, 3, 4, 5, 6, 7, 8, 9], [9, 10])])
def spec_l11Any.B18 : List Nat := [0, 1, 0, 4, 0, 28, 0, 124, 252, 511, 1023, 2047]
theorem spec_l11Any.tab18 : rtab .any (opsOf Try.f106 18) = spec_l11Any.T18 := by kernel_rfl
theorem spec_l11Any.bits18 : waitsOk spec_l11Any.T18.2 spec_l11Any.B18 = true := by kernel_rfl
set_option maxHeartbeats 8000000 in
set_option maxRecDepth 100000 in
theorem spec_l11Any.calls (k : Nat) (g : Nat) (s0_0 : List Int) (s0_1 : Int) (s0_2 : Int) (r1 : Int) (r2 : Int) (r3 : Int) (r4 : Int) (r5 : Int) (r6 : Bool) (r7 : Int) (r8 : List (S29)) (r9 : Int) (r10 : Int) (w0 w : World) (hI : IsS128 w0 w g s0_0 s0_1 s0_2) (hB : Below w0.heap.size w0 w) (h : spec_l11Any.f k s0_0 s0_1 s0_2 = some (r1, r2, r3, r4, r5, r6, r7, r8, r9, r10)) :
  Calls Try.prog 106 #[.pointer (some ⟨g, 0, none⟩)] w fun e w' => ∃ v7_ : Value, e = .returned (.agg #[.int .i64 r1, .int .i64 r2, .int .i64 r3, .int .i64 r4, .int .i64 r5, .bool r6, .int .i64 r7, v7_]) ∧ Kd.R k29 29 w' w.heap.size (fun _ => True) v7_ r8 ∧ IsS128 w0 w' g s0_0 r9 r10 ∧ Below w0.heap.size w0 w' ∧ KeepBut w w' g none := by
 have hu75 := Try.underlying75
 have hu29 := Try.underlying29
 have HI0 := am_ hI
 have IGHI0 := iG_ HI0.out.ge
 have HK := Aside0.mk (KeepBut.refl w g none)
 have HL := Aside0.mk hB.size
 clear hI
 have HW0 := Aside0.mk hB.size
 have HB := am_ hB
 clear hB
 have H := h
 unfold spec_l11Any.f at H
 clear h
 replace H := bf_ H
 obtain ⟨f_, hf_, ⟨t269, t270, t271, t272, t273, t274, t275, t276, t279, t280⟩, A2, H⟩ := H
 subst hf_
 (try dsimp only at H)
 replace H := bf_ H
 obtain ⟨f_, hf_, ⟨t282, t283, t284⟩, A3, H⟩ := H
 subst hf_
 (try dsimp only at H)
 replace H := ie_ H
 obtain ⟨-, H, c4b0, c4b1⟩ | ⟨c4, H, c4b0, c4b1⟩ := H
 ·
  obtain ⟨y285, hy285⟩ : ∃ y_ : List Int, y_ = (([0, 1, 2, 3, 4] : List Int)) := ⟨_, rfl⟩
  rw [← hy285] at H
  have Ny285 := am_ hy285
  clear hy285
  replace H := bf_ H
  obtain ⟨f_, hf_, ⟨t288, t289, t290⟩, A5, H⟩ := H
  subst hf_
  (try dsimp only at H)
  simp only [Option.some.injEq, Prod.mk.injEq] at H
  obtain ⟨rfl, rfl, rfl, rfl, rfl, rfl, rfl, rfl, rfl, rfl⟩ := H
  go_enter Try.func106, Try.ntmps106
  go_wp2_with (first | (refine gd_ 2 rfl ?_; refine bx_ (N := 2) (cs := #[.int .i64 0, .int .i64 0, .int .i64 0, .int .i64 0, .int .i64 0, .bool false, .int .i64 0, .slice none 0 0]) (t := 75) ?_; intro gb268 hg w6 hbox hb; replace HB := bS_ HB hb; have BK268 := am_ (hbox); have GW268 := am_ ((gK_ hg (qP HK))); have IGW268 := gI_ GW268; have GE268 := am_ ((Nat.le_trans HW0.out (gK_ hg (qP HK)))); have IGE268 := gI_ GE268; replace HK := kL_ HK hb; have NB0_268 := am_ ((nG_ hg (IsS128.lt (IsS128.q HI0)))); have INB0_268 := nI_ NB0_268; have NB268_0 := am_ (((nG_ hg (IsS128.lt (IsS128.q HI0))).symm)); replace HI0 := am_ (IsS128.below (IsS128.q HI0) hb); clear hb hbox hg) | (refine gc_ 109 rfl ?_; refine gl_ (some 5) Try.func109 #[.pointer (some ⟨g, 0, none⟩)] ?_; (with_reducible refine (spec_l11Draw.calls k g s0_0 s0_1 s0_2 t269 t270 t271 t272 t273 t274 t275 t276 t279 t280 w0 _ (IsS128.q HI0) (qB HB) A2.out).mono ?_); rintro e w7 ⟨v277, rfl, ho0, hi, hb, hk⟩; refine ⟨_, rfl, ?_⟩; replace BK268 := kB_ BK268 hk NB268_0; have HO278 := am_ (Kd.R_lower ho0 (keep_size (w := w) (g := g) (row := none) (qP HK))); replace HK := kT_ HK hk; replace HB := am_ (hb); replace HI0 := am_ (hi); (try clear hb); (try clear hk); (try clear hi); (try clear ho0)) | (refine gd_ 3 rfl ?_; refine bx_ (N := 3) (cs := #[.int .i64 0, .int .i64 0, .int .i64 0, .int .i64 0, .int .i64 0, .bool false, .int .i64 0, .slice none 0 0]) (t := 75) ?_; intro gb281 hg w8 hbox hb; replace HO278 := rB_ HO278 hb; replace HB := bS_ HB hb; have BK281 := am_ (hbox); have GW281 := am_ ((gK_ hg (qP HK))); have IGW281 := gI_ GW281; have GE281 := am_ ((Nat.le_trans HW0.out (gK_ hg (qP HK)))); have IGE281 := gI_ GE281; replace HK := kL_ HK hb; have NB268_281 := am_ ((gN_ hg (qK BK268))); have NB281_268 := am_ ((gM_ hg (qK BK268))); replace BK268 := bK_ BK268 hb; have NB0_281 := am_ ((nG_ hg (IsS128.lt (IsS128.q HI0)))); have INB0_281 := nI_ NB0_281; have NB281_0 := am_ (((nG_ hg (IsS128.lt (IsS128.q HI0))).symm)); replace HI0 := am_ (IsS128.below (IsS128.q HI0) hb); clear hb hbox hg; have hnb9 := nx_ NB281_268; have hnb10 := nx_ NB281_0; (try clear zK281); have zK281 := cf8 BK281.out; obtain ⟨Ao12, co12, eo12⟩ := Kd.R_slice HO278.out; subst eo12) | (refine gc_ 61 rfl ?_; refine gl_ (some 7) Try.func61 #[.pointer (some ⟨g, 0, none⟩), .int .i64 16] ?_; (with_reducible refine (spec_l1Below.calls g s0_0 t279 t280 16 t282 t283 t284 w0 _ (IsS128.q HI0) (qB HB) A3.out).mono ?_); rintro e w13 ⟨rfl, hi, hb, hk⟩; refine ⟨_, rfl, ?_⟩; replace BK268 := fk_ BK268 hk NB268_0; replace HO278 := am_ (Kd.R_mono (Kd.R_keep (IsS128.apart (show IsS128 w0 _ g s0_0 t279 t280 from IsS128.q HI0) (fR2_ HO278 BK281) (by decide)) hk (fun _ h => h.2)) (fun _ h => h.1)); replace BK281 := am_ (KeepBut.blk hk (blk_all8 (qK BK281)) NB281_0.out (by simp)); replace HK := kT_ HK hk; replace HB := am_ (hb); replace HI0 := am_ (hi); (try clear hb); (try clear hk); (try clear hi)) | (refine gd_ 11 rfl ?_; refine Kd.R_lit (Kd.int .i64) _ 3 ?hg (N := 11) ?hd (xs := ([0, 1, 2, 3, 4] : List Int)) (inner := [.int .i64 0, .int .i64 1, .int .i64 2, .int .i64 3, .int .i64 4]) (ok := fun _ => True) (okp := fun _ => True) ?hr ?hp (fun _ hk => hk) trivial (Below.refl _ _) (Nat.le_refl _) (by simp) ?_; (case hd => rfl); (case hg => rfl); (case hr => first | (go_simp; done) | (go_simp; rfl)); (case hp => exact (Reps.one (show Kd.M (Kd.int .i64) _ _ _ 0 [.int .i64 0] from rfl) (Reps.one (show Kd.M (Kd.int .i64) _ _ _ 1 [.int .i64 1] from rfl) (Reps.one (show Kd.M (Kd.int .i64) _ _ _ 2 [.int .i64 2] from rfl) (Reps.one (show Kd.M (Kd.int .i64) _ _ _ 3 [.int .i64 3] from rfl) (Reps.one (show Kd.M (Kd.int .i64) _ _ _ 4 [.int .i64 4] from rfl) (Reps.none _ _))))))); intro v286 w14 ho15 hb hg_ hnew_; clear hg_ hnew_; (first | rw [← Ny285.out] at ho15 | (simp only [Int.reduceToNat] at ho15; rw [← Ny285.out] at ho15)); replace HO278 := rB_ HO278 hb; have HO287 := am_ (Kd.R_lower ho15 (keep_size (w := w) (g := g) (row := none) (qP HK))); replace BK268 := bK_ BK268 hb; replace BK281 := bK_ BK281 hb; replace HK := kL_ HK hb; replace HB := bS_ HB hb; replace HI0 := am_ (IsS128.below (IsS128.q HI0) hb); clear hb ho15; obtain ⟨Ao16, co16, eo16⟩ := Kd.R_slice HO287.out; subst eo16) | (refine gc_ 62 rfl ?_; refine gl_ (some 12) Try.func62 #[.pointer (some ⟨g, 0, none⟩), .slice Ao16 y285.length co16] ?_; (with_reducible refine (spec_l1Int.calls g s0_0 t283 t284 _ _ y285 t288 t289 t290 w0 _ (IsS128.q HI0) (qB HB) (rC_ HO287) ?side4 ?side5 A5.out).mono ?_); (case side4 => exact (rL_ HO287)); (case side5 => exact far_slice (IsS128.own_ne HI0.out HO287.out (by decide))); rintro e w17 ⟨rfl, hi, hb, hk⟩; refine ⟨_, rfl, ?_⟩; replace BK268 := kB_ BK268 hk NB268_0; replace HO278 := IsS128.rk HI0 (qR HO278) hk; replace BK281 := kB_ BK281 hk NB281_0; replace HO287 := IsS128.rk HI0 (qR HO287) hk; replace HK := kT_ HK hk; replace HB := am_ (hb); replace HI0 := am_ (hi); (try clear hb); (try clear hk); (try clear hi); (try clear zK281); have zK281 := cf8 BK281.out; have hnb19 := nx_ NB268_0; (try clear zK268); have zK268 := cf8 BK268.out))
  refine bodyPost_ret (results_cell_row rfl _ _ gb268 75 #[.int .i64 t288, .int .i64 t270, .int .i64 t271, .int .i64 t272, .int .i64 t273, .bool t274, .int .i64 t275, .slice Ao12 t276.length co12] (0, 0) _ rfl (by exact blk_all8 (blk_far1 (qK BK268) NB268_281.out)) Try.underlying75 rfl (by kernel_rfl)) rfl ?_
  exact ⟨_, er_, by (with_reducible repeat (first | apply Kd.R_alloc | apply Kd.R_drewN | apply Kd.R_drew)); exact Kd.R_mono (R_far8 (g := gb268) (Kd.R_far (p := ⟨gb281, 0, none⟩) (Kd.R_types (Kd.R_types HO278.out BK281.out (by decide)) BK268.out (by decide)) (fun _ hk => hk.1.2) (.int .i64 t288)) (fun _ hk => hk.2)) (fun _ hk => trivial), IsS128.q HI0, qB HB, qP HK⟩
 replace H := ie_ H
 obtain ⟨-, H, c21b0, c21b1⟩ | ⟨c21, H, c21b0, c21b1⟩ := H
 ·
  obtain ⟨y291, hy291⟩ : ∃ y_ : List Int, y_ = (([(-1), 2] : List Int)) := ⟨_, rfl⟩
  rw [← hy291] at H
  have Ny291 := am_ hy291
  clear hy291
  replace H := bf_ H
  obtain ⟨f_, hf_, ⟨t294, t295, t296⟩, A22, H⟩ := H
  subst hf_
  (try dsimp only at H)
  simp only [Option.some.injEq, Prod.mk.injEq] at H
  obtain ⟨rfl, rfl, rfl, rfl, rfl, rfl, rfl, rfl, rfl, rfl⟩ := H
  go_enter Try.func106, Try.ntmps106
  go_wp2_with (first | (refine gd_ 2 rfl ?_; refine bx_ (N := 2) (cs := #[.int .i64 0, .int .i64 0, .int .i64 0, .int .i64 0, .int .i64 0, .bool false, .int .i64 0, .slice none 0 0]) (t := 75) ?_; intro gb268 hg w23 hbox hb; replace HB := bS_ HB hb; have BK268 := am_ (hbox); have GW268 := am_ ((gK_ hg (qP HK))); have IGW268 := gI_ GW268; have GE268 := am_ ((Nat.le_trans HW0.out (gK_ hg (qP HK)))); have IGE268 := gI_ GE268; replace HK := kL_ HK hb; have NB0_268 := am_ ((nG_ hg (IsS128.lt (IsS128.q HI0)))); have INB0_268 := nI_ NB0_268; have NB268_0 := am_ (((nG_ hg (IsS128.lt (IsS128.q HI0))).symm)); replace HI0 := am_ (IsS128.below (IsS128.q HI0) hb); clear hb hbox hg) | (refine gc_ 109 rfl ?_; refine gl_ (some 5) Try.func109 #[.pointer (some ⟨g, 0, none⟩)] ?_; (with_reducible refine (spec_l11Draw.calls k g s0_0 s0_1 s0_2 t269 t270 t271 t272 t273 t274 t275 t276 t279 t280 w0 _ (IsS128.q HI0) (qB HB) A2.out).mono ?_); rintro e w24 ⟨v277, rfl, ho0, hi, hb, hk⟩; refine ⟨_, rfl, ?_⟩; replace BK268 := kB_ BK268 hk NB268_0; have HO278 := am_ (Kd.R_lower ho0 (keep_size (w := w) (g := g) (row := none) (qP HK))); replace HK := kT_ HK hk; replace HB := am_ (hb); replace HI0 := am_ (hi); (try clear hb); (try clear hk); (try clear hi); (try clear ho0)) | (refine gd_ 3 rfl ?_; refine bx_ (N := 3) (cs := #[.int .i64 0, .int .i64 0, .int .i64 0, .int .i64 0, .int .i64 0, .bool false, .int .i64 0, .slice none 0 0]) (t := 75) ?_; intro gb281 hg w25 hbox hb; replace HO278 := rB_ HO278 hb; replace HB := bS_ HB hb; have BK281 := am_ (hbox); have GW281 := am_ ((gK_ hg (qP HK))); have IGW281 := gI_ GW281; have GE281 := am_ ((Nat.le_trans HW0.out (gK_ hg (qP HK)))); have IGE281 := gI_ GE281; replace HK := kL_ HK hb; have NB268_281 := am_ ((gN_ hg (qK BK268))); have NB281_268 := am_ ((gM_ hg (qK BK268))); replace BK268 := bK_ BK268 hb; have NB0_281 := am_ ((nG_ hg (IsS128.lt (IsS128.q HI0)))); have INB0_281 := nI_ NB0_281; have NB281_0 := am_ (((nG_ hg (IsS128.lt (IsS128.q HI0))).symm)); replace HI0 := am_ (IsS128.below (IsS128.q HI0) hb); clear hb hbox hg; have hnb26 := nx_ NB281_268; have hnb27 := nx_ NB281_0; (try clear zK281); have zK281 := cf8 BK281.out; obtain ⟨Ao29, co29, eo29⟩ := Kd.R_slice HO278.out; subst eo29) | (refine gc_ 61 rfl ?_; refine gl_ (some 7) Try.func61 #[.pointer (some ⟨g, 0, none⟩), .int .i64 16] ?_; (with_reducible refine (spec_l1Below.calls g s0_0 t279 t280 16 t282 t283 t284 w0 _ (IsS128.q HI0) (qB HB) A3.out).mono ?_); rintro e w30 ⟨rfl, hi, hb, hk⟩; refine ⟨_, rfl, ?_⟩; replace BK268 := fk_ BK268 hk NB268_0; replace HO278 := am_ (Kd.R_mono (Kd.R_keep (IsS128.apart (show IsS128 w0 _ g s0_0 t279 t280 from IsS128.q HI0) (fR2_ HO278 BK281) (by decide)) hk (fun _ h => h.2)) (fun _ h => h.1)); replace BK281 := am_ (KeepBut.blk hk (blk_all8 (qK BK281)) NB281_0.out (by simp)); replace HK := kT_ HK hk; replace HB := am_ (hb); replace HI0 := am_ (hi); (try clear hb); (try clear hk); (try clear hi)) | (refine gd_ 17 rfl ?_; refine Kd.R_lit (Kd.int .i64) _ 3 ?hg (N := 17) ?hd (xs := ([(-1), 2] : List Int)) (inner := [.int .i64 (-1), .int .i64 2]) (ok := fun _ => True) (okp := fun _ => True) ?hr ?hp (fun _ hk => hk) trivial (Below.refl _ _) (Nat.le_refl _) (by simp) ?_; (case hd => rfl); (case hg => rfl); (case hr => first | (go_simp; done) | (go_simp; rfl)); (case hp => exact (Reps.one (show Kd.M (Kd.int .i64) _ _ _ (-1) [.int .i64 (-1)] from rfl) (Reps.one (show Kd.M (Kd.int .i64) _ _ _ 2 [.int .i64 2] from rfl) (Reps.none _ _)))); intro v292 w31 ho32 hb hg_ hnew_; clear hg_ hnew_; (first | rw [← Ny291.out] at ho32 | (simp only [Int.reduceToNat] at ho32; rw [← Ny291.out] at ho32)); replace HO278 := rB_ HO278 hb; have HO293 := am_ (Kd.R_lower ho32 (keep_size (w := w) (g := g) (row := none) (qP HK))); replace BK268 := bK_ BK268 hb; replace BK281 := bK_ BK281 hb; replace HK := kL_ HK hb; replace HB := bS_ HB hb; replace HI0 := am_ (IsS128.below (IsS128.q HI0) hb); clear hb ho32; obtain ⟨Ao33, co33, eo33⟩ := Kd.R_slice HO293.out; subst eo33) | (refine gc_ 62 rfl ?_; refine gl_ (some 18) Try.func62 #[.pointer (some ⟨g, 0, none⟩), .slice Ao33 y291.length co33] ?_; (with_reducible refine (spec_l1Int.calls g s0_0 t283 t284 _ _ y291 t294 t295 t296 w0 _ (IsS128.q HI0) (qB HB) (rC_ HO293) ?side4 ?side5 A22.out).mono ?_); (case side4 => exact (rL_ HO293)); (case side5 => exact far_slice (IsS128.own_ne HI0.out HO293.out (by decide))); rintro e w34 ⟨rfl, hi, hb, hk⟩; refine ⟨_, rfl, ?_⟩; replace BK268 := kB_ BK268 hk NB268_0; replace HO278 := IsS128.rk HI0 (qR HO278) hk; replace BK281 := kB_ BK281 hk NB281_0; replace HO293 := IsS128.rk HI0 (qR HO293) hk; replace HK := kT_ HK hk; replace HB := am_ (hb); replace HI0 := am_ (hi); (try clear hb); (try clear hk); (try clear hi); (try clear zK281); have zK281 := cf8 BK281.out; have hnb36 := nx_ NB268_0; (try clear zK268); have zK268 := cf8 BK268.out))
  refine bodyPost_ret (results_cell_row rfl _ _ gb268 75 #[.int .i64 t269, .int .i64 t294, .int .i64 t271, .int .i64 t272, .int .i64 t273, .bool t274, .int .i64 t275, .slice Ao29 t276.length co29] (0, 0) _ rfl (by exact blk_all8 (blk_far1 (qK BK268) NB268_281.out)) Try.underlying75 rfl (by kernel_rfl)) rfl ?_
  exact ⟨_, er_, by (with_reducible repeat (first | apply Kd.R_alloc | apply Kd.R_drewN | apply Kd.R_drew)); exact Kd.R_mono (R_far8 (g := gb268) (Kd.R_far (p := ⟨gb281, 1, none⟩) (Kd.R_types (Kd.R_types HO278.out BK281.out (by decide)) BK268.out (by decide)) (fun _ hk => hk.1.2) (.int .i64 t294)) (fun _ hk => hk.2)) (fun _ hk => trivial), IsS128.q HI0, qB HB, qP HK⟩
 replace H := ie_ H
 obtain ⟨-, H, c38b0, c38b1⟩ | ⟨c38, H, c38b0, c38b1⟩ := H
 ·
  obtain ⟨y297, hy297⟩ : ∃ y_ : List Int, y_ = (([0, 60000, 60001] : List Int)) := ⟨_, rfl⟩
  rw [← hy297] at H
  have Ny297 := am_ hy297
  clear hy297
  replace H := bf_ H
  obtain ⟨f_, hf_, ⟨t300, t301, t302⟩, A39, H⟩ := H
  subst hf_
  (try dsimp only at H)
  simp only [Option.some.injEq, Prod.mk.injEq] at H
  obtain ⟨rfl, rfl, rfl, rfl, rfl, rfl, rfl, rfl, rfl, rfl⟩ := H
  go_enter Try.func106, Try.ntmps106
  go_wp2_with (first | (refine gd_ 2 rfl ?_; refine bx_ (N := 2) (cs := #[.int .i64 0, .int .i64 0, .int .i64 0, .int .i64 0, .int .i64 0, .bool false, .int .i64 0, .slice none 0 0]) (t := 75) ?_; intro gb268 hg w40 hbox hb; replace HB := bS_ HB hb; have BK268 := am_ (hbox); have GW268 := am_ ((gK_ hg (qP HK))); have IGW268 := gI_ GW268; have GE268 := am_ ((Nat.le_trans HW0.out (gK_ hg (qP HK)))); have IGE268 := gI_ GE268; replace HK := kL_ HK hb; have NB0_268 := am_ ((nG_ hg (IsS128.lt (IsS128.q HI0)))); have INB0_268 := nI_ NB0_268; have NB268_0 := am_ (((nG_ hg (IsS128.lt (IsS128.q HI0))).symm)); replace HI0 := am_ (IsS128.below (IsS128.q HI0) hb); clear hb hbox hg) | (refine gc_ 109 rfl ?_; refine gl_ (some 5) Try.func109 #[.pointer (some ⟨g, 0, none⟩)] ?_; (with_reducible refine (spec_l11Draw.calls k g s0_0 s0_1 s0_2 t269 t270 t271 t272 t273 t274 t275 t276 t279 t280 w0 _ (IsS128.q HI0) (qB HB) A2.out).mono ?_); rintro e w41 ⟨v277, rfl, ho0, hi, hb, hk⟩; refine ⟨_, rfl, ?_⟩; replace BK268 := kB_ BK268 hk NB268_0; have HO278 := am_ (Kd.R_lower ho0 (keep_size (w := w) (g := g) (row := none) (qP HK))); replace HK := kT_ HK hk; replace HB := am_ (hb); replace HI0 := am_ (hi); (try clear hb); (try clear hk); (try clear hi); (try clear ho0)) | (refine gd_ 3 rfl ?_; refine bx_ (N := 3) (cs := #[.int .i64 0, .int .i64 0, .int .i64 0, .int .i64 0, .int .i64 0, .bool false, .int .i64 0, .slice none 0 0]) (t := 75) ?_; intro gb281 hg w42 hbox hb; replace HO278 := rB_ HO278 hb; replace HB := bS_ HB hb; have BK281 := am_ (hbox); have GW281 := am_ ((gK_ hg (qP HK))); have IGW281 := gI_ GW281; have GE281 := am_ ((Nat.le_trans HW0.out (gK_ hg (qP HK)))); have IGE281 := gI_ GE281; replace HK := kL_ HK hb; have NB268_281 := am_ ((gN_ hg (qK BK268))); have NB281_268 := am_ ((gM_ hg (qK BK268))); replace BK268 := bK_ BK268 hb; have NB0_281 := am_ ((nG_ hg (IsS128.lt (IsS128.q HI0)))); have INB0_281 := nI_ NB0_281; have NB281_0 := am_ (((nG_ hg (IsS128.lt (IsS128.q HI0))).symm)); replace HI0 := am_ (IsS128.below (IsS128.q HI0) hb); clear hb hbox hg; have hnb43 := nx_ NB281_268; have hnb44 := nx_ NB281_0; (try clear zK281); have zK281 := cf8 BK281.out; obtain ⟨Ao46, co46, eo46⟩ := Kd.R_slice HO278.out; subst eo46) | (refine gc_ 61 rfl ?_; refine gl_ (some 7) Try.func61 #[.pointer (some ⟨g, 0, none⟩), .int .i64 16] ?_; (with_reducible refine (spec_l1Below.calls g s0_0 t279 t280 16 t282 t283 t284 w0 _ (IsS128.q HI0) (qB HB) A3.out).mono ?_); rintro e w47 ⟨rfl, hi, hb, hk⟩; refine ⟨_, rfl, ?_⟩; replace BK268 := fk_ BK268 hk NB268_0; replace HO278 := am_ (Kd.R_mono (Kd.R_keep (IsS128.apart (show IsS128 w0 _ g s0_0 t279 t280 from IsS128.q HI0) (fR2_ HO278 BK281) (by decide)) hk (fun _ h => h.2)) (fun _ h => h.1)); replace BK281 := am_ (KeepBut.blk hk (blk_all8 (qK BK281)) NB281_0.out (by simp)); replace HK := kT_ HK hk; replace HB := am_ (hb); replace HI0 := am_ (hi); (try clear hb); (try clear hk); (try clear hi)) | (refine gd_ 23 rfl ?_; refine Kd.R_lit (Kd.int .i64) _ 3 ?hg (N := 23) ?hd (xs := ([0, 60000, 60001] : List Int)) (inner := [.int .i64 0, .int .i64 60000, .int .i64 60001]) (ok := fun _ => True) (okp := fun _ => True) ?hr ?hp (fun _ hk => hk) trivial (Below.refl _ _) (Nat.le_refl _) (by simp) ?_; (case hd => rfl); (case hg => rfl); (case hr => first | (go_simp; done) | (go_simp; rfl)); (case hp => exact (Reps.one (show Kd.M (Kd.int .i64) _ _ _ 0 [.int .i64 0] from rfl) (Reps.one (show Kd.M (Kd.int .i64) _ _ _ 60000 [.int .i64 60000] from rfl) (Reps.one (show Kd.M (Kd.int .i64) _ _ _ 60001 [.int .i64 60001] from rfl) (Reps.none _ _))))); intro v298 w48 ho49 hb hg_ hnew_; clear hg_ hnew_; (first | rw [← Ny297.out] at ho49 | (simp only [Int.reduceToNat] at ho49; rw [← Ny297.out] at ho49)); replace HO278 := rB_ HO278 hb; have HO299 := am_ (Kd.R_lower ho49 (keep_size (w := w) (g := g) (row := none) (qP HK))); replace BK268 := bK_ BK268 hb; replace BK281 := bK_ BK281 hb; replace HK := kL_ HK hb; replace HB := bS_ HB hb; replace HI0 := am_ (IsS128.below (IsS128.q HI0) hb); clear hb ho49; obtain ⟨Ao50, co50, eo50⟩ := Kd.R_slice HO299.out; subst eo50) | (refine gc_ 62 rfl ?_; refine gl_ (some 24) Try.func62 #[.pointer (some ⟨g, 0, none⟩), .slice Ao50 y297.length co50] ?_; (with_reducible refine (spec_l1Int.calls g s0_0 t283 t284 _ _ y297 t300 t301 t302 w0 _ (IsS128.q HI0) (qB HB) (rC_ HO299) ?side4 ?side5 A39.out).mono ?_); (case side4 => exact (rL_ HO299)); (case side5 => exact far_slice (IsS128.own_ne HI0.out HO299.out (by decide))); rintro e w51 ⟨rfl, hi, hb, hk⟩; refine ⟨_, rfl, ?_⟩; replace BK268 := kB_ BK268 hk NB268_0; replace HO278 := IsS128.rk HI0 (qR HO278) hk; replace BK281 := kB_ BK281 hk NB281_0; replace HO299 := IsS128.rk HI0 (qR HO299) hk; replace HK := kT_ HK hk; replace HB := am_ (hb); replace HI0 := am_ (hi); (try clear hb); (try clear hk); (try clear hi); (try clear zK281); have zK281 := cf8 BK281.out; have hnb53 := nx_ NB268_0; (try clear zK268); have zK268 := cf8 BK268.out))
  refine bodyPost_ret (results_cell_row rfl _ _ gb268 75 #[.int .i64 t269, .int .i64 t270, .int .i64 t300, .int .i64 t272, .int .i64 t273, .bool t274, .int .i64 t275, .slice Ao46 t276.length co46] (0, 0) _ rfl (by exact blk_all8 (blk_far1 (qK BK268) NB268_281.out)) Try.underlying75 rfl (by kernel_rfl)) rfl ?_
  exact ⟨_, er_, by (with_reducible repeat (first | apply Kd.R_alloc | apply Kd.R_drewN | apply Kd.R_drew)); exact Kd.R_mono (R_far8 (g := gb268) (Kd.R_far (p := ⟨gb281, 2, none⟩) (Kd.R_types (Kd.R_types HO278.out BK281.out (by decide)) BK268.out (by decide)) (fun _ hk => hk.1.2) (.int .i64 t300)) (fun _ hk => hk.2)) (fun _ hk => trivial), IsS128.q HI0, qB HB, qP HK⟩
 replace H := ie_ H
 obtain ⟨-, H, c55b0, c55b1⟩ | ⟨c55, H, c55b0, c55b1⟩ := H
 ·
  obtain ⟨y303, hy303⟩ : ∃ y_ : List Int, y_ = (([(-1), 20, 21] : List Int)) := ⟨_, rfl⟩
  rw [← hy303] at H
  have Ny303 := am_ hy303
  clear hy303
  replace H := bf_ H
  obtain ⟨f_, hf_, ⟨t306, t307, t308⟩, A56, H⟩ := H
  subst hf_
  (try dsimp only at H)
  simp only [Option.some.injEq, Prod.mk.injEq] at H
  obtain ⟨rfl, rfl, rfl, rfl, rfl, rfl, rfl, rfl, rfl, rfl⟩ := H
  go_enter Try.func106, Try.ntmps106
  go_wp2_with (first | (refine gd_ 2 rfl ?_; refine bx_ (N := 2) (cs := #[.int .i64 0, .int .i64 0, .int .i64 0, .int .i64 0, .int .i64 0, .bool false, .int .i64 0, .slice none 0 0]) (t := 75) ?_; intro gb268 hg w57 hbox hb; replace HB := bS_ HB hb; have BK268 := am_ (hbox); have GW268 := am_ ((gK_ hg (qP HK))); have IGW268 := gI_ GW268; have GE268 := am_ ((Nat.le_trans HW0.out (gK_ hg (qP HK)))); have IGE268 := gI_ GE268; replace HK := kL_ HK hb; have NB0_268 := am_ ((nG_ hg (IsS128.lt (IsS128.q HI0)))); have INB0_268 := nI_ NB0_268; have NB268_0 := am_ (((nG_ hg (IsS128.lt (IsS128.q HI0))).symm)); replace HI0 := am_ (IsS128.below (IsS128.q HI0) hb); clear hb hbox hg) | (refine gc_ 109 rfl ?_; refine gl_ (some 5) Try.func109 #[.pointer (some ⟨g, 0, none⟩)] ?_; (with_reducible refine (spec_l11Draw.calls k g s0_0 s0_1 s0_2 t269 t270 t271 t272 t273 t274 t275 t276 t279 t280 w0 _ (IsS128.q HI0) (qB HB) A2.out).mono ?_); rintro e w58 ⟨v277, rfl, ho0, hi, hb, hk⟩; refine ⟨_, rfl, ?_⟩; replace BK268 := kB_ BK268 hk NB268_0; have HO278 := am_ (Kd.R_lower ho0 (keep_size (w := w) (g := g) (row := none) (qP HK))); replace HK := kT_ HK hk; replace HB := am_ (hb); replace HI0 := am_ (hi); (try clear hb); (try clear hk); (try clear hi); (try clear ho0)) | (refine gd_ 3 rfl ?_; refine bx_ (N := 3) (cs := #[.int .i64 0, .int .i64 0, .int .i64 0, .int .i64 0, .int .i64 0, .bool false, .int .i64 0, .slice none 0 0]) (t := 75) ?_; intro gb281 hg w59 hbox hb; replace HO278 := rB_ HO278 hb; replace HB := bS_ HB hb; have BK281 := am_ (hbox); have GW281 := am_ ((gK_ hg (qP HK))); have IGW281 := gI_ GW281; have GE281 := am_ ((Nat.le_trans HW0.out (gK_ hg (qP HK)))); have IGE281 := gI_ GE281; replace HK := kL_ HK hb; have NB268_281 := am_ ((gN_ hg (qK BK268))); have NB281_268 := am_ ((gM_ hg (qK BK268))); replace BK268 := bK_ BK268 hb; have NB0_281 := am_ ((nG_ hg (IsS128.lt (IsS128.q HI0)))); have INB0_281 := nI_ NB0_281; have NB281_0 := am_ (((nG_ hg (IsS128.lt (IsS128.q HI0))).symm)); replace HI0 := am_ (IsS128.below (IsS128.q HI0) hb); clear hb hbox hg; have hnb60 := nx_ NB281_268; have hnb61 := nx_ NB281_0; (try clear zK281); have zK281 := cf8 BK281.out; obtain ⟨Ao63, co63, eo63⟩ := Kd.R_slice HO278.out; subst eo63) | (refine gc_ 61 rfl ?_; refine gl_ (some 7) Try.func61 #[.pointer (some ⟨g, 0, none⟩), .int .i64 16] ?_; (with_reducible refine (spec_l1Below.calls g s0_0 t279 t280 16 t282 t283 t284 w0 _ (IsS128.q HI0) (qB HB) A3.out).mono ?_); rintro e w64 ⟨rfl, hi, hb, hk⟩; refine ⟨_, rfl, ?_⟩; replace BK268 := fk_ BK268 hk NB268_0; replace HO278 := am_ (Kd.R_mono (Kd.R_keep (IsS128.apart (show IsS128 w0 _ g s0_0 t279 t280 from IsS128.q HI0) (fR2_ HO278 BK281) (by decide)) hk (fun _ h => h.2)) (fun _ h => h.1)); replace BK281 := am_ (KeepBut.blk hk (blk_all8 (qK BK281)) NB281_0.out (by simp)); replace HK := kT_ HK hk; replace HB := am_ (hb); replace HI0 := am_ (hi); (try clear hb); (try clear hk); (try clear hi)) | (refine gd_ 29 rfl ?_; refine Kd.R_lit (Kd.int .i64) _ 3 ?hg (N := 29) ?hd (xs := ([(-1), 20, 21] : List Int)) (inner := [.int .i64 (-1), .int .i64 20, .int .i64 21]) (ok := fun _ => True) (okp := fun _ => True) ?hr ?hp (fun _ hk => hk) trivial (Below.refl _ _) (Nat.le_refl _) (by simp) ?_; (case hd => rfl); (case hg => rfl); (case hr => first | (go_simp; done) | (go_simp; rfl)); (case hp => exact (Reps.one (show Kd.M (Kd.int .i64) _ _ _ (-1) [.int .i64 (-1)] from rfl) (Reps.one (show Kd.M (Kd.int .i64) _ _ _ 20 [.int .i64 20] from rfl) (Reps.one (show Kd.M (Kd.int .i64) _ _ _ 21 [.int .i64 21] from rfl) (Reps.none _ _))))); intro v304 w65 ho66 hb hg_ hnew_; clear hg_ hnew_; (first | rw [← Ny303.out] at ho66 | (simp only [Int.reduceToNat] at ho66; rw [← Ny303.out] at ho66)); replace HO278 := rB_ HO278 hb; have HO305 := am_ (Kd.R_lower ho66 (keep_size (w := w) (g := g) (row := none) (qP HK))); replace BK268 := bK_ BK268 hb; replace BK281 := bK_ BK281 hb; replace HK := kL_ HK hb; replace HB := bS_ HB hb; replace HI0 := am_ (IsS128.below (IsS128.q HI0) hb); clear hb ho66; obtain ⟨Ao67, co67, eo67⟩ := Kd.R_slice HO305.out; subst eo67) | (refine gc_ 62 rfl ?_; refine gl_ (some 30) Try.func62 #[.pointer (some ⟨g, 0, none⟩), .slice Ao67 y303.length co67] ?_; (with_reducible refine (spec_l1Int.calls g s0_0 t283 t284 _ _ y303 t306 t307 t308 w0 _ (IsS128.q HI0) (qB HB) (rC_ HO305) ?side4 ?side5 A56.out).mono ?_); (case side4 => exact (rL_ HO305)); (case side5 => exact far_slice (IsS128.own_ne HI0.out HO305.out (by decide))); rintro e w68 ⟨rfl, hi, hb, hk⟩; refine ⟨_, rfl, ?_⟩; replace BK268 := kB_ BK268 hk NB268_0; replace HO278 := IsS128.rk HI0 (qR HO278) hk; replace BK281 := kB_ BK281 hk NB281_0; replace HO305 := IsS128.rk HI0 (qR HO305) hk; replace HK := kT_ HK hk; replace HB := am_ (hb); replace HI0 := am_ (hi); (try clear hb); (try clear hk); (try clear hi); (try clear zK281); have zK281 := cf8 BK281.out; have hnb70 := nx_ NB268_0; (try clear zK268); have zK268 := cf8 BK268.out))
  refine bodyPost_ret (results_cell_row rfl _ _ gb268 75 #[.int .i64 t269, .int .i64 t270, .int .i64 t271, .int .i64 t306, .int .i64 t273, .bool t274, .int .i64 t275, .slice Ao63 t276.length co63] (0, 0) _ rfl (by exact blk_all8 (blk_far1 (qK BK268) NB268_281.out)) Try.underlying75 rfl (by kernel_rfl)) rfl ?_
  exact ⟨_, er_, by (with_reducible repeat (first | apply Kd.R_alloc | apply Kd.R_drewN | apply Kd.R_drew)); exact Kd.R_mono (R_far8 (g := gb268) (Kd.R_far (p := ⟨gb281, 3, none⟩) (Kd.R_types (Kd.R_types HO278.out BK281.out (by decide)) BK268.out (by decide)) (fun _ hk => hk.1.2) (.int .i64 t306)) (fun _ hk => hk.2)) (fun _ hk => trivial), IsS128.q HI0, qB HB, qP HK⟩
 replace H := ie_ H
 obtain ⟨-, H, c72b0, c72b1⟩ | ⟨c72, H, c72b0, c72b1⟩ := H
 ·
  obtain ⟨y309, hy309⟩ : ∃ y_ : List Int, y_ = (([0, 20, 21] : List Int)) := ⟨_, rfl⟩
  rw [← hy309] at H
  have Ny309 := am_ hy309
  clear hy309
  replace H := bf_ H
  obtain ⟨f_, hf_, ⟨t312, t313, t314⟩, A73, H⟩ := H
  subst hf_
  (try dsimp only at H)
  simp only [Option.some.injEq, Prod.mk.injEq] at H
  obtain ⟨rfl, rfl, rfl, rfl, rfl, rfl, rfl, rfl, rfl, rfl⟩ := H
  go_enter Try.func106, Try.ntmps106
  go_wp2_with (first | (refine gd_ 2 rfl ?_; refine bx_ (N := 2) (cs := #[.int .i64 0, .int .i64 0, .int .i64 0, .int .i64 0, .int .i64 0, .bool false, .int .i64 0, .slice none 0 0]) (t := 75) ?_; intro gb268 hg w74 hbox hb; replace HB := bS_ HB hb; have BK268 := am_ (hbox); have GW268 := am_ ((gK_ hg (qP HK))); have IGW268 := gI_ GW268; have GE268 := am_ ((Nat.le_trans HW0.out (gK_ hg (qP HK)))); have IGE268 := gI_ GE268; replace HK := kL_ HK hb; have NB0_268 := am_ ((nG_ hg (IsS128.lt (IsS128.q HI0)))); have INB0_268 := nI_ NB0_268; have NB268_0 := am_ (((nG_ hg (IsS128.lt (IsS128.q HI0))).symm)); replace HI0 := am_ (IsS128.below (IsS128.q HI0) hb); clear hb hbox hg) | (refine gc_ 109 rfl ?_; refine gl_ (some 5) Try.func109 #[.pointer (some ⟨g, 0, none⟩)] ?_; (with_reducible refine (spec_l11Draw.calls k g s0_0 s0_1 s0_2 t269 t270 t271 t272 t273 t274 t275 t276 t279 t280 w0 _ (IsS128.q HI0) (qB HB) A2.out).mono ?_); rintro e w75 ⟨v277, rfl, ho0, hi, hb, hk⟩; refine ⟨_, rfl, ?_⟩; replace BK268 := kB_ BK268 hk NB268_0; have HO278 := am_ (Kd.R_lower ho0 (keep_size (w := w) (g := g) (row := none) (qP HK))); replace HK := kT_ HK hk; replace HB := am_ (hb); replace HI0 := am_ (hi); (try clear hb); (try clear hk); (try clear hi); (try clear ho0)) | (refine gd_ 3 rfl ?_; refine bx_ (N := 3) (cs := #[.int .i64 0, .int .i64 0, .int .i64 0, .int .i64 0, .int .i64 0, .bool false, .int .i64 0, .slice none 0 0]) (t := 75) ?_; intro gb281 hg w76 hbox hb; replace HO278 := rB_ HO278 hb; replace HB := bS_ HB hb; have BK281 := am_ (hbox); have GW281 := am_ ((gK_ hg (qP HK))); have IGW281 := gI_ GW281; have GE281 := am_ ((Nat.le_trans HW0.out (gK_ hg (qP HK)))); have IGE281 := gI_ GE281; replace HK := kL_ HK hb; have NB268_281 := am_ ((gN_ hg (qK BK268))); have NB281_268 := am_ ((gM_ hg (qK BK268))); replace BK268 := bK_ BK268 hb; have NB0_281 := am_ ((nG_ hg (IsS128.lt (IsS128.q HI0)))); have INB0_281 := nI_ NB0_281; have NB281_0 := am_ (((nG_ hg (IsS128.lt (IsS128.q HI0))).symm)); replace HI0 := am_ (IsS128.below (IsS128.q HI0) hb); clear hb hbox hg; have hnb77 := nx_ NB281_268; have hnb78 := nx_ NB281_0; (try clear zK281); have zK281 := cf8 BK281.out; obtain ⟨Ao80, co80, eo80⟩ := Kd.R_slice HO278.out; subst eo80) | (refine gc_ 61 rfl ?_; refine gl_ (some 7) Try.func61 #[.pointer (some ⟨g, 0, none⟩), .int .i64 16] ?_; (with_reducible refine (spec_l1Below.calls g s0_0 t279 t280 16 t282 t283 t284 w0 _ (IsS128.q HI0) (qB HB) A3.out).mono ?_); rintro e w81 ⟨rfl, hi, hb, hk⟩; refine ⟨_, rfl, ?_⟩; replace BK268 := fk_ BK268 hk NB268_0; replace HO278 := am_ (Kd.R_mono (Kd.R_keep (IsS128.apart (show IsS128 w0 _ g s0_0 t279 t280 from IsS128.q HI0) (fR2_ HO278 BK281) (by decide)) hk (fun _ h => h.2)) (fun _ h => h.1)); replace BK281 := am_ (KeepBut.blk hk (blk_all8 (qK BK281)) NB281_0.out (by simp)); replace HK := kT_ HK hk; replace HB := am_ (hb); replace HI0 := am_ (hi); (try clear hb); (try clear hk); (try clear hi)) | (refine gd_ 35 rfl ?_; refine Kd.R_lit (Kd.int .i64) _ 3 ?hg (N := 35) ?hd (xs := ([0, 20, 21] : List Int)) (inner := [.int .i64 0, .int .i64 20, .int .i64 21]) (ok := fun _ => True) (okp := fun _ => True) ?hr ?hp (fun _ hk => hk) trivial (Below.refl _ _) (Nat.le_refl _) (by simp) ?_; (case hd => rfl); (case hg => rfl); (case hr => first | (go_simp; done) | (go_simp; rfl)); (case hp => exact (Reps.one (show Kd.M (Kd.int .i64) _ _ _ 0 [.int .i64 0] from rfl) (Reps.one (show Kd.M (Kd.int .i64) _ _ _ 20 [.int .i64 20] from rfl) (Reps.one (show Kd.M (Kd.int .i64) _ _ _ 21 [.int .i64 21] from rfl) (Reps.none _ _))))); intro v310 w82 ho83 hb hg_ hnew_; clear hg_ hnew_; (first | rw [← Ny309.out] at ho83 | (simp only [Int.reduceToNat] at ho83; rw [← Ny309.out] at ho83)); replace HO278 := rB_ HO278 hb; have HO311 := am_ (Kd.R_lower ho83 (keep_size (w := w) (g := g) (row := none) (qP HK))); replace BK268 := bK_ BK268 hb; replace BK281 := bK_ BK281 hb; replace HK := kL_ HK hb; replace HB := bS_ HB hb; replace HI0 := am_ (IsS128.below (IsS128.q HI0) hb); clear hb ho83; obtain ⟨Ao84, co84, eo84⟩ := Kd.R_slice HO311.out; subst eo84) | (refine gc_ 62 rfl ?_; refine gl_ (some 36) Try.func62 #[.pointer (some ⟨g, 0, none⟩), .slice Ao84 y309.length co84] ?_; (with_reducible refine (spec_l1Int.calls g s0_0 t283 t284 _ _ y309 t312 t313 t314 w0 _ (IsS128.q HI0) (qB HB) (rC_ HO311) ?side4 ?side5 A73.out).mono ?_); (case side4 => exact (rL_ HO311)); (case side5 => exact far_slice (IsS128.own_ne HI0.out HO311.out (by decide))); rintro e w85 ⟨rfl, hi, hb, hk⟩; refine ⟨_, rfl, ?_⟩; replace BK268 := kB_ BK268 hk NB268_0; replace HO278 := IsS128.rk HI0 (qR HO278) hk; replace BK281 := kB_ BK281 hk NB281_0; replace HO311 := IsS128.rk HI0 (qR HO311) hk; replace HK := kT_ HK hk; replace HB := am_ (hb); replace HI0 := am_ (hi); (try clear hb); (try clear hk); (try clear hi); (try clear zK281); have zK281 := cf8 BK281.out; have hnb87 := nx_ NB268_0; (try clear zK268); have zK268 := cf8 BK268.out))
  refine bodyPost_ret (results_cell_row rfl _ _ gb268 75 #[.int .i64 t269, .int .i64 t270, .int .i64 t271, .int .i64 t272, .int .i64 t312, .bool t274, .int .i64 t275, .slice Ao80 t276.length co80] (0, 0) _ rfl (by exact blk_all8 (blk_far1 (qK BK268) NB268_281.out)) Try.underlying75 rfl (by kernel_rfl)) rfl ?_
  exact ⟨_, er_, by (with_reducible repeat (first | apply Kd.R_alloc | apply Kd.R_drewN | apply Kd.R_drew)); exact Kd.R_mono (R_far8 (g := gb268) (Kd.R_far (p := ⟨gb281, 4, none⟩) (Kd.R_types (Kd.R_types HO278.out BK281.out (by decide)) BK268.out (by decide)) (fun _ hk => hk.1.2) (.int .i64 t312)) (fun _ hk => hk.2)) (fun _ hk => trivial), IsS128.q HI0, qB HB, qP HK⟩
 replace H := ie_ H
 obtain ⟨-, H, c89b0, c89b1⟩ | ⟨c89, H, c89b0, c89b1⟩ := H
 ·
  obtain ⟨y315, hy315⟩ : ∃ y_ : List Int, y_ = (([(-1), 65536] : List Int)) := ⟨_, rfl⟩
  rw [← hy315] at H
  have Ny315 := am_ hy315
  clear hy315
  replace H := bf_ H
  obtain ⟨f_, hf_, ⟨t318, t319, t320⟩, A90, H⟩ := H
  subst hf_
  (try dsimp only at H)
  simp only [Option.some.injEq, Prod.mk.injEq] at H
  obtain ⟨rfl, rfl, rfl, rfl, rfl, rfl, rfl, rfl, rfl, rfl⟩ := H
  go_enter Try.func106, Try.ntmps106
  go_wp2_with (first | (refine gd_ 2 rfl ?_; refine bx_ (N := 2) (cs := #[.int .i64 0, .int .i64 0, .int .i64 0, .int .i64 0, .int .i64 0, .bool false, .int .i64 0, .slice none 0 0]) (t := 75) ?_; intro gb268 hg w91 hbox hb; replace HB := bS_ HB hb; have BK268 := am_ (hbox); have GW268 := am_ ((gK_ hg (qP HK))); have IGW268 := gI_ GW268; have GE268 := am_ ((Nat.le_trans HW0.out (gK_ hg (qP HK)))); have IGE268 := gI_ GE268; replace HK := kL_ HK hb; have NB0_268 := am_ ((nG_ hg (IsS128.lt (IsS128.q HI0)))); have INB0_268 := nI_ NB0_268; have NB268_0 := am_ (((nG_ hg (IsS128.lt (IsS128.q HI0))).symm)); replace HI0 := am_ (IsS128.below (IsS128.q HI0) hb); clear hb hbox hg) | (refine gc_ 109 rfl ?_; refine gl_ (some 5) Try.func109 #[.pointer (some ⟨g, 0, none⟩)] ?_; (with_reducible refine (spec_l11Draw.calls k g s0_0 s0_1 s0_2 t269 t270 t271 t272 t273 t274 t275 t276 t279 t280 w0 _ (IsS128.q HI0) (qB HB) A2.out).mono ?_); rintro e w92 ⟨v277, rfl, ho0, hi, hb, hk⟩; refine ⟨_, rfl, ?_⟩; replace BK268 := kB_ BK268 hk NB268_0; have HO278 := am_ (Kd.R_lower ho0 (keep_size (w := w) (g := g) (row := none) (qP HK))); replace HK := kT_ HK hk; replace HB := am_ (hb); replace HI0 := am_ (hi); (try clear hb); (try clear hk); (try clear hi); (try clear ho0)) | (refine gd_ 3 rfl ?_; refine bx_ (N := 3) (cs := #[.int .i64 0, .int .i64 0, .int .i64 0, .int .i64 0, .int .i64 0, .bool false, .int .i64 0, .slice none 0 0]) (t := 75) ?_; intro gb281 hg w93 hbox hb; replace HO278 := rB_ HO278 hb; replace HB := bS_ HB hb; have BK281 := am_ (hbox); have GW281 := am_ ((gK_ hg (qP HK))); have IGW281 := gI_ GW281; have GE281 := am_ ((Nat.le_trans HW0.out (gK_ hg (qP HK)))); have IGE281 := gI_ GE281; replace HK := kL_ HK hb; have NB268_281 := am_ ((gN_ hg (qK BK268))); have NB281_268 := am_ ((gM_ hg (qK BK268))); replace BK268 := bK_ BK268 hb; have NB0_281 := am_ ((nG_ hg (IsS128.lt (IsS128.q HI0)))); have INB0_281 := nI_ NB0_281; have NB281_0 := am_ (((nG_ hg (IsS128.lt (IsS128.q HI0))).symm)); replace HI0 := am_ (IsS128.below (IsS128.q HI0) hb); clear hb hbox hg; have hnb94 := nx_ NB281_268; have hnb95 := nx_ NB281_0; (try clear zK281); have zK281 := cf8 BK281.out; obtain ⟨Ao97, co97, eo97⟩ := Kd.R_slice HO278.out; subst eo97) | (refine gc_ 61 rfl ?_; refine gl_ (some 7) Try.func61 #[.pointer (some ⟨g, 0, none⟩), .int .i64 16] ?_; (with_reducible refine (spec_l1Below.calls g s0_0 t279 t280 16 t282 t283 t284 w0 _ (IsS128.q HI0) (qB HB) A3.out).mono ?_); rintro e w98 ⟨rfl, hi, hb, hk⟩; refine ⟨_, rfl, ?_⟩; replace BK268 := fk_ BK268 hk NB268_0; replace HO278 := am_ (Kd.R_mono (Kd.R_keep (IsS128.apart (show IsS128 w0 _ g s0_0 t279 t280 from IsS128.q HI0) (fR2_ HO278 BK281) (by decide)) hk (fun _ h => h.2)) (fun _ h => h.1)); replace BK281 := am_ (KeepBut.blk hk (blk_all8 (qK BK281)) NB281_0.out (by simp)); replace HK := kT_ HK hk; replace HB := am_ (hb); replace HI0 := am_ (hi); (try clear hb); (try clear hk); (try clear hi)) | (refine gd_ 41 rfl ?_; refine Kd.R_lit (Kd.int .i64) _ 3 ?hg (N := 41) ?hd (xs := ([(-1), 65536] : List Int)) (inner := [.int .i64 (-1), .int .i64 65536]) (ok := fun _ => True) (okp := fun _ => True) ?hr ?hp (fun _ hk => hk) trivial (Below.refl _ _) (Nat.le_refl _) (by simp) ?_; (case hd => rfl); (case hg => rfl); (case hr => first | (go_simp; done) | (go_simp; rfl)); (case hp => exact (Reps.one (show Kd.M (Kd.int .i64) _ _ _ (-1) [.int .i64 (-1)] from rfl) (Reps.one (show Kd.M (Kd.int .i64) _ _ _ 65536 [.int .i64 65536] from rfl) (Reps.none _ _)))); intro v316 w99 ho100 hb hg_ hnew_; clear hg_ hnew_; (first | rw [← Ny315.out] at ho100 | (simp only [Int.reduceToNat] at ho100; rw [← Ny315.out] at ho100)); replace HO278 := rB_ HO278 hb; have HO317 := am_ (Kd.R_lower ho100 (keep_size (w := w) (g := g) (row := none) (qP HK))); replace BK268 := bK_ BK268 hb; replace BK281 := bK_ BK281 hb; replace HK := kL_ HK hb; replace HB := bS_ HB hb; replace HI0 := am_ (IsS128.below (IsS128.q HI0) hb); clear hb ho100; obtain ⟨Ao101, co101, eo101⟩ := Kd.R_slice HO317.out; subst eo101) | (refine gc_ 62 rfl ?_; refine gl_ (some 42) Try.func62 #[.pointer (some ⟨g, 0, none⟩), .slice Ao101 y315.length co101] ?_; (with_reducible refine (spec_l1Int.calls g s0_0 t283 t284 _ _ y315 t318 t319 t320 w0 _ (IsS128.q HI0) (qB HB) (rC_ HO317) ?side4 ?side5 A90.out).mono ?_); (case side4 => exact (rL_ HO317)); (case side5 => exact far_slice (IsS128.own_ne HI0.out HO317.out (by decide))); rintro e w102 ⟨rfl, hi, hb, hk⟩; refine ⟨_, rfl, ?_⟩; replace BK268 := kB_ BK268 hk NB268_0; replace HO278 := IsS128.rk HI0 (qR HO278) hk; replace BK281 := kB_ BK281 hk NB281_0; replace HO317 := IsS128.rk HI0 (qR HO317) hk; replace HK := kT_ HK hk; replace HB := am_ (hb); replace HI0 := am_ (hi); (try clear hb); (try clear hk); (try clear hi); (try clear zK281); have zK281 := cf8 BK281.out; have hnb104 := nx_ NB268_0; (try clear zK268); have zK268 := cf8 BK268.out))
  refine bodyPost_ret (results_cell_row rfl _ _ gb268 75 #[.int .i64 t269, .int .i64 t270, .int .i64 t271, .int .i64 t272, .int .i64 t273, .bool t274, .int .i64 t318, .slice Ao97 t276.length co97] (0, 0) _ rfl (by exact blk_all8 (blk_far1 (qK BK268) NB268_281.out)) Try.underlying75 rfl (by kernel_rfl)) rfl ?_
  exact ⟨_, er_, by (with_reducible repeat (first | apply Kd.R_alloc | apply Kd.R_drewN | apply Kd.R_drew)); exact Kd.R_mono (R_far8 (g := gb268) (Kd.R_far (p := ⟨gb281, 6, none⟩) (Kd.R_types (Kd.R_types HO278.out BK281.out (by decide)) BK268.out (by decide)) (fun _ hk => hk.1.2) (.int .i64 t318)) (fun _ hk => hk.2)) (fun _ hk => trivial), IsS128.q HI0, qB HB, qP HK⟩
 replace H := ie_ H
 obtain ⟨-, H, c106b0, c106b1⟩ | ⟨c106, H, c106b0, c106b1⟩ := H
 ·
  replace H := bf_ H
  obtain ⟨f_, hf_, ⟨t321, t322, t323, t324, t325, t326, t327, t328, t329, t330, t331, t332, t333, t334, t335, t336, t337, t338⟩, A107, H⟩ := H
  subst hf_
  (try dsimp only at H)
  replace H := my_ (([(⟨0, (⟨0, (⟨#[]⟩ : ByteArray), 0, 0, 0, (⟨#[]⟩ : ByteArray), 0, 0⟩ : S25), (⟨0, (⟨#[]⟩ : ByteArray), 0, 0, 0, 0, 0⟩ : S27)⟩ : S29), (⟨t321, (⟨t322, t323, t324, t325, t326, t327, t328, t329⟩ : S25), (⟨t330, t331, t332, t333, t334, t335, t336⟩ : S27)⟩ : S29)] : List (S29))) H
  obtain ⟨y339, Ny339, H⟩ := H
  (try dsimp only at H)
  replace H := ip_ H
  obtain ⟨c108, H, -⟩ := H
  have LMc108 := am_ c108
  clear c108
  obtain ⟨y342, hy342⟩ : ∃ y_ : List (S29), y_ = (t276 ++ y339) := ⟨_, rfl⟩
  replace H : (some (t269, t270, t271, t272, t273, t274, t275, y342, t337, t338)) = some (r1, r2, r3, r4, r5, r6, r7, r8, r9, r10) := by first | (rw [hy342]; with_reducible exact H) | (have H2_ := (Option.bind_some _ _).symm.trans H; rw [hy342]; with_reducible exact H2_) | (have H2_ := (Option.bind_some _ _).symm.trans H; with_reducible exact H2_) | with_reducible exact H | (rw [hy342]; exact H) | exact H
  have Ny342 := am_ hy342
  clear hy342
  simp only [Option.some.injEq, Prod.mk.injEq] at H
  obtain ⟨rfl, rfl, rfl, rfl, rfl, rfl, rfl, rfl, rfl, rfl⟩ := H
  go_enter Try.func106, Try.ntmps106
  try go_wp2_with (first | (refine gd_ 2 rfl ?_; refine bx_ (N := 2) (cs := #[.int .i64 0, .int .i64 0, .int .i64 0, .int .i64 0, .int .i64 0, .bool false, .int .i64 0, .slice none 0 0]) (t := 75) ?_; intro gb268 hg w109 hbox hb; replace HB := bS_ HB hb; have BK268 := am_ (hbox); have GW268 := am_ ((gK_ hg (qP HK))); have IGW268 := gI_ GW268; have GE268 := am_ ((Nat.le_trans HW0.out (gK_ hg (qP HK)))); have IGE268 := gI_ GE268; replace HK := kL_ HK hb; have NB0_268 := am_ ((nG_ hg (IsS128.lt (IsS128.q HI0)))); have INB0_268 := nI_ NB0_268; have NB268_0 := am_ (((nG_ hg (IsS128.lt (IsS128.q HI0))).symm)); replace HI0 := am_ (IsS128.below (IsS128.q HI0) hb); clear hb hbox hg) | (refine gc_ 109 rfl ?_; refine gl_ (some 5) Try.func109 #[.pointer (some ⟨g, 0, none⟩)] ?_; (with_reducible refine (spec_l11Draw.calls k g s0_0 s0_1 s0_2 t269 t270 t271 t272 t273 t274 t275 t276 t279 t280 w0 _ (IsS128.q HI0) (qB HB) A2.out).mono ?_); rintro e w110 ⟨v277, rfl, ho0, hi, hb, hk⟩; refine ⟨_, rfl, ?_⟩; replace BK268 := kB_ BK268 hk NB268_0; have HO278 := am_ (Kd.R_lower ho0 (keep_size (w := w) (g := g) (row := none) (qP HK))); replace HK := kT_ HK hk; replace HB := am_ (hb); replace HI0 := am_ (hi); (try clear hb); (try clear hk); (try clear hi); (try clear ho0)) | (refine gd_ 3 rfl ?_; refine bx_ (N := 3) (cs := #[.int .i64 0, .int .i64 0, .int .i64 0, .int .i64 0, .int .i64 0, .bool false, .int .i64 0, .slice none 0 0]) (t := 75) ?_; intro gb281 hg w111 hbox hb; replace HO278 := rB_ HO278 hb; replace HB := bS_ HB hb; have BK281 := am_ (hbox); have GW281 := am_ ((gK_ hg (qP HK))); have IGW281 := gI_ GW281; have GE281 := am_ ((Nat.le_trans HW0.out (gK_ hg (qP HK)))); have IGE281 := gI_ GE281; replace HK := kL_ HK hb; have NB268_281 := am_ ((gN_ hg (qK BK268))); have NB281_268 := am_ ((gM_ hg (qK BK268))); replace BK268 := bK_ BK268 hb; have NB0_281 := am_ ((nG_ hg (IsS128.lt (IsS128.q HI0)))); have INB0_281 := nI_ NB0_281; have NB281_0 := am_ (((nG_ hg (IsS128.lt (IsS128.q HI0))).symm)); replace HI0 := am_ (IsS128.below (IsS128.q HI0) hb); clear hb hbox hg; have hnb112 := nx_ NB281_268; have hnb113 := nx_ NB281_0; (try clear zK281); have zK281 := cf8 BK281.out; obtain ⟨Ao115, co115, eo115⟩ := Kd.R_slice HO278.out; subst eo115) | (refine gc_ 61 rfl ?_; refine gl_ (some 7) Try.func61 #[.pointer (some ⟨g, 0, none⟩), .int .i64 16] ?_; (with_reducible refine (spec_l1Below.calls g s0_0 t279 t280 16 t282 t283 t284 w0 _ (IsS128.q HI0) (qB HB) A3.out).mono ?_); rintro e w116 ⟨rfl, hi, hb, hk⟩; refine ⟨_, rfl, ?_⟩; replace BK268 := fk_ BK268 hk NB268_0; replace HO278 := am_ (Kd.R_mono (Kd.R_keep (IsS128.apart (show IsS128 w0 _ g s0_0 t279 t280 from IsS128.q HI0) (fR2_ HO278 BK281) (by decide)) hk (fun _ h => h.2)) (fun _ h => h.1)); replace BK281 := am_ (KeepBut.blk hk (blk_all8 (qK BK281)) NB281_0.out (by simp)); replace HK := kT_ HK hk; replace HB := am_ (hb); replace HI0 := am_ (hi); (try clear hb); (try clear hk); (try clear hi)))
  replace HO278 := am_ (Kd.R_drew HO278.out)
  replace BK268 := am_ (blk_drew BK268.out)
  replace BK281 := am_ (blk_drew BK281.out)
  replace HI0 := am_ (IsS128.drew HI0.out)
  replace HK := am_ (keep_drew HK.out)
  replace HB := am_ (below_drew1 HB.out)
  refine start_ (n := 9) (S := fun w' => w'.cell? ⟨gb281, 0, none⟩ = some (.int .i64 t269) ∧ w'.cell? ⟨gb281, 1, none⟩ = some (.int .i64 t270) ∧ w'.cell? ⟨gb281, 2, none⟩ = some (.int .i64 t271) ∧ w'.cell? ⟨gb281, 3, none⟩ = some (.int .i64 t272) ∧ w'.cell? ⟨gb281, 4, none⟩ = some (.int .i64 t273) ∧ w'.cell? ⟨gb281, 5, none⟩ = some (.bool t274) ∧ w'.cell? ⟨gb281, 6, none⟩ = some (.int .i64 t275) ∧ w'.cell? ⟨gb281, 7, none⟩ = some (.slice Ao115 t276.length co115)) (ds := [8]) #[oo,oo,oo,oo,oo,oo,oo,oo,oo] (by kernel_rfl) rfl rfl (cz8 BK281.out) (fun hHeld => ?_); refine with_tabW spec_l11Any.tab16 spec_l11Any.bits16 (fun HT_ HW_ => ?_)
  generalize w116.drew = w117 at HO278 BK268 BK281 HI0 HK HB hHeld ⊢
  refine pq_ 0 46 HT_ #[ii,oo,oo,oo,oo,oo,oo,oo,oo] ?_
  refine pq_ 2 48 HT_ #[ii,oo,ii,oo,oo,oo,oo,oo,oo] ?_
  refine pq_ 3 49 HT_ #[ii,oo,ii,ii,oo,oo,oo,oo,oo] ?_
  refine tz_ (i := 1) (N := some 47) HT_ HW_ #[ii,ii,ii,ii,oo,oo,oo,oo,oo] rfl rfl hHeld ?_
  refine on_ HT_ (i := 4) (N := some 50) #[ii,ii,ii,ii,ii,oo,oo,oo,oo] (fun K hK => ?_)
  refine goes_ Try.func60 (by kernel_rfl) rfl #[.pointer (some ⟨g, 0, none⟩)] (by rfl) rfl rfl la_ ?_
  with_reducible refine (spec_l9Item.calls k g s0_0 t283 t284 t321 t322 t323 t324 t325 t326 t327 t328 t329 t330 t331 t332 t333 t334 t335 t336 t337 t338 w0 _ (IsS128.q HI0) (qB HB) A107.out).mono ?_
  rintro e w118 ⟨rfl, hi, hb, hk⟩
  refine ⟨_, rfl, ?_⟩
  replace BK268 := kB_ BK268 hk NB268_0
  replace HO278 := IsS128.rk HI0 (qR HO278) hk
  replace BK281 := kB_ BK281 hk NB281_0
  replace HK := kT_ HK hk
  replace HB := am_ (hb)
  replace HI0 := am_ (hi)
  (try clear hb hk hi)
  refine hK.out _ _ (cz8 BK281.out) (fun hHeld => ?_)
  clear hK K
  refine nm_ (some 50) ?_
  refine on_ HT_ (i := 5) (N := some 51) #[ii,ii,ii,ii,ii,ii,oo,oo,oo] (fun K hK => ?_)
  refine Kd.R_lit_step k29 _ 29 ?hg (N := 51) ?hd (xs := ([(⟨0, (⟨0, (⟨#[]⟩ : ByteArray), 0, 0, 0, (⟨#[]⟩ : ByteArray), 0, 0⟩ : S25), (⟨0, (⟨#[]⟩ : ByteArray), 0, 0, 0, 0, 0⟩ : S27)⟩ : S29), (⟨t321, (⟨t322, t323, t324, t325, t326, t327, t328, t329⟩ : S25), (⟨t330, t331, t332, t333, t334, t335, t336⟩ : S27)⟩ : S29)] : List (S29))) (inner := [.int .i64 0, .int .i64 0, .string (⟨#[]⟩ : ByteArray), .int .i64 0, .int .i64 0, .int .i64 0, .string (⟨#[]⟩ : ByteArray), .int .i64 0, .int .i64 0, .int .i64 0, .string (⟨#[]⟩ : ByteArray), .int .i64 0, .int .i64 0, .int .i64 0, .int .i64 0, .int .i64 0, .int .i64 t321, .int .i64 t322, .string t323, .int .i64 t324, .int .i64 t325, .int .i64 t326, .string t327, .int .i64 t328, .int .i64 t329, .int .i64 t330, .string t331, .int .i64 t332, .int .i64 t333, .int .i64 t334, .int .i64 t335, .int .i64 t336]) (ok := fun _ => True) (okp := fun _ => True) ?hr ?hp (fun _ hk => hk) trivial (Below.refl _ _) (Nat.le_refl _) (by simp) ?_; (case hd => rfl); (case hg => rfl); (case hr => first | (go_simp; done) | (go_simp; rfl)); (case hp => exact (Reps.front (show Kd.M k29 _ _ _ (⟨0, (⟨0, (⟨#[]⟩ : ByteArray), 0, 0, 0, (⟨#[]⟩ : ByteArray), 0, 0⟩ : S25), (⟨0, (⟨#[]⟩ : ByteArray), 0, 0, 0, 0, 0⟩ : S27)⟩ : S29) [.int .i64 0, .int .i64 0, .string (⟨#[]⟩ : ByteArray), .int .i64 0, .int .i64 0, .int .i64 0, .string (⟨#[]⟩ : ByteArray), .int .i64 0, .int .i64 0, .int .i64 0, .string (⟨#[]⟩ : ByteArray), .int .i64 0, .int .i64 0, .int .i64 0, .int .i64 0, .int .i64 0] from (k29_mkM _ _ _ (⟨0, (⟨0, (⟨#[]⟩ : ByteArray), 0, 0, 0, (⟨#[]⟩ : ByteArray), 0, 0⟩ : S25), (⟨0, (⟨#[]⟩ : ByteArray), 0, 0, 0, 0, 0⟩ : S27)⟩ : S29) )) rfl (Reps.front (show Kd.M k29 _ _ _ (⟨t321, (⟨t322, t323, t324, t325, t326, t327, t328, t329⟩ : S25), (⟨t330, t331, t332, t333, t334, t335, t336⟩ : S27)⟩ : S29) [.int .i64 t321, .int .i64 t322, .string t323, .int .i64 t324, .int .i64 t325, .int .i64 t326, .string t327, .int .i64 t328, .int .i64 t329, .int .i64 t330, .string t331, .int .i64 t332, .int .i64 t333, .int .i64 t334, .int .i64 t335, .int .i64 t336] from (k29_mkM _ _ _ (⟨t321, (⟨t322, t323, t324, t325, t326, t327, t328, t329⟩ : S25), (⟨t330, t331, t332, t333, t334, t335, t336⟩ : S27)⟩ : S29) )) rfl (Reps.none _ _) rfl) rfl))
  intro v340 w119 ho120 hb hg_ hnew_
  clear hg_ hnew_
  (first | rw [← Ny339.out] at ho120 | (simp only [Int.reduceToNat] at ho120; rw [← Ny339.out] at ho120))
  have HO341 := am_ (Kd.R_lower (Kd.R_new' ho120 (Kd.R_lt (qR HO278))) (keep_size (w := w) (g := g) (row := none) (qP HK)))
  replace HO278 := eA_ HO278 ho120 hb
  replace BK268 := bK_ BK268 hb
  replace BK281 := bK_ BK281 hb
  replace HK := kL_ HK hb
  replace HB := bS_ HB hb
  replace HI0 := am_ (IsS128.below (IsS128.q HI0) hb)
  clear hb ho120
  obtain ⟨Ao122, co122, eo122⟩ := Kd.R_slice HO341.out
  (first | subst eo122 | (injection eo122 with f1_ f2_ f3_; have f4_ := f1_.symm; have f5_ := f3_.symm; clear f1_ f2_ f3_; subst f4_; subst f5_))
  refine hK.out _ _ (cz8 BK281.out) (fun hHeld => ?_)
  clear hK K
  refine nm_ (some 51) ?_
  refine on_ HT_ (i := 6) (N := some 52) #[ii,ii,ii,ii,ii,ii,ii,oo,oo] (fun K hK => ?_)
  refine Kd.R_append_rows_step k29 w.heap.size (by rfl) (.tmp 47) (.tmp 51) 73 29 (.agg #[(.int .i64 0), (.int .i64 0), (.string ⟨#[]⟩), (.int .i64 0), (.int .i64 0), (.int .i64 0), (.string ⟨#[]⟩), (.int .i64 0), (.int .i64 0), (.int .i64 0), (.string ⟨#[]⟩), (.int .i64 0), (.int .i64 0), (.int .i64 0), (.int .i64 0), (.int .i64 0)]) 152 rfl Try.underlying73 info29 rfl (by decide) (by omega) (.slice Ao115 t276.length co115) t276 y339 _ _ _ (fun k_ => nb Ao122 y339.length co122 k_) (fun _ => False) rfl rfl ?aO ?aR (fun _ _ h => h) (fun _ h => h.elim) ?aF (Below.refl _ _) ?aS ?aL ?_
  (case aR => exact rC_ HO341)
  (case aF => exact (fun k_ hk => Kd.fresh' (Kd.R_lt (qR HO341)) k_ hk))
  (case aO => exact (xR1_ HO278))
  (case aS => exact (keep_size (w := w) (g := g) (row := none) (qP HK)))
  (case aL => have := LMc108.out; omega)
  intro v343 w121 ho hb hg hat
  rw [← Ny342.out] at ho
  replace BK268 := kG_ BK268 HO278 hg
  replace BK281 := kG_ BK281 HO278 hg
  replace HB := am_ (below_weaken (qB HB) HL.out hb)
  replace HI0 := am_ (IsS128.grown (IsS128.q HI0) hg (IsS128.own_ne HI0.out HO278.out (by decide)))
  replace HK := am_ (KeepBut.trans (qP HK) (KeepBut.of_grown hg g) (Kd.R_base2 HO278.out))
  have HO344 := am_ (ho)
  clear HO278
  clear ho hb hg hat
  obtain ⟨Ao123, co123, eo123⟩ := Kd.R_slice HO344.out
  (first | subst eo123 | (injection eo123 with f1_ f2_ f3_; have f4_ := f1_.symm; have f5_ := f3_.symm; clear f1_ f2_ f3_; subst f4_; subst f5_))
  refine hK.out _ _ (cz8 BK281.out) (fun hHeld => ?_)
  clear hK K
  refine nm_ (some 52) ?_
  refine pq_ 7 53 HT_ #[ii,ii,ii,ii,ii,ii,ii,ii,oo] ?_
  refine last_ (i := 8) (N := none) #[ii,ii,ii,ii,ii,ii,ii,ii,ii] rfl rfl (one_of HT_.out (by kernel_rfl)) (by decide) (fun K hK => ?_)
  have hs124 : w121.cell? ⟨gb281, 7, none⟩ = some (.slice Ao115 t276.length co115) := (blk_cell BK281.out 7).trans rfl
  have hfs124 := blk_frozen BK281.out 7
  have hns124_0 := NB268_281.out
  have hms124_0 := NB281_268.out
  refine skip_ (w1 := ?_) (by rfl) rfl ?_ ?_
  rotate_left
  ·
   go_simp
   rfl
  refine hK.out _ _ ?_
  clear hK K
  refine done_ (done_of HT_.out (by kernel_rfl)) ?_
  (try clear zK281)
  have zK281 := cf8 BK281.out
  have hnb126 := nx_ NB268_0
  (try clear zK268)
  have zK268 := cf8 BK268.out
  try go_wp2
  refine bodyPost_ret (results_cell_row rfl _ _ gb268 75 #[.int .i64 t269, .int .i64 t270, .int .i64 t271, .int .i64 t272, .int .i64 t273, .bool t274, .int .i64 t275, .slice Ao123 y342.length co123] (0, 0) _ rfl (by exact blk_all8 (blk_far1 (qK BK268) NB268_281.out)) Try.underlying75 rfl (by kernel_rfl)) rfl ?_
  exact ⟨_, er_, by (with_reducible repeat (first | apply Kd.R_alloc | apply Kd.R_drewN | apply Kd.R_drew)); exact Kd.R_mono (R_far8 (g := gb268) (Kd.R_far (p := ⟨gb281, 7, none⟩) (Kd.R_types (Kd.R_types HO344.out BK281.out (by decide)) BK268.out (by decide)) (fun _ hk => hk.1.2) (.slice Ao123 y342.length co123)) (fun _ hk => hk.2)) (fun _ hk => trivial), IsS128.q HI0, qB HB, qP HK⟩
 replace H := ie_ H
 obtain ⟨-, H, c128b0, c128b1⟩ | ⟨c128, H, c128b0, c128b1⟩ := H
 rotate_left
 ·
  simp only [Option.some.injEq, Prod.mk.injEq] at H
  obtain ⟨rfl, rfl, rfl, rfl, rfl, rfl, rfl, rfl, rfl, rfl⟩ := H
  go_enter Try.func106, Try.ntmps106
  go_wp2_with (first | (refine gd_ 2 rfl ?_; refine bx_ (N := 2) (cs := #[.int .i64 0, .int .i64 0, .int .i64 0, .int .i64 0, .int .i64 0, .bool false, .int .i64 0, .slice none 0 0]) (t := 75) ?_; intro gb268 hg w154 hbox hb; replace HB := bS_ HB hb; have BK268 := am_ (hbox); have GW268 := am_ ((gK_ hg (qP HK))); have IGW268 := gI_ GW268; have GE268 := am_ ((Nat.le_trans HW0.out (gK_ hg (qP HK)))); have IGE268 := gI_ GE268; replace HK := kL_ HK hb; have NB0_268 := am_ ((nG_ hg (IsS128.lt (IsS128.q HI0)))); have INB0_268 := nI_ NB0_268; have NB268_0 := am_ (((nG_ hg (IsS128.lt (IsS128.q HI0))).symm)); replace HI0 := am_ (IsS128.below (IsS128.q HI0) hb); clear hb hbox hg) | (refine gc_ 109 rfl ?_; refine gl_ (some 5) Try.func109 #[.pointer (some ⟨g, 0, none⟩)] ?_; (with_reducible refine (spec_l11Draw.calls k g s0_0 s0_1 s0_2 t269 t270 t271 t272 t273 t274 t275 t276 t279 t280 w0 _ (IsS128.q HI0) (qB HB) A2.out).mono ?_); rintro e w155 ⟨v277, rfl, ho0, hi, hb, hk⟩; refine ⟨_, rfl, ?_⟩; replace BK268 := kB_ BK268 hk NB268_0; have HO278 := am_ (Kd.R_lower ho0 (keep_size (w := w) (g := g) (row := none) (qP HK))); replace HK := kT_ HK hk; replace HB := am_ (hb); replace HI0 := am_ (hi); (try clear hb); (try clear hk); (try clear hi); (try clear ho0)) | (refine gd_ 3 rfl ?_; refine bx_ (N := 3) (cs := #[.int .i64 0, .int .i64 0, .int .i64 0, .int .i64 0, .int .i64 0, .bool false, .int .i64 0, .slice none 0 0]) (t := 75) ?_; intro gb281 hg w156 hbox hb; replace HO278 := rB_ HO278 hb; replace HB := bS_ HB hb; have BK281 := am_ (hbox); have GW281 := am_ ((gK_ hg (qP HK))); have IGW281 := gI_ GW281; have GE281 := am_ ((Nat.le_trans HW0.out (gK_ hg (qP HK)))); have IGE281 := gI_ GE281; replace HK := kL_ HK hb; have NB268_281 := am_ ((gN_ hg (qK BK268))); have NB281_268 := am_ ((gM_ hg (qK BK268))); replace BK268 := bK_ BK268 hb; have NB0_281 := am_ ((nG_ hg (IsS128.lt (IsS128.q HI0)))); have INB0_281 := nI_ NB0_281; have NB281_0 := am_ (((nG_ hg (IsS128.lt (IsS128.q HI0))).symm)); replace HI0 := am_ (IsS128.below (IsS128.q HI0) hb); clear hb hbox hg; have hnb157 := nx_ NB281_268; have hnb158 := nx_ NB281_0; (try clear zK281); have zK281 := cf8 BK281.out; obtain ⟨Ao160, co160, eo160⟩ := Kd.R_slice HO278.out; subst eo160) | (refine gc_ 61 rfl ?_; refine gl_ (some 7) Try.func61 #[.pointer (some ⟨g, 0, none⟩), .int .i64 16] ?_; (with_reducible refine (spec_l1Below.calls g s0_0 t279 t280 16 t282 t283 t284 w0 _ (IsS128.q HI0) (qB HB) A3.out).mono ?_); rintro e w161 ⟨rfl, hi, hb, hk⟩; refine ⟨_, rfl, ?_⟩; replace BK268 := fk_ BK268 hk NB268_0; replace HO278 := am_ (Kd.R_mono (Kd.R_keep (IsS128.apart (show IsS128 w0 _ g s0_0 t279 t280 from IsS128.q HI0) (fR2_ HO278 BK281) (by decide)) hk (fun _ h => h.2)) (fun _ h => h.1)); replace BK281 := am_ (KeepBut.blk hk (blk_all8 (qK BK281)) NB281_0.out (by simp)); replace HK := kT_ HK hk; replace HB := am_ (hb); replace HI0 := am_ (hi); (try clear hb); (try clear hk); (try clear hi); (try clear zK281); have zK281 := cf8 BK281.out; have hnb163 := nx_ NB268_0; (try clear zK268); have zK268 := cf8 BK268.out))
  refine bodyPost_ret (results_cell_row rfl _ _ gb268 75 #[.int .i64 t269, .int .i64 t270, .int .i64 t271, .int .i64 t272, .int .i64 t273, .bool t274, .int .i64 t275, .slice Ao160 t276.length co160] (0, 0) _ rfl (by exact blk_all8 (qK BK268)) Try.underlying75 rfl (by kernel_rfl)) rfl ?_
  exact ⟨_, er_, (fR1_ HO278 BK268), IsS128.q HI0, qB HB, qP HK⟩
 replace H := bf_ H
 obtain ⟨f_, hf_, ⟨t345, t346, t347, t348, t349, t350, t351, t352, t353, t354, t355, t356, t357, t358, t359, t360, t361, t362⟩, A129, H⟩ := H
 subst hf_
 (try dsimp only at H)
 replace H := bf_ H
 obtain ⟨f_, hf_, ⟨t363, t364, t365, t366, t367, t368, t369, t370, t371, t372, t373, t374, t375, t376, t377, t378, t379, t380⟩, A130, H⟩ := H
 subst hf_
 (try dsimp only at H)
 replace H := bf_ H
 obtain ⟨f_, hf_, ⟨t381, t382, t383, t384, t385, t386, t387, t388, t389, t390, t391, t392, t393, t394, t395, t396, t397, t398⟩, A131, H⟩ := H
 subst hf_
 (try dsimp only at H)
 replace H := my_ (([(⟨t345, (⟨t346, t347, t348, t349, t350, t351, t352, t353⟩ : S25), (⟨t354, t355, t356, t357, t358, t359, t360⟩ : S27)⟩ : S29), (⟨t363, (⟨t364, t365, t366, t367, t368, t369, t370, t371⟩ : S25), (⟨t372, t373, t374, t375, t376, t377, t378⟩ : S27)⟩ : S29), (⟨t381, (⟨t382, t383, t384, t385, t386, t387, t388, t389⟩ : S25), (⟨t390, t391, t392, t393, t394, t395, t396⟩ : S27)⟩ : S29)] : List (S29))) H
 obtain ⟨y399, Ny399, H⟩ := H
 (try dsimp only at H)
 replace H := ip_ H
 obtain ⟨c132, H, -⟩ := H
 have LMc132 := am_ c132
 clear c132
 obtain ⟨y402, hy402⟩ : ∃ y_ : List (S29), y_ = (t276 ++ y399) := ⟨_, rfl⟩
 replace H : (some (t269, t270, t271, t272, t273, t274, t275, y402, t397, t398)) = some (r1, r2, r3, r4, r5, r6, r7, r8, r9, r10) := by first | (rw [hy402]; with_reducible exact H) | (have H2_ := (Option.bind_some _ _).symm.trans H; rw [hy402]; with_reducible exact H2_) | (have H2_ := (Option.bind_some _ _).symm.trans H; with_reducible exact H2_) | with_reducible exact H | (rw [hy402]; exact H) | exact H
 have Ny402 := am_ hy402
 clear hy402
 simp only [Option.some.injEq, Prod.mk.injEq] at H
 obtain ⟨rfl, rfl, rfl, rfl, rfl, rfl, rfl, rfl, rfl, rfl⟩ := H
 go_enter Try.func106, Try.ntmps106
 try go_wp2_with (first | (refine gd_ 2 rfl ?_; refine bx_ (N := 2) (cs := #[.int .i64 0, .int .i64 0, .int .i64 0, .int .i64 0, .int .i64 0, .bool false, .int .i64 0, .slice none 0 0]) (t := 75) ?_; intro gb268 hg w133 hbox hb; replace HB := bS_ HB hb; have BK268 := am_ (hbox); have GW268 := am_ ((gK_ hg (qP HK))); have IGW268 := gI_ GW268; have GE268 := am_ ((Nat.le_trans HW0.out (gK_ hg (qP HK)))); have IGE268 := gI_ GE268; replace HK := kL_ HK hb; have NB0_268 := am_ ((nG_ hg (IsS128.lt (IsS128.q HI0)))); have INB0_268 := nI_ NB0_268; have NB268_0 := am_ (((nG_ hg (IsS128.lt (IsS128.q HI0))).symm)); replace HI0 := am_ (IsS128.below (IsS128.q HI0) hb); clear hb hbox hg) | (refine gc_ 109 rfl ?_; refine gl_ (some 5) Try.func109 #[.pointer (some ⟨g, 0, none⟩)] ?_; (with_reducible refine (spec_l11Draw.calls k g s0_0 s0_1 s0_2 t269 t270 t271 t272 t273 t274 t275 t276 t279 t280 w0 _ (IsS128.q HI0) (qB HB) A2.out).mono ?_); rintro e w134 ⟨v277, rfl, ho0, hi, hb, hk⟩; refine ⟨_, rfl, ?_⟩; replace BK268 := kB_ BK268 hk NB268_0; have HO278 := am_ (Kd.R_lower ho0 (keep_size (w := w) (g := g) (row := none) (qP HK))); replace HK := kT_ HK hk; replace HB := am_ (hb); replace HI0 := am_ (hi); (try clear hb); (try clear hk); (try clear hi); (try clear ho0)) | (refine gd_ 3 rfl ?_; refine bx_ (N := 3) (cs := #[.int .i64 0, .int .i64 0, .int .i64 0, .int .i64 0, .int .i64 0, .bool false, .int .i64 0, .slice none 0 0]) (t := 75) ?_; intro gb281 hg w135 hbox hb; replace HO278 := rB_ HO278 hb; replace HB := bS_ HB hb; have BK281 := am_ (hbox); have GW281 := am_ ((gK_ hg (qP HK))); have IGW281 := gI_ GW281; have GE281 := am_ ((Nat.le_trans HW0.out (gK_ hg (qP HK)))); have IGE281 := gI_ GE281; replace HK := kL_ HK hb; have NB268_281 := am_ ((gN_ hg (qK BK268))); have NB281_268 := am_ ((gM_ hg (qK BK268))); replace BK268 := bK_ BK268 hb; have NB0_281 := am_ ((nG_ hg (IsS128.lt (IsS128.q HI0)))); have INB0_281 := nI_ NB0_281; have NB281_0 := am_ (((nG_ hg (IsS128.lt (IsS128.q HI0))).symm)); replace HI0 := am_ (IsS128.below (IsS128.q HI0) hb); clear hb hbox hg; have hnb136 := nx_ NB281_268; have hnb137 := nx_ NB281_0; (try clear zK281); have zK281 := cf8 BK281.out; obtain ⟨Ao139, co139, eo139⟩ := Kd.R_slice HO278.out; subst eo139) | (refine gc_ 61 rfl ?_; refine gl_ (some 7) Try.func61 #[.pointer (some ⟨g, 0, none⟩), .int .i64 16] ?_; (with_reducible refine (spec_l1Below.calls g s0_0 t279 t280 16 t282 t283 t284 w0 _ (IsS128.q HI0) (qB HB) A3.out).mono ?_); rintro e w140 ⟨rfl, hi, hb, hk⟩; refine ⟨_, rfl, ?_⟩; replace BK268 := fk_ BK268 hk NB268_0; replace HO278 := am_ (Kd.R_mono (Kd.R_keep (IsS128.apart (show IsS128 w0 _ g s0_0 t279 t280 from IsS128.q HI0) (fR2_ HO278 BK281) (by decide)) hk (fun _ h => h.2)) (fun _ h => h.1)); replace BK281 := am_ (KeepBut.blk hk (blk_all8 (qK BK281)) NB281_0.out (by simp)); replace HK := kT_ HK hk; replace HB := am_ (hb); replace HI0 := am_ (hi); (try clear hb); (try clear hk); (try clear hi)))
 replace HO278 := am_ (Kd.R_drew HO278.out)
 replace BK268 := am_ (blk_drew BK268.out)
 replace BK281 := am_ (blk_drew BK281.out)
 replace HI0 := am_ (IsS128.drew HI0.out)
 replace HK := am_ (keep_drew HK.out)
 replace HB := am_ (below_drew1 HB.out)
 refine start_ (n := 12) (S := fun w' => w'.cell? ⟨gb281, 0, none⟩ = some (.int .i64 t269) ∧ w'.cell? ⟨gb281, 1, none⟩ = some (.int .i64 t270) ∧ w'.cell? ⟨gb281, 2, none⟩ = some (.int .i64 t271) ∧ w'.cell? ⟨gb281, 3, none⟩ = some (.int .i64 t272) ∧ w'.cell? ⟨gb281, 4, none⟩ = some (.int .i64 t273) ∧ w'.cell? ⟨gb281, 5, none⟩ = some (.bool t274) ∧ w'.cell? ⟨gb281, 6, none⟩ = some (.int .i64 t275) ∧ w'.cell? ⟨gb281, 7, none⟩ = some (.slice Ao139 t276.length co139)) (ds := [11]) (rl [0,12]) (by kernel_rfl) rfl rfl (cz8 BK281.out) (fun hHeld => ?_); refine with_tabW spec_l11Any.tab18 spec_l11Any.bits18 (fun HT_ HW_ => ?_)
 generalize w140.drew = w141 at HO278 BK268 BK281 HI0 HK HB hHeld ⊢
 refine pq_ 0 56 HT_ (rl [1,11]) ?_
 refine pq_ 2 58 HT_ (rl [1,1,1,9]) ?_
 refine pq_ 4 60 HT_ (rl [1,1,1,1,1,7]) ?_
 refine pq_ 6 62 HT_ (rl [1,1,1,1,1,1,1,5]) ?_
 refine tz_ (i := 1) (N := some 57) HT_ HW_ (rl [3,1,1,1,1,5]) rfl rfl hHeld ?_
 refine on_ HT_ (i := 3) (N := some 59) (rl [5,1,1,5]) (fun K hK => ?_)
 refine goes_ Try.func60 (by kernel_rfl) rfl #[.pointer (some ⟨g, 0, none⟩)] (by rfl) rfl rfl la_ ?_
 with_reducible refine (spec_l9Item.calls k g s0_0 t283 t284 t345 t346 t347 t348 t349 t350 t351 t352 t353 t354 t355 t356 t357 t358 t359 t360 t361 t362 w0 _ (IsS128.q HI0) (qB HB) A129.out).mono ?_
 rintro e w142 ⟨rfl, hi, hb, hk⟩
 refine ⟨_, rfl, ?_⟩
 replace BK268 := kB_ BK268 hk NB268_0
 replace HO278 := IsS128.rk HI0 (qR HO278) hk
 replace BK281 := kB_ BK281 hk NB281_0
 replace HK := kT_ HK hk
 replace HB := am_ (hb)
 replace HI0 := am_ (hi)
 (try clear hb hk hi)
 refine hK.out _ _ (cz8 BK281.out) (fun hHeld => ?_)
 clear hK K
 refine nm_ (some 59) ?_
 refine on_ HT_ (i := 5) (N := some 61) (rl [7,5]) (fun K hK => ?_)
 refine goes_ Try.func60 (by kernel_rfl) rfl #[.pointer (some ⟨g, 0, none⟩)] (by rfl) rfl rfl la_ ?_
 with_reducible refine (spec_l9Item.calls k g s0_0 t361 t362 t363 t364 t365 t366 t367 t368 t369 t370 t371 t372 t373 t374 t375 t376 t377 t378 t379 t380 w0 _ (IsS128.q HI0) (qB HB) A130.out).mono ?_
 rintro e w143 ⟨rfl, hi, hb, hk⟩
 refine ⟨_, rfl, ?_⟩
 replace BK268 := kB_ BK268 hk NB268_0
 replace HO278 := IsS128.rk HI0 (qR HO278) hk
 replace BK281 := kB_ BK281 hk NB281_0
 replace HK := kT_ HK hk
 replace HB := am_ (hb)
 replace HI0 := am_ (hi)
 (try clear hb hk hi)
 refine hK.out _ _ (cz8 BK281.out) (fun hHeld => ?_)
 clear hK K
 refine nm_ (some 61) ?_
 refine on_ HT_ (i := 7) (N := some 63) (rl [8,4]) (fun K hK => ?_)
 refine goes_ Try.func60 (by kernel_rfl) rfl #[.pointer (some ⟨g, 0, none⟩)] (by rfl) rfl rfl la_ ?_
 with_reducible refine (spec_l9Item.calls k g s0_0 t379 t380 t381 t382 t383 t384 t385 t386 t387 t388 t389 t390 t391 t392 t393 t394 t395 t396 t397 t398 w0 _ (IsS128.q HI0) (qB HB) A131.out).mono ?_
 rintro e w144 ⟨rfl, hi, hb, hk⟩
 refine ⟨_, rfl, ?_⟩
 replace BK268 := kB_ BK268 hk NB268_0
 replace HO278 := IsS128.rk HI0 (qR HO278) hk
 replace BK281 := kB_ BK281 hk NB281_0
 replace HK := kT_ HK hk
 replace HB := am_ (hb)
 replace HI0 := am_ (hi)
 (try clear hb hk hi)
 refine hK.out _ _ (cz8 BK281.out) (fun hHeld => ?_)
 clear hK K
 refine nm_ (some 63) ?_
 refine on_ HT_ (i := 8) (N := some 64) (rl [9,3]) (fun K hK => ?_)
 refine Kd.R_lit_step k29 _ 29 ?hg (N := 64) ?hd (xs := ([(⟨t345, (⟨t346, t347, t348, t349, t350, t351, t352, t353⟩ : S25), (⟨t354, t355, t356, t357, t358, t359, t360⟩ : S27)⟩ : S29), (⟨t363, (⟨t364, t365, t366, t367, t368, t369, t370, t371⟩ : S25), (⟨t372, t373, t374, t375, t376, t377, t378⟩ : S27)⟩ : S29), (⟨t381, (⟨t382, t383, t384, t385, t386, t387, t388, t389⟩ : S25), (⟨t390, t391, t392, t393, t394, t395, t396⟩ : S27)⟩ : S29)] : List (S29))) (inner := [.int .i64 t345, .int .i64 t346, .string t347, .int .i64 t348, .int .i64 t349, .int .i64 t350, .string t351, .int .i64 t352, .int .i64 t353, .int .i64 t354, .string t355, .int .i64 t356, .int .i64 t357, .int .i64 t358, .int .i64 t359, .int .i64 t360, .int .i64 t363, .int .i64 t364, .string t365, .int .i64 t366, .int .i64 t367, .int .i64 t368, .string t369, .int .i64 t370, .int .i64 t371, .int .i64 t372, .string t373, .int .i64 t374, .int .i64 t375, .int .i64 t376, .int .i64 t377, .int .i64 t378, .int .i64 t381, .int .i64 t382, .string t383, .int .i64 t384, .int .i64 t385, .int .i64 t386, .string t387, .int .i64 t388, .int .i64 t389, .int .i64 t390, .string t391, .int .i64 t392, .int .i64 t393, .int .i64 t394, .int .i64 t395, .int .i64 t396]) (ok := fun _ => True) (okp := fun _ => True) ?hr ?hp (fun _ hk => hk) trivial (Below.refl _ _) (Nat.le_refl _) (by simp) ?_; (case hd => rfl); (case hg => rfl); (case hr => first | (go_simp; done) | (go_simp; rfl)); (case hp => exact (Reps.front (show Kd.M k29 _ _ _ (⟨t345, (⟨t346, t347, t348, t349, t350, t351, t352, t353⟩ : S25), (⟨t354, t355, t356, t357, t358, t359, t360⟩ : S27)⟩ : S29) [.int .i64 t345, .int .i64 t346, .string t347, .int .i64 t348, .int .i64 t349, .int .i64 t350, .string t351, .int .i64 t352, .int .i64 t353, .int .i64 t354, .string t355, .int .i64 t356, .int .i64 t357, .int .i64 t358, .int .i64 t359, .int .i64 t360] from (k29_mkM _ _ _ (⟨t345, (⟨t346, t347, t348, t349, t350, t351, t352, t353⟩ : S25), (⟨t354, t355, t356, t357, t358, t359, t360⟩ : S27)⟩ : S29) )) rfl (Reps.front (show Kd.M k29 _ _ _ (⟨t363, (⟨t364, t365, t366, t367, t368, t369, t370, t371⟩ : S25), (⟨t372, t373, t374, t375, t376, t377, t378⟩ : S27)⟩ : S29) [.int .i64 t363, .int .i64 t364, .string t365, .int .i64 t366, .int .i64 t367, .int .i64 t368, .string t369, .int .i64 t370, .int .i64 t371, .int .i64 t372, .string t373, .int .i64 t374, .int .i64 t375, .int .i64 t376, .int .i64 t377, .int .i64 t378] from (k29_mkM _ _ _ (⟨t363, (⟨t364, t365, t366, t367, t368, t369, t370, t371⟩ : S25), (⟨t372, t373, t374, t375, t376, t377, t378⟩ : S27)⟩ : S29) )) rfl (Reps.front (show Kd.M k29 _ _ _ (⟨t381, (⟨t382, t383, t384, t385, t386, t387, t388, t389⟩ : S25), (⟨t390, t391, t392, t393, t394, t395, t396⟩ : S27)⟩ : S29) [.int .i64 t381, .int .i64 t382, .string t383, .int .i64 t384, .int .i64 t385, .int .i64 t386, .string t387, .int .i64 t388, .int .i64 t389, .int .i64 t390, .string t391, .int .i64 t392, .int .i64 t393, .int .i64 t394, .int .i64 t395, .int .i64 t396] from (k29_mkM _ _ _ (⟨t381, (⟨t382, t383, t384, t385, t386, t387, t388, t389⟩ : S25), (⟨t390, t391, t392, t393, t394, t395, t396⟩ : S27)⟩ : S29) )) rfl (Reps.none _ _) rfl) rfl) rfl))
 intro v400 w145 ho146 hb hg_ hnew_
 clear hg_ hnew_
 (first | rw [← Ny399.out] at ho146 | (simp only [Int.reduceToNat] at ho146; rw [← Ny399.out] at ho146))
 have HO401 := am_ (Kd.R_lower (Kd.R_new' ho146 (Kd.R_lt (qR HO278))) (keep_size (w := w) (g := g) (row := none) (qP HK)))
 replace HO278 := eA_ HO278 ho146 hb
 replace BK268 := bK_ BK268 hb
 replace BK281 := bK_ BK281 hb
 replace HK := kL_ HK hb
 replace HB := bS_ HB hb
 replace HI0 := am_ (IsS128.below (IsS128.q HI0) hb)
 clear hb ho146
 obtain ⟨Ao148, co148, eo148⟩ := Kd.R_slice HO401.out
 (first | subst eo148 | (injection eo148 with f1_ f2_ f3_; have f4_ := f1_.symm; have f5_ := f3_.symm; clear f1_ f2_ f3_; subst f4_; subst f5_))
 refine hK.out _ _ (cz8 BK281.out) (fun hHeld => ?_)
 clear hK K
 refine nm_ (some 64) ?_
 refine on_ HT_ (i := 9) (N := some 65) (rl [10,2]) (fun K hK => ?_)
 refine Kd.R_append_rows_step k29 w.heap.size (by rfl) (.tmp 57) (.tmp 64) 73 29 (.agg #[(.int .i64 0), (.int .i64 0), (.string ⟨#[]⟩), (.int .i64 0), (.int .i64 0), (.int .i64 0), (.string ⟨#[]⟩), (.int .i64 0), (.int .i64 0), (.int .i64 0), (.string ⟨#[]⟩), (.int .i64 0), (.int .i64 0), (.int .i64 0), (.int .i64 0), (.int .i64 0)]) 152 rfl Try.underlying73 info29 rfl (by decide) (by omega) (.slice Ao139 t276.length co139) t276 y399 _ _ _ (fun k_ => nb Ao148 y399.length co148 k_) (fun _ => False) rfl rfl ?aO ?aR (fun _ _ h => h) (fun _ h => h.elim) ?aF (Below.refl _ _) ?aS ?aL ?_
 (case aR => exact rC_ HO401)
 (case aF => exact (fun k_ hk => Kd.fresh' (Kd.R_lt (qR HO401)) k_ hk))
 (case aO => exact (xR1_ HO278))
 (case aS => exact (keep_size (w := w) (g := g) (row := none) (qP HK)))
 (case aL => have := LMc132.out; omega)
 intro v403 w147 ho hb hg hat
 rw [← Ny402.out] at ho
 replace BK268 := kG_ BK268 HO278 hg
 replace BK281 := kG_ BK281 HO278 hg
 replace HB := am_ (below_weaken (qB HB) HL.out hb)
 replace HI0 := am_ (IsS128.grown (IsS128.q HI0) hg (IsS128.own_ne HI0.out HO278.out (by decide)))
 replace HK := am_ (KeepBut.trans (qP HK) (KeepBut.of_grown hg g) (Kd.R_base2 HO278.out))
 have HO404 := am_ (ho)
 clear ho hb hg hat
 obtain ⟨Ao149, co149, eo149⟩ := Kd.R_slice HO404.out
 (first | subst eo149 | (injection eo149 with f1_ f2_ f3_; have f4_ := f1_.symm; have f5_ := f3_.symm; clear f1_ f2_ f3_; subst f4_; subst f5_))
 refine hK.out _ _ (cz8 BK281.out) (fun hHeld => ?_)
 clear hK K
 refine nm_ (some 65) ?_
 refine pq_ 10 66 HT_ (rl [11,1]) ?_
 refine last_ (i := 11) (N := none) (rl [12]) rfl rfl (one_of HT_.out (by kernel_rfl)) (by decide) (fun K hK => ?_)
 have hs150 : w147.cell? ⟨gb281, 7, none⟩ = some (.slice Ao139 t276.length co139) := (blk_cell BK281.out 7).trans rfl
 have hfs150 := blk_frozen BK281.out 7
 have hns150_0 := NB268_281.out
 have hms150_0 := NB281_268.out
 refine skip_ (w1 := ?_) (by rfl) rfl ?_ ?_
 rotate_left
 ·
  go_simp
  rfl
 refine hK.out _ _ ?_
 clear hK K
 refine done_ (done_of HT_.out (by kernel_rfl)) ?_
 (try clear zK281)
 have zK281 := cf8 BK281.out
 have hnb152 := nx_ NB268_0
 (try clear zK268)
 have zK268 := cf8 BK268.out
 try go_wp2
 refine bodyPost_ret (results_cell_row rfl _ _ gb268 75 #[.int .i64 t269, .int .i64 t270, .int .i64 t271, .int .i64 t272, .int .i64 t273, .bool t274, .int .i64 t275, .slice Ao149 y402.length co149] (0, 0) _ rfl (by exact blk_all8 (blk_far1 (qK BK268) NB268_281.out)) Try.underlying75 rfl (by kernel_rfl)) rfl ?_
 exact ⟨_, er_, by (with_reducible repeat (first | apply Kd.R_alloc | apply Kd.R_drewN | apply Kd.R_drew)); exact Kd.R_mono (R_far8 (g := gb268) (Kd.R_far (p := ⟨gb281, 7, none⟩) (Kd.R_types (Kd.R_types HO404.out BK281.out (by decide)) BK268.out (by decide)) (fun _ hk => hk.1.2) (.slice Ao149 y402.length co149)) (fun _ hk => hk.2)) (fun _ hk => trivial), IsS128.q HI0, qB HB, qP HK⟩

/-! ### spec_DrawPutCtl: function 51 -/
def spec_DrawPutCtl.f (k : Nat) (l0 : List Int) : Option (Int × Int × Int × Int × Int × Bool × Int × (List (S29))) := (spec_l1New.f k l0).bind fun bt406 => ((spec_l11Any.f k bt406.1 bt406.2.1 bt406.2.2).bind fun bt410 => (some (bt410.1, bt410.2.1, bt410.2.2.1, bt410.2.2.2.1, bt410.2.2.2.2.1, bt410.2.2.2.2.2.1, bt410.2.2.2.2.2.2.1, bt410.2.2.2.2.2.2.2.1)))
theorem spec_DrawPutCtl.mono : ∀ a0 k, LeO (spec_DrawPutCtl.f k a0) (spec_DrawPutCtl.f (k + 1) a0) := by
 intro a0 k
 unfold spec_DrawPutCtl.f
 have m0 := @spec_l11Any.mono; have m1 := @spec_l1New.mono; exact mo_
set_option maxHeartbeats 8000000 in
set_option maxRecDepth 100000 in
theorem spec_DrawPutCtl.calls (k : Nat) (A0 : Option Addr) (c0 : Nat) (l0 : List Int) (r1 : Int) (r2 : Int) (r3 : Int) (r4 : Int) (r5 : Int) (r6 : Bool) (r7 : Int) (r8 : List (S29)) (w : World) (hr0 : Kd.C (Kd.int .u8) w A0 l0.length l0) (hc0 : l0.length ≤ c0) (h : spec_DrawPutCtl.f k l0 = some (r1, r2, r3, r4, r5, r6, r7, r8)) :
  Calls Try.prog 51 #[.slice A0 l0.length c0] w fun e w' => ∃ v7_ : Value, e = .returned (.agg #[.int .i64 r1, .int .i64 r2, .int .i64 r3, .int .i64 r4, .int .i64 r5, .bool r6, .int .i64 r7, v7_]) ∧ Kd.R k29 29 w' w.heap.size (fun _ => True) v7_ r8 ∧ Below w.heap.size w w' := by
 have hu75 := Try.underlying75
 have HR0 := am_ hr0
 have HC0 := am_ hc0
 clear hr0 hc0
 have HB := Aside0.mk (Below.refl w.heap.size w)
 have H := h
 unfold spec_DrawPutCtl.f at H
 clear h
 replace H := bf_ H
 obtain ⟨f_, hf_, ⟨t406, t407, t408⟩, A2, H⟩ := H
 subst hf_
 (try dsimp only at H)
 replace H := bf_ H
 obtain ⟨f_, hf_, ⟨t410, t411, t412, t413, t414, t415, t416, t417, t420, t421⟩, A3, H⟩ := H
 subst hf_
 (try dsimp only at H)
 simp only [Option.some.injEq, Prod.mk.injEq] at H
 obtain ⟨rfl, rfl, rfl, rfl, rfl, rfl, rfl, rfl⟩ := H
 go_enter Try.func51, Try.ntmps51
 go_wp2_with (first | (refine gd_ 2 rfl ?_; refine bx_ (N := 2) (cs := #[.int .i64 0, .int .i64 0, .int .i64 0, .int .i64 0, .int .i64 0, .bool false, .int .i64 0, .slice none 0 0]) (t := 75) ?_; intro gb405 hg w4 hbox hb; have BK405 := am_ (hbox); have GW405 := gA_ hg HB; have GE405 := GW405; have IGE405 := gI_ GE405; replace HB := bS_ HB hb; clear hb hbox hg) | (refine gc_ 59 rfl ?_; refine gl_ (some 5) Try.func59 #[.slice A0 l0.length c0] ?_; (with_reducible refine (spec_l1New.calls k _ _ l0 t406 t407 t408 w _ (qB HB) ?side2 ?side3 A2.out).mono ?_); (case side2 => exact HR0.out); (case side3 => exact HC0.out); rintro e w5 ⟨g409, rfl, hi, hb, hb2⟩; refine ⟨_, rfl, ?_⟩; replace HB := am_ (hb); have HI409 := am_ (hi); have IGHI409 := iG_ HI409.out.ge; have NB409_405 := am_ (IsS128.ne_blk hi (blk_below (qK BK405) hb2) (by decide)); have NB405_409 := am_ (Ne.symm (IsS128.ne_blk hi (blk_below (qK BK405) hb2) (by decide))); replace BK405 := am_ (blk_below (qK BK405) hb2); (try clear hb); (try clear hb2); (try clear hi)) | (refine gc_ 106 rfl ?_; refine gl_ (some 7) Try.func106 #[.pointer (some ⟨g409, 0, none⟩)] ?_; (with_reducible refine (spec_l11Any.calls k g409 t406 t407 t408 t410 t411 t412 t413 t414 t415 t416 t417 t420 t421 w _ (IsS128.qz HI409) (qB HB) A3.out).mono ?_); rintro e w6 ⟨v418, rfl, ho0, hi, hb, hk⟩; refine ⟨_, rfl, ?_⟩; replace BK405 := kB_ BK405 hk NB405_409; have HO419 := am_ (Kd.R_lower ho0 (below_size (qB HB))); replace HB := am_ (hb); replace HI409 := am_ (hi); (try clear hb); (try clear hk); (try clear hi); (try clear ho0); have hnb7 := nx_ NB405_409; (try clear zK405); have zK405 := cf8 BK405.out; obtain ⟨Ao9, co9, eo9⟩ := Kd.R_slice HO419.out; subst eo9))
 refine bodyPost_ret (results_cell_row rfl _ _ gb405 75 #[.int .i64 t410, .int .i64 t411, .int .i64 t412, .int .i64 t413, .int .i64 t414, .bool t415, .int .i64 t416, .slice Ao9 t417.length co9] (0, 0) _ rfl (by exact blk_all8 (qK BK405)) Try.underlying75 rfl (by kernel_rfl)) rfl ?_
 exact ⟨_, er_, (fR1_ HO419 BK405), qB HB⟩

/-! ### impl_isIn: function 87 -/
def impl_isIn.f (a0 : Int) (a1 : Int) (a2 : Int) : Option (Bool) := if a1 ≤ a0 then (some (decide (a0 ≤ a2))) else (some false)
set_option maxHeartbeats 8000000 in
set_option maxRecDepth 100000 in
theorem impl_isIn.calls (a0 : Int) (a1 : Int) (a2 : Int) (r : Bool) (w : World) (h : impl_isIn.f a0 a1 a2 = some r) :
  Calls Try.prog 87 #[.int .i64 a0, .int .i64 a1, .int .i64 a2] w fun e w' => e = .returned (.bool r) ∧ Drawn0 w w' := by
 have H := h
 unfold impl_isIn.f at H
 clear h
 replace H := id_ H
 obtain ⟨-, H, c4b0⟩ | ⟨-, H, c4b0⟩ := H
 ·
  obtain rfl := si_ H
  go_enter Try.func87, Try.ntmps87
  go_wp2
  go_ret
  exact ⟨ea_, dn_⟩
 obtain rfl := si_ H
 go_enter Try.func87, Try.ntmps87
 go_wp2
 go_ret
 exact ⟨ea_, dn_⟩

/-! ### impl_wordOk: function 65 -/
def impl_wordOk.f (a0 : Int) : Option (Bool) := (impl_isIn.f a0 0 65535).bind fun t422 => (some t422)
set_option maxHeartbeats 8000000 in
set_option maxRecDepth 100000 in
theorem impl_wordOk.calls (a0 : Int) (r : Bool) (w : World) (h : impl_wordOk.f a0 = some r) :
  Calls Try.prog 65 #[.int .i64 a0] w fun e w' => e = .returned (.bool r) ∧ Drawn0 w w' := by
 have H : ((impl_isIn.f a0 0 65535).bind fun t422 => (some t422)) = some r := h
 clear h
 replace H := bd_ H
 obtain ⟨t422, A2, H⟩ := H
 obtain rfl := si_ H
 go_enter Try.func65, Try.ntmps65
 go_wp2_with (first | (refine gc_ 87 rfl ?_; refine gl_ (some 4) Try.func87 #[.int .i64 a0, .int .i64 0, .int .i64 65535] ?_; (with_reducible refine (impl_isIn.calls a0 0 65535 t422 _ A2.out).mono ?_); rintro e w' ⟨rfl, ⟨nd, rfl⟩⟩; refine ⟨_, rfl, ?_⟩))
 go_ret
 exact ⟨ea_, dn_⟩

end Go.Proofs.Ytiffahfpfgnjnaa.PFnCtls
