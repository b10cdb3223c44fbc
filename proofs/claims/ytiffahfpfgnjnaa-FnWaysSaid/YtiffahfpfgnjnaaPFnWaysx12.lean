-- Written by a program of this session (myprint.py, over the kit's print): contracts of FnWays
import Derived.Test.YtiffahfpfgnjnaaPFnWaysx0
import Derived.Test.YtiffahfpfgnjnaaPFnWaysx3
import Derived.Test.YtiffahfpfgnjnaaPFnWaysx10
import Derived.Test.YtiffahfpfgnjnaaPFnWaysx11
namespace Go.Proofs.Ytiffahfpfgnjnaa.PFnWays
open Go.RowKit Go.Proofs.YtiffahfpfgnjnaaW.PrintWords Go.Proofs.YtiffahfpfgnjnaaW.PrintLast Go.Proofs.YtiffahfpfgnjnaaW.PrintMore Go.Proofs.YtiffahfpfgnjnaaV
attribute [local go_sem] max2_int min2_int max_two min_two max_three min_three max_four min_four   -- for this text's walks alone
set_option linter.unusedVariables false
set_option linter.unusedSimpArgs false

/-! ### spec_l11Draw: function 109 -/
def spec_l11Draw.l0 : Nat → Int → List Int → Int → Int → Int → Int → Int → Int → Int → Bool → Int → List (S29) → Option (Int × Int × Int × Int × Int × Bool × Int × (List (S29)) × Int × Int)
 | 0, _, _, _, _, _, _, _, _, _, _, _, _ => none
 | k + 1, x4, x1000, x1001, x1002, x450000, x450001, x450002, x450003, x450004, x450005, x450006, x450007 => if x4 > 0 then ((spec_l9Item.f k x1000 x1001 x1002).bind fun bt465 => (if x450007.length < 925904528653 then (spec_l11Draw.l0 k (wrap64 (x4 - 1)) x1000 bt465.2.2.2.2.2.2.2.2.2.2.2.2.2.2.2.2.1 bt465.2.2.2.2.2.2.2.2.2.2.2.2.2.2.2.2.2 x450000 x450001 x450002 x450003 x450004 x450005 x450006 (x450007 ++ [(⟨bt465.1, (⟨bt465.2.1, bt465.2.2.1, bt465.2.2.2.1, bt465.2.2.2.2.1, bt465.2.2.2.2.2.1, bt465.2.2.2.2.2.2.1, bt465.2.2.2.2.2.2.2.1, bt465.2.2.2.2.2.2.2.2.1⟩ : S25), (⟨bt465.2.2.2.2.2.2.2.2.2.1, bt465.2.2.2.2.2.2.2.2.2.2.1, bt465.2.2.2.2.2.2.2.2.2.2.2.1, bt465.2.2.2.2.2.2.2.2.2.2.2.2.1, bt465.2.2.2.2.2.2.2.2.2.2.2.2.2.1, bt465.2.2.2.2.2.2.2.2.2.2.2.2.2.2.1, bt465.2.2.2.2.2.2.2.2.2.2.2.2.2.2.2.1⟩ : S27)⟩ : S29)])) else (none))) else (some (x450000, x450001, x450002, x450003, x450004, x450005, x450006, x450007, x1001, x1002))
def spec_l11Draw.f (k : Nat) (s0_0 : List Int) (s0_1 : Int) (s0_2 : Int) : Option (Int × Int × Int × Int × Int × Bool × Int × (List (S29)) × Int × Int) := (spec_l1Below.f s0_0 s0_1 s0_2 3).bind fun bt440 => ((spec_l1Below.f s0_0 bt440.2.1 bt440.2.2 2).bind fun bt443 => ((spec_l1Below.f s0_0 bt443.2.1 bt443.2.2 5).bind fun bt446 => (if (wrap64 (1 + bt440.1)) = 1 then ((spec_l1Below.f s0_0 bt446.2.1 bt446.2.2 3).bind fun bt450 => ((spec_l1Below.f s0_0 bt450.2.1 bt450.2.2 (wrap64 (1 + bt450.1))).bind fun bt453 => ((spec_l1Once.f s0_0 bt453.2.1 bt453.2.2 3).bind fun bt456 => ((spec_l1Below.f s0_0 bt456.2.1 bt456.2.2 9).bind fun bt459 => ((spec_l1Below.f s0_0 bt459.2.1 bt459.2.2 3).bind fun bt462 => (spec_l11Draw.l0 k bt462.1 s0_0 bt462.2.1 bt462.2.2 (wrap64 (1 + bt440.1)) bt443.1 (wrap64 (1 + bt446.1)) bt453.1 (wrap64 (1 + bt450.1)) bt456.1 bt459.1 ([] : List (S29)))))))) else (if (wrap64 (1 + bt440.1)) = 2 then ((spec_l1Below.f s0_0 bt446.2.1 bt446.2.2 4).bind fun bt486 => (some (wrap64 (1 + bt440.1), bt443.1, wrap64 (1 + bt446.1), bt486.1, 0, false, 0, ([] : List (S29)), bt486.2.1, bt486.2.2))) else (some (wrap64 (1 + bt440.1), bt443.1, wrap64 (1 + bt446.1), 0, 0, false, 0, ([] : List (S29)), bt446.2.1, bt446.2.2))))))
theorem spec_l11Draw.mono_l : ∀ k, (∀ y0 y1 y2 y3 y4 y5 y6 y7 y8 y9 y10 y11, LeO (spec_l11Draw.l0 k y0 y1 y2 y3 y4 y5 y6 y7 y8 y9 y10 y11) (spec_l11Draw.l0 (k + 1) y0 y1 y2 y3 y4 y5 y6 y7 y8 y9 y10 y11))
 | 0 => fun _ _ _ _ _ _ _ _ _ _ _ _ r h => by simp [spec_l11Draw.l0] at h
 | k + 1 => by
  have ih0 := spec_l11Draw.mono_l k
  ·
   intro y0 y1 y2 y3 y4 y5 y6 y7 y8 y9 y10 y11
   unfold spec_l11Draw.l0
   have m0 := @spec_l9Item.mono; exact mo_
theorem spec_l11Draw.mono : ∀ a0 a1 a2 k, LeO (spec_l11Draw.f k a0 a1 a2) (spec_l11Draw.f (k + 1) a0 a1 a2) := by
 intro a0 a1 a2 k
 have ih0 := spec_l11Draw.mono_l k
 unfold spec_l11Draw.f
 have m0 := @spec_l9Item.mono; exact mo_
def spec_l11Draw.T11 : Bool × List (List Nat × List Nat) := (true, [([], []), ([0], [0]), ([], []), ([2], [2]), ([3], [3]), ([1, 4, 3], [1, 4]), ([0, 1, 2, 3, 4, 5], []), ([6, 5, 5, 0, 1, 2, 3, 4, 5], [5, 6])])
def spec_l11Draw.B11 : List Nat := [0, 1, 0, 4, 12, 31, 63, 127]
theorem spec_l11Draw.tab11 : rtab .any (opsOf Try.f109 11) = spec_l11Draw.T11 := by kernel_rfl
theorem spec_l11Draw.bits11 : waitsOk spec_l11Draw.T11.2 spec_l11Draw.B11 = true := by kernel_rfl
set_option maxHeartbeats 8000000 in
set_option maxRecDepth 100000 in
theorem spec_l11Draw.calls (k : Nat) (g : Nat) (s0_0 : List Int) (s0_1 : Int) (s0_2 : Int) (r1 : Int) (r2 : Int) (r3 : Int) (r4 : Int) (r5 : Int) (r6 : Bool) (r7 : Int) (r8 : List (S29)) (r9 : Int) (r10 : Int) (w0 w : World) (hI : IsS128 w0 w g s0_0 s0_1 s0_2) (hB : Below w0.heap.size w0 w) (h : spec_l11Draw.f k s0_0 s0_1 s0_2 = some (r1, r2, r3, r4, r5, r6, r7, r8, r9, r10)) :
  Calls Try.prog 109 #[.pointer (some ⟨g, 0, none⟩)] w fun e w' => ∃ v7_ : Value, e = .returned (.agg #[.int .i64 r1, .int .i64 r2, .int .i64 r3, .int .i64 r4, .int .i64 r5, .bool r6, .int .i64 r7, v7_]) ∧ Kd.R k29 29 w' w.heap.size (fun _ => True) v7_ r8 ∧ IsS128 w0 w' g s0_0 r9 r10 ∧ Below w0.heap.size w0 w' ∧ KeepBut w w' g none := by
 have hu75 := Try.underlying75
 have HI0 := Aside0.mk hI
 have IGHI0 := iG_ HI0.out.ge
 have HK := Aside0.mk (KeepBut.refl w g none)
 have HL := Aside0.mk hB.size
 clear hI
 have HW0 := Aside0.mk hB.size
 have HB := Aside0.mk hB
 clear hB
 have H := h
 unfold spec_l11Draw.f at H
 clear h
 replace H := bf_ H
 obtain ⟨f_, hf_, ⟨t440, t441, t442⟩, A2, H⟩ := H
 subst hf_
 (try dsimp only at H)
 replace H := bf_ H
 obtain ⟨f_, hf_, ⟨t443, t444, t445⟩, A3, H⟩ := H
 subst hf_
 (try dsimp only at H)
 replace H := bf_ H
 obtain ⟨f_, hf_, ⟨t446, t447, t448⟩, A4, H⟩ := H
 subst hf_
 (try dsimp only at H)
 by_cases c5 : (wrap64 (1 + t440)) = 1
 rotate_left
 ·
  rw [if_neg c5] at H
  have c5b0 : ((wrap64 (1 + t440)) == 1) = false := beq_eq_false_iff_ne.mpr c5
  have c5b1 : ((wrap64 (1 + t440)) != 1) = true := bne_iff_ne.mpr c5
  by_cases c42 : (wrap64 (1 + t440)) = 2
  rotate_left
  ·
   rw [if_neg c42] at H
   have c42b0 : ((wrap64 (1 + t440)) == 2) = false := beq_eq_false_iff_ne.mpr c42
   have c42b1 : ((wrap64 (1 + t440)) != 2) = true := bne_iff_ne.mpr c42
   simp only [Option.some.injEq, Prod.mk.injEq] at H
   obtain ⟨rfl, rfl, rfl, rfl, rfl, rfl, rfl, rfl, rfl, rfl⟩ := H
   go_enter Try.func109, Try.ntmps109
   go_wp2_with (first | ((with_reducible refine gate_dst (N := 2) rfl ?_); refine bx_ (N := 2) (cs := #[.int .i64 0, .int .i64 0, .int .i64 0, .int .i64 0, .int .i64 0, .bool false, .int .i64 0, .slice none 0 0]) (t := 75) ?_; intro gb439 hg w56 hbox hb; replace HB := bS_ HB hb; have BK439 := am_ (hbox); have GW439 := am_ ((gK_ hg (qP HK))); have IGW439 := gI_ GW439; have GE439 := am_ ((Nat.le_trans HW0.out (gK_ hg (qP HK)))); have IGE439 := gI_ GE439; replace HK := kL_ HK hb; have NB0_439 := am_ ((nG_ hg (IsS128.lt (IsS128.q HI0)))); have INB0_439 := nI_ NB0_439; have NB439_0 := am_ (((nG_ hg (IsS128.lt (IsS128.q HI0))).symm)); replace HI0 := am_ (IsS128.below (IsS128.q HI0) hb); clear hb hbox hg) | ((with_reducible refine gate_callee (f := 61) rfl ?_); refine gl_ (some 6) Try.func61 #[.pointer (some ⟨g, 0, none⟩), .int .i64 3] ?_; (with_reducible refine (spec_l1Below.calls g s0_0 s0_1 s0_2 3 t440 t441 t442 w0 _ ?side1 ?side2 A2.out).mono ?_); (case side1 => exact IsS128.q HI0); (case side2 => exact qB HB); rintro e w57 ⟨rfl, hi, hb, hk⟩; refine ⟨_, rfl, ?_⟩; replace BK439 := kB_ BK439 hk NB439_0; replace HK := kT_ HK hk; replace HB := am_ (hb); replace HI0 := am_ (hi); (try clear hb); (try clear hk); (try clear hi)) | ((with_reducible refine gate_callee (f := 61) rfl ?_); refine gl_ (some 9) Try.func61 #[.pointer (some ⟨g, 0, none⟩), .int .i64 2] ?_; (with_reducible refine (spec_l1Below.calls g s0_0 t441 t442 2 t443 t444 t445 w0 _ ?side1 ?side2 A3.out).mono ?_); (case side1 => exact IsS128.q HI0); (case side2 => exact qB HB); rintro e w58 ⟨rfl, hi, hb, hk⟩; refine ⟨_, rfl, ?_⟩; replace BK439 := kB_ BK439 hk NB439_0; replace HK := kT_ HK hk; replace HB := am_ (hb); replace HI0 := am_ (hi); (try clear hb); (try clear hk); (try clear hi)) | ((with_reducible refine gate_callee (f := 61) rfl ?_); refine gl_ (some 11) Try.func61 #[.pointer (some ⟨g, 0, none⟩), .int .i64 5] ?_; (with_reducible refine (spec_l1Below.calls g s0_0 t444 t445 5 t446 t447 t448 w0 _ ?side1 ?side2 A4.out).mono ?_); (case side1 => exact IsS128.q HI0); (case side2 => exact qB HB); rintro e w59 ⟨rfl, hi, hb, hk⟩; refine ⟨_, rfl, ?_⟩; replace BK439 := kB_ BK439 hk NB439_0; replace HK := kT_ HK hk; replace HB := am_ (hb); replace HI0 := am_ (hi); (try clear hb); (try clear hk); (try clear hi)) | ((with_reducible refine gate_dst (N := 3) rfl ?_); refine bx_ (N := 3) (cs := #[.int .i64 0, .int .i64 0, .int .i64 0, .int .i64 0, .int .i64 0, .bool false, .int .i64 0, .slice none 0 0]) (t := 75) ?_; intro gb449 hg w60 hbox hb; replace HB := bS_ HB hb; have BK449 := am_ (hbox); have GW449 := am_ ((gK_ hg (qP HK))); have IGW449 := gI_ GW449; have GE449 := am_ ((Nat.le_trans HW0.out (gK_ hg (qP HK)))); have IGE449 := gI_ GE449; replace HK := kL_ HK hb; have NB439_449 := am_ ((gN_ hg (qK BK439))); have NB449_439 := am_ ((gM_ hg (qK BK439))); replace BK439 := bK_ BK439 hb; have NB0_449 := am_ ((nG_ hg (IsS128.lt (IsS128.q HI0)))); have INB0_449 := nI_ NB0_449; have NB449_0 := am_ (((nG_ hg (IsS128.lt (IsS128.q HI0))).symm)); replace HI0 := am_ (IsS128.below (IsS128.q HI0) hb); clear hb hbox hg; have hnb61 := NB449_439.out; have hnc61 := NB439_449.out; have hnb62 := NB449_0.out; have hnc62 := NB0_449.out; (try clear zK449); have zK449 := cz8 BK449.out; (try clear fK449); have fK449 := fz8 BK449.out; have hnb64 := NB439_0.out; have hnc64 := NB0_439.out; (try clear zK439); have zK439 := cz8 BK439.out; (try clear fK439); have fK439 := fz8 BK439.out) | ((with_reducible refine gate_store (t := 75) (p := 2) rfl ?_); refine store_event (t := 75) (p := 2) (v := ?vo_w66) (w1 := ((((((((((((((((w60.setCell ⟨gb449, 0, none⟩ (.int .i64 (wrap64 (1 + t440)))).setCell ⟨gb449, 1, none⟩ (.int .i64 t443)).setCell ⟨gb449, 2, none⟩ (.int .i64 (wrap64 (1 + t446)))).setCell ⟨gb449, 3, none⟩ (.int .i64 0)).setCell ⟨gb449, 4, none⟩ (.int .i64 0)).setCell ⟨gb449, 5, none⟩ (.bool false)).setCell ⟨gb449, 6, none⟩ (.int .i64 0)).setCell ⟨gb449, 7, none⟩ (.slice none 0 0)).setCell ⟨gb439, 0, none⟩ (.int .i64 (wrap64 (1 + t440)))).setCell ⟨gb439, 1, none⟩ (.int .i64 t443)).setCell ⟨gb439, 2, none⟩ (.int .i64 (wrap64 (1 + t446)))).setCell ⟨gb439, 3, none⟩ (.int .i64 0)).setCell ⟨gb439, 4, none⟩ (.int .i64 0)).setCell ⟨gb439, 5, none⟩ (.bool false)).setCell ⟨gb439, 6, none⟩ (.int .i64 0)).setCell ⟨gb439, 7, none⟩ (.slice none 0 0))) ?hg ?ho ?hn ?hr ?_; (case ho => rfl); (case hg => rfl); (case hn => rfl); (case hr => first | (go_simp; done) | (go_simp; rfl)); intro w66 hw; have n0_ : Aside0 (w66.heap[gb439]? = some (.cells #[.int .i64 (wrap64 (1 + t440)), .int .i64 t443, .int .i64 (wrap64 (1 + t446)), .int .i64 0, .int .i64 0, .bool false, .int .i64 0, .slice none 0 0] 75 (0, 0))) := ⟨(by rw [hw]; exact (by exact blk_all8 (blk_far8 (qK BK439) NB439_449.out)))⟩; have n1_ : Aside0 (w66.heap[gb449]? = some (.cells #[.int .i64 (wrap64 (1 + t440)), .int .i64 t443, .int .i64 (wrap64 (1 + t446)), .int .i64 0, .int .i64 0, .bool false, .int .i64 0, .slice none 0 0] 75 (0, 0))) := ⟨(by rw [hw]; exact (by (with_reducible repeat (first | refine blk_drewN ?_ _ | refine blk_drew ?_ | refine blk_alloc ?_ _)); refine blk_far8 ?_ NB449_439.out; (with_reducible repeat (first | refine blk_drewN ?_ _ | refine blk_drew ?_ | refine blk_alloc ?_ _)); refine blk_all8 (show _ = some (Go.Obj.cells #[.int .i64 0, .int .i64 0, .int .i64 0, .int .i64 0, .int .i64 0, .bool false, .int .i64 0, .slice none 0 0] _ (0, 0)) from ?_); exact qK BK449))⟩; have n2_ : Aside0 (IsS128 w0 w66 g s0_0 t447 t448) := ⟨(by rw [hw]; exact (IsS128.q HI0))⟩; have n3_ : Aside0 (KeepBut w w66 g none) := ⟨(by rw [hw]; exact (qP HK))⟩; have n4_ : Aside0 (Below w0.heap.size w0 w66) := ⟨(by rw [hw]; exact (qB HB))⟩; clear hw; clear BK439; clear BK449; clear HI0; clear HK; clear HB; have BK439 := n0_; have BK449 := n1_; have HI0 := n2_; have HK := n3_; have HB := n4_; clear n0_ n1_ n2_ n3_ n4_))
   refine bodyPost_ret (results_cell_row rfl _ _ gb439 75 #[.int .i64 (wrap64 (1 + t440)), .int .i64 t443, .int .i64 (wrap64 (1 + t446)), .int .i64 0, .int .i64 0, .bool false, .int .i64 0, .slice none 0 0] (0, 0) _ rfl (qK BK439) Try.underlying75 rfl (by kernel_rfl)) rfl ?_
   exact ⟨_, er_, by first | exact Kd.R_nil _ _ _ _ _ | exact Kd.N_nil _ _ _ _ _ | exact Kd.V_nil _ _ _ _ _ | exact Kd.Q_nil _ _ _ _ _ | exact Kd.S_nil _ _ _ _ _, IsS128.q HI0, qB HB, qP HK⟩
  rw [if_pos c42] at H
  have c42b0 : ((wrap64 (1 + t440)) == 2) = true := beq_iff_eq.mpr c42
  have c42b1 : ((wrap64 (1 + t440)) != 2) = false := bne_eq_false_iff_eq.mpr c42
  clear c42
  replace H := bf_ H
  obtain ⟨f_, hf_, ⟨t486, t487, t488⟩, A43, H⟩ := H
  subst hf_
  (try dsimp only at H)
  simp only [Option.some.injEq, Prod.mk.injEq] at H
  obtain ⟨rfl, rfl, rfl, rfl, rfl, rfl, rfl, rfl, rfl, rfl⟩ := H
  go_enter Try.func109, Try.ntmps109
  go_wp2_with (first | ((with_reducible refine gate_dst (N := 2) rfl ?_); refine bx_ (N := 2) (cs := #[.int .i64 0, .int .i64 0, .int .i64 0, .int .i64 0, .int .i64 0, .bool false, .int .i64 0, .slice none 0 0]) (t := 75) ?_; intro gb439 hg w44 hbox hb; replace HB := bS_ HB hb; have BK439 := am_ (hbox); have GW439 := am_ ((gK_ hg (qP HK))); have IGW439 := gI_ GW439; have GE439 := am_ ((Nat.le_trans HW0.out (gK_ hg (qP HK)))); have IGE439 := gI_ GE439; replace HK := kL_ HK hb; have NB0_439 := am_ ((nG_ hg (IsS128.lt (IsS128.q HI0)))); have INB0_439 := nI_ NB0_439; have NB439_0 := am_ (((nG_ hg (IsS128.lt (IsS128.q HI0))).symm)); replace HI0 := am_ (IsS128.below (IsS128.q HI0) hb); clear hb hbox hg) | ((with_reducible refine gate_callee (f := 61) rfl ?_); refine gl_ (some 6) Try.func61 #[.pointer (some ⟨g, 0, none⟩), .int .i64 3] ?_; (with_reducible refine (spec_l1Below.calls g s0_0 s0_1 s0_2 3 t440 t441 t442 w0 _ ?side1 ?side2 A2.out).mono ?_); (case side1 => exact IsS128.q HI0); (case side2 => exact qB HB); rintro e w45 ⟨rfl, hi, hb, hk⟩; refine ⟨_, rfl, ?_⟩; replace BK439 := kB_ BK439 hk NB439_0; replace HK := kT_ HK hk; replace HB := am_ (hb); replace HI0 := am_ (hi); (try clear hb); (try clear hk); (try clear hi)) | ((with_reducible refine gate_callee (f := 61) rfl ?_); refine gl_ (some 9) Try.func61 #[.pointer (some ⟨g, 0, none⟩), .int .i64 2] ?_; (with_reducible refine (spec_l1Below.calls g s0_0 t441 t442 2 t443 t444 t445 w0 _ ?side1 ?side2 A3.out).mono ?_); (case side1 => exact IsS128.q HI0); (case side2 => exact qB HB); rintro e w46 ⟨rfl, hi, hb, hk⟩; refine ⟨_, rfl, ?_⟩; replace BK439 := kB_ BK439 hk NB439_0; replace HK := kT_ HK hk; replace HB := am_ (hb); replace HI0 := am_ (hi); (try clear hb); (try clear hk); (try clear hi)) | ((with_reducible refine gate_callee (f := 61) rfl ?_); refine gl_ (some 11) Try.func61 #[.pointer (some ⟨g, 0, none⟩), .int .i64 5] ?_; (with_reducible refine (spec_l1Below.calls g s0_0 t444 t445 5 t446 t447 t448 w0 _ ?side1 ?side2 A4.out).mono ?_); (case side1 => exact IsS128.q HI0); (case side2 => exact qB HB); rintro e w47 ⟨rfl, hi, hb, hk⟩; refine ⟨_, rfl, ?_⟩; replace BK439 := kB_ BK439 hk NB439_0; replace HK := kT_ HK hk; replace HB := am_ (hb); replace HI0 := am_ (hi); (try clear hb); (try clear hk); (try clear hi)) | ((with_reducible refine gate_dst (N := 3) rfl ?_); refine bx_ (N := 3) (cs := #[.int .i64 0, .int .i64 0, .int .i64 0, .int .i64 0, .int .i64 0, .bool false, .int .i64 0, .slice none 0 0]) (t := 75) ?_; intro gb449 hg w48 hbox hb; replace HB := bS_ HB hb; have BK449 := am_ (hbox); have GW449 := am_ ((gK_ hg (qP HK))); have IGW449 := gI_ GW449; have GE449 := am_ ((Nat.le_trans HW0.out (gK_ hg (qP HK)))); have IGE449 := gI_ GE449; replace HK := kL_ HK hb; have NB439_449 := am_ ((gN_ hg (qK BK439))); have NB449_439 := am_ ((gM_ hg (qK BK439))); replace BK439 := bK_ BK439 hb; have NB0_449 := am_ ((nG_ hg (IsS128.lt (IsS128.q HI0)))); have INB0_449 := nI_ NB0_449; have NB449_0 := am_ (((nG_ hg (IsS128.lt (IsS128.q HI0))).symm)); replace HI0 := am_ (IsS128.below (IsS128.q HI0) hb); clear hb hbox hg; have hnb49 := NB449_439.out; have hnc49 := NB439_449.out; have hnb50 := NB449_0.out; have hnc50 := NB0_449.out; (try clear zK449); have zK449 := cz8 BK449.out; (try clear fK449); have fK449 := fz8 BK449.out) | ((with_reducible refine gate_callee (f := 61) rfl ?_); refine gl_ (some 49) Try.func61 #[.pointer (some ⟨g, 0, none⟩), .int .i64 4] ?_; (with_reducible refine (spec_l1Below.calls g s0_0 t447 t448 4 t486 t487 t488 w0 _ ?side1 ?side2 A43.out).mono ?_); (case side1 => exact IsS128.q HI0); (case side2 => exact qB HB); rintro e w52 ⟨rfl, hi, hb, hk⟩; refine ⟨_, rfl, ?_⟩; replace BK439 := am_ (KeepBut.blk hk (g' := gb439) (o := .cells #[.int .i64 0, .int .i64 0, .int .i64 0, .int .i64 0, .int .i64 0, .bool false, .int .i64 0, .slice none 0 0] 75 (0, 0)) (by (with_reducible repeat (first | refine blk_drewN ?_ _ | refine blk_drew ?_ | refine blk_alloc ?_ _)); refine blk_far8 ?_ NB439_449.out; exact qK BK439) NB439_0.out (by simp)); replace BK449 := am_ (KeepBut.blk hk (g' := gb449) (o := .cells #[.int .i64 (wrap64 (1 + t440)), .int .i64 t443, .int .i64 (wrap64 (1 + t446)), .int .i64 0, .int .i64 0, .bool false, .int .i64 0, .slice none 0 0] 75 (0, 0)) (by exact blk_all8 (qK BK449)) NB449_0.out (by simp)); replace HK := kT_ HK hk; replace HB := am_ (hb); replace HI0 := am_ (hi); (try clear hb); (try clear hk); (try clear hi); (try clear zK449); have zK449 := cz8 BK449.out; (try clear fK449); have fK449 := fz8 BK449.out; have hnb54 := NB439_0.out; have hnc54 := NB0_439.out; (try clear zK439); have zK439 := cz8 BK439.out; (try clear fK439); have fK439 := fz8 BK439.out))
  refine bodyPost_ret (results_cell_row rfl _ _ gb439 75 #[.int .i64 (wrap64 (1 + t440)), .int .i64 t443, .int .i64 (wrap64 (1 + t446)), .int .i64 t486, .int .i64 0, .bool false, .int .i64 0, .slice none 0 0] (0, 0) _ rfl (by exact blk_all8 (blk_far1 (qK BK439) NB439_449.out)) Try.underlying75 rfl (by kernel_rfl)) rfl ?_
  exact ⟨_, er_, by first | exact Kd.R_nil _ _ _ _ _ | exact Kd.N_nil _ _ _ _ _ | exact Kd.V_nil _ _ _ _ _ | exact Kd.Q_nil _ _ _ _ _ | exact Kd.S_nil _ _ _ _ _, IsS128.q HI0, qB HB, qP HK⟩
 rw [if_pos c5] at H
 have c5b0 : ((wrap64 (1 + t440)) == 1) = true := beq_iff_eq.mpr c5
 have c5b1 : ((wrap64 (1 + t440)) != 1) = false := bne_eq_false_iff_eq.mpr c5
 clear c5
 replace H := bf_ H
 obtain ⟨f_, hf_, ⟨t450, t451, t452⟩, A6, H⟩ := H
 subst hf_
 (try dsimp only at H)
 replace H := bf_ H
 obtain ⟨f_, hf_, ⟨t453, t454, t455⟩, A7, H⟩ := H
 subst hf_
 (try dsimp only at H)
 replace H := bf_ H
 obtain ⟨f_, hf_, ⟨t456, t457, t458⟩, A8, H⟩ := H
 subst hf_
 (try dsimp only at H)
 replace H := bf_ H
 obtain ⟨f_, hf_, ⟨t459, t460, t461⟩, A9, H⟩ := H
 subst hf_
 (try dsimp only at H)
 replace H := bf_ H
 obtain ⟨f_, hf_, ⟨t462, t463, t464⟩, A10, H⟩ := H
 subst hf_
 (try dsimp only at H)
 have H' := Aside0.mk H
 clear H
 go_enter Try.func109, Try.ntmps109
 go_wp2_with (first | ((with_reducible refine gate_dst (N := 2) rfl ?_); refine bx_ (N := 2) (cs := #[.int .i64 0, .int .i64 0, .int .i64 0, .int .i64 0, .int .i64 0, .bool false, .int .i64 0, .slice none 0 0]) (t := 75) ?_; intro gb439 hg w11 hbox hb; replace HB := bS_ HB hb; have BK439 := am_ (hbox); have GW439 := am_ ((gK_ hg (qP HK))); have IGW439 := gI_ GW439; have GE439 := am_ ((Nat.le_trans HW0.out (gK_ hg (qP HK)))); have IGE439 := gI_ GE439; replace HK := kL_ HK hb; have NB0_439 := am_ ((nG_ hg (IsS128.lt (IsS128.q HI0)))); have INB0_439 := nI_ NB0_439; have NB439_0 := am_ (((nG_ hg (IsS128.lt (IsS128.q HI0))).symm)); replace HI0 := am_ (IsS128.below (IsS128.q HI0) hb); clear hb hbox hg) | ((with_reducible refine gate_callee (f := 61) rfl ?_); refine gl_ (some 6) Try.func61 #[.pointer (some ⟨g, 0, none⟩), .int .i64 3] ?_; (with_reducible refine (spec_l1Below.calls g s0_0 s0_1 s0_2 3 t440 t441 t442 w0 _ ?side1 ?side2 A2.out).mono ?_); (case side1 => exact IsS128.q HI0); (case side2 => exact qB HB); rintro e w12 ⟨rfl, hi, hb, hk⟩; refine ⟨_, rfl, ?_⟩; replace BK439 := kB_ BK439 hk NB439_0; replace HK := kT_ HK hk; replace HB := am_ (hb); replace HI0 := am_ (hi); (try clear hb); (try clear hk); (try clear hi)) | ((with_reducible refine gate_callee (f := 61) rfl ?_); refine gl_ (some 9) Try.func61 #[.pointer (some ⟨g, 0, none⟩), .int .i64 2] ?_; (with_reducible refine (spec_l1Below.calls g s0_0 t441 t442 2 t443 t444 t445 w0 _ ?side1 ?side2 A3.out).mono ?_); (case side1 => exact IsS128.q HI0); (case side2 => exact qB HB); rintro e w13 ⟨rfl, hi, hb, hk⟩; refine ⟨_, rfl, ?_⟩; replace BK439 := kB_ BK439 hk NB439_0; replace HK := kT_ HK hk; replace HB := am_ (hb); replace HI0 := am_ (hi); (try clear hb); (try clear hk); (try clear hi)) | ((with_reducible refine gate_callee (f := 61) rfl ?_); refine gl_ (some 11) Try.func61 #[.pointer (some ⟨g, 0, none⟩), .int .i64 5] ?_; (with_reducible refine (spec_l1Below.calls g s0_0 t444 t445 5 t446 t447 t448 w0 _ ?side1 ?side2 A4.out).mono ?_); (case side1 => exact IsS128.q HI0); (case side2 => exact qB HB); rintro e w14 ⟨rfl, hi, hb, hk⟩; refine ⟨_, rfl, ?_⟩; replace BK439 := kB_ BK439 hk NB439_0; replace HK := kT_ HK hk; replace HB := am_ (hb); replace HI0 := am_ (hi); (try clear hb); (try clear hk); (try clear hi)) | ((with_reducible refine gate_dst (N := 3) rfl ?_); refine bx_ (N := 3) (cs := #[.int .i64 0, .int .i64 0, .int .i64 0, .int .i64 0, .int .i64 0, .bool false, .int .i64 0, .slice none 0 0]) (t := 75) ?_; intro gb449 hg w15 hbox hb; replace HB := bS_ HB hb; have BK449 := am_ (hbox); have GW449 := am_ ((gK_ hg (qP HK))); have IGW449 := gI_ GW449; have GE449 := am_ ((Nat.le_trans HW0.out (gK_ hg (qP HK)))); have IGE449 := gI_ GE449; replace HK := kL_ HK hb; have NB439_449 := am_ ((gN_ hg (qK BK439))); have NB449_439 := am_ ((gM_ hg (qK BK439))); replace BK439 := bK_ BK439 hb; have NB0_449 := am_ ((nG_ hg (IsS128.lt (IsS128.q HI0)))); have INB0_449 := nI_ NB0_449; have NB449_0 := am_ (((nG_ hg (IsS128.lt (IsS128.q HI0))).symm)); replace HI0 := am_ (IsS128.below (IsS128.q HI0) hb); clear hb hbox hg; have hnb16 := NB449_439.out; have hnc16 := NB439_449.out; have hnb17 := NB449_0.out; have hnc17 := NB0_449.out; (try clear zK449); have zK449 := cz8 BK449.out; (try clear fK449); have fK449 := fz8 BK449.out) | ((with_reducible refine gate_callee (f := 61) rfl ?_); refine gl_ (some 19) Try.func61 #[.pointer (some ⟨g, 0, none⟩), .int .i64 3] ?_; (with_reducible refine (spec_l1Below.calls g s0_0 t447 t448 3 t450 t451 t452 w0 _ ?side1 ?side2 A6.out).mono ?_); (case side1 => exact IsS128.q HI0); (case side2 => exact qB HB); rintro e w19 ⟨rfl, hi, hb, hk⟩; refine ⟨_, rfl, ?_⟩; replace BK439 := am_ (KeepBut.blk hk (g' := gb439) (o := .cells #[.int .i64 0, .int .i64 0, .int .i64 0, .int .i64 0, .int .i64 0, .bool false, .int .i64 0, .slice none 0 0] 75 (0, 0)) (by (with_reducible repeat (first | refine blk_drewN ?_ _ | refine blk_drew ?_ | refine blk_alloc ?_ _)); refine blk_far8 ?_ NB439_449.out; exact qK BK439) NB439_0.out (by simp)); replace BK449 := am_ (KeepBut.blk hk (g' := gb449) (o := .cells #[.int .i64 (wrap64 (1 + t440)), .int .i64 t443, .int .i64 (wrap64 (1 + t446)), .int .i64 0, .int .i64 0, .bool false, .int .i64 0, .slice none 0 0] 75 (0, 0)) (by exact blk_all8 (qK BK449)) NB449_0.out (by simp)); replace HK := kT_ HK hk; replace HB := am_ (hb); replace HI0 := am_ (hi); (try clear hb); (try clear hk); (try clear hi); (try clear zK449); have zK449 := cz8 BK449.out; (try clear fK449); have fK449 := fz8 BK449.out) | ((with_reducible refine gate_callee (f := 61) rfl ?_); refine gl_ (some 25) Try.func61 #[.pointer (some ⟨g, 0, none⟩), .int .i64 (wrap64 (1 + t450))] ?_; (with_reducible refine (spec_l1Below.calls g s0_0 t451 t452 (wrap64 (1 + t450)) t453 t454 t455 w0 _ ?side1 ?side2 A7.out).mono ?_); (case side1 => exact IsS128.q HI0); (case side2 => exact qB HB); rintro e w21 ⟨rfl, hi, hb, hk⟩; refine ⟨_, rfl, ?_⟩; replace BK439 := am_ (KeepBut.blk hk (g' := gb439) (o := .cells #[.int .i64 0, .int .i64 0, .int .i64 0, .int .i64 0, .int .i64 0, .bool false, .int .i64 0, .slice none 0 0] 75 (0, 0)) (by (with_reducible repeat (first | refine blk_drewN ?_ _ | refine blk_drew ?_ | refine blk_alloc ?_ _)); refine blk_far ?_ NB439_449.out _; exact qK BK439) NB439_0.out (by simp)); replace BK449 := am_ (KeepBut.blk hk (g' := gb449) (o := .cells #[.int .i64 (wrap64 (1 + t440)), .int .i64 t443, .int .i64 (wrap64 (1 + t446)), .int .i64 0, .int .i64 (wrap64 (1 + t450)), .bool false, .int .i64 0, .slice none 0 0] 75 (0, 0)) (by (with_reducible repeat (first | refine blk_drewN ?_ _ | refine blk_drew ?_ | refine blk_alloc ?_ _)); refine blk_put (cs := #[.int .i64 (wrap64 (1 + t440)), .int .i64 t443, .int .i64 (wrap64 (1 + t446)), .int .i64 0, .int .i64 0, .bool false, .int .i64 0, .slice none 0 0]) ?_ 4 _ rfl; exact qK BK449) NB449_0.out (by simp)); replace HK := kT_ HK hk; replace HB := am_ (hb); replace HI0 := am_ (hi); (try clear hb); (try clear hk); (try clear hi); (try clear zK449); have zK449 := cz8 BK449.out; (try clear fK449); have fK449 := fz8 BK449.out) | ((with_reducible refine gate_callee (f := 110) rfl ?_); refine gl_ (some 28) Try.func110 #[.pointer (some ⟨g, 0, none⟩), .int .i64 3] ?_; (with_reducible refine (spec_l1Once.calls g s0_0 t454 t455 3 t456 t457 t458 w0 _ ?side1 ?side2 A8.out).mono ?_); (case side1 => exact IsS128.q HI0); (case side2 => exact qB HB); rintro e w23 ⟨rfl, hi, hb, hk⟩; refine ⟨_, rfl, ?_⟩; replace BK439 := am_ (KeepBut.blk hk (g' := gb439) (o := .cells #[.int .i64 0, .int .i64 0, .int .i64 0, .int .i64 0, .int .i64 0, .bool false, .int .i64 0, .slice none 0 0] 75 (0, 0)) (by (with_reducible repeat (first | refine blk_drewN ?_ _ | refine blk_drew ?_ | refine blk_alloc ?_ _)); refine blk_far ?_ NB439_449.out _; exact qK BK439) NB439_0.out (by simp)); replace BK449 := am_ (KeepBut.blk hk (g' := gb449) (o := .cells #[.int .i64 (wrap64 (1 + t440)), .int .i64 t443, .int .i64 (wrap64 (1 + t446)), .int .i64 t453, .int .i64 (wrap64 (1 + t450)), .bool false, .int .i64 0, .slice none 0 0] 75 (0, 0)) (by (with_reducible repeat (first | refine blk_drewN ?_ _ | refine blk_drew ?_ | refine blk_alloc ?_ _)); refine blk_put (cs := #[.int .i64 (wrap64 (1 + t440)), .int .i64 t443, .int .i64 (wrap64 (1 + t446)), .int .i64 0, .int .i64 (wrap64 (1 + t450)), .bool false, .int .i64 0, .slice none 0 0]) ?_ 3 _ rfl; exact qK BK449) NB449_0.out (by simp)); replace HK := kT_ HK hk; replace HB := am_ (hb); replace HI0 := am_ (hi); (try clear hb); (try clear hk); (try clear hi); (try clear zK449); have zK449 := cz8 BK449.out; (try clear fK449); have fK449 := fz8 BK449.out) | ((with_reducible refine gate_callee (f := 61) rfl ?_); refine gl_ (some 31) Try.func61 #[.pointer (some ⟨g, 0, none⟩), .int .i64 9] ?_; (with_reducible refine (spec_l1Below.calls g s0_0 t457 t458 9 t459 t460 t461 w0 _ ?side1 ?side2 A9.out).mono ?_); (case side1 => exact IsS128.q HI0); (case side2 => exact qB HB); rintro e w25 ⟨rfl, hi, hb, hk⟩; refine ⟨_, rfl, ?_⟩; replace BK439 := am_ (KeepBut.blk hk (g' := gb439) (o := .cells #[.int .i64 0, .int .i64 0, .int .i64 0, .int .i64 0, .int .i64 0, .bool false, .int .i64 0, .slice none 0 0] 75 (0, 0)) (by (with_reducible repeat (first | refine blk_drewN ?_ _ | refine blk_drew ?_ | refine blk_alloc ?_ _)); refine blk_far ?_ NB439_449.out _; exact qK BK439) NB439_0.out (by simp)); replace BK449 := am_ (KeepBut.blk hk (g' := gb449) (o := .cells #[.int .i64 (wrap64 (1 + t440)), .int .i64 t443, .int .i64 (wrap64 (1 + t446)), .int .i64 t453, .int .i64 (wrap64 (1 + t450)), .bool t456, .int .i64 0, .slice none 0 0] 75 (0, 0)) (by (with_reducible repeat (first | refine blk_drewN ?_ _ | refine blk_drew ?_ | refine blk_alloc ?_ _)); refine blk_put (cs := #[.int .i64 (wrap64 (1 + t440)), .int .i64 t443, .int .i64 (wrap64 (1 + t446)), .int .i64 t453, .int .i64 (wrap64 (1 + t450)), .bool false, .int .i64 0, .slice none 0 0]) ?_ 5 _ rfl; exact qK BK449) NB449_0.out (by simp)); replace HK := kT_ HK hk; replace HB := am_ (hb); replace HI0 := am_ (hi); (try clear hb); (try clear hk); (try clear hi); (try clear zK449); have zK449 := cz8 BK449.out; (try clear fK449); have fK449 := fz8 BK449.out) | ((with_reducible refine gate_callee (f := 61) rfl ?_); refine gl_ (some 34) Try.func61 #[.pointer (some ⟨g, 0, none⟩), .int .i64 3] ?_; (with_reducible refine (spec_l1Below.calls g s0_0 t460 t461 3 t462 t463 t464 w0 _ ?side1 ?side2 A10.out).mono ?_); (case side1 => exact IsS128.q HI0); (case side2 => exact qB HB); rintro e w27 ⟨rfl, hi, hb, hk⟩; refine ⟨_, rfl, ?_⟩; replace BK439 := am_ (KeepBut.blk hk (g' := gb439) (o := .cells #[.int .i64 0, .int .i64 0, .int .i64 0, .int .i64 0, .int .i64 0, .bool false, .int .i64 0, .slice none 0 0] 75 (0, 0)) (by (with_reducible repeat (first | refine blk_drewN ?_ _ | refine blk_drew ?_ | refine blk_alloc ?_ _)); refine blk_far ?_ NB439_449.out _; exact qK BK439) NB439_0.out (by simp)); replace BK449 := am_ (KeepBut.blk hk (g' := gb449) (o := .cells #[.int .i64 (wrap64 (1 + t440)), .int .i64 t443, .int .i64 (wrap64 (1 + t446)), .int .i64 t453, .int .i64 (wrap64 (1 + t450)), .bool t456, .int .i64 t459, .slice none 0 0] 75 (0, 0)) (by (with_reducible repeat (first | refine blk_drewN ?_ _ | refine blk_drew ?_ | refine blk_alloc ?_ _)); refine blk_put (cs := #[.int .i64 (wrap64 (1 + t440)), .int .i64 t443, .int .i64 (wrap64 (1 + t446)), .int .i64 t453, .int .i64 (wrap64 (1 + t450)), .bool t456, .int .i64 0, .slice none 0 0]) ?_ 6 _ rfl; exact qK BK449) NB449_0.out (by simp)); replace HK := kT_ HK hk; replace HB := am_ (hb); replace HI0 := am_ (hi); (try clear hb); (try clear hk); (try clear hi)))
 go_loopg [4] k (fun kq v4 w' => ∃ (x4_1 : Int) (x1001_1 : Int) (x1002_1 : Int) (x450007_1 : List (S29)) (u450007 : Value), v4 = .int .i64 x4_1 ∧ Aside0 (spec_l11Draw.l0 kq x4_1 s0_0 x1001_1 x1002_1 (wrap64 (1 + t440)) t443 (wrap64 (1 + t446)) t453 (wrap64 (1 + t450)) t456 t459 x450007_1 = some (r1, r2, r3, r4, r5, r6, r7, r8, r9, r10)) ∧ Aside0 (kq ≤ k) ∧ Aside0 (Kd.R k29 29 w' w.heap.size (fun _ => True) u450007 x450007_1) ∧ Aside0 (w'.heap[gb439]? = some (.cells #[.int .i64 0, .int .i64 0, .int .i64 0, .int .i64 0, .int .i64 0, .bool false, .int .i64 0, (.slice none 0 0)] 75 (0, 0))) ∧ Aside0 (w'.heap[gb449]? = some (.cells #[.int .i64 (wrap64 (1 + t440)), .int .i64 t443, .int .i64 (wrap64 (1 + t446)), .int .i64 t453, .int .i64 (wrap64 (1 + t450)), .bool t456, .int .i64 t459, u450007] 75 (0, 0))) ∧ Aside0 (IsS128 w0 w' g s0_0 x1001_1 x1002_1) ∧ Aside0 (KeepBut w w' g none) ∧ Aside0 (Below w0.heap.size w0 w'))
 case atStart => exact ⟨(t462), (t463), (t464), (([] : List (S29))), (.slice none 0 0), eqq_, H', ⟨Nat.le_refl _⟩, ⟨by first | exact Kd.R_nil _ _ _ _ _ | exact Kd.N_nil _ _ _ _ _ | exact Kd.V_nil _ _ _ _ _ | exact Kd.Q_nil _ _ _ _ _ | exact Kd.S_nil _ _ _ _ _⟩, ⟨qK BK439⟩, ⟨qK BK449⟩, ⟨IsS128.q HI0⟩, ⟨qP HK⟩, ⟨qB HB⟩⟩
 case round =>
  clear H'
  try clear c1
  try clear p2
  try clear c5
  try clear c5b0
  try clear c5b1
  try clear c6
  try clear p6
  try clear c10
  try clear c11
  try clear c16
  try clear c17
  (try clear zK449)
  (try clear zK449)
  (try clear zK449)
  (try clear zK449)
  (try clear zK449)
  (try clear fK449)
  (try clear fK449)
  (try clear fK449)
  (try clear fK449)
  (try clear fK449)
  obtain ⟨x4_1, x1001_1, x1002_1, x450007_1, u450007, rfl, HA, HK1, HO_450007, BK439, BK449, HI0, HK, HB⟩ := hrel
  cases gk with
  | zero => exact absurd HA.out (by simp [spec_l11Draw.l0])
  | succ k1 =>
   have H := HA.out
   clear HA
   simp only [spec_l11Draw.l0] at H
   by_cases c28 : x4_1 > 0
   rotate_left
   ·
    rw [if_neg c28] at H
    have c28b0 : decide (0 < x4_1) = false := decide_eq_false c28
    clear c28
    simp only [Option.some.injEq, Prod.mk.injEq] at H
    obtain ⟨rfl, rfl, rfl, rfl, rfl, rfl, rfl, rfl, rfl, rfl⟩ := H
    have hnb36 := NB449_439.out
    have hnc36 := NB439_449.out
    have hnb37 := NB449_0.out
    have hnc37 := NB0_449.out
    (try clear zK449)
    have zK449 := cz8 BK449.out
    (try clear fK449)
    have fK449 := fz8 BK449.out
    have hnb39 := NB439_0.out
    have hnc39 := NB0_439.out
    (try clear zK439)
    have zK439 := cz8 BK439.out
    (try clear fK439)
    have fK439 := fz8 BK439.out
    obtain ⟨Ao41, co41, eo41⟩ := Kd.R_slice HO_450007.out
    subst eo41
    go_wp2
    refine bodyPost_ret (results_cell_row rfl _ _ gb439 75 #[.int .i64 (wrap64 (1 + t440)), .int .i64 t443, .int .i64 (wrap64 (1 + t446)), .int .i64 t453, .int .i64 (wrap64 (1 + t450)), .bool t456, .int .i64 t459, .slice Ao41 x450007_1.length co41] (0, 0) _ rfl (by exact blk_all8 (qK BK439)) Try.underlying75 rfl (by kernel_rfl)) rfl ?_
    exact ⟨_, er_, by (with_reducible repeat (first | apply Kd.R_alloc | apply Kd.R_drewN | apply Kd.R_drew)); exact Kd.R_mono (R_far8 (g := gb439) (Kd.R_types HO_450007.out BK439.out (by decide)) (fun _ hk => hk.2)) (fun _ hk => trivial), IsS128.q HI0, qB HB, qP HK⟩
   rw [if_pos c28] at H
   have c28b0 : decide (0 < x4_1) = true := decide_eq_true c28
   clear c28
   replace H := bf_ H
   obtain ⟨f_, hf_, ⟨t465, t466, t467, t468, t469, t470, t471, t472, t473, t474, t475, t476, t477, t478, t479, t480, t481, t482⟩, A29, H⟩ := H
   subst hf_
   (try dsimp only at H)
   by_cases c30 : x450007_1.length < 925904528653
   case neg => exact nn_ c30 H
   rw [if_pos c30] at H
   have LMc30 := Aside0.mk c30
   clear c30
   obtain ⟨y483, hy483⟩ : ∃ y_ : List (S29), y_ = (x450007_1 ++ [(⟨t465, (⟨t466, t467, t468, t469, t470, t471, t472, t473⟩ : S25), (⟨t474, t475, t476, t477, t478, t479, t480⟩ : S27)⟩ : S29)]) := ⟨_, rfl⟩
   rw [← hy483] at H
   have Ny483 := Aside0.mk hy483
   clear hy483
   have H' := Aside0.mk H
   clear H
   try go_wp2
   replace HO_450007 := am_ (Kd.R_drew HO_450007.out)
   replace BK439 := am_ (blk_drew BK439.out)
   replace BK449 := am_ (blk_drew BK449.out)
   replace HI0 := am_ (IsS128.drew HI0.out)
   replace HK := am_ (keep_drew HK.out)
   replace HB := am_ (below_drew1 HB.out)
   refine start_ (n := 8) (S := fun w' => w'.cell? ⟨gb449, 0, none⟩ = some (.int .i64 (wrap64 (1 + t440))) ∧ w'.cell? ⟨gb449, 1, none⟩ = some (.int .i64 t443) ∧ w'.cell? ⟨gb449, 2, none⟩ = some (.int .i64 (wrap64 (1 + t446))) ∧ w'.cell? ⟨gb449, 3, none⟩ = some (.int .i64 t453) ∧ w'.cell? ⟨gb449, 4, none⟩ = some (.int .i64 (wrap64 (1 + t450))) ∧ w'.cell? ⟨gb449, 5, none⟩ = some (.bool t456) ∧ w'.cell? ⟨gb449, 6, none⟩ = some (.int .i64 t459) ∧ w'.cell? ⟨gb449, 7, none⟩ = some (u450007)) (ds := [7]) #[oo,oo,oo,oo,oo,oo,oo,oo] (by kernel_rfl) rfl rfl (cz8 BK449.out) (fun hHeld => ?_); refine with_tabW spec_l11Draw.tab11 spec_l11Draw.bits11 (fun HT_ HW_ => ?_)
   generalize wr.drew = w31 at HO_450007 BK439 BK449 HI0 HK HB hHeld ⊢
   refine pz_ (i := 0) (N := some 39) HT_ #[ii,oo,oo,oo,oo,oo,oo,oo] rfl rfl ?_
   refine pz_ (i := 2) (N := some 41) HT_ #[ii,oo,ii,oo,oo,oo,oo,oo] rfl rfl ?_
   refine tz_ (i := 1) (N := some 40) HT_ HW_ #[ii,ii,ii,oo,oo,oo,oo,oo] rfl rfl hHeld ?_
   refine one_ (i := 3) (N := some 42) #[ii,ii,ii,ii,oo,oo,oo,oo] rfl rfl (one_of HT_.out (by kernel_rfl)) (by decide) (fun K hK => ?_)
   refine goes_ Try.func60 (by kernel_rfl) rfl #[.pointer (some ⟨g, 0, none⟩)] (by rfl) rfl rfl la_ ?_
   with_reducible refine (spec_l9Item.calls k1 g s0_0 x1001_1 x1002_1 t465 t466 t467 t468 t469 t470 t471 t472 t473 t474 t475 t476 t477 t478 t479 t480 t481 t482 w0 _ ?side1 ?side2 A29.out).mono ?_
   (case side1 => exact IsS128.q HI0)
   (case side2 => exact qB HB)
   rintro e w32 ⟨rfl, hi, hb, hk⟩
   refine ⟨_, rfl, ?_⟩
   replace HO_450007 := am_ (Kd.R_mono (Kd.R_keep (IsS128.apart (show IsS128 w0 _ g s0_0 x1001_1 x1002_1 from IsS128.q HI0) (qR HO_450007) (by decide)) hk (fun _ h => h.2)) (fun _ h => h.1))
   replace BK439 := kB_ BK439 hk NB439_0
   replace BK449 := kB_ BK449 hk NB449_0
   replace HK := kT_ HK hk
   replace HB := am_ (hb)
   replace HI0 := am_ (hi)
   (try clear hb hk hi)
   refine hK.out _ _ (cz8 BK449.out) (fun hHeld => ?_)
   clear hK K
   refine norm_ (a' := ?_) ?_ ?_
   rotate_left
   ·
    show Act.put _ (some 42) _ = _
    exact ap_
   refine one_ (i := 4) (N := some 43) #[ii,ii,ii,ii,ii,oo,oo,oo] rfl rfl (one_of HT_.out (by kernel_rfl)) (by decide) (fun K hK => ?_)
   refine value_ (w1 := ?_) (v := ?_) (by rfl) rfl ?_ ?_
   rotate_left 2
   ·
    go_simp
    constructor
    ·
     rfl
    ·
     rfl
   refine hK.out _ _ ⟨(blk_cell (blk_alloc BK449.out _) 0).trans rfl, (blk_cell (blk_alloc BK449.out _) 1).trans rfl, (blk_cell (blk_alloc BK449.out _) 2).trans rfl, (blk_cell (blk_alloc BK449.out _) 3).trans rfl, (blk_cell (blk_alloc BK449.out _) 4).trans rfl, (blk_cell (blk_alloc BK449.out _) 5).trans rfl, (blk_cell (blk_alloc BK449.out _) 6).trans rfl, (blk_cell (blk_alloc BK449.out _) 7).trans rfl⟩ (fun hHeld => ?_)
   clear hK K
   refine norm_ (a' := ?_) ?_ ?_
   rotate_left
   ·
    show Act.put _ (some 43) _ = _
    exact ap_
   refine one_ (i := 5) (N := some 44) #[ii,ii,ii,ii,ii,ii,oo,oo] rfl rfl (one_of HT_.out (by kernel_rfl)) (by decide) (fun K hK => ?_)
   refine Kd.R_append_step k29 w.heap.size (by rfl) (.tmp 40) (.tmp 43) 73 29 (.agg #[(.int .i64 0), (.int .i64 0), (.string ⟨#[]⟩), (.int .i64 0), (.int .i64 0), (.int .i64 0), (.string ⟨#[]⟩), (.int .i64 0), (.int .i64 0), (.int .i64 0), (.string ⟨#[]⟩), (.int .i64 0), (.int .i64 0), (.int .i64 0), (.int .i64 0), (.int .i64 0)]) 152 rfl Try.underlying73 info29 rfl (by decide) (by omega) u450007 x450007_1 (⟨t465, (⟨t466, t467, t468, t469, t470, t471, t472, t473⟩ : S25), (⟨t474, t475, t476, t477, t478, t479, t480⟩ : S27)⟩ : S29) [.int .i64 t465, .int .i64 t466, .string t467, .int .i64 t468, .int .i64 t469, .int .i64 t470, .string t471, .int .i64 t472, .int .i64 t473, .int .i64 t474, .string t475, .int .i64 t476, .int .i64 t477, .int .i64 t478, .int .i64 t479, .int .i64 t480] (fun _ => True) (fun _ => False) rfl rfl ?aP (fun _ hk => hk.elim) ?aF ?aO (Below.refl _ _) ?aS ?aL ?_
   (case aP => exact k29_mkM _ _ _ (⟨t465, (⟨t466, t467, t468, t469, t470, t471, t472, t473⟩ : S25), (⟨t474, t475, t476, t477, t478, t479, t480⟩ : S27)⟩ : S29))
   (case aF => exact (fun _ _ => trivial))
   (case aO => exact (qR HO_450007))
   (case aS => exact (keep_size (w := w) (g := g) (row := none) (qP HK)))
   (case aL => have := LMc30.out; omega)
   intro v484 w33 ho hb hg hat
   rw [← Ny483.out] at ho
   replace BK439 := am_ (blk_grown (qK BK439) hg (Kd.R_ne HO_450007.out BK439.out (by decide)))
   replace BK449 := am_ (blk_grown (qK BK449) hg (Kd.R_ne HO_450007.out BK449.out (by decide)))
   replace HB := am_ (below_weaken (qB HB) HL.out hb)
   replace HI0 := am_ (IsS128.grown (IsS128.q HI0) hg (IsS128.own_ne HI0.out HO_450007.out (by decide)))
   replace HK := am_ (KeepBut.trans (qP HK) (KeepBut.of_grown hg g) (Kd.R_base2 HO_450007.out))
   have HO485 := am_ (ho)
   clear HO_450007
   clear ho hb hg hat
   obtain ⟨Ao34, co34, eo34⟩ := Kd.R_slice HO485.out
   (first | subst eo34 | (injection eo34 with f1_ f2_ f3_; have f4_ := f1_.symm; have f5_ := f3_.symm; clear f1_ f2_ f3_; subst f4_; subst f5_))
   refine hK.out _ _ (cz8 BK449.out) (fun hHeld => ?_)
   clear hK K
   refine norm_ (a' := ?_) ?_ ?_
   rotate_left
   ·
    show Act.put _ (some 44) _ = _
    exact ap_
   refine pz_ (i := 6) (N := some 45) HT_ #[ii,ii,ii,ii,ii,ii,ii,oo] rfl rfl ?_
   refine last_ (i := 7) (N := none) #[ii,ii,ii,ii,ii,ii,ii,ii] rfl rfl (one_of HT_.out (by kernel_rfl)) (by decide) (fun K hK => ?_)
   have hs35 : w33.cell? ⟨gb449, 7, none⟩ = some (u450007) := (blk_cell BK449.out 7).trans rfl
   have hfs35 := blk_frozen BK449.out 7
   have hns35_0 := NB439_449.out
   have hms35_0 := NB449_439.out
   refine skip_ (w1 := ?_) (by rfl) rfl ?_ ?_
   rotate_left
   ·
    go_simp
    rfl
   refine hK.out _ _ ?_
   clear hK K
   refine done_ (done_of HT_.out (by kernel_rfl)) ?_
   try go_wp2
   go_roundg k1
   case measure => have := HK1.out; omega
   case rel => exact ⟨(wrap64 (x4_1 - 1)), (t481), (t482), (y483), (.slice Ao34 y483.length co34), eqq_, H', ⟨by have := HK1.out; omega⟩, ⟨by (with_reducible repeat (first | apply Kd.R_alloc | apply Kd.R_drewN | apply Kd.R_drew)); exact Kd.R_mono (Kd.R_far (p := ⟨gb449, 7, none⟩) (Kd.R_types HO485.out BK449.out (by decide)) (fun _ hk => hk.2) (.slice Ao34 y483.length co34)) (fun _ hk => trivial)⟩, ⟨by (with_reducible repeat (first | refine blk_drewN ?_ _ | refine blk_drew ?_ | refine blk_alloc ?_ _)); refine blk_far ?_ NB439_449.out _; exact qK BK439⟩, ⟨by (with_reducible repeat (first | refine blk_drewN ?_ _ | refine blk_drew ?_ | refine blk_alloc ?_ _)); refine blk_put (cs := #[.int .i64 (wrap64 (1 + t440)), .int .i64 t443, .int .i64 (wrap64 (1 + t446)), .int .i64 t453, .int .i64 (wrap64 (1 + t450)), .bool t456, .int .i64 t459, u450007]) ?_ 7 _ rfl; exact qK BK449⟩, ⟨IsS128.q HI0⟩, ⟨qP HK⟩, ⟨qB HB⟩⟩

/-! ### spec_l12Draw: function 100 -/
mutual
def spec_l12Draw.l0 : Nat → List (S68) → Int → List Int → Int → Int → Option ((List (S68)) × Int × Int)
 | 0, _, _, _, _, _ => none
 | k + 1, x3, x4, x1000, x1001, x1002 => if x4 > 0 then ((spec_l11Draw.f k x1000 x1001 x1002).bind fun bt495 => ((spec_Send.f k x3 bt495.1 bt495.2.1 bt495.2.2.1 bt495.2.2.2.1 bt495.2.2.2.2.1 bt495.2.2.2.2.2.1 bt495.2.2.2.2.2.2.1 bt495.2.2.2.2.2.2.2.1).bind fun t507 => (spec_l12Draw.l0 k t507 (wrap64 (x4 - 1)) x1000 bt495.2.2.2.2.2.2.2.2.1 bt495.2.2.2.2.2.2.2.2.2))) else ((spec_l1Below.f x1000 x1001 x1002 10).bind fun bt510 => (if bt510.1 = 0 then ((spec_l1Int.f x1000 bt510.2.1 bt510.2.2 (([(-1), 2, 1] : List Int))).bind fun bt516 => ((spec_l1Int.f x1000 bt516.2.1 bt516.2.2 (([3, 400, 401] : List Int))).bind fun bt522 => ((spec_l1Bytes.f k x1000 bt522.2.1 bt522.2.2 bt522.1).bind fun bt525 => (if x3.length < 4398046511104 then (some ((x3 ++ [(⟨bt516.1, bt525.1⟩ : S68)]), bt525.2.1, bt525.2.2)) else (none))))) else (if bt510.1 = 1 then ((spec_l1Int.f x1000 bt510.2.1 bt510.2.2 (([11, 12, 13] : List Int))).bind fun bt536 => (spec_l12Draw.l1 k x3 bt536.1 x1000 bt536.2.1 bt536.2.2)) else (some (x3, bt510.2.1, bt510.2.2)))))
def spec_l12Draw.l1 : Nat → List (S68) → Int → List Int → Int → Int → Option ((List (S68)) × Int × Int)
 | 0, _, _, _, _, _ => none
 | k + 1, x3, x5, x1000, x1001, x1002 => if (x3.length : Int) < x5 then (if x3.length < 4398046511104 then (spec_l12Draw.l1 k (x3 ++ [(⟨0, ([] : List Int)⟩ : S68)]) x5 x1000 x1001 x1002) else (none)) else (some (x3, x1001, x1002))
end
def spec_l12Draw.f (k : Nat) (s0_0 : List Int) (s0_1 : Int) (s0_2 : Int) : Option ((List (S68)) × Int × Int) := (spec_l1Below.f s0_0 s0_1 s0_2 5).bind fun bt492 => (spec_l12Draw.l0 k (([] : List (S68))) bt492.1 s0_0 bt492.2.1 bt492.2.2)
theorem spec_l12Draw.mono_l : ∀ k, (∀ y0 y1 y2 y3 y4, LeO (spec_l12Draw.l0 k y0 y1 y2 y3 y4) (spec_l12Draw.l0 (k + 1) y0 y1 y2 y3 y4)) ∧ (∀ y0 y1 y2 y3 y4, LeO (spec_l12Draw.l1 k y0 y1 y2 y3 y4) (spec_l12Draw.l1 (k + 1) y0 y1 y2 y3 y4))
 | 0 => ⟨fun _ _ _ _ _ r h => by simp [spec_l12Draw.l0] at h, fun _ _ _ _ _ r h => by simp [spec_l12Draw.l1] at h⟩
 | k + 1 => by
  obtain ⟨ih0, ih1⟩ := spec_l12Draw.mono_l k
  refine ⟨?_, ?_⟩
  ·
   intro y0 y1 y2 y3 y4
   unfold spec_l12Draw.l0
   have m0 := @spec_Send.mono; have m1 := @spec_l11Draw.mono; have m2 := @spec_l1Bytes.mono; exact mo_
  ·
   intro y0 y1 y2 y3 y4
   unfold spec_l12Draw.l1
   have m0 := @spec_Send.mono; have m1 := @spec_l11Draw.mono; have m2 := @spec_l1Bytes.mono; exact mo_
theorem spec_l12Draw.mono : ∀ a0 a1 a2 k, LeO (spec_l12Draw.f k a0 a1 a2) (spec_l12Draw.f (k + 1) a0 a1 a2) := by
 intro a0 a1 a2 k
 obtain ⟨ih0, ih1⟩ := spec_l12Draw.mono_l k
 unfold spec_l12Draw.f
 have m0 := @spec_Send.mono; have m1 := @spec_l11Draw.mono; have m2 := @spec_l1Bytes.mono; exact mo_
set_option maxHeartbeats 8000000 in
set_option maxRecDepth 100000 in
theorem spec_l12Draw.calls (k : Nat) (g : Nat) (s0_0 : List Int) (s0_1 : Int) (s0_2 : Int) (r1 : List (S68)) (r2 : Int) (r3 : Int) (w0 w : World) (hI : IsS128 w0 w g s0_0 s0_1 s0_2) (hB : Below w0.heap.size w0 w) (h : spec_l12Draw.f k s0_0 s0_1 s0_2 = some (r1, r2, r3)) :
  Calls Try.prog 100 #[.pointer (some ⟨g, 0, none⟩)] w fun e w' => ∃ v0_ : Value, e = .returned (v0_) ∧ Kd.S k68 68 w' w.heap.size (fun _ => True) v0_ r1 ∧ IsS128 w0 w' g s0_0 r2 r3 ∧ Below w0.heap.size w0 w' ∧ KeepBut w w' g none := by
 have hu68 := Try.underlying68
 have HI0 := Aside0.mk hI
 have IGHI0 := iG_ HI0.out.ge
 have HK := Aside0.mk (KeepBut.refl w g none)
 have HL := Aside0.mk hB.size
 clear hI
 have HW0 := Aside0.mk hB.size
 have HB := Aside0.mk hB
 clear hB
 have H := h
 unfold spec_l12Draw.f at H
 clear h
 obtain ⟨y489, hy489⟩ : ∃ y_ : List (S68), y_ = (([] : List (S68))) := ⟨_, rfl⟩
 rw [← hy489] at H
 have Ny489 := Aside0.mk hy489
 clear hy489
 replace H := bf_ H
 obtain ⟨f_, hf_, ⟨t492, t493, t494⟩, A2, H⟩ := H
 subst hf_
 (try dsimp only at H)
 have H' := Aside0.mk H
 clear H
 go_enter Try.func100, Try.ntmps100
 go_wp2_with (first | ((with_reducible refine gate_dst (N := 6) rfl ?_); refine Kd.S_lit k68 _ 68 ?hg (N := 6) ?hd (xs := ([] : List (S68))) (inner := []) (ok := fun _ => True) (okp := fun _ => True) ?hr ?hp (fun _ hk => hk) trivial (Below.refl _ _) (Nat.le_refl _) (by simp) ?_; (case hd => rfl); (case hg => rfl); (case hr => first | (go_simp; done) | (go_simp; rfl)); (case hp => exact (Reps.none _ _)); intro v490 w3 ho4 hb hg_ hnew_; clear hg_ hnew_; (first | rw [← Ny489.out] at ho4 | (simp only [Int.reduceToNat] at ho4; rw [← Ny489.out] at ho4)); have HO491 := am_ (Kd.S_lower ho4 (keep_size (w := w) (g := g) (row := none) (qP HK))); replace HK := kL_ HK hb; replace HB := bS_ HB hb; replace HI0 := am_ (IsS128.below (IsS128.q HI0) hb); clear hb ho4) | ((with_reducible refine gate_callee (f := 61) rfl ?_); refine gl_ (some 8) Try.func61 #[.pointer (some ⟨g, 0, none⟩), .int .i64 5] ?_; (with_reducible refine (spec_l1Below.calls g s0_0 s0_1 s0_2 5 t492 t493 t494 w0 _ ?side1 ?side2 A2.out).mono ?_); (case side1 => exact IsS128.q HI0); (case side2 => exact qB HB); rintro e w5 ⟨rfl, hi, hb, hk⟩; refine ⟨_, rfl, ?_⟩; replace HO491 := am_ (Kd.S_mono (Kd.S_keep (IsS128.apartS (show IsS128 w0 _ g s0_0 s0_1 s0_2 from IsS128.q HI0) (qS HO491) (by decide)) hk (fun _ h => h.2)) (fun _ h => h.1)); replace HK := kT_ HK hk; replace HB := am_ (hb); replace HI0 := am_ (hi); (try clear hb); (try clear hk); (try clear hi)))
 go_loopg [3, 4] k (fun kq v3 v4 w' => ∃ (x3_1 : List (S68)) (x4_1 : Int) (x1001_1 : Int) (x1002_1 : Int), v4 = .int .i64 x4_1 ∧ Aside0 (spec_l12Draw.l0 kq x3_1 x4_1 s0_0 x1001_1 x1002_1 = some (r1, r2, r3)) ∧ Aside0 (kq ≤ k) ∧ Aside0 (Kd.S k68 68 w' w.heap.size (fun _ => True) v3 x3_1) ∧ Aside0 (IsS128 w0 w' g s0_0 x1001_1 x1002_1) ∧ Aside0 (KeepBut w w' g none) ∧ Aside0 (Below w0.heap.size w0 w'))
 case atStart => exact ⟨(y489), (t492), (t493), (t494), eqq_, H', ⟨Nat.le_refl _⟩, ⟨qS HO491⟩, ⟨IsS128.q HI0⟩, ⟨qP HK⟩, ⟨qB HB⟩⟩
 case round =>
  clear H'
  try clear c1
  try clear p2
  obtain ⟨x3_1, x4_1, x1001_1, x1002_1, rfl, HA, HK1, HO_3, HI0, HK, HB⟩ := hrel
  cases gk with
  | zero => exact absurd HA.out (by simp [spec_l12Draw.l0])
  | succ k1 =>
   have H := HA.out
   clear HA
   simp only [spec_l12Draw.l0] at H
   by_cases c6 : x4_1 > 0
   ·
    rw [if_pos c6] at H
    have c6b0 : decide (0 < x4_1) = true := decide_eq_true c6
    clear c6
    replace H := bf_ H
    obtain ⟨f_, hf_, ⟨t495, t496, t497, t498, t499, t500, t501, t502, t505, t506⟩, A7, H⟩ := H
    subst hf_
    (try dsimp only at H)
    replace H := bd_ H
    obtain ⟨t507, A8, H⟩ := H
    have H' := Aside0.mk H
    clear H
    go_wp2_with (first | ((with_reducible refine gate_callee (f := 109) rfl ?_); refine gl_ (some 15) Try.func109 #[.pointer (some ⟨g, 0, none⟩)] ?_; (with_reducible refine (spec_l11Draw.calls k1 g s0_0 x1001_1 x1002_1 t495 t496 t497 t498 t499 t500 t501 t502 t505 t506 w0 _ ?side1 ?side2 A7.out).mono ?_); (case side1 => exact IsS128.q HI0); (case side2 => exact qB HB); rintro e w9 ⟨v503, rfl, ho0, hi, hb, hk⟩; refine ⟨_, rfl, ?_⟩; replace HO_3 := am_ (Kd.S_mono (Kd.S_keep (IsS128.apartS (show IsS128 w0 _ g s0_0 x1001_1 x1002_1 from IsS128.q HI0) (qS HO_3) (by decide)) hk (fun _ h => h.2)) (fun _ h => h.1)); have HO504 := am_ (Kd.R_lower ho0 (keep_size (w := w) (g := g) (row := none) (qP HK))); replace HK := kT_ HK hk; replace HB := am_ (hb); replace HI0 := am_ (hi); (try clear hb); (try clear hk); (try clear hi); (try clear ho0); obtain ⟨Ao10, co10, eo10⟩ := Kd.S_slice HO_3.out; subst eo10; obtain ⟨Ao11, co11, eo11⟩ := Kd.R_slice HO504.out; subst eo11) | ((with_reducible refine gate_callee (f := 50) rfl ?_); refine gl_ (some 16) Try.func50 #[.slice Ao10 x3_1.length co10, .agg #[.int .i64 t495, .int .i64 t496, .int .i64 t497, .int .i64 t498, .int .i64 t499, .bool t500, .int .i64 t501, .slice Ao11 t502.length co11]] ?_; (with_reducible refine (spec_Send.calls k1 _ _ x3_1 t495 t496 t497 t498 t499 t500 t501 _ _ t502 t507 _ ?side1 ?side2 ?side3 ?side4 A8.out).mono ?_); (case side1 => exact qC ((Kd.S_reads' HO_3.out).2.2)); (case side2 => exact (Kd.S_reads' HO_3.out).2.1); (case side3 => exact qC ((Kd.R_reads' HO504.out).2.2)); (case side4 => exact (Kd.R_reads' HO504.out).2.1); rintro e w12 ⟨v508, rfl, ho0, hb⟩; refine ⟨_, rfl, ?_⟩; replace HO504 := rB_ HO504 hb; have HO509 := am_ (Kd.S_lower (Kd.S_new' ho0 (Kd.S_lt (qS HO_3))) (keep_size (w := w) (g := g) (row := none) (qP HK))); replace HO_3 := am_ (Kd.S_elder' (qS HO_3) (Kd.S_base ho0) hb); replace HK := kL_ HK hb; replace HB := bS_ HB hb; replace HI0 := am_ (IsS128.below (IsS128.q HI0) hb); (try clear hb); (try clear ho0)))
    go_roundg k1
    case measure => have := HK1.out; omega
    case rel => exact ⟨(t507), (wrap64 (x4_1 - 1)), (t505), (t506), eqq_, H', ⟨by have := HK1.out; omega⟩, ⟨by (with_reducible repeat (first | apply Kd.S_alloc | apply Kd.S_drewN | apply Kd.S_drew)); exact Kd.S_mono HO509.out (fun _ hk => trivial)⟩, ⟨IsS128.q HI0⟩, ⟨qP HK⟩, ⟨qB HB⟩⟩
   rw [if_neg c6] at H
   have c6b0 : decide (0 < x4_1) = false := decide_eq_false c6
   clear c6
   replace H := bf_ H
   obtain ⟨f_, hf_, ⟨t510, t511, t512⟩, A13, H⟩ := H
   subst hf_
   (try dsimp only at H)
   by_cases c14 : t510 = 0
   ·
    rw [if_pos c14] at H
    have c14b0 : (t510 == 0) = true := beq_iff_eq.mpr c14
    have c14b1 : (t510 != 0) = false := bne_eq_false_iff_eq.mpr c14
    clear c14
    obtain ⟨y513, hy513⟩ : ∃ y_ : List Int, y_ = (([(-1), 2, 1] : List Int)) := ⟨_, rfl⟩
    rw [← hy513] at H
    have Ny513 := Aside0.mk hy513
    clear hy513
    replace H := bf_ H
    obtain ⟨f_, hf_, ⟨t516, t517, t518⟩, A15, H⟩ := H
    subst hf_
    (try dsimp only at H)
    obtain ⟨y519, hy519⟩ : ∃ y_ : List Int, y_ = (([3, 400, 401] : List Int)) := ⟨_, rfl⟩
    rw [← hy519] at H
    have Ny519 := Aside0.mk hy519
    clear hy519
    replace H := bf_ H
    obtain ⟨f_, hf_, ⟨t522, t523, t524⟩, A16, H⟩ := H
    subst hf_
    (try dsimp only at H)
    replace H := bf_ H
    obtain ⟨f_, hf_, ⟨t525, t528, t529⟩, A17, H⟩ := H
    subst hf_
    (try dsimp only at H)
    by_cases c18 : x3_1.length < 4398046511104
    case neg => exact nn_ c18 H
    rw [if_pos c18] at H
    have LMc18 := Aside0.mk c18
    clear c18
    obtain ⟨y530, hy530⟩ : ∃ y_ : List (S68), y_ = (x3_1 ++ [(⟨t516, t525⟩ : S68)]) := ⟨_, rfl⟩
    rw [← hy530] at H
    have Ny530 := Aside0.mk hy530
    clear hy530
    simp only [Option.some.injEq, Prod.mk.injEq] at H
    obtain ⟨rfl, rfl, rfl⟩ := H
    go_wp2_with (first | ((with_reducible refine gate_callee (f := 61) rfl ?_); refine gl_ (some 18) Try.func61 #[.pointer (some ⟨g, 0, none⟩), .int .i64 10] ?_; (with_reducible refine (spec_l1Below.calls g s0_0 x1001_1 x1002_1 10 t510 t511 t512 w0 _ ?side1 ?side2 A13.out).mono ?_); (case side1 => exact IsS128.q HI0); (case side2 => exact qB HB); rintro e w19 ⟨rfl, hi, hb, hk⟩; refine ⟨_, rfl, ?_⟩; replace HO_3 := am_ (Kd.S_mono (Kd.S_keep (IsS128.apartS (show IsS128 w0 _ g s0_0 x1001_1 x1002_1 from IsS128.q HI0) (qS HO_3) (by decide)) hk (fun _ h => h.2)) (fun _ h => h.1)); replace HK := kT_ HK hk; replace HB := am_ (hb); replace HI0 := am_ (hi); (try clear hb); (try clear hk); (try clear hi)) | ((with_reducible refine gate_dst (N := 23) rfl ?_); refine Kd.R_lit (Kd.int .i64) _ 3 ?hg (N := 23) ?hd (xs := ([(-1), 2, 1] : List Int)) (inner := [.int .i64 (-1), .int .i64 2, .int .i64 1]) (ok := fun _ => True) (okp := fun _ => True) ?hr ?hp (fun _ hk => hk) trivial (Below.refl _ _) (Nat.le_refl _) (by simp) ?_; (case hd => rfl); (case hg => rfl); (case hr => first | (go_simp; done) | (go_simp; rfl)); (case hp => exact (Reps.one (show Kd.M (Kd.int .i64) _ _ _ (-1) [.int .i64 (-1)] from rfl) (Reps.one (show Kd.M (Kd.int .i64) _ _ _ 2 [.int .i64 2] from rfl) (Reps.one (show Kd.M (Kd.int .i64) _ _ _ 1 [.int .i64 1] from rfl) (Reps.none _ _))))); intro v514 w20 ho21 hb hg_ hnew_; clear hg_ hnew_; (first | rw [← Ny513.out] at ho21 | (simp only [Int.reduceToNat] at ho21; rw [← Ny513.out] at ho21)); replace HO_3 := am_ (Kd.S_below (qS HO_3) hb); have HO515 := am_ (Kd.R_lower ho21 (keep_size (w := w) (g := g) (row := none) (qP HK))); replace HK := kL_ HK hb; replace HB := bS_ HB hb; replace HI0 := am_ (IsS128.below (IsS128.q HI0) hb); clear hb ho21; obtain ⟨Ao22, co22, eo22⟩ := Kd.R_slice HO515.out; subst eo22) | ((with_reducible refine gate_callee (f := 62) rfl ?_); refine gl_ (some 24) Try.func62 #[.pointer (some ⟨g, 0, none⟩), .slice Ao22 y513.length co22] ?_; (with_reducible refine (spec_l1Int.calls g s0_0 t511 t512 _ _ y513 t516 t517 t518 w0 _ ?side1 ?side2 ?side3 ?side4 ?side5 A15.out).mono ?_); (case side1 => exact IsS128.q HI0); (case side2 => exact qB HB); (case side3 => exact qC ((Kd.R_reads' HO515.out).2.2)); (case side4 => exact (Kd.R_reads' HO515.out).2.1); (case side5 => exact far_slice (IsS128.own_ne HI0.out HO515.out (by decide))); rintro e w23 ⟨rfl, hi, hb, hk⟩; refine ⟨_, rfl, ?_⟩; replace HO_3 := am_ (Kd.S_mono (Kd.S_keep (IsS128.apartS (show IsS128 w0 _ g s0_0 t511 t512 from IsS128.q HI0) (qS HO_3) (by decide)) hk (fun _ h => h.2)) (fun _ h => h.1)); replace HO515 := am_ (Kd.R_mono (Kd.R_keep (IsS128.apart (show IsS128 w0 _ g s0_0 t511 t512 from IsS128.q HI0) (qR HO515) (by decide)) hk (fun _ h => h.2)) (fun _ h => h.1)); replace HK := kT_ HK hk; replace HB := am_ (hb); replace HI0 := am_ (hi); (try clear hb); (try clear hk); (try clear hi)) | ((with_reducible refine gate_dst (N := 27) rfl ?_); refine Kd.R_lit (Kd.int .i64) _ 3 ?hg (N := 27) ?hd (xs := ([3, 400, 401] : List Int)) (inner := [.int .i64 3, .int .i64 400, .int .i64 401]) (ok := fun _ => True) (okp := fun _ => True) ?hr ?hp (fun _ hk => hk) trivial (Below.refl _ _) (Nat.le_refl _) (by simp) ?_; (case hd => rfl); (case hg => rfl); (case hr => first | (go_simp; done) | (go_simp; rfl)); (case hp => exact (Reps.one (show Kd.M (Kd.int .i64) _ _ _ 3 [.int .i64 3] from rfl) (Reps.one (show Kd.M (Kd.int .i64) _ _ _ 400 [.int .i64 400] from rfl) (Reps.one (show Kd.M (Kd.int .i64) _ _ _ 401 [.int .i64 401] from rfl) (Reps.none _ _))))); intro v520 w24 ho25 hb hg_ hnew_; clear hg_ hnew_; (first | rw [← Ny519.out] at ho25 | (simp only [Int.reduceToNat] at ho25; rw [← Ny519.out] at ho25)); replace HO_3 := am_ (Kd.S_below (qS HO_3) hb); have HO521 := am_ (Kd.R_lower (Kd.R_new' ho25 (Kd.R_lt (qR HO515))) (keep_size (w := w) (g := g) (row := none) (qP HK))); replace HO515 := eA_ HO515 ho25 hb; replace HK := kL_ HK hb; replace HB := bS_ HB hb; replace HI0 := am_ (IsS128.below (IsS128.q HI0) hb); clear hb ho25; obtain ⟨Ao26, co26, eo26⟩ := Kd.R_slice HO521.out; subst eo26) | ((with_reducible refine gate_callee (f := 62) rfl ?_); refine gl_ (some 28) Try.func62 #[.pointer (some ⟨g, 0, none⟩), .slice Ao26 y519.length co26] ?_; (with_reducible refine (spec_l1Int.calls g s0_0 t517 t518 _ _ y519 t522 t523 t524 w0 _ ?side1 ?side2 ?side3 ?side4 ?side5 A16.out).mono ?_); (case side1 => exact IsS128.q HI0); (case side2 => exact qB HB); (case side3 => exact qC ((Kd.R_reads' HO521.out).2.2)); (case side4 => exact (Kd.R_reads' HO521.out).2.1); (case side5 => exact far_slice (IsS128.own_ne HI0.out HO521.out (by decide))); rintro e w27 ⟨rfl, hi, hb, hk⟩; refine ⟨_, rfl, ?_⟩; replace HO_3 := am_ (Kd.S_mono (Kd.S_keep (IsS128.apartS (show IsS128 w0 _ g s0_0 t517 t518 from IsS128.q HI0) (qS HO_3) (by decide)) hk (fun _ h => h.2)) (fun _ h => h.1)); replace HO515 := am_ (Kd.R_mono (Kd.R_keep (IsS128.apart (show IsS128 w0 _ g s0_0 t517 t518 from IsS128.q HI0) (qR HO515) (by decide)) hk (fun _ h => h.2)) (fun _ h => h.1)); replace HO521 := am_ (Kd.R_mono (Kd.R_keep (IsS128.apart (show IsS128 w0 _ g s0_0 t517 t518 from IsS128.q HI0) (qR HO521) (by decide)) hk (fun _ h => h.2)) (fun _ h => h.1)); replace HK := kT_ HK hk; replace HB := am_ (hb); replace HI0 := am_ (hi); (try clear hb); (try clear hk); (try clear hi)) | ((with_reducible refine gate_callee (f := 91) rfl ?_); refine gl_ (some 29) Try.func91 #[.pointer (some ⟨g, 0, none⟩), .int .i64 t522] ?_; (with_reducible refine (spec_l1Bytes.calls k1 g s0_0 t523 t524 t522 t525 t528 t529 w0 _ ?side1 ?side2 A17.out).mono ?_); (case side1 => exact IsS128.q HI0); (case side2 => exact qB HB); rintro e w28 ⟨v526, rfl, ho0, hi, hb, hk⟩; refine ⟨_, rfl, ?_⟩; replace HO_3 := am_ (Kd.S_mono (Kd.S_told (Kd.S_oldK (IsS128.apartS (show IsS128 w0 _ g s0_0 t523 t524 from IsS128.q HI0) (qS HO_3) (by decide)) hk) (Kd.R_base ho0)) (fun _ h_ => h_.1)); replace HO515 := am_ (Kd.R_mono (Kd.R_keep (IsS128.apart (show IsS128 w0 _ g s0_0 t523 t524 from IsS128.q HI0) (qR HO515) (by decide)) hk (fun _ h => h.2)) (fun _ h => h.1)); replace HO521 := am_ (Kd.R_mono (Kd.R_keep (IsS128.apart (show IsS128 w0 _ g s0_0 t523 t524 from IsS128.q HI0) (qR HO521) (by decide)) hk (fun _ h => h.2)) (fun _ h => h.1)); have HO527 := am_ (Kd.R_lower ho0 (keep_size (w := w) (g := g) (row := none) (qP HK))); replace HK := kT_ HK hk; replace HB := am_ (hb); replace HI0 := am_ (hi); (try clear hb); (try clear hk); (try clear hi); (try clear ho0); obtain ⟨Ao29, co29, eo29⟩ := Kd.R_slice HO527.out; subst eo29) | ((with_reducible refine gate_builtin (b := .append) (xs := #[.tmp 21, .tmp 31]) rfl ?_); at_builtin; refine Kd.S_append k68 w.heap.size rfl (.tmp 21) (.tmp 31) 64 68 (.agg #[(.int .i64 0), (.slice none 0 0)]) 32 rfl Try.underlying64 info68 rfl (by decide) (by omega) u3 x3_1 (⟨t516, t525⟩ : S68) [.int .i64 t516, .slice Ao29 t525.length co29] (fun _ => True) (fun k_ => some k_ = (.slice Ao29 t525.length co29 : Value).ownBlock) rfl rfl ?aP (fun k_ hk_ => ((Kd.R_mono (ok' := fun k_ => ((fun _ => True)) k_ ∧ some k_ ≠ (u3 : Value).ownBlock) (Kd.R_apart' (HO527.out) (Kd.S_typed HO_3.out) (by decide)) (fun k_ hk => ⟨trivial, hk.2⟩))).1 k_ hk_.symm) ?aF ?aO (Below.refl _ _) ?aS ?aL ?_; (case aP => exact k68_mkM _ _ _ (⟨t516, t525⟩ : S68) (Kd.R_mono (Kd.R_tight rfl (Kd.R_mono (ok' := fun k_ => ((fun _ => True)) k_ ∧ some k_ ≠ (u3 : Value).ownBlock) (Kd.R_apart' (HO527.out) (Kd.S_typed HO_3.out) (by decide)) (fun k_ hk => ⟨trivial, hk.2⟩))) (fun _ h_ => h_))); (case aF => exact (fun _ _ => trivial)); (case aO => exact (tS (Kd.S_mono HO_3.out (fun k_ hk => ⟨trivial, fun e_ => hk.2 e_⟩)))); (case aS => exact (keep_size (w := w) (g := g) (row := none) (qP HK))); (case aL => have := LMc18.out; omega); intro v531 w30 ho hb hg hat; rw [← Ny530.out] at ho; replace HO515 := am_ (Kd.R_over' (qR HO515) (Kd.S_typed (qS HO_3)) (by decide) hg); replace HO521 := am_ (Kd.R_over' (qR HO521) (Kd.S_typed (qS HO_3)) (by decide) hg); replace HB := am_ (below_weaken (qB HB) HL.out hb); replace HI0 := am_ (IsS128.grown (IsS128.q HI0) hg (IsS128.own_neS HI0.out HO_3.out (by decide))); replace HK := am_ (KeepBut.trans (qP HK) (KeepBut.of_grown hg g) (Kd.S_base2 HO_3.out)); have HO532 := am_ (ho); clear HO_3 HO527; clear ho hb hg hat))
    go_ret
    exact ⟨_, er_, qS HO532, IsS128.q HI0, qB HB, qP HK⟩
   rw [if_neg c14] at H
   have c14b0 : (t510 == 0) = false := beq_eq_false_iff_ne.mpr c14
   have c14b1 : (t510 != 0) = true := bne_iff_ne.mpr c14
   by_cases c31 : t510 = 1
   rotate_left
   ·
    rw [if_neg c31] at H
    have c31b0 : (t510 == 1) = false := beq_eq_false_iff_ne.mpr c31
    have c31b1 : (t510 != 1) = true := bne_iff_ne.mpr c31
    simp only [Option.some.injEq, Prod.mk.injEq] at H
    obtain ⟨rfl, rfl, rfl⟩ := H
    go_wp2_with (first | ((with_reducible refine gate_callee (f := 61) rfl ?_); refine gl_ (some 18) Try.func61 #[.pointer (some ⟨g, 0, none⟩), .int .i64 10] ?_; (with_reducible refine (spec_l1Below.calls g s0_0 x1001_1 x1002_1 10 t510 t511 t512 w0 _ ?side1 ?side2 A13.out).mono ?_); (case side1 => exact IsS128.q HI0); (case side2 => exact qB HB); rintro e w43 ⟨rfl, hi, hb, hk⟩; refine ⟨_, rfl, ?_⟩; replace HO_3 := am_ (Kd.S_mono (Kd.S_keep (IsS128.apartS (show IsS128 w0 _ g s0_0 x1001_1 x1002_1 from IsS128.q HI0) (qS HO_3) (by decide)) hk (fun _ h => h.2)) (fun _ h => h.1)); replace HK := kT_ HK hk; replace HB := am_ (hb); replace HI0 := am_ (hi); (try clear hb); (try clear hk); (try clear hi)))
    go_ret
    exact ⟨_, er_, qS HO_3, IsS128.q HI0, qB HB, qP HK⟩
   rw [if_pos c31] at H
   have c31b0 : (t510 == 1) = true := beq_iff_eq.mpr c31
   have c31b1 : (t510 != 1) = false := bne_eq_false_iff_eq.mpr c31
   clear c31
   obtain ⟨y533, hy533⟩ : ∃ y_ : List Int, y_ = (([11, 12, 13] : List Int)) := ⟨_, rfl⟩
   rw [← hy533] at H
   have Ny533 := Aside0.mk hy533
   clear hy533
   replace H := bf_ H
   obtain ⟨f_, hf_, ⟨t536, t537, t538⟩, A32, H⟩ := H
   subst hf_
   (try dsimp only at H)
   have H' := Aside0.mk H
   clear H
   go_wp2_with (first | ((with_reducible refine gate_callee (f := 61) rfl ?_); refine gl_ (some 18) Try.func61 #[.pointer (some ⟨g, 0, none⟩), .int .i64 10] ?_; (with_reducible refine (spec_l1Below.calls g s0_0 x1001_1 x1002_1 10 t510 t511 t512 w0 _ ?side1 ?side2 A13.out).mono ?_); (case side1 => exact IsS128.q HI0); (case side2 => exact qB HB); rintro e w33 ⟨rfl, hi, hb, hk⟩; refine ⟨_, rfl, ?_⟩; replace HO_3 := am_ (Kd.S_mono (Kd.S_keep (IsS128.apartS (show IsS128 w0 _ g s0_0 x1001_1 x1002_1 from IsS128.q HI0) (qS HO_3) (by decide)) hk (fun _ h => h.2)) (fun _ h => h.1)); replace HK := kT_ HK hk; replace HB := am_ (hb); replace HI0 := am_ (hi); (try clear hb); (try clear hk); (try clear hi)) | ((with_reducible refine gate_dst (N := 36) rfl ?_); refine Kd.R_lit (Kd.int .i64) _ 3 ?hg (N := 36) ?hd (xs := ([11, 12, 13] : List Int)) (inner := [.int .i64 11, .int .i64 12, .int .i64 13]) (ok := fun _ => True) (okp := fun _ => True) ?hr ?hp (fun _ hk => hk) trivial (Below.refl _ _) (Nat.le_refl _) (by simp) ?_; (case hd => rfl); (case hg => rfl); (case hr => first | (go_simp; done) | (go_simp; rfl)); (case hp => exact (Reps.one (show Kd.M (Kd.int .i64) _ _ _ 11 [.int .i64 11] from rfl) (Reps.one (show Kd.M (Kd.int .i64) _ _ _ 12 [.int .i64 12] from rfl) (Reps.one (show Kd.M (Kd.int .i64) _ _ _ 13 [.int .i64 13] from rfl) (Reps.none _ _))))); intro v534 w34 ho35 hb hg_ hnew_; clear hg_ hnew_; (first | rw [← Ny533.out] at ho35 | (simp only [Int.reduceToNat] at ho35; rw [← Ny533.out] at ho35)); replace HO_3 := am_ (Kd.S_below (qS HO_3) hb); have HO535 := am_ (Kd.R_lower ho35 (keep_size (w := w) (g := g) (row := none) (qP HK))); replace HK := kL_ HK hb; replace HB := bS_ HB hb; replace HI0 := am_ (IsS128.below (IsS128.q HI0) hb); clear hb ho35; obtain ⟨Ao36, co36, eo36⟩ := Kd.R_slice HO535.out; subst eo36) | ((with_reducible refine gate_callee (f := 62) rfl ?_); refine gl_ (some 37) Try.func62 #[.pointer (some ⟨g, 0, none⟩), .slice Ao36 y533.length co36] ?_; (with_reducible refine (spec_l1Int.calls g s0_0 t511 t512 _ _ y533 t536 t537 t538 w0 _ ?side1 ?side2 ?side3 ?side4 ?side5 A32.out).mono ?_); (case side1 => exact IsS128.q HI0); (case side2 => exact qB HB); (case side3 => exact qC ((Kd.R_reads' HO535.out).2.2)); (case side4 => exact (Kd.R_reads' HO535.out).2.1); (case side5 => exact far_slice (IsS128.own_ne HI0.out HO535.out (by decide))); rintro e w37 ⟨rfl, hi, hb, hk⟩; refine ⟨_, rfl, ?_⟩; replace HO_3 := am_ (Kd.S_mono (Kd.S_keep (IsS128.apartS (show IsS128 w0 _ g s0_0 t511 t512 from IsS128.q HI0) (qS HO_3) (by decide)) hk (fun _ h => h.2)) (fun _ h => h.1)); replace HO535 := am_ (Kd.R_mono (Kd.R_keep (IsS128.apart (show IsS128 w0 _ g s0_0 t511 t512 from IsS128.q HI0) (qR HO535) (by decide)) hk (fun _ h => h.2)) (fun _ h => h.1)); replace HK := kT_ HK hk; replace HB := am_ (hb); replace HI0 := am_ (hi); (try clear hb); (try clear hk); (try clear hi)))
   go_loopg [3] k1 (fun kq v3 w' => ∃ (x3_2 : List (S68)), Aside0 (spec_l12Draw.l1 kq x3_2 t536 s0_0 t537 t538 = some (r1, r2, r3)) ∧ Aside0 (kq ≤ k1) ∧ Aside0 (Kd.S k68 68 w' w.heap.size (fun _ => True) v3 x3_2) ∧ Aside0 (IsS128 w0 w' g s0_0 t537 t538) ∧ Aside0 (KeepBut w w' g none) ∧ Aside0 (Below w0.heap.size w0 w'))
   case atStart => exact ⟨(x3_1), H', ⟨Nat.le_refl _⟩, ⟨qS HO_3⟩, ⟨IsS128.q HI0⟩, ⟨qP HK⟩, ⟨qB HB⟩⟩
   case round =>
    clear H'
    try clear c1
    try clear p2
    try clear c3
    try clear c5
    try clear c6
    try clear c6b0
    try clear p6
    try clear c9
    try clear c10
    try clear c14
    try clear c14b0
    try clear c14b1
    try clear c18
    try clear c31
    try clear c31b0
    try clear c31b1
    try clear p2
    obtain ⟨x3_2, HA, HK2, HO_3, HI0, HK, HB⟩ := hrel
    cases gk with
    | zero => exact absurd HA.out (by simp [spec_l12Draw.l1])
    | succ k2 =>
     have H := HA.out
     clear HA
     simp only [spec_l12Draw.l1] at H
     by_cases c38 : (x3_2.length : Int) < t536
     rotate_left
     ·
      rw [if_neg c38] at H
      have c38b0 : decide ((x3_2.length : Int) < t536) = false := decide_eq_false c38
      clear c38
      simp only [Option.some.injEq, Prod.mk.injEq] at H
      obtain ⟨rfl, rfl, rfl⟩ := H
      obtain ⟨Ao42, co42, eo42⟩ := Kd.S_slice HO_3.out
      subst eo42
      go_wp2
      go_ret
      exact ⟨_, er_, qS HO_3, IsS128.q HI0, qB HB, qP HK⟩
     rw [if_pos c38] at H
     have c38b0 : decide ((x3_2.length : Int) < t536) = true := decide_eq_true c38
     clear c38
     by_cases c39 : x3_2.length < 4398046511104
     case neg => exact nn_ c39 H
     rw [if_pos c39] at H
     have LMc39 := Aside0.mk c39
     clear c39
     obtain ⟨y539, hy539⟩ : ∃ y_ : List (S68), y_ = (x3_2 ++ [(⟨0, ([] : List Int)⟩ : S68)]) := ⟨_, rfl⟩
     rw [← hy539] at H
     have Ny539 := Aside0.mk hy539
     clear hy539
     have H' := Aside0.mk H
     clear H
     obtain ⟨Ao40, co40, eo40⟩ := Kd.S_slice HO_3.out
     subst eo40
     go_wp2_with (first | ((with_reducible refine gate_builtin (b := .append) (xs := #[.tmp 42, .tmp 44]) rfl ?_); at_builtin; refine Kd.S_append k68 w.heap.size rfl (.tmp 42) (.tmp 44) 64 68 (.agg #[(.int .i64 0), (.slice none 0 0)]) 32 rfl Try.underlying64 info68 rfl (by decide) (by omega) (.slice Ao40 x3_2.length co40) x3_2 (⟨0, ([] : List Int)⟩ : S68) [.int .i64 0, .slice none 0 0] (fun _ => True) (fun _ => False) rfl rfl ?aP (fun k_ hk_ => hk_.elim) ?aF ?aO (Below.refl _ _) ?aS ?aL ?_; (case aP => exact k68_mkM _ _ _ (⟨0, ([] : List Int)⟩ : S68) (Kd.R_nil _ _ _ _ _)); (case aF => exact (fun _ _ => trivial)); (case aO => exact (tS (Kd.S_mono HO_3.out (fun k_ hk => ⟨trivial, fun e_ => e_⟩)))); (case aS => exact (keep_size (w := w) (g := g) (row := none) (qP HK))); (case aL => have := LMc39.out; omega); intro v540 w41 ho hb hg hat; rw [← Ny539.out] at ho; replace HB := am_ (below_weaken (qB HB) HL.out hb); replace HI0 := am_ (IsS128.grown (IsS128.q HI0) hg (IsS128.own_neS HI0.out HO_3.out (by decide))); replace HK := am_ (KeepBut.trans (qP HK) (KeepBut.of_grown hg g) (Kd.S_base2 HO_3.out)); have HO541 := am_ (ho); clear HO_3; clear ho hb hg hat))
     go_roundg k2
     case measure => have := HK1.out; have := HK2.out; omega
     case rel => exact ⟨(y539), H', ⟨by have := HK1.out; have := HK2.out; omega⟩, ⟨qS HO541⟩, ⟨IsS128.q HI0⟩, ⟨qP HK⟩, ⟨qB HB⟩⟩

/-! ### spec_DrawTakeOut: function 40 -/
def spec_DrawTakeOut.f (k : Nat) (l0 : List Int) : Option ((List (S68)) × Int) := (spec_l1New.f k l0).bind fun bt542 => ((spec_l12Draw.f k bt542.1 bt542.2.1 bt542.2.2).bind fun bt546 => ((spec_l1Int.f bt542.1 bt546.2.1 bt546.2.2 (([0, 1, 2, 7, (-1), 9223372036854775807] : List Int))).bind fun bt554 => (some (bt546.1, bt554.1))))
theorem spec_DrawTakeOut.mono : ∀ a0 k, LeO (spec_DrawTakeOut.f k a0) (spec_DrawTakeOut.f (k + 1) a0) := by
 intro a0 k
 unfold spec_DrawTakeOut.f
 have m0 := @spec_l12Draw.mono; have m1 := @spec_l1New.mono; exact mo_
set_option maxHeartbeats 8000000 in
set_option maxRecDepth 100000 in
theorem spec_DrawTakeOut.calls (k : Nat) (A0 : Option Addr) (c0 : Nat) (l0 : List Int) (r1 : List (S68)) (r2 : Int) (w : World) (hr0 : Kd.C (Kd.int .u8) w A0 l0.length l0) (hc0 : l0.length ≤ c0) (h : spec_DrawTakeOut.f k l0 = some (r1, r2)) :
  Calls Try.prog 40 #[.slice A0 l0.length c0] w fun e w' => ∃ v0_ : Value, e = .returned (.tuple #[v0_, .int .i64 r2]) ∧ Kd.S k68 68 w' w.heap.size (fun _ => True) v0_ r1 ∧ Below w.heap.size w w' := by
 have HR0 := Aside0.mk hr0
 have HC0 := Aside0.mk hc0
 clear hr0 hc0
 have HB := Aside0.mk (Below.refl w.heap.size w)
 have H := h
 unfold spec_DrawTakeOut.f at H
 clear h
 replace H := bf_ H
 obtain ⟨f_, hf_, ⟨t542, t543, t544⟩, A2, H⟩ := H
 subst hf_
 (try dsimp only at H)
 replace H := bf_ H
 obtain ⟨f_, hf_, ⟨t546, t549, t550⟩, A3, H⟩ := H
 subst hf_
 (try dsimp only at H)
 obtain ⟨y551, hy551⟩ : ∃ y_ : List Int, y_ = (([0, 1, 2, 7, (-1), 9223372036854775807] : List Int)) := ⟨_, rfl⟩
 rw [← hy551] at H
 have Ny551 := Aside0.mk hy551
 clear hy551
 replace H := bf_ H
 obtain ⟨f_, hf_, ⟨t554, t555, t556⟩, A4, H⟩ := H
 subst hf_
 (try dsimp only at H)
 simp only [Option.some.injEq, Prod.mk.injEq] at H
 obtain ⟨rfl, rfl⟩ := H
 go_enter Try.func40, Try.ntmps40
 go_wp2_with (first | ((with_reducible refine gate_callee (f := 59) rfl ?_); refine gl_ (some 6) Try.func59 #[.slice A0 l0.length c0] ?_; (with_reducible refine (spec_l1New.calls k _ _ l0 t542 t543 t544 w _ ?side1 ?side2 ?side3 A2.out).mono ?_); (case side1 => exact qB HB); (case side2 => exact HR0.out); (case side3 => exact HC0.out); rintro e w5 ⟨g545, rfl, hi, hb, hb2⟩; refine ⟨_, rfl, ?_⟩; replace HB := am_ (hb); have HI545 := am_ (hi); have IGHI545 := iG_ HI545.out.ge; (try clear hb); (try clear hb2); (try clear hi)) | ((with_reducible refine gate_callee (f := 100) rfl ?_); refine gl_ (some 8) Try.func100 #[.pointer (some ⟨g545, 0, none⟩)] ?_; (with_reducible refine (spec_l12Draw.calls k g545 t542 t543 t544 t546 t549 t550 w _ ?side1 ?side2 A3.out).mono ?_); (case side1 => exact IsS128.q HI545); (case side2 => exact qB HB); rintro e w6 ⟨v547, rfl, ho0, hi, hb, hk⟩; refine ⟨_, rfl, ?_⟩; have HO548 := am_ (Kd.S_lower ho0 (below_size (qB HB))); replace HB := am_ (hb); replace HI545 := am_ (hi); (try clear hb); (try clear hk); (try clear hi); (try clear ho0)) | ((with_reducible refine gate_dst (N := 10) rfl ?_); refine Kd.R_lit (Kd.int .i64) _ 3 ?hg (N := 10) ?hd (xs := ([0, 1, 2, 7, (-1), 9223372036854775807] : List Int)) (inner := [.int .i64 0, .int .i64 1, .int .i64 2, .int .i64 7, .int .i64 (-1), .int .i64 9223372036854775807]) (ok := fun _ => True) (okp := fun _ => True) ?hr ?hp (fun _ hk => hk) trivial (Below.refl _ _) (Nat.le_refl _) (by simp) ?_; (case hd => rfl); (case hg => rfl); (case hr => first | (go_simp; done) | (go_simp; rfl)); (case hp => exact (Reps.one (show Kd.M (Kd.int .i64) _ _ _ 0 [.int .i64 0] from rfl) (Reps.one (show Kd.M (Kd.int .i64) _ _ _ 1 [.int .i64 1] from rfl) (Reps.one (show Kd.M (Kd.int .i64) _ _ _ 2 [.int .i64 2] from rfl) (Reps.one (show Kd.M (Kd.int .i64) _ _ _ 7 [.int .i64 7] from rfl) (Reps.one (show Kd.M (Kd.int .i64) _ _ _ (-1) [.int .i64 (-1)] from rfl) (Reps.one (show Kd.M (Kd.int .i64) _ _ _ 9223372036854775807 [.int .i64 9223372036854775807] from rfl) (Reps.none _ _)))))))); intro v552 w7 ho8 hb hg_ hnew_; clear hg_ hnew_; (first | rw [← Ny551.out] at ho8 | (simp only [Int.reduceToNat] at ho8; rw [← Ny551.out] at ho8)); replace HO548 := am_ (Kd.S_below (qS HO548) hb); have HO553 := am_ (Kd.R_lower ho8 (below_size (qB HB))); replace HB := bS_ HB hb; replace HI545 := am_ (IsS128.below (IsS128.q HI545) hb); clear hb ho8; obtain ⟨Ao9, co9, eo9⟩ := Kd.R_slice HO553.out; subst eo9) | ((with_reducible refine gate_callee (f := 62) rfl ?_); refine gl_ (some 11) Try.func62 #[.pointer (some ⟨g545, 0, none⟩), .slice Ao9 y551.length co9] ?_; (with_reducible refine (spec_l1Int.calls g545 t542 t549 t550 _ _ y551 t554 t555 t556 w _ ?side1 ?side2 ?side3 ?side4 ?side5 A4.out).mono ?_); (case side1 => exact IsS128.q HI545); (case side2 => exact qB HB); (case side3 => exact qC ((Kd.R_reads' HO553.out).2.2)); (case side4 => exact (Kd.R_reads' HO553.out).2.1); (case side5 => exact far_slice (IsS128.own_ne HI545.out HO553.out (by decide))); rintro e w10 ⟨rfl, hi, hb, hk⟩; refine ⟨_, rfl, ?_⟩; replace HO548 := am_ (Kd.S_mono (Kd.S_keep (IsS128.apartS (show IsS128 w _ g545 t542 t549 t550 from IsS128.q HI545) (qS HO548) (by decide)) hk (fun _ h => h.2)) (fun _ h => h.1)); replace HO553 := am_ (Kd.R_mono (Kd.R_keep (IsS128.apart (show IsS128 w _ g545 t542 t549 t550 from IsS128.q HI545) (qR HO553) (by decide)) hk (fun _ h => h.2)) (fun _ h => h.1)); replace HB := am_ (hb); replace HI545 := am_ (hi); (try clear hb); (try clear hk); (try clear hi)))
 go_ret2
 exact ⟨_, er_, qS HO548, qB HB⟩

/-! ### slices_Clone_byte: function 118 -/
def slices_Clone_byte.f (l0 : List Int) : Option (List Int) := (some (([] : List Int) : List Int)).bind fun y557 => (if y557.length + l0.length < 140737488355328 then (some (y557 ++ l0)) else (none))
set_option maxHeartbeats 8000000 in
set_option maxRecDepth 100000 in
theorem slices_Clone_byte.calls_some (a0_ : Addr) (c0 : Nat) (l0 : List Int) (r : List Int) (w : World) (hr0 : Kd.C (Kd.int .u8) w (some a0_) l0.length l0) (hc0 : l0.length ≤ c0) (h : slices_Clone_byte.f l0 = some r) :
  Calls Try.prog 118 #[.slice (some a0_) l0.length c0] w fun e w' => ∃ v0_ : Value, e = .returned (v0_) ∧ Kd.R (Kd.int .u8) 5 w' w.heap.size (fun _ => True) v0_ r ∧ Below w.heap.size w w' := by
 have HR0 := Aside0.mk hr0
 have HC0 := Aside0.mk hc0
 clear hr0 hc0
 have HB := Aside0.mk (Below.refl w.heap.size w)
 have H := h
 unfold slices_Clone_byte.f at H
 clear h
 obtain ⟨y557, hy557⟩ : ∃ y_ : List Int, y_ = (([] : List Int)) := ⟨_, rfl⟩
 replace H := mk_ H hy557
 (try dsimp only at H)
 have Ny557 := Aside0.mk hy557
 clear hy557
 by_cases c2 : y557.length + l0.length < 140737488355328
 case neg => exact nn_ c2 H
 rw [if_pos c2] at H
 have LMc2 := Aside0.mk c2
 clear c2
 obtain ⟨y560, hy560⟩ : ∃ y_ : List Int, y_ = (y557 ++ l0) := ⟨_, rfl⟩
 replace H : (some y560) = some r := by first | (rw [hy560]; with_reducible exact H) | (have H2_ := (Option.bind_some _ _).symm.trans H; rw [hy560]; with_reducible exact H2_) | (have H2_ := (Option.bind_some _ _).symm.trans H; with_reducible exact H2_) | with_reducible exact H | (rw [hy560]; exact H) | exact H
 have Ny560 := Aside0.mk hy560
 clear hy560
 obtain rfl := Option.some.inj H
 have hnil := fun (W : World) => Lib.run_eql_slice_nil (P := Try.prog) W 22 5 (some a0_) l0.length c0 0 0 Try.underlying22
 go_enter Try.func118, Try.ntmps118
 go_wp2_with (first | ((with_reducible refine gate_dst (N := 5) rfl ?_); refine Kd.R_lit (Kd.int .u8) _ 5 ?hg (N := 5) ?hd (xs := ([] : List Int)) (inner := []) (ok := fun _ => True) (okp := fun _ => True) ?hr ?hp (fun _ hk => hk) trivial (Below.refl _ _) (Nat.le_refl _) (by simp) ?_; (case hd => rfl); (case hg => rfl); (case hr => first | (go_simp; done) | (go_simp; rfl)); (case hp => exact (Reps.none _ _)); intro v558 w3 ho4 hb hg_ hnew_; clear hg_ hnew_; (first | rw [← Ny557.out] at ho4 | (simp only [Int.reduceToNat] at ho4; rw [← Ny557.out] at ho4)); have HO559 := am_ (Kd.R_lower ho4 (below_size (qB HB))); replace HB := bS_ HB hb; clear hb ho4) | ((with_reducible refine gate_builtin (b := .append) (xs := #[.tmp 5, .tmp 6]) rfl ?_); at_builtin; refine Kd.R_append_rows (Kd.int .u8) (w0 := w) w.heap.size rfl (.tmp 5) (.tmp 6) 22 5 (.int .u8 0) 1 rfl Try.underlying22 info5 rfl (by decide) (by omega) v558 y557 l0 _ _ _ (fun _ => True) (fun _ => False) rfl rfl ?aO ?aR (fun _ _ h => h) (fun _ h => h.elim) ?aF ?aB ?aS ?aL ?_; (case aR => exact qC (Kd.C_below HR0.out HB.out)); (case aB => exact (qB HB)); (case aF => exact (fun _ _ => trivial)); (case aO => exact (qR HO559)); (case aS => exact (below_size (qB HB))); (case aL => have := LMc2.out; omega); intro v561 w5 ho hb hg hat; rw [← Ny560.out] at ho; replace HB := am_ (hb); have HO562 := am_ (ho); clear HO559; clear ho hb hg hat))
 go_ret
 exact ⟨_, er_, qR HO562, qB HB⟩
set_option maxHeartbeats 4000000 in
set_option maxRecDepth 100000 in
theorem slices_Clone_byte.calls_nil (c0 : Nat) (w : World) : Calls Try.prog 118 #[.slice none 0 c0] w fun e w' => e = .returned (.slice none 0 0) ∧ Below w.heap.size w w' := by
 have hnil := fun (W : World) => Lib.run_eql_slice_nil (P := Try.prog) W 22 5 none 0 c0 0 0 Try.underlying22
 go_enter Try.func118, Try.ntmps118
 go_wp2
 go_ret
 exact ⟨rfl, Below.refl _ _⟩
theorem slices_Clone_byte.calls (A0 : Option Addr) (c0 : Nat) (l0 : List Int) (r : List Int) (w : World) (hr0 : Kd.C (Kd.int .u8) w A0 l0.length l0) (hc0 : l0.length ≤ c0) (h : slices_Clone_byte.f l0 = some r) :
  Calls Try.prog 118 #[.slice A0 l0.length c0] w fun e w' => ∃ v0_ : Value, e = .returned (v0_) ∧ Kd.R (Kd.int .u8) 5 w' w.heap.size (fun _ => True) v0_ r ∧ Below w.heap.size w w' := by
 cases A0 with
 | some a0_ => exact slices_Clone_byte.calls_some a0_ c0 l0 r w hr0 hc0 h
 | none =>
  obtain rfl : l0 = [] := by
   rcases l0 with _ | ⟨x_, l_⟩
   ·
    rfl
   ·
    obtain ⟨_, e_, _⟩ := hr0.2.2 (by simp)
    cases e_
  obtain rfl : r = [] := by
   have h' := h
   simp [slices_Clone_byte.f] at h'
   exact h'
  refine (slices_Clone_byte.calls_nil c0 w).mono ?_
  rintro e w' ⟨rfl, hb⟩
  exact ⟨_, rfl, Kd.R_nil _ _ _ _ _, hb⟩

end Go.Proofs.Ytiffahfpfgnjnaa.PFnWays
