-- Written by a program of this session (myprint.py, over the kit's print): contracts of FnCtls
import Derived.Test.YtiffahfpfgnjnaaPFnCtlsx4
namespace Go.Proofs.Ytiffahfpfgnjnaa.PFnCtls
open Go.RowKit Go.Proofs.YtiffahfpfgnjnaaW.PrintWords Go.Proofs.YtiffahfpfgnjnaaW.PrintLast Go.Proofs.YtiffahfpfgnjnaaW.PrintMore Go.Proofs.YtiffahfpfgnjnaaV
attribute [local go_sem] max2_int min2_int max_two min_two max_three min_three max_four min_four
set_option linter.unusedVariables false
set_option linter.unusedSimpArgs false

/-! ### spec_l11Draw: function 109 -/
def spec_l11Draw.l0 : Nat → Int → List Int → Int → Int → Int → Int → Int → Int → Int → Bool → Int → List (S29) → Option (Int × Int × Int × Int × Int × Bool × Int × (List (S29)) × Int × Int)
 | 0, _, _, _, _, _, _, _, _, _, _, _, _ => none
 | k + 1, x4, x1000, x1001, x1002, x229000, x229001, x229002, x229003, x229004, x229005, x229006, x229007 => if x4 > 0 then ((spec_l9Item.f k x1000 x1001 x1002).bind fun bt244 => (if x229007.length < 925904528653 then (spec_l11Draw.l0 k (wrap64 (x4 - 1)) x1000 bt244.2.2.2.2.2.2.2.2.2.2.2.2.2.2.2.2.1 bt244.2.2.2.2.2.2.2.2.2.2.2.2.2.2.2.2.2 x229000 x229001 x229002 x229003 x229004 x229005 x229006 (x229007 ++ [(⟨bt244.1, (⟨bt244.2.1, bt244.2.2.1, bt244.2.2.2.1, bt244.2.2.2.2.1, bt244.2.2.2.2.2.1, bt244.2.2.2.2.2.2.1, bt244.2.2.2.2.2.2.2.1, bt244.2.2.2.2.2.2.2.2.1⟩ : S25), (⟨bt244.2.2.2.2.2.2.2.2.2.1, bt244.2.2.2.2.2.2.2.2.2.2.1, bt244.2.2.2.2.2.2.2.2.2.2.2.1, bt244.2.2.2.2.2.2.2.2.2.2.2.2.1, bt244.2.2.2.2.2.2.2.2.2.2.2.2.2.1, bt244.2.2.2.2.2.2.2.2.2.2.2.2.2.2.1, bt244.2.2.2.2.2.2.2.2.2.2.2.2.2.2.2.1⟩ : S27)⟩ : S29)])) else (none))) else (some (x229000, x229001, x229002, x229003, x229004, x229005, x229006, x229007, x1001, x1002))
def spec_l11Draw.f (k : Nat) (s0_0 : List Int) (s0_1 : Int) (s0_2 : Int) : Option (Int × Int × Int × Int × Int × Bool × Int × (List (S29)) × Int × Int) := (spec_l1Below.f s0_0 s0_1 s0_2 3).bind fun bt219 => ((spec_l1Below.f s0_0 bt219.2.1 bt219.2.2 2).bind fun bt222 => ((spec_l1Below.f s0_0 bt222.2.1 bt222.2.2 5).bind fun bt225 => (if (wrap64 (1 + bt219.1)) = 1 then ((spec_l1Below.f s0_0 bt225.2.1 bt225.2.2 3).bind fun bt229 => ((spec_l1Below.f s0_0 bt229.2.1 bt229.2.2 (wrap64 (1 + bt229.1))).bind fun bt232 => ((spec_l1Once.f s0_0 bt232.2.1 bt232.2.2 3).bind fun bt235 => ((spec_l1Below.f s0_0 bt235.2.1 bt235.2.2 9).bind fun bt238 => ((spec_l1Below.f s0_0 bt238.2.1 bt238.2.2 3).bind fun bt241 => (spec_l11Draw.l0 k bt241.1 s0_0 bt241.2.1 bt241.2.2 (wrap64 (1 + bt219.1)) bt222.1 (wrap64 (1 + bt225.1)) bt232.1 (wrap64 (1 + bt229.1)) bt235.1 bt238.1 ([] : List (S29)))))))) else (if (wrap64 (1 + bt219.1)) = 2 then ((spec_l1Below.f s0_0 bt225.2.1 bt225.2.2 4).bind fun bt265 => (some (wrap64 (1 + bt219.1), bt222.1, wrap64 (1 + bt225.1), bt265.1, 0, false, 0, ([] : List (S29)), bt265.2.1, bt265.2.2))) else (some (wrap64 (1 + bt219.1), bt222.1, wrap64 (1 + bt225.1), 0, 0, false, 0, ([] : List (S29)), bt225.2.1, bt225.2.2))))))
theorem spec_l11Draw.mono_l : ∀ k, (∀ y0 y1 y2 y3 y4 y5 y6 y7 y8 y9 y10 y11, LeO (spec_l11Draw.l0 k y0 y1 y2 y3 y4 y5 y6 y7 y8 y9 y10 y11) (spec_l11Draw.l0 (k + 1) y0 y1 y2 y3 y4 y5 y6 y7 y8 y9 y10 y11))
 | 0 => fun _ _ _ _ _ _ _ _ _ _ _ _ r h => by simp [spec_l11Draw.l0] at h
 | k + 1 => by
  have ih0 := spec_l11Draw.mono_l k
  ·
   intro y0 y1 y2 y3 y4 y5 y6 y7 y8 y9 y10 y11
   unfold spec_l11Draw.l0
   have m0 := @spec_l9Item.mono; exact mo_
theorem spec_l11Draw.mono : ∀ a0 a1 a2 k, LeO (spec_l11Draw.f k a0 a1 a2) (spec_l11Draw.f (k + 1) a0 a1 a2) := by
 intro a0 a1 a2 k
 have ih0 := spec_l11Draw.mono_l k
 unfold spec_l11Draw.f
 have m0 := @spec_l9Item.mono; exact mo_
def spec_l11Draw.T11 : Bool × List (List Nat × List Nat) := (true, [([], []), ([0], [0]), ([], []), ([2], [2]), ([3], [3]), ([1, 4, 3], [1, 4]), ([0, 1, 2, 3, 4, 5], []), ([6, 5, 5, 0, 1, 2, 3, 4, 5], [5, 6])])
def spec_l11Draw.B11 : List Nat := [0, 1, 0, 4, 12, 31, 63, 127]
theorem spec_l11Draw.tab11 : rtab .any (opsOf Try.f109 11) = spec_l11Draw.T11 := by kernel_rfl
theorem spec_l11Draw.bits11 : waitsOk spec_l11Draw.T11.2 spec_l11Draw.B11 = true := by kernel_rfl
set_option maxHeartbeats 8000000 in
set_option maxRecDepth 100000 in
theorem spec_l11Draw.calls (k : Nat) (g : Nat) (s0_0 : List Int) (s0_1 : Int) (s0_2 : Int) (r1 : Int) (r2 : Int) (r3 : Int) (r4 : Int) (r5 : Int) (r6 : Bool) (r7 : Int) (r8 : List (S29)) (r9 : Int) (r10 : Int) (w0 w : World) (hI : IsS128 w0 w g s0_0 s0_1 s0_2) (hB : Below w0.heap.size w0 w) (h : spec_l11Draw.f k s0_0 s0_1 s0_2 = some (r1, r2, r3, r4, r5, r6, r7, r8, r9, r10)) :
  Calls Try.prog 109 #[.pointer (some ⟨g, 0, none⟩)] w fun e w' => ∃ v7_ : Value, e = .returned (.agg #[.int .i64 r1, .int .i64 r2, .int .i64 r3, .int .i64 r4, .int .i64 r5, .bool r6, .int .i64 r7, v7_]) ∧ Kd.R k29 29 w' w.heap.size (fun _ => True) v7_ r8 ∧ IsS128 w0 w' g s0_0 r9 r10 ∧ Below w0.heap.size w0 w' ∧ KeepBut w w' g none := by
 have hu75 := Try.underlying75
 have HI0 := am_ hI
 have IGHI0 := iG_ HI0.out.ge
 have HK := Aside0.mk (KeepBut.refl w g none)
 have HL := Aside0.mk hB.size
 clear hI
 have HW0 := Aside0.mk hB.size
 have HB := am_ hB
 clear hB
 have H := h
 unfold spec_l11Draw.f at H
 clear h
 replace H := bf_ H
 obtain ⟨f_, hf_, ⟨t219, t220, t221⟩, A2, H⟩ := H
 subst hf_
 (try dsimp only at H)
 replace H := bf_ H
 obtain ⟨f_, hf_, ⟨t222, t223, t224⟩, A3, H⟩ := H
 subst hf_
 (try dsimp only at H)
 replace H := bf_ H
 obtain ⟨f_, hf_, ⟨t225, t226, t227⟩, A4, H⟩ := H
 subst hf_
 (try dsimp only at H)
 replace H := ie_ H
 obtain ⟨-, H, c5b0, c5b1⟩ | ⟨c5, H, c5b0, c5b1⟩ := H
 rotate_left
 ·
  replace H := ie_ H
  obtain ⟨-, H, c42b0, c42b1⟩ | ⟨c42, H, c42b0, c42b1⟩ := H
  rotate_left
  ·
   simp only [Option.some.injEq, Prod.mk.injEq] at H
   obtain ⟨rfl, rfl, rfl, rfl, rfl, rfl, rfl, rfl, rfl, rfl⟩ := H
   go_enter Try.func109, Try.ntmps109
   go_wp2_with (first | (refine gd_ 2 rfl ?_; refine bx_ (N := 2) (cs := #[.int .i64 0, .int .i64 0, .int .i64 0, .int .i64 0, .int .i64 0, .bool false, .int .i64 0, .slice none 0 0]) (t := 75) ?_; intro gb218 hg w56 hbox hb; replace HB := bS_ HB hb; have BK218 := am_ (hbox); have GW218 := am_ ((gK_ hg (qP HK))); have IGW218 := gI_ GW218; have GE218 := am_ ((Nat.le_trans HW0.out (gK_ hg (qP HK)))); have IGE218 := gI_ GE218; replace HK := kL_ HK hb; have NB0_218 := am_ ((nG_ hg (IsS128.lt (IsS128.q HI0)))); have INB0_218 := nI_ NB0_218; have NB218_0 := am_ (((nG_ hg (IsS128.lt (IsS128.q HI0))).symm)); replace HI0 := am_ (IsS128.below (IsS128.q HI0) hb); clear hb hbox hg) | (refine gc_ 61 rfl ?_; refine gl_ (some 6) Try.func61 #[.pointer (some ⟨g, 0, none⟩), .int .i64 3] ?_; (with_reducible refine (spec_l1Below.calls g s0_0 s0_1 s0_2 3 t219 t220 t221 w0 _ (IsS128.q HI0) (qB HB) A2.out).mono ?_); rintro e w57 ⟨rfl, hi, hb, hk⟩; refine ⟨_, rfl, ?_⟩; replace BK218 := kB_ BK218 hk NB218_0; replace HK := kT_ HK hk; replace HB := am_ (hb); replace HI0 := am_ (hi); (try clear hb); (try clear hk); (try clear hi)) | (refine gc_ 61 rfl ?_; refine gl_ (some 9) Try.func61 #[.pointer (some ⟨g, 0, none⟩), .int .i64 2] ?_; (with_reducible refine (spec_l1Below.calls g s0_0 t220 t221 2 t222 t223 t224 w0 _ (IsS128.q HI0) (qB HB) A3.out).mono ?_); rintro e w58 ⟨rfl, hi, hb, hk⟩; refine ⟨_, rfl, ?_⟩; replace BK218 := kB_ BK218 hk NB218_0; replace HK := kT_ HK hk; replace HB := am_ (hb); replace HI0 := am_ (hi); (try clear hb); (try clear hk); (try clear hi)) | (refine gc_ 61 rfl ?_; refine gl_ (some 11) Try.func61 #[.pointer (some ⟨g, 0, none⟩), .int .i64 5] ?_; (with_reducible refine (spec_l1Below.calls g s0_0 t223 t224 5 t225 t226 t227 w0 _ (IsS128.q HI0) (qB HB) A4.out).mono ?_); rintro e w59 ⟨rfl, hi, hb, hk⟩; refine ⟨_, rfl, ?_⟩; replace BK218 := kB_ BK218 hk NB218_0; replace HK := kT_ HK hk; replace HB := am_ (hb); replace HI0 := am_ (hi); (try clear hb); (try clear hk); (try clear hi)) | (refine gd_ 3 rfl ?_; refine bx_ (N := 3) (cs := #[.int .i64 0, .int .i64 0, .int .i64 0, .int .i64 0, .int .i64 0, .bool false, .int .i64 0, .slice none 0 0]) (t := 75) ?_; intro gb228 hg w60 hbox hb; replace HB := bS_ HB hb; have BK228 := am_ (hbox); have GW228 := am_ ((gK_ hg (qP HK))); have IGW228 := gI_ GW228; have GE228 := am_ ((Nat.le_trans HW0.out (gK_ hg (qP HK)))); have IGE228 := gI_ GE228; replace HK := kL_ HK hb; have NB218_228 := am_ ((gN_ hg (qK BK218))); have NB228_218 := am_ ((gM_ hg (qK BK218))); replace BK218 := bK_ BK218 hb; have NB0_228 := am_ ((nG_ hg (IsS128.lt (IsS128.q HI0)))); have INB0_228 := nI_ NB0_228; have NB228_0 := am_ (((nG_ hg (IsS128.lt (IsS128.q HI0))).symm)); replace HI0 := am_ (IsS128.below (IsS128.q HI0) hb); clear hb hbox hg; have hnb61 := nx_ NB228_218; have hnb62 := nx_ NB228_0; (try clear zK228); have zK228 := cf8 BK228.out; have hnb64 := nx_ NB218_0; (try clear zK218); have zK218 := cf8 BK218.out) | ((with_reducible refine gate_store (t := 75) (p := 2) rfl ?_); refine store_event (t := 75) (p := 2) (v := ?vo_w66) (w1 := ((((((((((((((((w60.setCell ⟨gb228, 0, none⟩ (.int .i64 (wrap64 (1 + t219)))).setCell ⟨gb228, 1, none⟩ (.int .i64 t222)).setCell ⟨gb228, 2, none⟩ (.int .i64 (wrap64 (1 + t225)))).setCell ⟨gb228, 3, none⟩ (.int .i64 0)).setCell ⟨gb228, 4, none⟩ (.int .i64 0)).setCell ⟨gb228, 5, none⟩ (.bool false)).setCell ⟨gb228, 6, none⟩ (.int .i64 0)).setCell ⟨gb228, 7, none⟩ (.slice none 0 0)).setCell ⟨gb218, 0, none⟩ (.int .i64 (wrap64 (1 + t219)))).setCell ⟨gb218, 1, none⟩ (.int .i64 t222)).setCell ⟨gb218, 2, none⟩ (.int .i64 (wrap64 (1 + t225)))).setCell ⟨gb218, 3, none⟩ (.int .i64 0)).setCell ⟨gb218, 4, none⟩ (.int .i64 0)).setCell ⟨gb218, 5, none⟩ (.bool false)).setCell ⟨gb218, 6, none⟩ (.int .i64 0)).setCell ⟨gb218, 7, none⟩ (.slice none 0 0))) ?hg ?ho ?hn ?hr ?_; (case ho => rfl); (case hg => rfl); (case hn => rfl); (case hr => first | (go_simp; done) | (go_simp; rfl)); intro w66 hw; have n0_ : Aside0 (w66.heap[gb218]? = some (.cells #[.int .i64 (wrap64 (1 + t219)), .int .i64 t222, .int .i64 (wrap64 (1 + t225)), .int .i64 0, .int .i64 0, .bool false, .int .i64 0, .slice none 0 0] 75 (0, 0))) := ⟨(by rw [hw]; exact (by exact blk_all8 (blk_far8 (qK BK218) NB218_228.out)))⟩; have n1_ : Aside0 (w66.heap[gb228]? = some (.cells #[.int .i64 (wrap64 (1 + t219)), .int .i64 t222, .int .i64 (wrap64 (1 + t225)), .int .i64 0, .int .i64 0, .bool false, .int .i64 0, .slice none 0 0] 75 (0, 0))) := ⟨(by rw [hw]; exact (by (with_reducible repeat (first | refine blk_drewN ?_ _ | refine blk_drew ?_ | refine blk_alloc ?_ _)); refine blk_far8 ?_ NB228_218.out; (with_reducible repeat (first | refine blk_drewN ?_ _ | refine blk_drew ?_ | refine blk_alloc ?_ _)); refine blk_all8 (show _ = some (Go.Obj.cells #[.int .i64 0, .int .i64 0, .int .i64 0, .int .i64 0, .int .i64 0, .bool false, .int .i64 0, .slice none 0 0] _ (0, 0)) from ?_); exact qK BK228))⟩; have n2_ : Aside0 (IsS128 w0 w66 g s0_0 t226 t227) := ⟨(by rw [hw]; exact (IsS128.q HI0))⟩; have n3_ : Aside0 (KeepBut w w66 g none) := ⟨(by rw [hw]; exact (qP HK))⟩; have n4_ : Aside0 (Below w0.heap.size w0 w66) := ⟨(by rw [hw]; exact (qB HB))⟩; clear hw; clear BK218; clear BK228; clear HI0; clear HK; clear HB; have BK218 := n0_; have BK228 := n1_; have HI0 := n2_; have HK := n3_; have HB := n4_; clear n0_ n1_ n2_ n3_ n4_))
   refine bodyPost_ret (results_cell_row rfl _ _ gb218 75 #[.int .i64 (wrap64 (1 + t219)), .int .i64 t222, .int .i64 (wrap64 (1 + t225)), .int .i64 0, .int .i64 0, .bool false, .int .i64 0, .slice none 0 0] (0, 0) _ rfl (qK BK218) Try.underlying75 rfl (by kernel_rfl)) rfl ?_
   exact ⟨_, er_, by first | exact Kd.R_nil _ _ _ _ _ | exact Kd.N_nil _ _ _ _ _ | exact Kd.V_nil _ _ _ _ _ | exact Kd.Q_nil _ _ _ _ _ | exact Kd.S_nil _ _ _ _ _, IsS128.q HI0, qB HB, qP HK⟩
  replace H := bf_ H
  obtain ⟨f_, hf_, ⟨t265, t266, t267⟩, A43, H⟩ := H
  subst hf_
  (try dsimp only at H)
  simp only [Option.some.injEq, Prod.mk.injEq] at H
  obtain ⟨rfl, rfl, rfl, rfl, rfl, rfl, rfl, rfl, rfl, rfl⟩ := H
  go_enter Try.func109, Try.ntmps109
  go_wp2_with (first | (refine gd_ 2 rfl ?_; refine bx_ (N := 2) (cs := #[.int .i64 0, .int .i64 0, .int .i64 0, .int .i64 0, .int .i64 0, .bool false, .int .i64 0, .slice none 0 0]) (t := 75) ?_; intro gb218 hg w44 hbox hb; replace HB := bS_ HB hb; have BK218 := am_ (hbox); have GW218 := am_ ((gK_ hg (qP HK))); have IGW218 := gI_ GW218; have GE218 := am_ ((Nat.le_trans HW0.out (gK_ hg (qP HK)))); have IGE218 := gI_ GE218; replace HK := kL_ HK hb; have NB0_218 := am_ ((nG_ hg (IsS128.lt (IsS128.q HI0)))); have INB0_218 := nI_ NB0_218; have NB218_0 := am_ (((nG_ hg (IsS128.lt (IsS128.q HI0))).symm)); replace HI0 := am_ (IsS128.below (IsS128.q HI0) hb); clear hb hbox hg) | (refine gc_ 61 rfl ?_; refine gl_ (some 6) Try.func61 #[.pointer (some ⟨g, 0, none⟩), .int .i64 3] ?_; (with_reducible refine (spec_l1Below.calls g s0_0 s0_1 s0_2 3 t219 t220 t221 w0 _ (IsS128.q HI0) (qB HB) A2.out).mono ?_); rintro e w45 ⟨rfl, hi, hb, hk⟩; refine ⟨_, rfl, ?_⟩; replace BK218 := kB_ BK218 hk NB218_0; replace HK := kT_ HK hk; replace HB := am_ (hb); replace HI0 := am_ (hi); (try clear hb); (try clear hk); (try clear hi)) | (refine gc_ 61 rfl ?_; refine gl_ (some 9) Try.func61 #[.pointer (some ⟨g, 0, none⟩), .int .i64 2] ?_; (with_reducible refine (spec_l1Below.calls g s0_0 t220 t221 2 t222 t223 t224 w0 _ (IsS128.q HI0) (qB HB) A3.out).mono ?_); rintro e w46 ⟨rfl, hi, hb, hk⟩; refine ⟨_, rfl, ?_⟩; replace BK218 := kB_ BK218 hk NB218_0; replace HK := kT_ HK hk; replace HB := am_ (hb); replace HI0 := am_ (hi); (try clear hb); (try clear hk); (try clear hi)) | (refine gc_ 61 rfl ?_; refine gl_ (some 11) Try.func61 #[.pointer (some ⟨g, 0, none⟩), .int .i64 5] ?_; (with_reducible refine (spec_l1Below.calls g s0_0 t223 t224 5 t225 t226 t227 w0 _ (IsS128.q HI0) (qB HB) A4.out).mono ?_); rintro e w47 ⟨rfl, hi, hb, hk⟩; refine ⟨_, rfl, ?_⟩; replace BK218 := kB_ BK218 hk NB218_0; replace HK := kT_ HK hk; replace HB := am_ (hb); replace HI0 := am_ (hi); (try clear hb); (try clear hk); (try clear hi)) | (refine gd_ 3 rfl ?_; refine bx_ (N := 3) (cs := #[.int .i64 0, .int .i64 0, .int .i64 0, .int .i64 0, .int .i64 0, .bool false, .int .i64 0, .slice none 0 0]) (t := 75) ?_; intro gb228 hg w48 hbox hb; replace HB := bS_ HB hb; have BK228 := am_ (hbox); have GW228 := am_ ((gK_ hg (qP HK))); have IGW228 := gI_ GW228; have GE228 := am_ ((Nat.le_trans HW0.out (gK_ hg (qP HK)))); have IGE228 := gI_ GE228; replace HK := kL_ HK hb; have NB218_228 := am_ ((gN_ hg (qK BK218))); have NB228_218 := am_ ((gM_ hg (qK BK218))); replace BK218 := bK_ BK218 hb; have NB0_228 := am_ ((nG_ hg (IsS128.lt (IsS128.q HI0)))); have INB0_228 := nI_ NB0_228; have NB228_0 := am_ (((nG_ hg (IsS128.lt (IsS128.q HI0))).symm)); replace HI0 := am_ (IsS128.below (IsS128.q HI0) hb); clear hb hbox hg; have hnb49 := nx_ NB228_218; have hnb50 := nx_ NB228_0; (try clear zK228); have zK228 := cf8 BK228.out) | (refine gc_ 61 rfl ?_; refine gl_ (some 49) Try.func61 #[.pointer (some ⟨g, 0, none⟩), .int .i64 4] ?_; (with_reducible refine (spec_l1Below.calls g s0_0 t226 t227 4 t265 t266 t267 w0 _ (IsS128.q HI0) (qB HB) A43.out).mono ?_); rintro e w52 ⟨rfl, hi, hb, hk⟩; refine ⟨_, rfl, ?_⟩; replace BK218 := fk_ BK218 hk NB218_0; replace BK228 := am_ (KeepBut.blk hk (blk_all8 (qK BK228)) NB228_0.out (by simp)); replace HK := kT_ HK hk; replace HB := am_ (hb); replace HI0 := am_ (hi); (try clear hb); (try clear hk); (try clear hi); (try clear zK228); have zK228 := cf8 BK228.out; have hnb54 := nx_ NB218_0; (try clear zK218); have zK218 := cf8 BK218.out))
  refine bodyPost_ret (results_cell_row rfl _ _ gb218 75 #[.int .i64 (wrap64 (1 + t219)), .int .i64 t222, .int .i64 (wrap64 (1 + t225)), .int .i64 t265, .int .i64 0, .bool false, .int .i64 0, .slice none 0 0] (0, 0) _ rfl (by exact blk_all8 (blk_far1 (qK BK218) NB218_228.out)) Try.underlying75 rfl (by kernel_rfl)) rfl ?_
  exact ⟨_, er_, by first | exact Kd.R_nil _ _ _ _ _ | exact Kd.N_nil _ _ _ _ _ | exact Kd.V_nil _ _ _ _ _ | exact Kd.Q_nil _ _ _ _ _ | exact Kd.S_nil _ _ _ _ _, IsS128.q HI0, qB HB, qP HK⟩
 replace H := bf_ H
 obtain ⟨f_, hf_, ⟨t229, t230, t231⟩, A6, H⟩ := H
 subst hf_
 (try dsimp only at H)
 replace H := bf_ H
 obtain ⟨f_, hf_, ⟨t232, t233, t234⟩, A7, H⟩ := H
 subst hf_
 (try dsimp only at H)
 replace H := bf_ H
 obtain ⟨f_, hf_, ⟨t235, t236, t237⟩, A8, H⟩ := H
 subst hf_
 (try dsimp only at H)
 replace H := bf_ H
 obtain ⟨f_, hf_, ⟨t238, t239, t240⟩, A9, H⟩ := H
 subst hf_
 (try dsimp only at H)
 replace H := bf_ H
 obtain ⟨f_, hf_, ⟨t241, t242, t243⟩, A10, H⟩ := H
 subst hf_
 (try dsimp only at H)
 have H' := Aside0.mk H
 clear H
 go_enter Try.func109, Try.ntmps109
 go_wp2_with (first | (refine gd_ 2 rfl ?_; refine bx_ (N := 2) (cs := #[.int .i64 0, .int .i64 0, .int .i64 0, .int .i64 0, .int .i64 0, .bool false, .int .i64 0, .slice none 0 0]) (t := 75) ?_; intro gb218 hg w11 hbox hb; replace HB := bS_ HB hb; have BK218 := am_ (hbox); have GW218 := am_ ((gK_ hg (qP HK))); have IGW218 := gI_ GW218; have GE218 := am_ ((Nat.le_trans HW0.out (gK_ hg (qP HK)))); have IGE218 := gI_ GE218; replace HK := kL_ HK hb; have NB0_218 := am_ ((nG_ hg (IsS128.lt (IsS128.q HI0)))); have INB0_218 := nI_ NB0_218; have NB218_0 := am_ (((nG_ hg (IsS128.lt (IsS128.q HI0))).symm)); replace HI0 := am_ (IsS128.below (IsS128.q HI0) hb); clear hb hbox hg) | (refine gc_ 61 rfl ?_; refine gl_ (some 6) Try.func61 #[.pointer (some ⟨g, 0, none⟩), .int .i64 3] ?_; (with_reducible refine (spec_l1Below.calls g s0_0 s0_1 s0_2 3 t219 t220 t221 w0 _ (IsS128.q HI0) (qB HB) A2.out).mono ?_); rintro e w12 ⟨rfl, hi, hb, hk⟩; refine ⟨_, rfl, ?_⟩; replace BK218 := kB_ BK218 hk NB218_0; replace HK := kT_ HK hk; replace HB := am_ (hb); replace HI0 := am_ (hi); (try clear hb); (try clear hk); (try clear hi)) | (refine gc_ 61 rfl ?_; refine gl_ (some 9) Try.func61 #[.pointer (some ⟨g, 0, none⟩), .int .i64 2] ?_; (with_reducible refine (spec_l1Below.calls g s0_0 t220 t221 2 t222 t223 t224 w0 _ (IsS128.q HI0) (qB HB) A3.out).mono ?_); rintro e w13 ⟨rfl, hi, hb, hk⟩; refine ⟨_, rfl, ?_⟩; replace BK218 := kB_ BK218 hk NB218_0; replace HK := kT_ HK hk; replace HB := am_ (hb); replace HI0 := am_ (hi); (try clear hb); (try clear hk); (try clear hi)) | (refine gc_ 61 rfl ?_; refine gl_ (some 11) Try.func61 #[.pointer (some ⟨g, 0, none⟩), .int .i64 5] ?_; (with_reducible refine (spec_l1Below.calls g s0_0 t223 t224 5 t225 t226 t227 w0 _ (IsS128.q HI0) (qB HB) A4.out).mono ?_); rintro e w14 ⟨rfl, hi, hb, hk⟩; refine ⟨_, rfl, ?_⟩; replace BK218 := kB_ BK218 hk NB218_0; replace HK := kT_ HK hk; replace HB := am_ (hb); replace HI0 := am_ (hi); (try clear hb); (try clear hk); (try clear hi)) | (refine gd_ 3 rfl ?_; refine bx_ (N := 3) (cs := #[.int .i64 0, .int .i64 0, .int .i64 0, .int .i64 0, .int .i64 0, .bool false, .int .i64 0, .slice none 0 0]) (t := 75) ?_; intro gb228 hg w15 hbox hb; replace HB := bS_ HB hb; have BK228 := am_ (hbox); have GW228 := am_ ((gK_ hg (qP HK))); have IGW228 := gI_ GW228; have GE228 := am_ ((Nat.le_trans HW0.out (gK_ hg (qP HK)))); have IGE228 := gI_ GE228; replace HK := kL_ HK hb; have NB218_228 := am_ ((gN_ hg (qK BK218))); have NB228_218 := am_ ((gM_ hg (qK BK218))); replace BK218 := bK_ BK218 hb; have NB0_228 := am_ ((nG_ hg (IsS128.lt (IsS128.q HI0)))); have INB0_228 := nI_ NB0_228; have NB228_0 := am_ (((nG_ hg (IsS128.lt (IsS128.q HI0))).symm)); replace HI0 := am_ (IsS128.below (IsS128.q HI0) hb); clear hb hbox hg; have hnb16 := nx_ NB228_218; have hnb17 := nx_ NB228_0; (try clear zK228); have zK228 := cf8 BK228.out) | (refine gc_ 61 rfl ?_; refine gl_ (some 19) Try.func61 #[.pointer (some ⟨g, 0, none⟩), .int .i64 3] ?_; (with_reducible refine (spec_l1Below.calls g s0_0 t226 t227 3 t229 t230 t231 w0 _ (IsS128.q HI0) (qB HB) A6.out).mono ?_); rintro e w19 ⟨rfl, hi, hb, hk⟩; refine ⟨_, rfl, ?_⟩; replace BK218 := fk_ BK218 hk NB218_0; replace BK228 := am_ (KeepBut.blk hk (blk_all8 (qK BK228)) NB228_0.out (by simp)); replace HK := kT_ HK hk; replace HB := am_ (hb); replace HI0 := am_ (hi); (try clear hb); (try clear hk); (try clear hi); (try clear zK228); have zK228 := cf8 BK228.out) | (refine gc_ 61 rfl ?_; refine gl_ (some 25) Try.func61 #[.pointer (some ⟨g, 0, none⟩), .int .i64 (wrap64 (1 + t229))] ?_; (with_reducible refine (spec_l1Below.calls g s0_0 t230 t231 (wrap64 (1 + t229)) t232 t233 t234 w0 _ (IsS128.q HI0) (qB HB) A7.out).mono ?_); rintro e w21 ⟨rfl, hi, hb, hk⟩; refine ⟨_, rfl, ?_⟩; replace BK218 := fk_ BK218 hk NB218_0; replace BK228 := am_ (KeepBut.blk hk (g' := gb228) (o := .cells #[.int .i64 (wrap64 (1 + t219)), .int .i64 t222, .int .i64 (wrap64 (1 + t225)), .int .i64 0, .int .i64 (wrap64 (1 + t229)), .bool false, .int .i64 0, .slice none 0 0] 75 (0, 0)) (by (with_reducible repeat (first | refine blk_drewN ?_ _ | refine blk_drew ?_ | refine blk_alloc ?_ _)); refine blk_put (cs := #[.int .i64 (wrap64 (1 + t219)), .int .i64 t222, .int .i64 (wrap64 (1 + t225)), .int .i64 0, .int .i64 0, .bool false, .int .i64 0, .slice none 0 0]) ?_ 4 _ rfl; exact qK BK228) NB228_0.out (by simp)); replace HK := kT_ HK hk; replace HB := am_ (hb); replace HI0 := am_ (hi); (try clear hb); (try clear hk); (try clear hi); (try clear zK228); have zK228 := cf8 BK228.out) | (refine gc_ 110 rfl ?_; refine gl_ (some 28) Try.func110 #[.pointer (some ⟨g, 0, none⟩), .int .i64 3] ?_; (with_reducible refine (spec_l1Once.calls g s0_0 t233 t234 3 t235 t236 t237 w0 _ (IsS128.q HI0) (qB HB) A8.out).mono ?_); rintro e w23 ⟨rfl, hi, hb, hk⟩; refine ⟨_, rfl, ?_⟩; replace BK218 := fk_ BK218 hk NB218_0; replace BK228 := am_ (KeepBut.blk hk (g' := gb228) (o := .cells #[.int .i64 (wrap64 (1 + t219)), .int .i64 t222, .int .i64 (wrap64 (1 + t225)), .int .i64 t232, .int .i64 (wrap64 (1 + t229)), .bool false, .int .i64 0, .slice none 0 0] 75 (0, 0)) (by (with_reducible repeat (first | refine blk_drewN ?_ _ | refine blk_drew ?_ | refine blk_alloc ?_ _)); refine blk_put (cs := #[.int .i64 (wrap64 (1 + t219)), .int .i64 t222, .int .i64 (wrap64 (1 + t225)), .int .i64 0, .int .i64 (wrap64 (1 + t229)), .bool false, .int .i64 0, .slice none 0 0]) ?_ 3 _ rfl; exact qK BK228) NB228_0.out (by simp)); replace HK := kT_ HK hk; replace HB := am_ (hb); replace HI0 := am_ (hi); (try clear hb); (try clear hk); (try clear hi); (try clear zK228); have zK228 := cf8 BK228.out) | (refine gc_ 61 rfl ?_; refine gl_ (some 31) Try.func61 #[.pointer (some ⟨g, 0, none⟩), .int .i64 9] ?_; (with_reducible refine (spec_l1Below.calls g s0_0 t236 t237 9 t238 t239 t240 w0 _ (IsS128.q HI0) (qB HB) A9.out).mono ?_); rintro e w25 ⟨rfl, hi, hb, hk⟩; refine ⟨_, rfl, ?_⟩; replace BK218 := fk_ BK218 hk NB218_0; replace BK228 := am_ (KeepBut.blk hk (g' := gb228) (o := .cells #[.int .i64 (wrap64 (1 + t219)), .int .i64 t222, .int .i64 (wrap64 (1 + t225)), .int .i64 t232, .int .i64 (wrap64 (1 + t229)), .bool t235, .int .i64 0, .slice none 0 0] 75 (0, 0)) (by (with_reducible repeat (first | refine blk_drewN ?_ _ | refine blk_drew ?_ | refine blk_alloc ?_ _)); refine blk_put (cs := #[.int .i64 (wrap64 (1 + t219)), .int .i64 t222, .int .i64 (wrap64 (1 + t225)), .int .i64 t232, .int .i64 (wrap64 (1 + t229)), .bool false, .int .i64 0, .slice none 0 0]) ?_ 5 _ rfl; exact qK BK228) NB228_0.out (by simp)); replace HK := kT_ HK hk; replace HB := am_ (hb); replace HI0 := am_ (hi); (try clear hb); (try clear hk); (try clear hi); (try clear zK228); have zK228 := cf8 BK228.out) | (refine gc_ 61 rfl ?_; refine gl_ (some 34) Try.func61 #[.pointer (some ⟨g, 0, none⟩), .int .i64 3] ?_; (with_reducible refine (spec_l1Below.calls g s0_0 t239 t240 3 t241 t242 t243 w0 _ (IsS128.q HI0) (qB HB) A10.out).mono ?_); rintro e w27 ⟨rfl, hi, hb, hk⟩; refine ⟨_, rfl, ?_⟩; replace BK218 := fk_ BK218 hk NB218_0; replace BK228 := am_ (KeepBut.blk hk (g' := gb228) (o := .cells #[.int .i64 (wrap64 (1 + t219)), .int .i64 t222, .int .i64 (wrap64 (1 + t225)), .int .i64 t232, .int .i64 (wrap64 (1 + t229)), .bool t235, .int .i64 t238, .slice none 0 0] 75 (0, 0)) (by (with_reducible repeat (first | refine blk_drewN ?_ _ | refine blk_drew ?_ | refine blk_alloc ?_ _)); refine blk_put (cs := #[.int .i64 (wrap64 (1 + t219)), .int .i64 t222, .int .i64 (wrap64 (1 + t225)), .int .i64 t232, .int .i64 (wrap64 (1 + t229)), .bool t235, .int .i64 0, .slice none 0 0]) ?_ 6 _ rfl; exact qK BK228) NB228_0.out (by simp)); replace HK := kT_ HK hk; replace HB := am_ (hb); replace HI0 := am_ (hi); (try clear hb); (try clear hk); (try clear hi)))
 go_loopg [4] k (fun kq v4 w' => ∃ (x4_1 : Int) (x1001_1 : Int) (x1002_1 : Int) (x229007_1 : List (S29)) (u229007 : Value), v4 = .int .i64 x4_1 ∧ Aside0 (spec_l11Draw.l0 kq x4_1 s0_0 x1001_1 x1002_1 (wrap64 (1 + t219)) t222 (wrap64 (1 + t225)) t232 (wrap64 (1 + t229)) t235 t238 x229007_1 = some (r1, r2, r3, r4, r5, r6, r7, r8, r9, r10)) ∧ Aside0 (kq ≤ k) ∧ Aside0 (Kd.R k29 29 w' w.heap.size (fun _ => True) u229007 x229007_1) ∧ Aside0 (w'.heap[gb218]? = some (.cells #[.int .i64 0, .int .i64 0, .int .i64 0, .int .i64 0, .int .i64 0, .bool false, .int .i64 0, (.slice none 0 0)] 75 (0, 0))) ∧ Aside0 (w'.heap[gb228]? = some (.cells #[.int .i64 (wrap64 (1 + t219)), .int .i64 t222, .int .i64 (wrap64 (1 + t225)), .int .i64 t232, .int .i64 (wrap64 (1 + t229)), .bool t235, .int .i64 t238, u229007] 75 (0, 0))) ∧ Aside0 (IsS128 w0 w' g s0_0 x1001_1 x1002_1) ∧ Aside0 (KeepBut w w' g none) ∧ Aside0 (Below w0.heap.size w0 w'))
 case atStart => exact ⟨(t241), (t242), (t243), (([] : List (S29))), (.slice none 0 0), eqq_, H', ⟨Nat.le_refl _⟩, ⟨by first | exact Kd.R_nil _ _ _ _ _ | exact Kd.N_nil _ _ _ _ _ | exact Kd.V_nil _ _ _ _ _ | exact Kd.Q_nil _ _ _ _ _ | exact Kd.S_nil _ _ _ _ _⟩, ⟨qK BK218⟩, ⟨qK BK228⟩, ⟨IsS128.q HI0⟩, ⟨qP HK⟩, ⟨qB HB⟩⟩
 case round =>
  clear H'
  try clear c1
  try clear p2
  try clear c5
  try clear c5b0
  try clear c5b1
  try clear c6
  try clear p6
  try clear c10
  try clear c11
  try clear c16
  try clear c17
  (try clear zK228)
  (try clear zK228)
  (try clear zK228)
  (try clear zK228)
  (try clear zK228)
  (try clear fK228)
  (try clear fK228)
  (try clear fK228)
  (try clear fK228)
  (try clear fK228)
  obtain ⟨x4_1, x1001_1, x1002_1, x229007_1, u229007, rfl, HA, HK1, HO_229007, BK218, BK228, HI0, HK, HB⟩ := hrel
  cases gk with
  | zero => exact absurd HA.out (by simp [spec_l11Draw.l0])
  | succ k1 =>
   have H := HA.out
   clear HA
   simp only [spec_l11Draw.l0] at H
   replace H := id_ H
   obtain ⟨-, H, c28b0⟩ | ⟨-, H, c28b0⟩ := H
   rotate_left
   ·
    simp only [Option.some.injEq, Prod.mk.injEq] at H
    obtain ⟨rfl, rfl, rfl, rfl, rfl, rfl, rfl, rfl, rfl, rfl⟩ := H
    have hnb36 := nx_ NB228_218
    have hnb37 := nx_ NB228_0
    (try clear zK228)
    have zK228 := cf8 BK228.out
    have hnb39 := nx_ NB218_0
    (try clear zK218)
    have zK218 := cf8 BK218.out
    obtain ⟨Ao41, co41, eo41⟩ := Kd.R_slice HO_229007.out
    subst eo41
    go_wp2
    refine bodyPost_ret (results_cell_row rfl _ _ gb218 75 #[.int .i64 (wrap64 (1 + t219)), .int .i64 t222, .int .i64 (wrap64 (1 + t225)), .int .i64 t232, .int .i64 (wrap64 (1 + t229)), .bool t235, .int .i64 t238, .slice Ao41 x229007_1.length co41] (0, 0) _ rfl (by exact blk_all8 (qK BK218)) Try.underlying75 rfl (by kernel_rfl)) rfl ?_
    exact ⟨_, er_, (fR1_ HO_229007 BK218), IsS128.q HI0, qB HB, qP HK⟩
   replace H := bf_ H
   obtain ⟨f_, hf_, ⟨t244, t245, t246, t247, t248, t249, t250, t251, t252, t253, t254, t255, t256, t257, t258, t259, t260, t261⟩, A29, H⟩ := H
   subst hf_
   (try dsimp only at H)
   replace H := ip_ H
   obtain ⟨c30, H, -⟩ := H
   have LMc30 := am_ c30
   clear c30
   obtain ⟨y262, hy262⟩ : ∃ y_ : List (S29), y_ = (x229007_1 ++ [(⟨t244, (⟨t245, t246, t247, t248, t249, t250, t251, t252⟩ : S25), (⟨t253, t254, t255, t256, t257, t258, t259⟩ : S27)⟩ : S29)]) := ⟨_, rfl⟩
   rw [← hy262] at H
   have Ny262 := am_ hy262
   clear hy262
   have H' := Aside0.mk H
   clear H
   try go_wp2
   replace HO_229007 := am_ (Kd.R_drew HO_229007.out)
   replace BK218 := am_ (blk_drew BK218.out)
   replace BK228 := am_ (blk_drew BK228.out)
   replace HI0 := am_ (IsS128.drew HI0.out)
   replace HK := am_ (keep_drew HK.out)
   replace HB := am_ (below_drew1 HB.out)
   refine start_ (n := 8) (S := fun w' => w'.cell? ⟨gb228, 0, none⟩ = some (.int .i64 (wrap64 (1 + t219))) ∧ w'.cell? ⟨gb228, 1, none⟩ = some (.int .i64 t222) ∧ w'.cell? ⟨gb228, 2, none⟩ = some (.int .i64 (wrap64 (1 + t225))) ∧ w'.cell? ⟨gb228, 3, none⟩ = some (.int .i64 t232) ∧ w'.cell? ⟨gb228, 4, none⟩ = some (.int .i64 (wrap64 (1 + t229))) ∧ w'.cell? ⟨gb228, 5, none⟩ = some (.bool t235) ∧ w'.cell? ⟨gb228, 6, none⟩ = some (.int .i64 t238) ∧ w'.cell? ⟨gb228, 7, none⟩ = some (u229007)) (ds := [7]) #[oo,oo,oo,oo,oo,oo,oo,oo] (by kernel_rfl) rfl rfl (cz8 BK228.out) (fun hHeld => ?_); refine with_tabW spec_l11Draw.tab11 spec_l11Draw.bits11 (fun HT_ HW_ => ?_)
   generalize wr.drew = w31 at HO_229007 BK218 BK228 HI0 HK HB hHeld ⊢
   refine pq_ 0 39 HT_ #[ii,oo,oo,oo,oo,oo,oo,oo] ?_
   refine pq_ 2 41 HT_ #[ii,oo,ii,oo,oo,oo,oo,oo] ?_
   refine tz_ (i := 1) (N := some 40) HT_ HW_ #[ii,ii,ii,oo,oo,oo,oo,oo] rfl rfl hHeld ?_
   refine on_ HT_ (i := 3) (N := some 42) #[ii,ii,ii,ii,oo,oo,oo,oo] (fun K hK => ?_)
   refine goes_ Try.func60 (by kernel_rfl) rfl #[.pointer (some ⟨g, 0, none⟩)] (by rfl) rfl rfl la_ ?_
   with_reducible refine (spec_l9Item.calls k1 g s0_0 x1001_1 x1002_1 t244 t245 t246 t247 t248 t249 t250 t251 t252 t253 t254 t255 t256 t257 t258 t259 t260 t261 w0 _ (IsS128.q HI0) (qB HB) A29.out).mono ?_
   rintro e w32 ⟨rfl, hi, hb, hk⟩
   refine ⟨_, rfl, ?_⟩
   replace HO_229007 := IsS128.rk HI0 (qR HO_229007) hk
   replace BK218 := kB_ BK218 hk NB218_0
   replace BK228 := kB_ BK228 hk NB228_0
   replace HK := kT_ HK hk
   replace HB := am_ (hb)
   replace HI0 := am_ (hi)
   (try clear hb hk hi)
   refine hK.out _ _ (cz8 BK228.out) (fun hHeld => ?_)
   clear hK K
   refine nm_ (some 42) ?_
   refine on_ HT_ (i := 4) (N := some 43) #[ii,ii,ii,ii,ii,oo,oo,oo] (fun K hK => ?_)
   refine value_ (w1 := ?_) (v := ?_) (by rfl) rfl ?_ ?_
   rotate_left 2
   ·
    go_simp
    constructor
    ·
     rfl
    ·
     rfl
   refine hK.out _ _ ⟨(blk_cell (blk_alloc BK228.out _) 0).trans rfl, (blk_cell (blk_alloc BK228.out _) 1).trans rfl, (blk_cell (blk_alloc BK228.out _) 2).trans rfl, (blk_cell (blk_alloc BK228.out _) 3).trans rfl, (blk_cell (blk_alloc BK228.out _) 4).trans rfl, (blk_cell (blk_alloc BK228.out _) 5).trans rfl, (blk_cell (blk_alloc BK228.out _) 6).trans rfl, (blk_cell (blk_alloc BK228.out _) 7).trans rfl⟩ (fun hHeld => ?_)
   clear hK K
   refine nm_ (some 43) ?_
   refine on_ HT_ (i := 5) (N := some 44) #[ii,ii,ii,ii,ii,ii,oo,oo] (fun K hK => ?_)
   refine Kd.R_append_step k29 w.heap.size (by rfl) (.tmp 40) (.tmp 43) 73 29 (.agg #[(.int .i64 0), (.int .i64 0), (.string ⟨#[]⟩), (.int .i64 0), (.int .i64 0), (.int .i64 0), (.string ⟨#[]⟩), (.int .i64 0), (.int .i64 0), (.int .i64 0), (.string ⟨#[]⟩), (.int .i64 0), (.int .i64 0), (.int .i64 0), (.int .i64 0), (.int .i64 0)]) 152 rfl Try.underlying73 info29 rfl (by decide) (by omega) u229007 x229007_1 (⟨t244, (⟨t245, t246, t247, t248, t249, t250, t251, t252⟩ : S25), (⟨t253, t254, t255, t256, t257, t258, t259⟩ : S27)⟩ : S29) [.int .i64 t244, .int .i64 t245, .string t246, .int .i64 t247, .int .i64 t248, .int .i64 t249, .string t250, .int .i64 t251, .int .i64 t252, .int .i64 t253, .string t254, .int .i64 t255, .int .i64 t256, .int .i64 t257, .int .i64 t258, .int .i64 t259] (fun _ => True) (fun _ => False) rfl rfl ?aP (fun _ hk => hk.elim) ?aF ?aO (Below.refl _ _) ?aS ?aL ?_
   (case aP => exact k29_mkM _ _ _ (⟨t244, (⟨t245, t246, t247, t248, t249, t250, t251, t252⟩ : S25), (⟨t253, t254, t255, t256, t257, t258, t259⟩ : S27)⟩ : S29))
   (case aF => exact (fun _ _ => trivial))
   (case aO => exact (qR HO_229007))
   (case aS => exact (keep_size (w := w) (g := g) (row := none) (qP HK)))
   (case aL => have := LMc30.out; omega)
   intro v263 w33 ho hb hg hat
   rw [← Ny262.out] at ho
   replace BK218 := kG_ BK218 HO_229007 hg
   replace BK228 := kG_ BK228 HO_229007 hg
   replace HB := am_ (below_weaken (qB HB) HL.out hb)
   replace HI0 := am_ (IsS128.grown (IsS128.q HI0) hg (IsS128.own_ne HI0.out HO_229007.out (by decide)))
   replace HK := am_ (KeepBut.trans (qP HK) (KeepBut.of_grown hg g) (Kd.R_base2 HO_229007.out))
   have HO264 := am_ (ho)
   clear HO_229007
   clear ho hb hg hat
   obtain ⟨Ao34, co34, eo34⟩ := Kd.R_slice HO264.out
   (first | subst eo34 | (injection eo34 with f1_ f2_ f3_; have f4_ := f1_.symm; have f5_ := f3_.symm; clear f1_ f2_ f3_; subst f4_; subst f5_))
   refine hK.out _ _ (cz8 BK228.out) (fun hHeld => ?_)
   clear hK K
   refine nm_ (some 44) ?_
   refine pq_ 6 45 HT_ #[ii,ii,ii,ii,ii,ii,ii,oo] ?_
   refine last_ (i := 7) (N := none) #[ii,ii,ii,ii,ii,ii,ii,ii] rfl rfl (one_of HT_.out (by kernel_rfl)) (by decide) (fun K hK => ?_)
   have hs35 : w33.cell? ⟨gb228, 7, none⟩ = some (u229007) := (blk_cell BK228.out 7).trans rfl
   have hfs35 := blk_frozen BK228.out 7
   have hns35_0 := NB218_228.out
   have hms35_0 := NB228_218.out
   refine skip_ (w1 := ?_) (by rfl) rfl ?_ ?_
   rotate_left
   ·
    go_simp
    rfl
   refine hK.out _ _ ?_
   clear hK K
   refine done_ (done_of HT_.out (by kernel_rfl)) ?_
   try go_wp2
   go_roundg k1
   case measure => have := HK1.out; omega
   case rel => exact ⟨(wrap64 (x4_1 - 1)), (t260), (t261), (y262), (.slice Ao34 y262.length co34), eqq_, H', ⟨by have := HK1.out; omega⟩, fR_ HO264 BK228, ⟨by (with_reducible repeat (first | refine blk_drewN ?_ _ | refine blk_drew ?_ | refine blk_alloc ?_ _)); refine blk_far ?_ NB218_228.out _; exact qK BK218⟩, ⟨by (with_reducible repeat (first | refine blk_drewN ?_ _ | refine blk_drew ?_ | refine blk_alloc ?_ _)); refine blk_put (cs := #[.int .i64 (wrap64 (1 + t219)), .int .i64 t222, .int .i64 (wrap64 (1 + t225)), .int .i64 t232, .int .i64 (wrap64 (1 + t229)), .bool t235, .int .i64 t238, u229007]) ?_ 7 _ rfl; exact qK BK228⟩, ⟨IsS128.q HI0⟩, ⟨qP HK⟩, ⟨qB HB⟩⟩

end Go.Proofs.Ytiffahfpfgnjnaa.PFnCtls
