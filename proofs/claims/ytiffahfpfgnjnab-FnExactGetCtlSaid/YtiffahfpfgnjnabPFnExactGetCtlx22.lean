-- Written by a program of this session (myprint.py, over the kit's print): contracts of FnExactGetCtl
import Derived.Test.YtiffahfpfgnjnabPFnExactGetCtlx0
import Derived.Test.YtiffahfpfgnjnabPFnExactGetCtlx19
import Derived.Test.YtiffahfpfgnjnabPFnExactGetCtlx20
import Derived.Test.YtiffahfpfgnjnabPFnExactGetCtlx21
namespace Go.Proofs.Ytiffahfpfgnjnab.PFnExactGetCtl
open Go.RowKit Go.Proofs.YtiffahfpfgnjnabW.PrintWords Go.Proofs.YtiffahfpfgnjnabW.PrintLast Go.Proofs.YtiffahfpfgnjnabW.PrintMore Go.Proofs.YtiffahfpfgnjnabV
attribute [local go_sem] max2_int min2_int max_two min_two max_three min_three max_four min_four   -- for this text's walks alone
set_option linter.unusedVariables false
set_option linter.unusedSimpArgs false

/-! ### impl_GetCtl: function 36 -/
def impl_GetCtl.l0 : Nat → List Int → Int → Int → List Int → Int → Int → Int → Int → Int → Int → Bool → Int → List (S126) → Option (Int × Int × Int × Int × Int × Bool × Int × (List (S126)) × Bool)
 | 0, _, _, _, _, _, _, _, _, _, _, _, _, _ => none
 | k + 1, x0, x30, x31, x654000, x654001, x669000, x669001, x669002, x669003, x669004, x669005, x669006, x669007 => if x31 < x30 then ((impl_reader_one.f x654000 x654001).bind fun bt671 => (if (wrap64 (bt671.2 + bt671.1)) > (x0.length : Int) then (some (0, 0, 0, 0, 0, false, 0, ([] : List (S126)), false)) else (if 0 ≤ bt671.2 then (if bt671.2 ≤ (wrap64 (bt671.2 + bt671.1)) then (if (wrap64 (bt671.2 + bt671.1)) ≤ (x0.length : Int) then ((impl_GetItem.f k ((x0.take ((wrap64 (bt671.2 + bt671.1)) : Int).toNat).drop (bt671.2 : Int).toNat)).bind fun bt674 => (if x669007.length < 925904528653 then (impl_GetCtl.l0 k x0 x30 (wrap64 (x31 + 1)) x654000 (wrap64 (bt671.2 + bt671.1)) x669000 x669001 x669002 x669003 x669004 x669005 x669006 (x669007 ++ [(⟨bt674.1, (⟨bt674.2.1, bt674.2.2.1, bt674.2.2.2.1, bt674.2.2.2.2.1, bt674.2.2.2.2.2.1, bt674.2.2.2.2.2.2.1, bt674.2.2.2.2.2.2.2.1, bt674.2.2.2.2.2.2.2.2.1⟩ : S90), (⟨bt674.2.2.2.2.2.2.2.2.2.1, bt674.2.2.2.2.2.2.2.2.2.2.1, bt674.2.2.2.2.2.2.2.2.2.2.2.1, bt674.2.2.2.2.2.2.2.2.2.2.2.2.1, bt674.2.2.2.2.2.2.2.2.2.2.2.2.2.1, bt674.2.2.2.2.2.2.2.2.2.2.2.2.2.2.1, bt674.2.2.2.2.2.2.2.2.2.2.2.2.2.2.2.1⟩ : S124)⟩ : S126)])) else (none))) else (none)) else (none)) else (none)))) else (if (x0.length : Int) = 0 then (some (0, 0, 0, 0, 0, false, 0, ([] : List (S126)), false)) else ((impl_PutCtl.f k x669000 x669001 x669002 x669003 x669004 x669005 x669006 x669007).bind fun t695 => ((bytes_Equal.f t695 x0).bind fun t698 => (if t698 = true then (some (x669000, x669001, x669002, x669003, x669004, x669005, x669006, x669007, true)) else (some (0, 0, 0, 0, 0, false, 0, ([] : List (S126)), false))))))
def impl_GetCtl.f (k : Nat) (l0 : List Int) : Option (Int × Int × Int × Int × Int × Bool × Int × (List (S126)) × Bool) := (impl_reader_one.f l0 0).bind fun bt654 => ((impl_reader_one.f l0 bt654.2).bind fun bt656 => ((impl_reader_word.f l0 bt656.2).bind fun bt658 => ((impl_reader_one.f l0 bt658.2).bind fun bt660 => ((impl_reader_one.f l0 bt660.2).bind fun bt662 => ((impl_reader_one.f l0 bt662.2).bind fun bt664 => ((impl_reader_word.f l0 bt664.2).bind fun bt666 => ((impl_reader_one.f l0 bt666.2).bind fun bt669 => (impl_GetCtl.l0 k l0 (mn bt669.1 2) 0 l0 bt669.2 bt654.1 bt656.1 bt658.1 bt660.1 bt662.1 (bt664.1 == 1) bt666.1 ([] : List (S126))))))))))
theorem impl_GetCtl.mono_l : ∀ k, (∀ y0 y1 y2 y3 y4 y5 y6 y7 y8 y9 y10 y11 y12, LeO (impl_GetCtl.l0 k y0 y1 y2 y3 y4 y5 y6 y7 y8 y9 y10 y11 y12) (impl_GetCtl.l0 (k + 1) y0 y1 y2 y3 y4 y5 y6 y7 y8 y9 y10 y11 y12))
 | 0 => fun _ _ _ _ _ _ _ _ _ _ _ _ _ r h => by simp [impl_GetCtl.l0] at h
 | k + 1 => by
  have ih0 := impl_GetCtl.mono_l k
  ·
   intro y0 y1 y2 y3 y4 y5 y6 y7 y8 y9 y10 y11 y12
   unfold impl_GetCtl.l0
   have m0 := @impl_GetItem.mono; have m1 := @impl_PutCtl.mono; exact mo_
theorem impl_GetCtl.mono : ∀ a0 k, LeO (impl_GetCtl.f k a0) (impl_GetCtl.f (k + 1) a0) := by
 intro a0 k
 have ih0 := impl_GetCtl.mono_l k
 unfold impl_GetCtl.f
 have m0 := @impl_GetItem.mono; have m1 := @impl_PutCtl.mono; exact mo_
def impl_GetCtl.T8 : Bool × List (List Nat × List Nat) := (true, [([], []), ([], []), ([1], [1]), ([2], [2]), ([3], [3]), ([], []), ([5], [5]), ([6], [6]), ([7], [7]), ([], []), ([8, 9], [8, 9]), ([0, 4, 10], [0, 4, 10]), ([11], [11]), ([12], [12]), ([13], [13]), ([13], [13]), ([], []), ([16, 14, 12, 0, 1, 2, 3, 4, 5, 6, 7, 8, 9, 10, 11, 12, 13, 14, 16], [14, 16]), ([15, 17, 0, 1, 2, 3, 4, 5, 6, 7, 8, 9, 10, 11, 12, 13, 14, 15, 16, 17], [15])])
def impl_GetCtl.B8 : List Nat := [0, 0, 2, 6, 14, 0, 32, 96, 224, 0, 992, 2047, 4095, 8191, 16383, 16383, 0, 98303, 262143]
theorem impl_GetCtl.tab8 : rtab .any (opsOf Try.f36 8) = impl_GetCtl.T8 := by kernel_rfl
theorem impl_GetCtl.bits8 : waitsOk impl_GetCtl.T8.2 impl_GetCtl.B8 = true := by kernel_rfl
set_option maxHeartbeats 8000000 in
set_option maxRecDepth 100000 in
theorem impl_GetCtl.calls (k : Nat) (A0 : Option Addr) (c0 : Nat) (l0 : List Int) (r1 : Int) (r2 : Int) (r3 : Int) (r4 : Int) (r5 : Int) (r6 : Bool) (r7 : Int) (r8 : List (S126)) (r9 : Bool) (w : World) (hr0 : Kd.C (Kd.int .u8) w A0 l0.length l0) (hc0 : l0.length ≤ c0) (h : impl_GetCtl.f k l0 = some (r1, r2, r3, r4, r5, r6, r7, r8, r9)) :
  Calls Try.prog 36 #[.slice A0 l0.length c0] w fun e w' => ∃ v7_ : Value, e = .returned (.tuple #[.agg #[.int .i64 r1, .int .i64 r2, .int .i64 r3, .int .i64 r4, .int .i64 r5, .bool r6, .int .i64 r7, v7_], .bool r9]) ∧ Kd.R k126 126 w' w.heap.size (fun _ => True) v7_ r8 ∧ Below w.heap.size w w' := by
 have hu63 := Try.underlying63
 have hu131 := Try.underlying131
 have hu126 := Try.underlying126
 have HR0 := Aside0.mk hr0
 have HC0 := Aside0.mk hc0
 clear hr0 hc0
 have HB := Aside0.mk (Below.refl w.heap.size w)
 have H := h
 unfold impl_GetCtl.f at H
 clear h
 replace H := bd_ H
 obtain ⟨⟨t654, t655⟩, A2, H⟩ := H
 (try dsimp only at H)
 replace H := bd_ H
 obtain ⟨⟨t656, t657⟩, A3, H⟩ := H
 (try dsimp only at H)
 replace H := bd_ H
 obtain ⟨⟨t658, t659⟩, A4, H⟩ := H
 (try dsimp only at H)
 replace H := bd_ H
 obtain ⟨⟨t660, t661⟩, A5, H⟩ := H
 (try dsimp only at H)
 replace H := bd_ H
 obtain ⟨⟨t662, t663⟩, A6, H⟩ := H
 (try dsimp only at H)
 replace H := bd_ H
 obtain ⟨⟨t664, t665⟩, A7, H⟩ := H
 (try dsimp only at H)
 replace H := bd_ H
 obtain ⟨⟨t666, t667⟩, A8, H⟩ := H
 (try dsimp only at H)
 replace H := bd_ H
 obtain ⟨⟨t669, t670⟩, A9, H⟩ := H
 (try dsimp only at H)
 obtain ⟨ji10, hji10⟩ : ∃ j_ : Int, (mn t669 2) = j_ := ⟨_, rfl⟩
 replace H : (impl_GetCtl.l0 k l0 ji10 0 l0 t670 t654 t656 t658 t660 t662 (t664 == 1) t666 ([] : List (S126))) = some (r1, r2, r3, r4, r5, r6, r7, r8, r9) := by first | (rw [hji10] at H; exact H) | (simp only [hji10] at H ⊢; exact H)
 (try rw [hji10] at A2)
 (try rw [hji10] at A3)
 (try rw [hji10] at A4)
 (try rw [hji10] at A5)
 (try rw [hji10] at A6)
 (try rw [hji10] at A7)
 (try rw [hji10] at A8)
 (try rw [hji10] at A9)
 (try (have hji10h : ji10 ≤ 2 := by (rw [← hji10]; unfold mn; (repeat' split) <;> omega)))
 (try (have hji10g : ji10 ≤ 64 := by omega))
 have hji10_ : (if 2 < t669 then 2 else t669) = ji10 := hji10
 have H' := Aside0.mk H
 clear H
 go_enter Try.func36, Try.ntmps36
 go_wp2_with (first | ((with_reducible refine gate_dst (N := 2) rfl ?_); refine bx_ (N := 2) (cs := #[.int .i64 0, .int .i64 0, .int .i64 0, .int .i64 0, .int .i64 0, .bool false, .int .i64 0, .slice none 0 0]) (t := 63) ?_; intro gb652 hg w11 hbox hb; have BK652 := am_ (hbox); have GW652 := gA_ hg HB; have GE652 := GW652; have IGE652 := gI_ GE652; replace HB := bS_ HB hb; clear hb hbox hg) | ((with_reducible refine gate_dst (N := 11) rfl ?_); refine bx_ (N := 11) (cs := #[.slice A0 l0.length c0, .int .i64 0]) (t := 131) ?_; intro gb653 hg w12 hbox hb; have BK653 := am_ (hbox); have GW653 := gA_ hg HB; have GE653 := GW653; have IGE653 := gI_ GE653; replace HB := bS_ HB hb; have NB652_653 := am_ ((gN_ hg (qK BK652))); have NB653_652 := am_ ((gM_ hg (qK BK652))); replace BK652 := bK_ BK652 hb; clear hb hbox hg; have HI653 := Aside0.mk (show IsS131 w _ gb653 l0 0 from ⟨_, _, BK653.out, GE653.out, ⟨HR0.out, HC0.out⟩⟩); have IGHI653 := iG_ HI653.out.ge) | ((with_reducible refine gate_callee (f := 84) rfl ?_); refine gl_ (some 13) Try.func84 #[.pointer (some ⟨gb653, 0, none⟩)] ?_; (with_reducible refine (impl_reader_one.calls gb653 l0 0 t654 t655 w _ ?side1 ?side2 A2.out).mono ?_); (case side1 => exact IsS131.qz HI653); (case side2 => exact qB HB); rintro e w13 ⟨rfl, hi, hb, hk⟩; refine ⟨_, rfl, ?_⟩; replace BK652 := kB_ BK652 hk NB652_653; replace HB := am_ (hb); replace HI653 := am_ (hi); (try clear hb); (try clear hk); (try clear hi)) | ((with_reducible refine gate_callee (f := 84) rfl ?_); refine gl_ (some 15) Try.func84 #[.pointer (some ⟨gb653, 0, none⟩)] ?_; (with_reducible refine (impl_reader_one.calls gb653 l0 t655 t656 t657 w _ ?side1 ?side2 A3.out).mono ?_); (case side1 => exact IsS131.qz HI653); (case side2 => exact qB HB); rintro e w14 ⟨rfl, hi, hb, hk⟩; refine ⟨_, rfl, ?_⟩; replace BK652 := kB_ BK652 hk NB652_653; replace HB := am_ (hb); replace HI653 := am_ (hi); (try clear hb); (try clear hk); (try clear hi)) | ((with_reducible refine gate_callee (f := 85) rfl ?_); refine gl_ (some 17) Try.func85 #[.pointer (some ⟨gb653, 0, none⟩)] ?_; (with_reducible refine (impl_reader_word.calls gb653 l0 t657 t658 t659 w _ ?side1 ?side2 A4.out).mono ?_); (case side1 => exact IsS131.qz HI653); (case side2 => exact qB HB); rintro e w15 ⟨rfl, hi, hb, hk⟩; refine ⟨_, rfl, ?_⟩; replace BK652 := kB_ BK652 hk NB652_653; replace HB := am_ (hb); replace HI653 := am_ (hi); (try clear hb); (try clear hk); (try clear hi)) | ((with_reducible refine gate_callee (f := 84) rfl ?_); refine gl_ (some 19) Try.func84 #[.pointer (some ⟨gb653, 0, none⟩)] ?_; (with_reducible refine (impl_reader_one.calls gb653 l0 t659 t660 t661 w _ ?side1 ?side2 A5.out).mono ?_); (case side1 => exact IsS131.qz HI653); (case side2 => exact qB HB); rintro e w16 ⟨rfl, hi, hb, hk⟩; refine ⟨_, rfl, ?_⟩; replace BK652 := kB_ BK652 hk NB652_653; replace HB := am_ (hb); replace HI653 := am_ (hi); (try clear hb); (try clear hk); (try clear hi)) | ((with_reducible refine gate_callee (f := 84) rfl ?_); refine gl_ (some 21) Try.func84 #[.pointer (some ⟨gb653, 0, none⟩)] ?_; (with_reducible refine (impl_reader_one.calls gb653 l0 t661 t662 t663 w _ ?side1 ?side2 A6.out).mono ?_); (case side1 => exact IsS131.qz HI653); (case side2 => exact qB HB); rintro e w17 ⟨rfl, hi, hb, hk⟩; refine ⟨_, rfl, ?_⟩; replace BK652 := kB_ BK652 hk NB652_653; replace HB := am_ (hb); replace HI653 := am_ (hi); (try clear hb); (try clear hk); (try clear hi)) | ((with_reducible refine gate_callee (f := 84) rfl ?_); refine gl_ (some 23) Try.func84 #[.pointer (some ⟨gb653, 0, none⟩)] ?_; (with_reducible refine (impl_reader_one.calls gb653 l0 t663 t664 t665 w _ ?side1 ?side2 A7.out).mono ?_); (case side1 => exact IsS131.qz HI653); (case side2 => exact qB HB); rintro e w18 ⟨rfl, hi, hb, hk⟩; refine ⟨_, rfl, ?_⟩; replace BK652 := kB_ BK652 hk NB652_653; replace HB := am_ (hb); replace HI653 := am_ (hi); (try clear hb); (try clear hk); (try clear hi)) | ((with_reducible refine gate_callee (f := 85) rfl ?_); refine gl_ (some 26) Try.func85 #[.pointer (some ⟨gb653, 0, none⟩)] ?_; (with_reducible refine (impl_reader_word.calls gb653 l0 t665 t666 t667 w _ ?side1 ?side2 A8.out).mono ?_); (case side1 => exact IsS131.qz HI653); (case side2 => exact qB HB); rintro e w19 ⟨rfl, hi, hb, hk⟩; refine ⟨_, rfl, ?_⟩; replace BK652 := kB_ BK652 hk NB652_653; replace HB := am_ (hb); replace HI653 := am_ (hi); (try clear hb); (try clear hk); (try clear hi)) | ((with_reducible refine gate_dst (N := 5) rfl ?_); refine bx_ (N := 5) (cs := #[.int .i64 0, .int .i64 0, .int .i64 0, .int .i64 0, .int .i64 0, .bool false, .int .i64 0, .slice none 0 0]) (t := 63) ?_; intro gb668 hg w20 hbox hb; have BK668 := am_ (hbox); have GW668 := am_ ((by rw [hg]; exact (below_size (qB HB)) : w.heap.size ≤ gb668)); have IGW668 := gI_ GW668; have GE668 := am_ ((by rw [hg]; exact (below_size (qB HB)) : w.heap.size ≤ gb668)); have IGE668 := gI_ GE668; replace HB := bS_ HB hb; have NB652_668 := am_ ((gN_ hg (qK BK652))); have NB668_652 := am_ ((gM_ hg (qK BK652))); replace BK652 := bK_ BK652 hb; have NB653_668 := am_ ((by rw [hg]; exact Nat.ne_of_lt (IsS131.lt (show IsS131 w _ gb653 l0 t667 from IsS131.qz HI653)) : gb653 ≠ gb668)); have NB668_653 := am_ ((by rw [hg]; exact Nat.ne_of_gt (IsS131.lt (show IsS131 w _ gb653 l0 t667 from IsS131.qz HI653)) : gb668 ≠ gb653)); replace HI653 := am_ (IsS131.below (IsS131.qz HI653) hb); clear hb hbox hg; have hnb21 := NB668_652.out; have hnc21 := NB652_668.out; have hnb22 := NB668_653.out; have hnc22 := NB653_668.out; (try clear zK668); have zK668 := cz8 BK668.out; (try clear fK668); have fK668 := fz8 BK668.out) | ((with_reducible refine gate_callee (f := 84) rfl ?_); refine gl_ (some 29) Try.func84 #[.pointer (some ⟨gb653, 0, none⟩)] ?_; (with_reducible refine (impl_reader_one.calls gb653 l0 t667 t669 t670 w _ ?side1 ?side2 A9.out).mono ?_); (case side1 => exact IsS131.qz HI653); (case side2 => exact qB HB); rintro e w24 ⟨rfl, hi, hb, hk⟩; refine ⟨_, rfl, ?_⟩; replace BK652 := am_ (KeepBut.blk hk (g' := gb652) (o := .cells #[.int .i64 0, .int .i64 0, .int .i64 0, .int .i64 0, .int .i64 0, .bool false, .int .i64 0, .slice none 0 0] 63 (0, 0)) (by (with_reducible repeat (first | refine blk_drewN ?_ _ | refine blk_drew ?_ | refine blk_alloc ?_ _)); refine blk_far8 ?_ NB652_668.out; exact qK BK652) NB652_653.out (by simp)); replace BK668 := am_ (KeepBut.blk hk (g' := gb668) (o := .cells #[.int .i64 t654, .int .i64 t656, .int .i64 t658, .int .i64 t660, .int .i64 t662, .bool (t664 == 1), .int .i64 t666, .slice none 0 0] 63 (0, 0)) (by exact blk_all8 (qK BK668)) NB668_653.out (by simp)); replace HB := am_ (hb); replace HI653 := am_ (hi); (try clear hb); (try clear hk); (try clear hi)))
 go_loopg [31] k (fun kq v31 w' => ∃ (x31_1 : Int) (x653000_1 : Int) (x653001_1 : Int) (x653002_1 : Int) (x653003_1 : Int) (x653004_1 : Int) (x653005_1 : Bool) (x653006_1 : Int) (x654001_1 : Int) (x669007_1 : List (S126)) (u669007 : Value), v31 = .int .i64 x31_1 ∧ Aside0 (impl_GetCtl.l0 kq l0 ji10 x31_1 l0 x654001_1 t654 t656 t658 t660 t662 (t664 == 1) t666 x669007_1 = some (r1, r2, r3, r4, r5, r6, r7, r8, r9)) ∧ Aside0 (kq ≤ k) ∧ Aside0 (Kd.R k126 126 w' w.heap.size (fun _ => True) u669007 x669007_1) ∧ Aside0 (w'.heap[gb652]? = some (.cells #[.int .i64 x653000_1, .int .i64 x653001_1, .int .i64 x653002_1, .int .i64 x653003_1, .int .i64 x653004_1, .bool x653005_1, .int .i64 x653006_1, (.slice none 0 0)] 63 (0, 0))) ∧ Aside0 (w'.heap[gb668]? = some (.cells #[.int .i64 t654, .int .i64 t656, .int .i64 t658, .int .i64 t660, .int .i64 t662, .bool (t664 == 1), .int .i64 t666, u669007] 63 (0, 0))) ∧ Aside0 (IsS131 w w' gb653 l0 x654001_1) ∧ Aside0 (Below w.heap.size w w'))
 case atStart => exact ⟨(0), (0), (0), (0), (0), (0), (false), (0), (t670), (([] : List (S126))), (.slice none 0 0), eqq_, H', ⟨Nat.le_refl _⟩, ⟨by first | exact Kd.R_nil _ _ _ _ _ | exact Kd.N_nil _ _ _ _ _ | exact Kd.V_nil _ _ _ _ _ | exact Kd.Q_nil _ _ _ _ _ | exact Kd.S_nil _ _ _ _ _⟩, ⟨qK BK652⟩, ⟨qK BK668⟩, ⟨IsS131.qz HI653⟩, ⟨qB HB⟩⟩
 case round =>
  clear H'
  try clear c2
  try clear p2
  try clear c3
  try clear c8
  try clear c21
  try clear c22
  (try clear zK668)
  (try clear fK668)
  obtain ⟨x31_1, x653000_1, x653001_1, x653002_1, x653003_1, x653004_1, x653005_1, x653006_1, x654001_1, x669007_1, u669007, rfl, HA, HK1, HO_669007, BK652, BK668, HI653, HB⟩ := hrel
  cases gk with
  | zero => exact absurd HA.out (by simp [impl_GetCtl.l0])
  | succ k1 =>
   have H := HA.out
   clear HA
   simp only [impl_GetCtl.l0] at H
   replace H := id_ H
   obtain ⟨-, H, c25b0⟩ | ⟨-, H, c25b0⟩ := H
   rotate_left
   ·
    replace H := ie_ H
    obtain ⟨-, H, c71b0, c71b1⟩ | ⟨c71, H, c71b0, c71b1⟩ := H
    ·
     simp only [Option.some.injEq, Prod.mk.injEq] at H
     obtain ⟨rfl, rfl, rfl, rfl, rfl, rfl, rfl, rfl, rfl⟩ := H
     have hnb72 := NB652_668.out
     have hnc72 := NB668_652.out
     have hnb73 := NB652_653.out
     have hnc73 := NB653_652.out
     (try clear zK652)
     have zK652 := cz8 BK652.out
     (try clear fK652)
     have fK652 := fz8 BK652.out
     go_wp2
     refine bodyPost_ret (results_ct rfl _ _ gb652 63 #[.int .i64 0, .int .i64 0, .int .i64 0, .int .i64 0, .int .i64 0, .bool false, .int .i64 0, .slice none 0 0] (0, 0) _ rfl (by exact blk_all8 (qK BK652)) Try.underlying63 rfl (by kernel_rfl)) rfl ?_
     exact ⟨_, by first | rfl | (simp [errW_none, errW_some] <;> rfl) | (simp only [← hji10]; first | rfl | (simp [errW_none, errW_some] <;> rfl)) | (simp [*, errW_none, errW_some] <;> rfl), by first | exact Kd.R_nil _ _ _ _ _ | exact Kd.N_nil _ _ _ _ _ | exact Kd.V_nil _ _ _ _ _ | exact Kd.Q_nil _ _ _ _ _ | exact Kd.S_nil _ _ _ _ _, qB HB⟩
    have c71b2 : ¬ (l0 = []) := fun h_ => c71 (by rw [h_]; rfl)
    replace H := bd_ H
    obtain ⟨t695, A75, H⟩ := H
    replace H := bd_ H
    obtain ⟨t698, A76, H⟩ := H
    have HC77 := Aside0.mk H
    clear H
    have hnb78 := NB668_652.out
    have hnc78 := NB652_668.out
    have hnb79 := NB668_653.out
    have hnc79 := NB653_668.out
    (try clear zK668)
    have zK668 := cz8 BK668.out
    (try clear fK668)
    have fK668 := fz8 BK668.out
    obtain ⟨Ao81, co81, eo81⟩ := Kd.R_slice HO_669007.out
    subst eo81
    go_upto_if 85 with (first | (go_at_call 76; (with_reducible refine (impl_PutCtl.calls k1 t654 t656 t658 t660 t662 (t664 == 1) t666 _ _ x669007_1 t695 _ ?side1 ?side2 A75.out).mono ?_); (case side1 => exact qC ((Kd.R_reads' HO_669007.out).2.2)); (case side2 => exact (Kd.R_reads' HO_669007.out).2.1); rintro e w82 ⟨v696, rfl, ho0, hb⟩; replace HO_669007 := rB_ HO_669007 hb; have HO697 := am_ (Kd.R_lower ho0 (below_size (qB HB))); replace BK652 := bK_ BK652 hb; replace BK668 := bK_ BK668 hb; replace HB := bS_ HB hb; replace HI653 := am_ (IsS131.below (IsS131.qz HI653) hb); (try clear hb); (try clear ho0); obtain ⟨Ao83, co83, eo83⟩ := Kd.R_slice HO697.out; subst eo83) | (go_at_call 87; (with_reducible refine (bytes_Equal.calls _ _ t695 _ _ l0 t698 _ ?side1 ?side2 ?side3 ?side4 A76.out).mono ?_); (case side1 => exact qC ((Kd.R_reads' HO697.out).2.2)); (case side2 => exact (Kd.R_reads' HO697.out).2.1); (case side3 => exact qC (Kd.C_below HR0.out HB.out)); (case side4 => exact HC0.out); rintro e w' ⟨rfl, ⟨nd, rfl⟩⟩))
    (try simp only [Act.put, List.setIfInBounds_toArray, List.set_cons_zero, List.set_cons_succ])
    (try (rw [drewN_self w82]; generalize hq_ : World.drewN w82 _ = w82; have n0_ : Aside0 (Kd.R (Kd.int .u8) 5 w82 w.heap.size (fun _ => True) (.slice Ao83 t695.length co83) t695) := ⟨by rw [← hq_]; exact (qR HO697)⟩; have n1_ : Aside0 (Kd.R k126 126 w82 w.heap.size (fun _ => True) (.slice Ao81 x669007_1.length co81) x669007_1) := ⟨by rw [← hq_]; exact (qR HO_669007)⟩; have n2_ : Aside0 (w82.heap[gb652]? = some (.cells #[.int .i64 x653000_1, .int .i64 x653001_1, .int .i64 x653002_1, .int .i64 x653003_1, .int .i64 x653004_1, .bool x653005_1, .int .i64 x653006_1, .slice none 0 0] 63 (0, 0))) := ⟨by rw [← hq_]; exact (qK BK652)⟩; have n3_ : Aside0 (w82.heap[gb668]? = some (.cells #[.int .i64 t654, .int .i64 t656, .int .i64 t658, .int .i64 t660, .int .i64 t662, .bool (t664 == 1), .int .i64 t666, .slice Ao81 x669007_1.length co81] 63 (0, 0))) := ⟨by rw [← hq_]; exact (qK BK668)⟩; have n4_ : Aside0 (IsS131 w w82 gb653 l0 x654001_1) := ⟨by rw [← hq_]; exact (IsS131.qz HI653)⟩; have n5_ : Aside0 (Below w.heap.size w w82) := ⟨by rw [← hq_]; exact (qB HB)⟩; clear HO697 HO_669007 BK652 BK668 HI653 HB hq_; have HO697 := n0_; have HO_669007 := n1_; have BK652 := n2_; have BK668 := n3_; have HI653 := n4_; have HB := n5_; clear n0_ n1_ n2_ n3_ n4_ n5_))
    have H := HC77.out
    clear HC77
    by_cases c84 : t698 = true
    rotate_left
    ·
     replace c84 := Bool.eq_false_iff.mpr c84
     subst c84
     rw [if_neg (show ¬ (false = true) by decide)] at H
     simp only [Option.some.injEq, Prod.mk.injEq] at H
     obtain ⟨rfl, rfl, rfl, rfl, rfl, rfl, rfl, rfl, rfl⟩ := H
     have hnb90 := NB652_668.out
     have hnc90 := NB668_652.out
     have hnb91 := NB652_653.out
     have hnc91 := NB653_652.out
     (try clear zK652)
     have zK652 := cz8 BK652.out
     (try clear fK652)
     have fK652 := fz8 BK652.out
     go_wp2
     refine bodyPost_ret (results_ct rfl _ _ gb652 63 #[.int .i64 0, .int .i64 0, .int .i64 0, .int .i64 0, .int .i64 0, .bool false, .int .i64 0, .slice none 0 0] (0, 0) _ rfl (by exact blk_all8 (qK BK652)) Try.underlying63 rfl (by kernel_rfl)) rfl ?_
     exact ⟨_, by first | rfl | (simp [errW_none, errW_some] <;> rfl) | (simp only [← hji10]; first | rfl | (simp [errW_none, errW_some] <;> rfl)) | (simp [*, errW_none, errW_some] <;> rfl), by first | exact Kd.R_nil _ _ _ _ _ | exact Kd.N_nil _ _ _ _ _ | exact Kd.V_nil _ _ _ _ _ | exact Kd.Q_nil _ _ _ _ _ | exact Kd.S_nil _ _ _ _ _, qB HB⟩
    subst c84
    rw [if_pos rfl] at H
    simp only [Option.some.injEq, Prod.mk.injEq] at H
    obtain ⟨rfl, rfl, rfl, rfl, rfl, rfl, rfl, rfl, rfl⟩ := H
    have hnb85 := NB668_652.out
    have hnc85 := NB652_668.out
    have hnb86 := NB668_653.out
    have hnc86 := NB653_668.out
    (try clear zK668)
    have zK668 := cz8 BK668.out
    (try clear fK668)
    have fK668 := fz8 BK668.out
    have hnb88 := NB652_653.out
    have hnc88 := NB653_652.out
    (try clear zK652)
    have zK652 := cz8 BK652.out
    (try clear fK652)
    have fK652 := fz8 BK652.out
    go_wp2
    refine bodyPost_ret (results_ct rfl _ _ gb652 63 #[.int .i64 t654, .int .i64 t656, .int .i64 t658, .int .i64 t660, .int .i64 t662, .bool (t664 == 1), .int .i64 t666, .slice Ao81 x669007_1.length co81] (0, 0) _ rfl (by exact blk_all8 (qK BK652)) Try.underlying63 rfl (by kernel_rfl)) rfl ?_
    exact ⟨_, by first | rfl | (simp [errW_none, errW_some] <;> rfl) | (simp only [← hji10]; first | rfl | (simp [errW_none, errW_some] <;> rfl)) | (simp [*, errW_none, errW_some] <;> rfl), (fR1_ HO_669007 BK652), qB HB⟩
   replace H := bd_ H
   obtain ⟨⟨t671, t672⟩, A26, H⟩ := H
   (try dsimp only at H)
   have HC27 := Aside0.mk H
   clear H
   go_upto_if 43 with (first | ((with_reducible refine gate_callee (f := 84) rfl ?_); refine gl_ (some 34) Try.func84 #[.pointer (some ⟨gb653, 0, none⟩)] ?_; (with_reducible refine (impl_reader_one.calls gb653 l0 x654001_1 t671 t672 w _ ?side1 ?side2 A26.out).mono ?_); (case side1 => exact IsS131.qz HI653); (case side2 => exact qB HB); rintro e w28 ⟨rfl, hi, hb, hk⟩; refine ⟨_, rfl, ?_⟩; replace HO_669007 := am_ (Kd.R_mono (Kd.R_keep (IsS131.apart (show IsS131 w _ gb653 l0 x654001_1 from IsS131.qz HI653) (qR HO_669007) (by decide)) hk (fun _ h => h.2)) (fun _ h => h.1)); replace BK652 := kB_ BK652 hk NB652_653; replace BK668 := kB_ BK668 hk NB668_653; replace HB := am_ (hb); replace HI653 := am_ (hi); (try clear hb); (try clear hk); (try clear hi); obtain ⟨ASz29_0, cSz29_0, HGz29, hgz29, HSz29_0⟩ := HI653.out; obtain ⟨HSz29_0, HQz29_0⟩ := HSz29_0; have z29_0 := cellS131_0 HGz29; have z29_1 := cellS131_1 HGz29; have f29_1 := blk_frozen HGz29 1; clear HGz29 hgz29))
   (try simp only [Act.put, List.setIfInBounds_toArray, List.set_cons_zero, List.set_cons_succ])
   have H := HC27.out
   clear HC27
   replace H := id_ H
   obtain ⟨-, H, c30b0⟩ | ⟨-, H, c30b0⟩ := H
   ·
    (first | rw [c30b0] | (simp only [i64_w, i32_w]; rw [c30b0]) | skip)
    simp only [Option.some.injEq, Prod.mk.injEq] at H
    obtain ⟨rfl, rfl, rfl, rfl, rfl, rfl, rfl, rfl, rfl⟩ := H
    have hnb31 := NB652_668.out
    have hnc31 := NB668_652.out
    have hnb32 := NB652_653.out
    have hnc32 := NB653_652.out
    (try clear zK652)
    have zK652 := cz8 BK652.out
    (try clear fK652)
    have fK652 := fz8 BK652.out
    go_wp2
    refine bodyPost_ret (results_ct rfl _ _ gb652 63 #[.int .i64 0, .int .i64 0, .int .i64 0, .int .i64 0, .int .i64 0, .bool false, .int .i64 0, .slice none 0 0] (0, 0) _ rfl (by exact blk_all8 (qK BK652)) Try.underlying63 rfl (by kernel_rfl)) rfl ?_
    exact ⟨_, by first | rfl | (simp [errW_none, errW_some] <;> rfl) | (simp only [← hji10]; first | rfl | (simp [errW_none, errW_some] <;> rfl)) | (simp [*, errW_none, errW_some] <;> rfl), by first | exact Kd.R_nil _ _ _ _ _ | exact Kd.N_nil _ _ _ _ _ | exact Kd.V_nil _ _ _ _ _ | exact Kd.Q_nil _ _ _ _ _ | exact Kd.S_nil _ _ _ _ _, qB HB⟩
   (first | rw [c30b0] | (simp only [i64_w, i32_w]; rw [c30b0]) | skip)
   replace H := ip_ H
   obtain ⟨c34, H, -⟩ := H
   have c34b0 := eq_true c34
   have c34b1 : decide (0 ≤ t672) = true := decide_eq_true c34
   clear c34
   replace H := ip_ H
   obtain ⟨c35, H, -⟩ := H
   have c35b0 := eq_true c35
   have c35b1 : decide (t672 ≤ (wrap64 (t672 + t671))) = true := decide_eq_true c35
   replace H := ip_ H
   obtain ⟨c36, H, -⟩ := H
   have c36b0 := eq_true c36
   have c36b1 : decide ((wrap64 (t672 + t671)) ≤ (l0.length : Int)) = true := decide_eq_true c36
   replace H := bf_ H
   obtain ⟨f_, hf_, ⟨t674, t675, t676, t677, t678, t679, t680, t681, t682, t683, t684, t685, t686, t687, t688, t689, t690⟩, A37, H⟩ := H
   subst hf_
   (try dsimp only at H)
   replace H := ip_ H
   obtain ⟨c38, H, -⟩ := H
   have LMc38 := Aside0.mk c38
   clear c38
   obtain ⟨y692, hy692⟩ : ∃ y_ : List (S126), y_ = (x669007_1 ++ [(⟨t674, (⟨t675, t676, t677, t678, t679, t680, t681, t682⟩ : S90), (⟨t683, t684, t685, t686, t687, t688, t689⟩ : S124)⟩ : S126)]) := ⟨_, rfl⟩
   rw [← hy692] at H
   have Ny692 := Aside0.mk hy692
   clear hy692
   have H' := Aside0.mk H
   clear H
   try go_wp2
   replace HO_669007 := am_ (Kd.R_drew HO_669007.out)
   replace BK652 := am_ (blk_drew BK652.out)
   replace BK668 := am_ (blk_drew BK668.out)
   replace HI653 := am_ (IsS131.drew HI653.out)
   replace HB := am_ (below_drew1 HB.out)
   obtain ⟨i040, hi040, _, hsz40, _⟩ := info_parts info5
   obtain ⟨A40, hcut40, hA40, hC40⟩ := print_mid_of (P := Try.prog) (Value.int .u8) 0 70 5 .i64 .i64 Try.underlying70 hi040 hsz40 A0 c0 l0 t672 (wrap64 (t672 + t671)) od_ (by first | omega | exact od_) od_ HC0.out
   have HR673 := Aside0.mk (Kd.C_of_reads (h1 := fun _ => rfl) (hA40 _ (Kd.reads_of_C HR0.out)))
   have HC673 := Aside0.mk hC40
   clear hA40 hC40 hi040 hsz40
   refine start_ (n := 19) (S := fun w' => w'.cell? ⟨gb653, 1, none⟩ = some (.int .i64 t672)) (ds := []) (rl [0,19]) (by kernel_rfl) rfl rfl ((by obtain ⟨_, _, h_, _⟩ := HI653.out; exact cellS131_1 h_)) (fun hHeld => ?_); refine with_tabW impl_GetCtl.tab8 impl_GetCtl.bits8 (fun HT_ HW_ => ?_)
   generalize w28.drew = w39 at HO_669007 BK652 BK668 HI653 HB HR673 hHeld ⊢
   refine pq_ 0 46 HT_ (rl [1,18]) ?_
   refine pq_ 1 47 HT_ (rl [2,17]) ?_
   refine pq_ 2 48 HT_ (rl [3,16]) ?_
   refine pq_ 3 49 HT_ (rl [4,15]) ?_
   refine pq_ 5 51 HT_ (rl [4,1,1,13]) ?_
   refine pq_ 6 52 HT_ (rl [4,1,2,12]) ?_
   refine pq_ 7 53 HT_ (rl [4,1,3,11]) ?_
   refine pq_ 9 55 HT_ (rl [4,1,3,1,1,9]) ?_
   refine tz_ (i := 4) (N := some 50) HT_ HW_ (rl [8,1,1,9]) rfl rfl hHeld ?_
   refine tz_ (i := 8) (N := some 54) HT_ HW_ (rl [10,9]) rfl rfl hHeld ?_
   refine pq_ 10 56 HT_ (rl [11,8]) ?_
   refine pq_ 11 57 HT_ (rl [12,7]) ?_
   refine join_ (σ := Nat) 2 (rl [17,2]) (fun s_ => [(58, .tuple #[.agg #[.int .i64 t674, .int .i64 t675, .string t676, .int .i64 t677, .int .i64 t678, .int .i64 t679, .string t680, .int .i64 t681, .int .i64 t682, .int .i64 t683, .string t684, .int .i64 t685, .int .i64 t686, .int .i64 t687, .int .i64 t688, .int .i64 t689], .bool t690]), (7, .pointer (some ⟨s_, 0, none⟩)), (45, .tuple #[.agg #[.int .i64 t674, .int .i64 t675, .string t676, .int .i64 t677, .int .i64 t678, .int .i64 t679, .string t680, .int .i64 t681, .int .i64 t682, .int .i64 t683, .string t684, .int .i64 t685, .int .i64 t686, .int .i64 t687, .int .i64 t688, .int .i64 t689], .bool t690]), (59, .agg #[.int .i64 t674, .int .i64 t675, .string t676, .int .i64 t677, .int .i64 t678, .int .i64 t679, .string t680, .int .i64 t681, .int .i64 t682, .int .i64 t683, .string t684, .int .i64 t685, .int .i64 t686, .int .i64 t687, .int .i64 t688, .int .i64 t689]), (60, .bool t690)]) (fun s_ w' => (w'.cell? ⟨gb653, 1, none⟩ = some (.int .i64 t672)) ∧ (Kd.R k126 126 w' w.heap.size (fun k_ => k_ ≠ s_) u669007 x669007_1) ∧ (w'.heap[gb652]? = some (.cells #[.int .i64 x653000_1, .int .i64 x653001_1, .int .i64 x653002_1, .int .i64 x653003_1, .int .i64 x653004_1, .bool x653005_1, .int .i64 x653006_1, .slice none 0 0] 63 (0, 0))) ∧ (w'.heap[gb668]? = some (.cells #[.int .i64 t654, .int .i64 t656, .int .i64 t658, .int .i64 t660, .int .i64 t662, .bool (t664 == 1), .int .i64 t666, u669007] 63 (0, 0))) ∧ (w'.heap[s_]? = some (.cells #[.int .i64 0, .int .i64 0, .string (⟨#[]⟩ : ByteArray), .int .i64 0, .int .i64 0, .int .i64 0, .string (⟨#[]⟩ : ByteArray), .int .i64 0, .int .i64 0, .int .i64 0, .string (⟨#[]⟩ : ByteArray), .int .i64 0, .int .i64 0, .int .i64 0, .int .i64 0, .int .i64 0] 126 (0, 0))) ∧ (w.heap.size ≤ s_) ∧ (w.heap.size ≤ s_) ∧ (gb653 ≠ s_) ∧ (s_ ≠ gb653) ∧ (gb652 ≠ s_) ∧ (s_ ≠ gb652) ∧ (gb668 ≠ s_) ∧ (s_ ≠ gb668) ∧ (IsS131 w w' gb653 l0 t672) ∧ (Below w.heap.size w w')) ?_ ?_
   rotate_left
   ·
    intro hCont
    refine two_ (i := 12) (j := 16) (Ni := some 58) (Nj := some 7) (rl [13,6]) (rl [12,4,1,2]) rfl rfl rfl rfl (two_of HT_.out (by kernel_rfl)) (by decide) (by decide) (fun K hK => ?_) (fun K hK => ?_)
    ·
     skip
     refine goes_ Try.func86 (by kernel_rfl) rfl #[.slice A40 ((l0.take ((wrap64 (t672 + t671)) : Int).toNat).drop (t672 : Int).toNat).length (c0 - t672.toNat)] (by rfl) rfl rfl (by (try simp only [List.map_toArray, List.map_cons, List.map_nil]); first | done | (rw [show ((l0.take ((wrap64 (t672 + t671)) : Int).toNat).drop (t672 : Int).toNat).length = ((wrap64 (t672 + t671)).toNat - t672.toNat) from (by rw [List.length_drop, List.length_take]; have h_ : ((wrap64 (t672 + t671)) : Int) ≤ (l0.length : Int) := od_; omega)] <;> rfl) | rfl | (simp only [List.length_drop, List.length_take]; rfl)) ?_
     with_reducible refine (impl_GetItem.calls k1 _ _ ((l0.take ((wrap64 (t672 + t671)) : Int).toNat).drop (t672 : Int).toNat) t674 t675 t676 t677 t678 t679 t680 t681 t682 t683 t684 t685 t686 t687 t688 t689 t690 _ ?side1 ?side2 A37.out).mono ?_
     (case side1 => exact qC (Kd.C_below HR673.out HB.out))
     (case side2 => exact HC673.out)
     rintro e w41 ⟨rfl, hb⟩
     refine ⟨_, rfl, ?_⟩
     replace HO_669007 := rB_ HO_669007 hb
     replace BK652 := bK_ BK652 hb
     replace BK668 := bK_ BK668 hb
     replace HB := bS_ HB hb
     replace HI653 := am_ (IsS131.below (IsS131.qz HI653) hb)
     (try clear hb)
     refine hK.out _ _ ((by obtain ⟨_, _, h_, _⟩ := HI653.out; exact cellS131_1 h_)) (fun hHeld => ?_)
     clear hK K
     refine nm_ (some 58) ?_
     refine pq_ 13 45 HT_ (rl [14,5]) ?_
     refine pq_ 14 59 HT_ (rl [15,4]) ?_
     refine pq_ 15 60 HT_ (rl [16,3]) ?_
     refine on_ HT_ (i := 16) (N := some 7) (rl [17,2]) (fun K hK => ?_)
     refine box_step ?hg (N := 7) ?hd (cs := #[.int .i64 0, .int .i64 0, .string (⟨#[]⟩ : ByteArray), .int .i64 0, .int .i64 0, .int .i64 0, .string (⟨#[]⟩ : ByteArray), .int .i64 0, .int .i64 0, .int .i64 0, .string (⟨#[]⟩ : ByteArray), .int .i64 0, .int .i64 0, .int .i64 0, .int .i64 0, .int .i64 0]) (t := 126) ?hr ?_; (case hd => rfl); (case hg => rfl); (case hr => first | (go_simp; done) | (go_simp; rfl))
     intro gb691 hg w42 hbox hb
     replace HO_669007 := am_ (Kd.R_below (Kd.R_elderB (qR HO_669007) gb691 (Nat.le_of_eq hg.symm)) hb)
     have BK691 := am_ (hbox)
     have GW691 := am_ ((by rw [hg]; exact (below_size (qB HB)) : w.heap.size ≤ gb691))
     have IGW691 := gI_ GW691
     have GE691 := am_ ((by rw [hg]; exact (below_size (qB HB)) : w.heap.size ≤ gb691))
     have IGE691 := gI_ GE691
     replace HB := bS_ HB hb
     have NB652_691 := am_ ((gN_ hg (qK BK652)))
     have NB691_652 := am_ ((gM_ hg (qK BK652)))
     replace BK652 := bK_ BK652 hb
     have NB668_691 := am_ ((gN_ hg (qK BK668)))
     have NB691_668 := am_ ((gM_ hg (qK BK668)))
     replace BK668 := bK_ BK668 hb
     have NB653_691 := am_ ((by rw [hg]; exact Nat.ne_of_lt (IsS131.lt (show IsS131 w _ gb653 l0 t672 from IsS131.qz HI653)) : gb653 ≠ gb691))
     have NB691_653 := am_ ((by rw [hg]; exact Nat.ne_of_gt (IsS131.lt (show IsS131 w _ gb653 l0 t672 from IsS131.qz HI653)) : gb691 ≠ gb653))
     replace HI653 := am_ (IsS131.below (IsS131.qz HI653) hb)
     clear hb hbox hg
     refine hK.out _ _ ((by obtain ⟨_, _, h_, _⟩ := HI653.out; exact cellS131_1 h_)) (fun hHeld => ?_)
     clear hK K
     refine nm_ (some 7) ?_
     exact norm_ (by simp only [putAll, Act.put, List.setIfInBounds_toArray, List.set_cons_zero, List.set_cons_succ]) (hCont (gb691) _ ⟨hHeld, (xR1_ HO_669007), (qK BK652), (qK BK668), (qK BK691), GW691.out, GE691.out, NB653_691.out, NB691_653.out, NB652_691.out, NB691_652.out, NB668_691.out, NB691_668.out, (IsS131.qz HI653), (qB HB)⟩)
    ·
     skip
     refine box_step ?hg (N := 7) ?hd (cs := #[.int .i64 0, .int .i64 0, .string (⟨#[]⟩ : ByteArray), .int .i64 0, .int .i64 0, .int .i64 0, .string (⟨#[]⟩ : ByteArray), .int .i64 0, .int .i64 0, .int .i64 0, .string (⟨#[]⟩ : ByteArray), .int .i64 0, .int .i64 0, .int .i64 0, .int .i64 0, .int .i64 0]) (t := 126) ?hr ?_; (case hd => rfl); (case hg => rfl); (case hr => first | (go_simp; done) | (go_simp; rfl))
     intro gb691 hg w41 hbox hb
     replace HO_669007 := am_ (Kd.R_below (Kd.R_elderB (qR HO_669007) gb691 (Nat.le_of_eq hg.symm)) hb)
     have BK691 := am_ (hbox)
     have GW691 := am_ ((by rw [hg]; exact (below_size (qB HB)) : w.heap.size ≤ gb691))
     have IGW691 := gI_ GW691
     have GE691 := am_ ((by rw [hg]; exact (below_size (qB HB)) : w.heap.size ≤ gb691))
     have IGE691 := gI_ GE691
     replace HB := bS_ HB hb
     have NB652_691 := am_ ((gN_ hg (qK BK652)))
     have NB691_652 := am_ ((gM_ hg (qK BK652)))
     replace BK652 := bK_ BK652 hb
     have NB668_691 := am_ ((gN_ hg (qK BK668)))
     have NB691_668 := am_ ((gM_ hg (qK BK668)))
     replace BK668 := bK_ BK668 hb
     have NB653_691 := am_ ((by rw [hg]; exact Nat.ne_of_lt (IsS131.lt (show IsS131 w _ gb653 l0 t672 from IsS131.qz HI653)) : gb653 ≠ gb691))
     have NB691_653 := am_ ((by rw [hg]; exact Nat.ne_of_gt (IsS131.lt (show IsS131 w _ gb653 l0 t672 from IsS131.qz HI653)) : gb691 ≠ gb653))
     replace HI653 := am_ (IsS131.below (IsS131.qz HI653) hb)
     clear hb hbox hg
     refine hK.out _ _ ((by obtain ⟨_, _, h_, _⟩ := HI653.out; exact cellS131_1 h_)) (fun hHeld => ?_)
     clear hK K
     refine nm_ (some 7) ?_
     refine on_ HT_ (i := 12) (N := some 58) (rl [13,3,1,2]) (fun K hK => ?_)
     refine goes_ Try.func86 (by kernel_rfl) rfl #[.slice A40 ((l0.take ((wrap64 (t672 + t671)) : Int).toNat).drop (t672 : Int).toNat).length (c0 - t672.toNat)] (by rfl) rfl rfl (by (try simp only [List.map_toArray, List.map_cons, List.map_nil]); first | done | (rw [show ((l0.take ((wrap64 (t672 + t671)) : Int).toNat).drop (t672 : Int).toNat).length = ((wrap64 (t672 + t671)).toNat - t672.toNat) from (by rw [List.length_drop, List.length_take]; have h_ : ((wrap64 (t672 + t671)) : Int) ≤ (l0.length : Int) := od_; omega)] <;> rfl) | rfl | (simp only [List.length_drop, List.length_take]; rfl)) ?_
     with_reducible refine (impl_GetItem.calls k1 _ _ ((l0.take ((wrap64 (t672 + t671)) : Int).toNat).drop (t672 : Int).toNat) t674 t675 t676 t677 t678 t679 t680 t681 t682 t683 t684 t685 t686 t687 t688 t689 t690 _ ?side1 ?side2 A37.out).mono ?_
     (case side1 => exact qC (Kd.C_below HR673.out HB.out))
     (case side2 => exact HC673.out)
     rintro e w42 ⟨rfl, hb⟩
     refine ⟨_, rfl, ?_⟩
     replace HO_669007 := rB_ HO_669007 hb
     replace BK652 := bK_ BK652 hb
     replace BK668 := bK_ BK668 hb
     replace BK691 := bK_ BK691 hb
     replace HB := bS_ HB hb
     replace HI653 := am_ (IsS131.below (IsS131.qz HI653) hb)
     (try clear hb)
     refine hK.out _ _ ((by obtain ⟨_, _, h_, _⟩ := HI653.out; exact cellS131_1 h_)) (fun hHeld => ?_)
     clear hK K
     refine nm_ (some 58) ?_
     refine pq_ 13 45 HT_ (rl [14,2,1,2]) ?_
     refine pq_ 14 59 HT_ (rl [15,1,1,2]) ?_
     refine pq_ 15 60 HT_ (rl [17,2]) ?_
     exact norm_ (by simp only [putAll, Act.put, List.setIfInBounds_toArray, List.set_cons_zero, List.set_cons_succ]) (hCont (gb691) _ ⟨hHeld, (xR1_ HO_669007), (qK BK652), (qK BK668), (qK BK691), GW691.out, GE691.out, NB653_691.out, NB691_653.out, NB652_691.out, NB691_652.out, NB668_691.out, NB691_668.out, (IsS131.qz HI653), (qB HB)⟩)
   rintro gb691 w43 ⟨hS_, h0_, h1_, h2_, h3_, h4_, h5_, h6_, h7_, h8_, h9_, h10_, h11_, h12_, h13_⟩
   have n0_ : Aside0 (Kd.R k126 126 w43 w.heap.size (fun k_ => k_ ≠ gb691) u669007 x669007_1) := ⟨h0_⟩
   have n1_ : Aside0 (w43.heap[gb652]? = some (.cells #[.int .i64 x653000_1, .int .i64 x653001_1, .int .i64 x653002_1, .int .i64 x653003_1, .int .i64 x653004_1, .bool x653005_1, .int .i64 x653006_1, .slice none 0 0] 63 (0, 0))) := ⟨h1_⟩
   have n2_ : Aside0 (w43.heap[gb668]? = some (.cells #[.int .i64 t654, .int .i64 t656, .int .i64 t658, .int .i64 t660, .int .i64 t662, .bool (t664 == 1), .int .i64 t666, u669007] 63 (0, 0))) := ⟨h2_⟩
   have n3_ : Aside0 (w43.heap[gb691]? = some (.cells #[.int .i64 0, .int .i64 0, .string (⟨#[]⟩ : ByteArray), .int .i64 0, .int .i64 0, .int .i64 0, .string (⟨#[]⟩ : ByteArray), .int .i64 0, .int .i64 0, .int .i64 0, .string (⟨#[]⟩ : ByteArray), .int .i64 0, .int .i64 0, .int .i64 0, .int .i64 0, .int .i64 0] 126 (0, 0))) := ⟨h3_⟩
   have n4_ : Aside0 (w.heap.size ≤ gb691) := ⟨h4_⟩
   have n5_ : Aside0 (w.heap.size ≤ gb691) := ⟨h5_⟩
   have n6_ : Aside0 (gb653 ≠ gb691) := ⟨h6_⟩
   have n7_ : Aside0 (gb691 ≠ gb653) := ⟨h7_⟩
   have n8_ : Aside0 (gb652 ≠ gb691) := ⟨h8_⟩
   have n9_ : Aside0 (gb691 ≠ gb652) := ⟨h9_⟩
   have n10_ : Aside0 (gb668 ≠ gb691) := ⟨h10_⟩
   have n11_ : Aside0 (gb691 ≠ gb668) := ⟨h11_⟩
   have n12_ : Aside0 (IsS131 w w43 gb653 l0 t672) := ⟨h12_⟩
   have n13_ : Aside0 (Below w.heap.size w w43) := ⟨h13_⟩
   clear HO_669007
   clear BK652
   clear BK668
   clear HI653
   clear HB
   clear h0_ h1_ h2_ h3_ h4_ h5_ h6_ h7_ h8_ h9_ h10_ h11_ h12_ h13_
   have HO_669007 := n0_
   have BK652 := n1_
   have BK668 := n2_
   have BK691 := n3_
   have GW691 := n4_
   have IGW691 := gI_ GW691
   have GE691 := n5_
   have IGE691 := gI_ GE691
   have NB653_691 := n6_
   have NB691_653 := n7_
   have NB652_691 := n8_
   have NB691_652 := n9_
   have NB668_691 := n10_
   have NB691_668 := n11_
   have HI653 := n12_
   have HB := n13_
   clear n0_ n1_ n2_ n3_ n4_ n5_ n6_ n7_ n8_ n9_ n10_ n11_ n12_ n13_
   have hHeld : w43.cell? ⟨gb653, 1, none⟩ = some (.int .i64 t672) := hS_
   refine norm_ (a' := ?_) ?_ ?_
   rotate_left
   ·
    simp only [putAll, Act.put, List.setIfInBounds_toArray, List.set_cons_zero, List.set_cons_succ]
    rfl
   refine on_ HT_ (i := 17) (N := none) (rl [18,1]) (fun K hK => ?_)
   have hs44 : w43.cell? ⟨gb691, 0, none⟩ = some (.int .i64 0) := (blk_cell BK691.out 0).trans rfl
   have hfs44 := blk_frozen BK691.out 0
   have hns44_0 := NB652_691.out
   have hns44_1 := NB668_691.out
   have hms44_0 := NB691_652.out
   have hms44_1 := NB691_668.out
   have hs45 : w43.cell? ⟨gb691, 1, none⟩ = some (.int .i64 0) := (blk_cell BK691.out 1).trans rfl
   have hfs45 := blk_frozen BK691.out 1
   have hns45_0 := NB652_691.out
   have hns45_1 := NB668_691.out
   have hms45_0 := NB691_652.out
   have hms45_1 := NB691_668.out
   have hs46 : w43.cell? ⟨gb691, 2, none⟩ = some (.string (⟨#[]⟩ : ByteArray)) := (blk_cell BK691.out 2).trans rfl
   have hfs46 := blk_frozen BK691.out 2
   have hns46_0 := NB652_691.out
   have hns46_1 := NB668_691.out
   have hms46_0 := NB691_652.out
   have hms46_1 := NB691_668.out
   have hs47 : w43.cell? ⟨gb691, 3, none⟩ = some (.int .i64 0) := (blk_cell BK691.out 3).trans rfl
   have hfs47 := blk_frozen BK691.out 3
   have hns47_0 := NB652_691.out
   have hns47_1 := NB668_691.out
   have hms47_0 := NB691_652.out
   have hms47_1 := NB691_668.out
   have hs48 : w43.cell? ⟨gb691, 4, none⟩ = some (.int .i64 0) := (blk_cell BK691.out 4).trans rfl
   have hfs48 := blk_frozen BK691.out 4
   have hns48_0 := NB652_691.out
   have hns48_1 := NB668_691.out
   have hms48_0 := NB691_652.out
   have hms48_1 := NB691_668.out
   have hs49 : w43.cell? ⟨gb691, 5, none⟩ = some (.int .i64 0) := (blk_cell BK691.out 5).trans rfl
   have hfs49 := blk_frozen BK691.out 5
   have hns49_0 := NB652_691.out
   have hns49_1 := NB668_691.out
   have hms49_0 := NB691_652.out
   have hms49_1 := NB691_668.out
   have hs50 : w43.cell? ⟨gb691, 6, none⟩ = some (.string (⟨#[]⟩ : ByteArray)) := (blk_cell BK691.out 6).trans rfl
   have hfs50 := blk_frozen BK691.out 6
   have hns50_0 := NB652_691.out
   have hns50_1 := NB668_691.out
   have hms50_0 := NB691_652.out
   have hms50_1 := NB691_668.out
   have hs51 : w43.cell? ⟨gb691, 7, none⟩ = some (.int .i64 0) := (blk_cell BK691.out 7).trans rfl
   have hfs51 := blk_frozen BK691.out 7
   have hns51_0 := NB652_691.out
   have hns51_1 := NB668_691.out
   have hms51_0 := NB691_652.out
   have hms51_1 := NB691_668.out
   have hs52 : w43.cell? ⟨gb691, 8, none⟩ = some (.int .i64 0) := (blk_cell BK691.out 8).trans rfl
   have hfs52 := blk_frozen BK691.out 8
   have hns52_0 := NB652_691.out
   have hns52_1 := NB668_691.out
   have hms52_0 := NB691_652.out
   have hms52_1 := NB691_668.out
   have hs53 : w43.cell? ⟨gb691, 9, none⟩ = some (.int .i64 0) := (blk_cell BK691.out 9).trans rfl
   have hfs53 := blk_frozen BK691.out 9
   have hns53_0 := NB652_691.out
   have hns53_1 := NB668_691.out
   have hms53_0 := NB691_652.out
   have hms53_1 := NB691_668.out
   have hs54 : w43.cell? ⟨gb691, 10, none⟩ = some (.string (⟨#[]⟩ : ByteArray)) := (blk_cell BK691.out 10).trans rfl
   have hfs54 := blk_frozen BK691.out 10
   have hns54_0 := NB652_691.out
   have hns54_1 := NB668_691.out
   have hms54_0 := NB691_652.out
   have hms54_1 := NB691_668.out
   have hs55 : w43.cell? ⟨gb691, 11, none⟩ = some (.int .i64 0) := (blk_cell BK691.out 11).trans rfl
   have hfs55 := blk_frozen BK691.out 11
   have hns55_0 := NB652_691.out
   have hns55_1 := NB668_691.out
   have hms55_0 := NB691_652.out
   have hms55_1 := NB691_668.out
   have hs56 : w43.cell? ⟨gb691, 12, none⟩ = some (.int .i64 0) := (blk_cell BK691.out 12).trans rfl
   have hfs56 := blk_frozen BK691.out 12
   have hns56_0 := NB652_691.out
   have hns56_1 := NB668_691.out
   have hms56_0 := NB691_652.out
   have hms56_1 := NB691_668.out
   have hs57 : w43.cell? ⟨gb691, 13, none⟩ = some (.int .i64 0) := (blk_cell BK691.out 13).trans rfl
   have hfs57 := blk_frozen BK691.out 13
   have hns57_0 := NB652_691.out
   have hns57_1 := NB668_691.out
   have hms57_0 := NB691_652.out
   have hms57_1 := NB691_668.out
   have hs58 : w43.cell? ⟨gb691, 14, none⟩ = some (.int .i64 0) := (blk_cell BK691.out 14).trans rfl
   have hfs58 := blk_frozen BK691.out 14
   have hns58_0 := NB652_691.out
   have hns58_1 := NB668_691.out
   have hms58_0 := NB691_652.out
   have hms58_1 := NB691_668.out
   have hs59 : w43.cell? ⟨gb691, 15, none⟩ = some (.int .i64 0) := (blk_cell BK691.out 15).trans rfl
   have hfs59 := blk_frozen BK691.out 15
   have hns59_0 := NB652_691.out
   have hns59_1 := NB668_691.out
   have hms59_0 := NB691_652.out
   have hms59_1 := NB691_668.out
   refine skip_ (w1 := ?_) (by rfl) rfl ?_ ?_
   rotate_left
   ·
    go_simp
    rfl
   refine hK.out _ _ (((cell_far (p := ⟨gb691, _, none⟩) (by first | exact NB653_691.out | (rw [add_block]; exact NB653_691.out) | (show (Addr.add _ _).block ≠ _; rw [add_block]; exact NB653_691.out) | (dsimp only; exact NB653_691.out)) _).trans (((cell_far (p := ⟨gb691, _, none⟩) (by first | exact NB653_691.out | (rw [add_block]; exact NB653_691.out) | (show (Addr.add _ _).block ≠ _; rw [add_block]; exact NB653_691.out) | (dsimp only; exact NB653_691.out)) _).trans (((cell_far (p := ⟨gb691, _, none⟩) (by first | exact NB653_691.out | (rw [add_block]; exact NB653_691.out) | (show (Addr.add _ _).block ≠ _; rw [add_block]; exact NB653_691.out) | (dsimp only; exact NB653_691.out)) _).trans (((cell_far (p := ⟨gb691, _, none⟩) (by first | exact NB653_691.out | (rw [add_block]; exact NB653_691.out) | (show (Addr.add _ _).block ≠ _; rw [add_block]; exact NB653_691.out) | (dsimp only; exact NB653_691.out)) _).trans (((cell_far (p := ⟨gb691, _, none⟩) (by first | exact NB653_691.out | (rw [add_block]; exact NB653_691.out) | (show (Addr.add _ _).block ≠ _; rw [add_block]; exact NB653_691.out) | (dsimp only; exact NB653_691.out)) _).trans (((cell_far (p := ⟨gb691, _, none⟩) (by first | exact NB653_691.out | (rw [add_block]; exact NB653_691.out) | (show (Addr.add _ _).block ≠ _; rw [add_block]; exact NB653_691.out) | (dsimp only; exact NB653_691.out)) _).trans (((cell_far (p := ⟨gb691, _, none⟩) (by first | exact NB653_691.out | (rw [add_block]; exact NB653_691.out) | (show (Addr.add _ _).block ≠ _; rw [add_block]; exact NB653_691.out) | (dsimp only; exact NB653_691.out)) _).trans (((cell_far (p := ⟨gb691, _, none⟩) (by first | exact NB653_691.out | (rw [add_block]; exact NB653_691.out) | (show (Addr.add _ _).block ≠ _; rw [add_block]; exact NB653_691.out) | (dsimp only; exact NB653_691.out)) _).trans (((cell_far (p := ⟨gb691, _, none⟩) (by first | exact NB653_691.out | (rw [add_block]; exact NB653_691.out) | (show (Addr.add _ _).block ≠ _; rw [add_block]; exact NB653_691.out) | (dsimp only; exact NB653_691.out)) _).trans (((cell_far (p := ⟨gb691, _, none⟩) (by first | exact NB653_691.out | (rw [add_block]; exact NB653_691.out) | (show (Addr.add _ _).block ≠ _; rw [add_block]; exact NB653_691.out) | (dsimp only; exact NB653_691.out)) _).trans (((cell_far (p := ⟨gb691, _, none⟩) (by first | exact NB653_691.out | (rw [add_block]; exact NB653_691.out) | (show (Addr.add _ _).block ≠ _; rw [add_block]; exact NB653_691.out) | (dsimp only; exact NB653_691.out)) _).trans (((cell_far (p := ⟨gb691, _, none⟩) (by first | exact NB653_691.out | (rw [add_block]; exact NB653_691.out) | (show (Addr.add _ _).block ≠ _; rw [add_block]; exact NB653_691.out) | (dsimp only; exact NB653_691.out)) _).trans (((cell_far (p := ⟨gb691, _, none⟩) (by first | exact NB653_691.out | (rw [add_block]; exact NB653_691.out) | (show (Addr.add _ _).block ≠ _; rw [add_block]; exact NB653_691.out) | (dsimp only; exact NB653_691.out)) _).trans (((cell_far (p := ⟨gb691, _, none⟩) (by first | exact NB653_691.out | (rw [add_block]; exact NB653_691.out) | (show (Addr.add _ _).block ≠ _; rw [add_block]; exact NB653_691.out) | (dsimp only; exact NB653_691.out)) _).trans (((cell_far (p := ⟨gb691, _, none⟩) (by first | exact NB653_691.out | (rw [add_block]; exact NB653_691.out) | (show (Addr.add _ _).block ≠ _; rw [add_block]; exact NB653_691.out) | (dsimp only; exact NB653_691.out)) _).trans (((cell_far (p := ⟨gb691, _, none⟩) (by first | exact NB653_691.out | (rw [add_block]; exact NB653_691.out) | (show (Addr.add _ _).block ≠ _; rw [add_block]; exact NB653_691.out) | (dsimp only; exact NB653_691.out)) _).trans (hHeld))))))))))))))))))))))))))))))))) (fun hHeld => ?_)
   clear hK K
   refine pq_ 18 8 HT_ (rl [19]) ?_
   refine done_ (done_of HT_.out (by kernel_rfl)) ?_
   have hnb60 := NB668_652.out
   have hnc60 := NB652_668.out
   have hnb61 := NB668_691.out
   have hnc61 := NB691_668.out
   have hnb62 := NB668_653.out
   have hnc62 := NB653_668.out
   (try clear zK668)
   have zK668 := cz8 BK668.out
   (try clear fK668)
   have fK668 := fz8 BK668.out
   have hnb64 := NB691_652.out
   have hnc64 := NB652_691.out
   have hnb65 := NB691_653.out
   have hnc65 := NB653_691.out
   (try clear zK691)
   have zK691 := cz16 BK691.out
   (try clear fK691)
   have fK691 := fz16 BK691.out
   try go_wp2_with (first | ((with_reducible refine gate_builtin (b := .append) (xs := #[.tmp 62, .tmp 64]) rfl ?_); at_builtin; refine Kd.R_append k126 (w0 := w) w.heap.size rfl (.tmp 62) (.tmp 64) 61 126 (.agg #[(.int .i64 0), (.int .i64 0), (.string ⟨#[]⟩), (.int .i64 0), (.int .i64 0), (.int .i64 0), (.string ⟨#[]⟩), (.int .i64 0), (.int .i64 0), (.int .i64 0), (.string ⟨#[]⟩), (.int .i64 0), (.int .i64 0), (.int .i64 0), (.int .i64 0), (.int .i64 0)]) 152 rfl Try.underlying61 info126 rfl (by decide) (by omega) u669007 x669007_1 (⟨t674, (⟨t675, t676, t677, t678, t679, t680, t681, t682⟩ : S90), (⟨t683, t684, t685, t686, t687, t688, t689⟩ : S124)⟩ : S126) [.int .i64 t674, .int .i64 t675, .string t676, .int .i64 t677, .int .i64 t678, .int .i64 t679, .string t680, .int .i64 t681, .int .i64 t682, .int .i64 t683, .string t684, .int .i64 t685, .int .i64 t686, .int .i64 t687, .int .i64 t688, .int .i64 t689] (fun k_ => k_ ≠ gb691) (fun _ => False) rfl (by first | (go_simp; done) | (go_simp; rfl)) ?aP (fun _ hk => hk.elim) ?aF ?aO ?aB ?aS ?aL ?_; (case aP => exact k126_mkM _ _ _ (⟨t674, (⟨t675, t676, t677, t678, t679, t680, t681, t682⟩ : S90), (⟨t683, t684, t685, t686, t687, t688, t689⟩ : S124)⟩ : S126)); (case aB => exact (qB HB)); (case aF => exact (fun k_ hk => Kd.freshB (g := gb691) (o := .cells #[.int .i64 t674, .int .i64 t675, .string t676, .int .i64 t677, .int .i64 t678, .int .i64 t679, .string t680, .int .i64 t681, .int .i64 t682, .int .i64 t683, .string t684, .int .i64 t685, .int .i64 t686, .int .i64 t687, .int .i64 t688, .int .i64 t689] 126 (0, 0)) (by exact blk_all16 (qK BK691)) k_ hk)); (case aO => exact (gR1_ (g := gb691) HO_669007)); (case aS => exact (below_size (qB HB))); (case aL => have := LMc38.out; omega); intro v693 w67 ho hb hg hat; rw [← Ny692.out] at ho; replace BK652 := am_ (blk_grown (g := gb652) (o := .cells #[.int .i64 x653000_1, .int .i64 x653001_1, .int .i64 x653002_1, .int .i64 x653003_1, .int .i64 x653004_1, .bool x653005_1, .int .i64 x653006_1, .slice none 0 0] 63 (0, 0)) (by (with_reducible repeat (first | refine blk_drewN ?_ _ | refine blk_drew ?_ | refine blk_alloc ?_ _)); refine blk_far16 ?_ NB652_691.out; exact qK BK652) hg (Kd.R_ne HO_669007.out BK652.out (by decide))); replace BK668 := am_ (blk_grown (g := gb668) (o := .cells #[.int .i64 t654, .int .i64 t656, .int .i64 t658, .int .i64 t660, .int .i64 t662, .bool (t664 == 1), .int .i64 t666, u669007] 63 (0, 0)) (by (with_reducible repeat (first | refine blk_drewN ?_ _ | refine blk_drew ?_ | refine blk_alloc ?_ _)); refine blk_far16 ?_ NB668_691.out; exact qK BK668) hg (Kd.R_ne HO_669007.out BK668.out (by decide))); replace HI653 := am_ (IsS131.grown (IsS131.qz HI653) hg (IsS131.own_ne HI653.out HO_669007.out (by decide))); replace BK691 := am_ (blk_grown (g := gb691) (o := .cells #[.int .i64 t674, .int .i64 t675, .string t676, .int .i64 t677, .int .i64 t678, .int .i64 t679, .string t680, .int .i64 t681, .int .i64 t682, .int .i64 t683, .string t684, .int .i64 t685, .int .i64 t686, .int .i64 t687, .int .i64 t688, .int .i64 t689] 126 (0, 0)) (by exact blk_all16 (qK BK691)) hg (Kd.R_away HO_669007.out (fun _ hk => hk))); replace HB := am_ (hb); have HO694 := am_ (ho); clear HO_669007; clear ho hb hg hat; obtain ⟨Ao68, co68, eo68⟩ := Kd.R_slice HO694.out; subst eo68; (try clear zK668); have zK668 := cz8 BK668.out; (try clear fK668); have fK668 := fz8 BK668.out; obtain ⟨ASz70_0, cSz70_0, HGz70, hgz70, HSz70_0⟩ := HI653.out; obtain ⟨HSz70_0, HQz70_0⟩ := HSz70_0; have z70_0 := cellS131_0 HGz70; have z70_1 := cellS131_1 HGz70; have f70_1 := blk_frozen HGz70 1; clear HGz70 hgz70))
   go_roundg k1
   case measure => have := HK1.out; omega
   case rel => exact ⟨(wrap64 (x31_1 + 1)), (x653000_1), (x653001_1), (x653002_1), (x653003_1), (x653004_1), (x653005_1), (x653006_1), (wrap64 (t672 + t671)), (y692), (.slice Ao68 y692.length co68), eqq_, H', ⟨by have := HK1.out; omega⟩, ⟨by (with_reducible repeat (first | apply Kd.R_alloc | apply Kd.R_drewN | apply Kd.R_drew)); exact Kd.R_mono (Kd.R_far (p := ⟨gb653, 1, none⟩) (Kd.R_far (p := ⟨gb668, 7, none⟩) (IsS131.apart HI653.out (Kd.R_types HO694.out BK668.out (by decide)) (by decide)) (fun _ hk => hk.1.2) (.slice Ao68 y692.length co68)) (fun _ hk => hk.2) (.int .i64 (wrap64 (t672 + t671)))) (fun _ hk => trivial)⟩, ⟨by (with_reducible repeat (first | refine blk_drewN ?_ _ | refine blk_drew ?_ | refine blk_alloc ?_ _)); refine blk_far ?_ NB652_653.out _; (with_reducible repeat (first | refine blk_drewN ?_ _ | refine blk_drew ?_ | refine blk_alloc ?_ _)); refine blk_far ?_ NB652_668.out _; exact qK BK652⟩, ⟨by (with_reducible repeat (first | refine blk_drewN ?_ _ | refine blk_drew ?_ | refine blk_alloc ?_ _)); refine blk_far ?_ NB668_653.out _; (with_reducible repeat (first | refine blk_drewN ?_ _ | refine blk_drew ?_ | refine blk_alloc ?_ _)); refine blk_put (cs := #[.int .i64 t654, .int .i64 t656, .int .i64 t658, .int .i64 t660, .int .i64 t662, .bool (t664 == 1), .int .i64 t666, u669007]) ?_ 7 _ rfl; exact qK BK668⟩, ⟨IsS131.qz HI653⟩, ⟨qB HB⟩⟩

end Go.Proofs.Ytiffahfpfgnjnab.PFnExactGetCtl
