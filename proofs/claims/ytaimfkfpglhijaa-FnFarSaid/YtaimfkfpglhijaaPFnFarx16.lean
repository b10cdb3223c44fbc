-- Written by a program of this session (myprint.py, over the kit's print): contracts of FnFar
import Derived.Test.YtaimfkfpglhijaaPFnFarx0
import Derived.Test.YtaimfkfpglhijaaPFnFarx3
import Derived.Test.YtaimfkfpglhijaaPFnFarx13
import Derived.Test.YtaimfkfpglhijaaPFnFarx14
import Derived.Test.YtaimfkfpglhijaaPFnFarx15
namespace Go.Proofs.Ytaimfkfpglhijaa.PFnFar
open Go.RowKit Go.Proofs.YtaimfkfpglhijaaW.PrintWords Go.Proofs.YtaimfkfpglhijaaW.PrintLast Go.Proofs.YtaimfkfpglhijaaW.PrintMore Go.Proofs.YtaimfkfpglhijaaV
attribute [local go_sem] max2_int min2_int max_two min_two max_three min_three max_four min_four   -- for this text's walks alone
set_option linter.unusedVariables false
set_option linter.unusedSimpArgs false

/-! ### spec_Answer: function 26 -/
mutual
def spec_Answer.j0 : Nat → Bool → Int → Int → Int → Bool → List Int → List Int → Int → Int → Int → Int → Int → Bool → List Int → List Int → Int → Int → Option (Int × Int × Int × Bool × List Int × List Int × Int × Int × Bool)
 | 0, _, _, _, _, _, _, _, _, _, _, _, _, _, _, _, _, _ => none
 | k + 1, x23, x600000, x600001, x600002, x600003, x600004, x600005, x600006, x600007, x614000, x614001, x614002, x614003, x614004, x614005, x614006, x614007 => if x23 = true then (some (x614000, x614001, x614002, x614003, x614004, x614005, x614006, x614007, false)) else (if 0 ≤ x600007 then (if x600007 ≤ (x600005.length : Int) then ((spec_GetFrame.f k (x600005.drop (x600007 : Int).toNat)).bind fun bt616 => (if bt616.2.2.2.2 = 0 then (if bt616.1 = 2 then ((spec_AnswerTo.f k x600006 bt616.2.1).bind fun t625 => ((spec_WordOf.f bt616.2.1).bind fun t628 => ((spec_NextSt.f k x600006 t628).bind fun t629 => (spec_Answer.j1 k bt616.2.2.2.1 t625 x600000 x600001 x600002 x600003 x600004 x600005 x600006 x600007 x614000 x614001 x614002 x614003 x614004 x614005 t629 x614007)))) else (spec_Answer.j1 k bt616.2.2.2.1 (([(⟨6, (⟨#[102, 111, 114, 109]⟩ : ByteArray), 0⟩ : S47), (⟨5, (⟨#[]⟩ : ByteArray), x600006⟩ : S47)] : List (S47))) x600000 x600001 x600002 x600003 x600004 x600005 x600006 x600007 x614000 x614001 x614002 x614003 x614004 x614005 x614006 x614007)) else (some (x614000, x614001, x614002, x614003, x614004, x614005, x614006, x614007, false)))) else (none)) else (none))
def spec_Answer.j1 : Nat → Int → List (S47) → Int → Int → Int → Bool → List Int → List Int → Int → Int → Int → Int → Int → Bool → List Int → List Int → Int → Int → Option (Int × Int × Int × Bool × List Int × List Int × Int × Int × Bool)
 | 0, _, _, _, _, _, _, _, _, _, _, _, _, _, _, _, _, _, _ => none
 | k + 1, x6, x8, x600000, x600001, x600002, x600003, x600004, x600005, x600006, x600007, x614000, x614001, x614002, x614003, x614004, x614005, x614006, x614007 => if 0 < (x8.length : Int) then ((spec_PutFrame.f k ((rd_T47 x8 0).f0) ((rd_T47 x8 0).f1) ((rd_T47 x8 0).f2)).bind fun t631 => (if 1 < (x8.length : Int) then ((spec_PutFrame.f k ((rd_T47 x8 1).f0) ((rd_T47 x8 1).f1) ((rd_T47 x8 1).f2)).bind fun t635 => (if t631.length + t635.length < 140737488355328 then ((some (t631 ++ t635 : List Int)).bind fun y638 => (if (y638.length : Int) > (wrap64 (240 - (x600004.length : Int))) then ((spec_l8Copy.f x600000 x600001 x600002 x600003 x600004 x600005 x600006 x600007).bind fun bt641 => (some (bt641.1, bt641.2.1, bt641.2.2.1, bt641.2.2.2.1, bt641.2.2.2.2.1, bt641.2.2.2.2.2.1, bt641.2.2.2.2.2.2.1, bt641.2.2.2.2.2.2.2, false))) else (if x614004.length + y638.length < 140737488355328 then (some (x614000, x614001, x614002, x614003, (x614004 ++ y638), x614005, x614006, wrap64 (x600007 + x6), true)) else (none)))) else (none))) else (none))) else (none)
end
def spec_Answer.f (k : Nat) (a0_0 : Int) (a0_1 : Int) (a0_2 : Int) (a0_3 : Bool) (l0_4 : List Int) (l0_5 : List Int) (a0_6 : Int) (a0_7 : Int) : Option (Int × Int × Int × Bool × List Int × List Int × Int × Int × Bool) := (spec_l8Copy.f a0_0 a0_1 a0_2 a0_3 l0_4 l0_5 a0_6 a0_7).bind fun bt601 => ((spec_SockOk.f k a0_0 a0_1 a0_2 a0_3 l0_4 l0_5 a0_6 a0_7).bind fun t614 => (if t614 = true then (if a0_1 = 2 then (spec_Answer.j0 k a0_3 a0_0 a0_1 a0_2 a0_3 l0_4 l0_5 a0_6 a0_7 bt601.1 bt601.2.1 bt601.2.2.1 bt601.2.2.2.1 bt601.2.2.2.2.1 bt601.2.2.2.2.2.1 bt601.2.2.2.2.2.2.1 bt601.2.2.2.2.2.2.2) else (spec_Answer.j0 k true a0_0 a0_1 a0_2 a0_3 l0_4 l0_5 a0_6 a0_7 bt601.1 bt601.2.1 bt601.2.2.1 bt601.2.2.2.1 bt601.2.2.2.2.1 bt601.2.2.2.2.2.1 bt601.2.2.2.2.2.2.1 bt601.2.2.2.2.2.2.2)) else (spec_Answer.j0 k true a0_0 a0_1 a0_2 a0_3 l0_4 l0_5 a0_6 a0_7 bt601.1 bt601.2.1 bt601.2.2.1 bt601.2.2.2.1 bt601.2.2.2.2.1 bt601.2.2.2.2.2.1 bt601.2.2.2.2.2.2.1 bt601.2.2.2.2.2.2.2)))
theorem spec_Answer.mono_l : ∀ k, (∀ y0 y1 y2 y3 y4 y5 y6 y7 y8 y9 y10 y11 y12 y13 y14 y15 y16, LeO (spec_Answer.j0 k y0 y1 y2 y3 y4 y5 y6 y7 y8 y9 y10 y11 y12 y13 y14 y15 y16) (spec_Answer.j0 (k + 1) y0 y1 y2 y3 y4 y5 y6 y7 y8 y9 y10 y11 y12 y13 y14 y15 y16)) ∧ (∀ y0 y1 y2 y3 y4 y5 y6 y7 y8 y9 y10 y11 y12 y13 y14 y15 y16 y17, LeO (spec_Answer.j1 k y0 y1 y2 y3 y4 y5 y6 y7 y8 y9 y10 y11 y12 y13 y14 y15 y16 y17) (spec_Answer.j1 (k + 1) y0 y1 y2 y3 y4 y5 y6 y7 y8 y9 y10 y11 y12 y13 y14 y15 y16 y17))
 | 0 => ⟨fun _ _ _ _ _ _ _ _ _ _ _ _ _ _ _ _ _ r h => by simp [spec_Answer.j0] at h, fun _ _ _ _ _ _ _ _ _ _ _ _ _ _ _ _ _ _ r h => by simp [spec_Answer.j1] at h⟩
 | k + 1 => by
  obtain ⟨ih0, ih1⟩ := spec_Answer.mono_l k
  refine ⟨?_, ?_⟩
  ·
   intro y0 y1 y2 y3 y4 y5 y6 y7 y8 y9 y10 y11 y12 y13 y14 y15 y16
   unfold spec_Answer.j0
   repeat' first
   | (with_reducible exact ih0 _ _ _ _ _ _ _ _ _ _ _ _ _ _ _ _ _)
   | (with_reducible exact ih1 _ _ _ _ _ _ _ _ _ _ _ _ _ _ _ _ _ _)
   | (with_reducible exact spec_AnswerTo.mono _ _ _)
   | (with_reducible exact spec_GetFrame.mono _ _)
   | (with_reducible exact spec_NextSt.mono _ _ _)
   | (with_reducible exact spec_PutFrame.mono _ _ _ _)
   | (with_reducible exact spec_SockOk.mono _ _ _ _ _ _ _ _ _)
   | (with_reducible exact LeO.refl _)
   | (with_reducible exact LeO.none _)
   | (with_reducible refine LeO.ite ?_ ?_)
   | (with_reducible refine LeO.bind ?_ (fun _ => ?_))
   | exact ih0 _ _ _ _ _ _ _ _ _ _ _ _ _ _ _ _ _
   | exact ih1 _ _ _ _ _ _ _ _ _ _ _ _ _ _ _ _ _ _
   | exact spec_AnswerTo.mono _ _ _
   | exact spec_GetFrame.mono _ _
   | exact spec_NextSt.mono _ _ _
   | exact spec_PutFrame.mono _ _ _ _
   | exact spec_SockOk.mono _ _ _ _ _ _ _ _ _
   | exact LeO.none _
   | refine LeO.ite ?_ ?_
   | refine LeO.bind ?_ (fun _ => ?_)
  ·
   intro y0 y1 y2 y3 y4 y5 y6 y7 y8 y9 y10 y11 y12 y13 y14 y15 y16 y17
   unfold spec_Answer.j1
   repeat' first
   | (with_reducible exact ih0 _ _ _ _ _ _ _ _ _ _ _ _ _ _ _ _ _)
   | (with_reducible exact ih1 _ _ _ _ _ _ _ _ _ _ _ _ _ _ _ _ _ _)
   | (with_reducible exact spec_AnswerTo.mono _ _ _)
   | (with_reducible exact spec_GetFrame.mono _ _)
   | (with_reducible exact spec_NextSt.mono _ _ _)
   | (with_reducible exact spec_PutFrame.mono _ _ _ _)
   | (with_reducible exact spec_SockOk.mono _ _ _ _ _ _ _ _ _)
   | (with_reducible exact LeO.refl _)
   | (with_reducible exact LeO.none _)
   | (with_reducible refine LeO.ite ?_ ?_)
   | (with_reducible refine LeO.bind ?_ (fun _ => ?_))
   | exact ih0 _ _ _ _ _ _ _ _ _ _ _ _ _ _ _ _ _
   | exact ih1 _ _ _ _ _ _ _ _ _ _ _ _ _ _ _ _ _ _
   | exact spec_AnswerTo.mono _ _ _
   | exact spec_GetFrame.mono _ _
   | exact spec_NextSt.mono _ _ _
   | exact spec_PutFrame.mono _ _ _ _
   | exact spec_SockOk.mono _ _ _ _ _ _ _ _ _
   | exact LeO.none _
   | refine LeO.ite ?_ ?_
   | refine LeO.bind ?_ (fun _ => ?_)
theorem spec_Answer.mono : ∀ a0 a1 a2 a3 a4 a5 a6 a7 k, LeO (spec_Answer.f k a0 a1 a2 a3 a4 a5 a6 a7) (spec_Answer.f (k + 1) a0 a1 a2 a3 a4 a5 a6 a7) := by
 intro a0 a1 a2 a3 a4 a5 a6 a7 k
 obtain ⟨ih0, ih1⟩ := spec_Answer.mono_l k
 unfold spec_Answer.f
 repeat' first
   | (with_reducible exact ih0 _ _ _ _ _ _ _ _ _ _ _ _ _ _ _ _ _)
   | (with_reducible exact ih1 _ _ _ _ _ _ _ _ _ _ _ _ _ _ _ _ _ _)
   | (with_reducible exact spec_AnswerTo.mono _ _ _)
   | (with_reducible exact spec_GetFrame.mono _ _)
   | (with_reducible exact spec_NextSt.mono _ _ _)
   | (with_reducible exact spec_PutFrame.mono _ _ _ _)
   | (with_reducible exact spec_SockOk.mono _ _ _ _ _ _ _ _ _)
   | (with_reducible exact LeO.refl _)
   | (with_reducible exact LeO.none _)
   | (with_reducible refine LeO.ite ?_ ?_)
   | (with_reducible refine LeO.bind ?_ (fun _ => ?_))
   | exact ih0 _ _ _ _ _ _ _ _ _ _ _ _ _ _ _ _ _
   | exact ih1 _ _ _ _ _ _ _ _ _ _ _ _ _ _ _ _ _ _
   | exact spec_AnswerTo.mono _ _ _
   | exact spec_GetFrame.mono _ _
   | exact spec_NextSt.mono _ _ _
   | exact spec_PutFrame.mono _ _ _ _
   | exact spec_SockOk.mono _ _ _ _ _ _ _ _ _
   | exact LeO.none _
   | refine LeO.ite ?_ ?_
   | refine LeO.bind ?_ (fun _ => ?_)
def spec_Answer.T10 : Bool × List (List Nat × List Nat) := (true, [([], []), ([0], [0]), ([], []), ([2], [2]), ([3], [3]), ([1, 4, 4], [1, 4]), ([0, 1, 2, 3, 4, 5], []), ([6, 5, 5, 0, 1, 2, 3, 4, 5], [5, 6])])
def spec_Answer.B10 : List Nat := [0, 1, 0, 4, 12, 31, 63, 127]
theorem spec_Answer.tab10 : rtab .any (opsOf Try.f26 10) = spec_Answer.T10 := by kernel_rfl
theorem spec_Answer.bits10 : waitsOk spec_Answer.T10.2 spec_Answer.B10 = true := by kernel_rfl
def spec_Answer.T11 : Bool × List (List Nat × List Nat) := (true, [([], []), ([0], [0]), ([1], [1]), ([2], [2]), ([], []), ([4], [4]), ([5], [5]), ([6, 3], [6]), ([3, 7, 7], [3, 7]), ([8, 8, 0, 1, 2, 3, 4, 5, 6, 7, 8], [8])])
def spec_Answer.B11 : List Nat := [0, 1, 3, 7, 0, 16, 48, 127, 255, 511]
theorem spec_Answer.tab11 : rtab .any (opsOf Try.f26 11) = spec_Answer.T11 := by kernel_rfl
theorem spec_Answer.bits11 : waitsOk spec_Answer.T11.2 spec_Answer.B11 = true := by kernel_rfl
set_option maxHeartbeats 8000000 in
set_option maxRecDepth 100000 in
theorem spec_Answer.calls (k : Nat) (a0_0 : Int) (a0_1 : Int) (a0_2 : Int) (a0_3 : Bool) (A0_4 : Option Addr) (c0_4 : Nat) (l0_4 : List Int) (A0_5 : Option Addr) (c0_5 : Nat) (l0_5 : List Int) (a0_6 : Int) (a0_7 : Int) (r1 : Int) (r2 : Int) (r3 : Int) (r4 : Bool) (r5 : List Int) (r6 : List Int) (r7 : Int) (r8 : Int) (r9 : Bool) (w : World) (hr0_4 : Kd.C (Kd.int .u8) w A0_4 l0_4.length l0_4) (hc0_4 : l0_4.length ≤ c0_4) (hr0_5 : Kd.C (Kd.int .u8) w A0_5 l0_5.length l0_5) (hc0_5 : l0_5.length ≤ c0_5) (h : spec_Answer.f k a0_0 a0_1 a0_2 a0_3 l0_4 l0_5 a0_6 a0_7 = some (r1, r2, r3, r4, r5, r6, r7, r8, r9)) :
  Calls Try.prog 26 #[.agg #[.int .i64 a0_0, .int .i64 a0_1, .int .i64 a0_2, .bool a0_3, .slice A0_4 l0_4.length c0_4, .slice A0_5 l0_5.length c0_5, .int .i64 a0_6, .int .i64 a0_7]] w fun e w' => ∃ v4_ v5_ : Value, e = .returned (.tuple #[.agg #[.int .i64 r1, .int .i64 r2, .int .i64 r3, .bool r4, v4_, v5_, .int .i64 r7, .int .i64 r8], .bool r9]) ∧ Kd.R (Kd.int .u8) 5 w' w.heap.size (fun k_ => some k_ ≠ (v5_ : Value).ownBlock) v4_ r5 ∧ Kd.R (Kd.int .u8) 5 w' w.heap.size (fun k_ => some k_ ≠ (v4_ : Value).ownBlock) v5_ r6 ∧ Below w.heap.size w w' := by
 have hu41 := Try.underlying41
 have hu47 := Try.underlying47
 have HR0_4 := Aside0.mk hr0_4
 have HC0_4 := Aside0.mk hc0_4
 clear hr0_4 hc0_4
 have HR0_5 := Aside0.mk hr0_5
 have HC0_5 := Aside0.mk hc0_5
 clear hr0_5 hc0_5
 have HB := Aside0.mk (Below.refl w.heap.size w)
 have H : ((spec_l8Copy.f a0_0 a0_1 a0_2 a0_3 l0_4 l0_5 a0_6 a0_7).bind fun bt601 => ((spec_SockOk.f k a0_0 a0_1 a0_2 a0_3 l0_4 l0_5 a0_6 a0_7).bind fun t614 => (if t614 = true then (if a0_1 = 2 then (spec_Answer.j0 k a0_3 a0_0 a0_1 a0_2 a0_3 l0_4 l0_5 a0_6 a0_7 bt601.1 bt601.2.1 bt601.2.2.1 bt601.2.2.2.1 bt601.2.2.2.2.1 bt601.2.2.2.2.2.1 bt601.2.2.2.2.2.2.1 bt601.2.2.2.2.2.2.2) else (spec_Answer.j0 k true a0_0 a0_1 a0_2 a0_3 l0_4 l0_5 a0_6 a0_7 bt601.1 bt601.2.1 bt601.2.2.1 bt601.2.2.2.1 bt601.2.2.2.2.1 bt601.2.2.2.2.2.1 bt601.2.2.2.2.2.2.1 bt601.2.2.2.2.2.2.2)) else (spec_Answer.j0 k true a0_0 a0_1 a0_2 a0_3 l0_4 l0_5 a0_6 a0_7 bt601.1 bt601.2.1 bt601.2.2.1 bt601.2.2.2.1 bt601.2.2.2.2.1 bt601.2.2.2.2.2.1 bt601.2.2.2.2.2.2.1 bt601.2.2.2.2.2.2.2)))) = some (r1, r2, r3, r4, r5, r6, r7, r8, r9) := h
 clear h
 obtain ⟨⟨t601, t602, t603, t604, t605, t608, t611, t612⟩, A2, H⟩ := bd_ H
 (try dsimp only at H)
 have HC3 := Aside0.mk H
 clear H
 go_enter Try.func26, Try.ntmps26
 go_upto_region 2 with (first | ((with_reducible refine gate_dst (N := 1) rfl ?_); refine box_event ?hg (N := 1) ?hd (cs := #[.int .i64 a0_0, .int .i64 a0_1, .int .i64 a0_2, .bool a0_3, .slice A0_4 l0_4.length c0_4, .slice A0_5 l0_5.length c0_5, .int .i64 a0_6, .int .i64 a0_7]) (t := 41) ?hr ?_; (case hd => rfl); (case hg => rfl); (case hr => first | (go_simp; done) | (go_simp; rfl)); intro gb599 hg w4 hbox hb; have BK599 := am_ (hbox); have GW599 := am_ ((gG_ hg (qB HB))); have IGW599 := gI_ GW599; have GE599 := am_ ((gG_ hg (qB HB))); have IGE599 := gI_ GE599; replace HB := am_ (below_step (qB HB) hb); clear hb hbox hg) | ((with_reducible refine gate_dst (N := 2) rfl ?_); refine box_event ?hg (N := 2) ?hd (cs := #[.int .i64 0, .int .i64 0, .int .i64 0, .bool false, .slice none 0 0, .slice none 0 0, .int .i64 0, .int .i64 0]) (t := 41) ?hr ?_; (case hd => rfl); (case hg => rfl); (case hr => first | (go_simp; done) | (go_simp; rfl)); intro gb600 hg w5 hbox hb; have BK600 := am_ (hbox); have GW600 := am_ ((gG_ hg (qB HB))); have IGW600 := gI_ GW600; have GE600 := am_ ((gG_ hg (qB HB))); have IGE600 := gI_ GE600; replace HB := am_ (below_step (qB HB) hb); have NB599_600 := am_ ((gN_ hg (qK BK599))); have NB600_599 := am_ ((gM_ hg (qK BK599))); replace BK599 := am_ (blk_below (qK BK599) hb); clear hb hbox hg; have hnb6 := NB599_600.out; have hnc6 := NB600_599.out; obtain ⟨z7_0, z7_1, z7_2, z7_3, z7_4, z7_5, z7_6, z7_7⟩ := cz8 BK599.out; obtain ⟨f7_0, f7_1, f7_2, f7_3, f7_4, f7_5, f7_6, f7_7⟩ := fz8 BK599.out) | ((with_reducible refine gate_callee (f := 130) rfl ?_); refine goesL_ (some 11) rfl rfl Try.func130 (by kernel_rfl) rfl #[.agg #[.int .i64 a0_0, .int .i64 a0_1, .int .i64 a0_2, .bool a0_3, .slice A0_4 l0_4.length c0_4, .slice A0_5 l0_5.length c0_5, .int .i64 a0_6, .int .i64 a0_7]] rfl la_ ?_; (with_reducible refine (spec_l8Copy.calls a0_0 a0_1 a0_2 a0_3 _ _ l0_4 _ _ l0_5 a0_6 a0_7 t601 t602 t603 t604 t605 t608 t611 t612 _ ?side1 ?side2 ?side3 ?side4 A2.out).mono ?_); (case side1 => exact qC (Kd.C_below HR0_4.out HB.out)); (case side2 => exact HC0_4.out); (case side3 => exact qC (Kd.C_below HR0_5.out HB.out)); (case side4 => exact HC0_5.out); rintro e w8 ⟨v606, v609, rfl, ho0, ho1, hb⟩; refine ⟨_, rfl, ?_⟩; have HO607 := am_ (Kd.R_lower ho0 (below_size (qB HB))); have HO610 := am_ (Kd.R_lower ho1 (below_size (qB HB))); replace BK599 := am_ (blk_below (qK BK599) hb); replace BK600 := am_ (blk_below (qK BK600) hb); replace HB := am_ (below_step (qB HB) hb); (try clear hb); (try clear hb2); (try clear hk); (try clear hi); (try clear ho0); (try clear ho1)) | ((with_reducible refine gate_dst (N := 4) rfl ?_); refine box_event ?hg (N := 4) ?hd (cs := #[.int .i64 0, .int .i64 0, .int .i64 0, .bool false, .slice none 0 0, .slice none 0 0, .int .i64 0, .int .i64 0]) (t := 41) ?hr ?_; (case hd => rfl); (case hg => rfl); (case hr => first | (go_simp; done) | (go_simp; rfl)); intro gb613 hg w9 hbox hb; replace HO607 := am_ (Kd.R_below (qR HO607) hb); replace HO610 := am_ (Kd.R_below (qR HO610) hb); have BK613 := am_ (hbox); have GW613 := am_ ((gG_ hg (qB HB))); have IGW613 := gI_ GW613; have GE613 := am_ ((gG_ hg (qB HB))); have IGE613 := gI_ GE613; replace HB := am_ (below_step (qB HB) hb); have NB599_613 := am_ ((gN_ hg (qK BK599))); have NB613_599 := am_ ((gM_ hg (qK BK599))); replace BK599 := am_ (blk_below (qK BK599) hb); have NB600_613 := am_ ((gN_ hg (qK BK600))); have NB613_600 := am_ ((gM_ hg (qK BK600))); replace BK600 := am_ (blk_below (qK BK600) hb); clear hb hbox hg; have hnb10 := NB613_599.out; have hnc10 := NB599_613.out; have hnb11 := NB613_600.out; have hnc11 := NB600_613.out; obtain ⟨z12_0, z12_1, z12_2, z12_3, z12_4, z12_5, z12_6, z12_7⟩ := cz8 BK613.out; obtain ⟨f12_0, f12_1, f12_2, f12_3, f12_4, f12_5, f12_6, f12_7⟩ := fz8 BK613.out; obtain ⟨Ao13, co13, eo13⟩ := Kd.R_slice HO607.out; subst eo13; obtain ⟨Ao14, co14, eo14⟩ := Kd.R_slice HO610.out; subst eo14))
 (try simp only [Act.put, List.setIfInBounds_toArray, List.set_cons_zero, List.set_cons_succ])
 go_cut [23] (fun v23 wc => ∃ (kq : Nat) (x23_2 : Bool), v23 = .bool x23_2 ∧ Aside0 (spec_Answer.j0 kq x23_2 a0_0 a0_1 a0_2 a0_3 l0_4 l0_5 a0_6 a0_7 t601 t602 t603 t604 t605 t608 t611 t612 = some (r1, r2, r3, r4, r5, r6, r7, r8, r9)) ∧ Aside0 (kq ≤ k) ∧ Aside0 (Kd.R (Kd.int .u8) 5 wc w.heap.size (fun k_ => some k_ ≠ ((.slice Ao14 t608.length co14) : Value).ownBlock) (.slice Ao13 t605.length co13) t605) ∧ Aside0 (Kd.R (Kd.int .u8) 5 wc w.heap.size (fun k_ => some k_ ≠ ((.slice Ao13 t605.length co13) : Value).ownBlock) (.slice Ao14 t608.length co14) t608) ∧ Aside0 (wc.heap[gb599]? = some (.cells #[.int .i64 a0_0, .int .i64 a0_1, .int .i64 a0_2, .bool a0_3, (.slice A0_4 l0_4.length c0_4), (.slice A0_5 l0_5.length c0_5), .int .i64 a0_6, .int .i64 a0_7] 41 (0, 0))) ∧ Aside0 (wc.heap[gb600]? = some (.cells #[.int .i64 0, .int .i64 0, .int .i64 0, .bool false, (.slice none 0 0), (.slice none 0 0), .int .i64 0, .int .i64 0] 41 (0, 0))) ∧ Aside0 (wc.heap[gb613]? = some (.cells #[.int .i64 t601, .int .i64 t602, .int .i64 t603, .bool t604, (.slice Ao13 t605.length co13), (.slice Ao14 t608.length co14), .int .i64 t611, .int .i64 t612] 41 (0, 0))) ∧ Aside0 (Below w.heap.size w wc))
 case first =>
  have H := HC3.out
  clear HC3
  obtain ⟨t614, A15, H⟩ := bd_ H
  by_cases c16 : t614 = true
  ·
   subst c16
   rw [if_pos rfl] at H
   by_cases c17 : a0_1 = 2
   ·
    rw [if_pos c17] at H
    have c17b0 : (a0_1 == 2) = true := beq_iff_eq.mpr c17
    have c17b1 : (a0_1 != 2) = false := bne_eq_false_iff_eq.mpr c17
    clear c17
    (first | rw [c17b0] | rw [c17b1] | (simp only [i64_w, i32_w]; rw [c17b0]) | skip)
    have H' := Aside0.mk H
    clear H
    have hnb18 := NB599_600.out
    have hnc18 := NB600_599.out
    have hnb19 := NB599_613.out
    have hnc19 := NB613_599.out
    obtain ⟨z20_0, z20_1, z20_2, z20_3, z20_4, z20_5, z20_6, z20_7⟩ := cz8 BK599.out
    obtain ⟨f20_0, f20_1, f20_2, f20_3, f20_4, f20_5, f20_6, f20_7⟩ := fz8 BK599.out
    go_wp2_with (first | ((with_reducible refine gate_callee (f := 42) rfl ?_); refine goesL_ (some 13) rfl rfl Try.func42 (by kernel_rfl) rfl #[.agg #[.int .i64 a0_0, .int .i64 a0_1, .int .i64 a0_2, .bool a0_3, .slice A0_4 l0_4.length c0_4, .slice A0_5 l0_5.length c0_5, .int .i64 a0_6, .int .i64 a0_7]] rfl la_ ?_; (with_reducible refine (spec_SockOk.calls k a0_0 a0_1 a0_2 a0_3 _ _ l0_4 _ _ l0_5 a0_6 a0_7 true _ ?side1 ?side2 ?side3 ?side4 A15.out).mono ?_); (case side1 => exact Kd.C_below HR0_4.out (qB HB)); (case side2 => exact HC0_4.out); (case side3 => exact Kd.C_below HR0_5.out (qB HB)); (case side4 => exact HC0_5.out); rintro e w21 ⟨rfl, hb⟩; refine ⟨_, rfl, ?_⟩; replace HO607 := am_ (Kd.R_below (by (with_reducible repeat (first | apply Kd.R_alloc | apply Kd.R_drewN | apply Kd.R_drew)); exact (Kd.R_mono (Go.Proofs.YtaimfkfpglhijaaV.R_far8 (g := gb613) (Kd.R_types HO607.out BK613.out (by decide)) (fun _ hk => hk.2)) (fun _ h_ => h_.1))) hb); replace HO610 := am_ (Kd.R_below (by (with_reducible repeat (first | apply Kd.R_alloc | apply Kd.R_drewN | apply Kd.R_drew)); exact (Kd.R_mono (Go.Proofs.YtaimfkfpglhijaaV.R_far8 (g := gb613) (Kd.R_types HO610.out BK613.out (by decide)) (fun _ hk => hk.2)) (fun _ h_ => h_.1))) hb); replace BK599 := am_ (blk_below (g := gb599) (o := .cells #[.int .i64 a0_0, .int .i64 a0_1, .int .i64 a0_2, .bool a0_3, .slice A0_4 l0_4.length c0_4, .slice A0_5 l0_5.length c0_5, .int .i64 a0_6, .int .i64 a0_7] 41 (0, 0)) (by (with_reducible repeat (first | refine blk_drewN ?_ _ | refine blk_drew ?_ | refine blk_alloc ?_ _)); refine Go.Proofs.YtaimfkfpglhijaaV.blk_far8 ?_ NB599_613.out; exact qK BK599) hb); replace BK600 := am_ (blk_below (g := gb600) (o := .cells #[.int .i64 0, .int .i64 0, .int .i64 0, .bool false, .slice none 0 0, .slice none 0 0, .int .i64 0, .int .i64 0] 41 (0, 0)) (by (with_reducible repeat (first | refine blk_drewN ?_ _ | refine blk_drew ?_ | refine blk_alloc ?_ _)); refine Go.Proofs.YtaimfkfpglhijaaV.blk_far8 ?_ NB600_613.out; exact qK BK600) hb); replace BK613 := am_ (blk_below (g := gb613) (o := .cells #[.int .i64 t601, .int .i64 t602, .int .i64 t603, .bool t604, .slice Ao13 t605.length co13, .slice Ao14 t608.length co14, .int .i64 t611, .int .i64 t612] 41 (0, 0)) (by (with_reducible repeat (first | refine blk_drewN ?_ _ | refine blk_drew ?_ | refine blk_alloc ?_ _)); refine Go.Proofs.YtaimfkfpglhijaaV.blk_all8 (show _ = some (Go.Obj.cells #[.int .i64 0, .int .i64 0, .int .i64 0, .bool false, .slice none 0 0, .slice none 0 0, .int .i64 0, .int .i64 0] _ (0, 0)) from ?_); exact qK BK613) hb); replace HB := am_ (below_step (qB HB) hb); (try clear hb); (try clear hb2); (try clear hk); (try clear hi); obtain ⟨z22_0, z22_1, z22_2, z22_3, z22_4, z22_5, z22_6, z22_7⟩ := cz8 BK599.out; obtain ⟨f22_0, f22_1, f22_2, f22_3, f22_4, f22_5, f22_6, f22_7⟩ := fz8 BK599.out))
    go_meet
    case rel => exact ⟨_, (a0_3), eqq_, H', ⟨by first | omega | exact Nat.le_refl _⟩, ⟨qR HO607⟩, ⟨qR HO610⟩, ⟨qK BK599⟩, ⟨qK BK600⟩, ⟨qK BK613⟩, ⟨qB HB⟩⟩
   ·
    rw [if_neg c17] at H
    have c17b0 : (a0_1 == 2) = false := beq_eq_false_iff_ne.mpr c17
    have c17b1 : (a0_1 != 2) = true := bne_iff_ne.mpr c17
    (first | rw [c17b0] | rw [c17b1] | (simp only [i64_w, i32_w]; rw [c17b0]) | skip)
    have H' := Aside0.mk H
    clear H
    have hnb23 := NB599_600.out
    have hnc23 := NB600_599.out
    have hnb24 := NB599_613.out
    have hnc24 := NB613_599.out
    obtain ⟨z25_0, z25_1, z25_2, z25_3, z25_4, z25_5, z25_6, z25_7⟩ := cz8 BK599.out
    obtain ⟨f25_0, f25_1, f25_2, f25_3, f25_4, f25_5, f25_6, f25_7⟩ := fz8 BK599.out
    go_wp2_with (first | ((with_reducible refine gate_callee (f := 42) rfl ?_); refine goesL_ (some 13) rfl rfl Try.func42 (by kernel_rfl) rfl #[.agg #[.int .i64 a0_0, .int .i64 a0_1, .int .i64 a0_2, .bool a0_3, .slice A0_4 l0_4.length c0_4, .slice A0_5 l0_5.length c0_5, .int .i64 a0_6, .int .i64 a0_7]] rfl la_ ?_; (with_reducible refine (spec_SockOk.calls k a0_0 a0_1 a0_2 a0_3 _ _ l0_4 _ _ l0_5 a0_6 a0_7 true _ ?side1 ?side2 ?side3 ?side4 A15.out).mono ?_); (case side1 => exact Kd.C_below HR0_4.out (qB HB)); (case side2 => exact HC0_4.out); (case side3 => exact Kd.C_below HR0_5.out (qB HB)); (case side4 => exact HC0_5.out); rintro e w26 ⟨rfl, hb⟩; refine ⟨_, rfl, ?_⟩; replace HO607 := am_ (Kd.R_below (by (with_reducible repeat (first | apply Kd.R_alloc | apply Kd.R_drewN | apply Kd.R_drew)); exact (Kd.R_mono (Go.Proofs.YtaimfkfpglhijaaV.R_far8 (g := gb613) (Kd.R_types HO607.out BK613.out (by decide)) (fun _ hk => hk.2)) (fun _ h_ => h_.1))) hb); replace HO610 := am_ (Kd.R_below (by (with_reducible repeat (first | apply Kd.R_alloc | apply Kd.R_drewN | apply Kd.R_drew)); exact (Kd.R_mono (Go.Proofs.YtaimfkfpglhijaaV.R_far8 (g := gb613) (Kd.R_types HO610.out BK613.out (by decide)) (fun _ hk => hk.2)) (fun _ h_ => h_.1))) hb); replace BK599 := am_ (blk_below (g := gb599) (o := .cells #[.int .i64 a0_0, .int .i64 a0_1, .int .i64 a0_2, .bool a0_3, .slice A0_4 l0_4.length c0_4, .slice A0_5 l0_5.length c0_5, .int .i64 a0_6, .int .i64 a0_7] 41 (0, 0)) (by (with_reducible repeat (first | refine blk_drewN ?_ _ | refine blk_drew ?_ | refine blk_alloc ?_ _)); refine Go.Proofs.YtaimfkfpglhijaaV.blk_far8 ?_ NB599_613.out; exact qK BK599) hb); replace BK600 := am_ (blk_below (g := gb600) (o := .cells #[.int .i64 0, .int .i64 0, .int .i64 0, .bool false, .slice none 0 0, .slice none 0 0, .int .i64 0, .int .i64 0] 41 (0, 0)) (by (with_reducible repeat (first | refine blk_drewN ?_ _ | refine blk_drew ?_ | refine blk_alloc ?_ _)); refine Go.Proofs.YtaimfkfpglhijaaV.blk_far8 ?_ NB600_613.out; exact qK BK600) hb); replace BK613 := am_ (blk_below (g := gb613) (o := .cells #[.int .i64 t601, .int .i64 t602, .int .i64 t603, .bool t604, .slice Ao13 t605.length co13, .slice Ao14 t608.length co14, .int .i64 t611, .int .i64 t612] 41 (0, 0)) (by (with_reducible repeat (first | refine blk_drewN ?_ _ | refine blk_drew ?_ | refine blk_alloc ?_ _)); refine Go.Proofs.YtaimfkfpglhijaaV.blk_all8 (show _ = some (Go.Obj.cells #[.int .i64 0, .int .i64 0, .int .i64 0, .bool false, .slice none 0 0, .slice none 0 0, .int .i64 0, .int .i64 0] _ (0, 0)) from ?_); exact qK BK613) hb); replace HB := am_ (below_step (qB HB) hb); (try clear hb); (try clear hb2); (try clear hk); (try clear hi); obtain ⟨z27_0, z27_1, z27_2, z27_3, z27_4, z27_5, z27_6, z27_7⟩ := cz8 BK599.out; obtain ⟨f27_0, f27_1, f27_2, f27_3, f27_4, f27_5, f27_6, f27_7⟩ := fz8 BK599.out))
    go_meet
    case rel => exact ⟨_, (true), eqq_, H', ⟨by first | omega | exact Nat.le_refl _⟩, ⟨qR HO607⟩, ⟨qR HO610⟩, ⟨qK BK599⟩, ⟨qK BK600⟩, ⟨qK BK613⟩, ⟨qB HB⟩⟩
  ·
   replace c16 := Bool.eq_false_iff.mpr c16
   subst c16
   rw [if_neg (show ¬ (false = true) by decide)] at H
   have H' := Aside0.mk H
   clear H
   have hnb28 := NB599_600.out
   have hnc28 := NB600_599.out
   have hnb29 := NB599_613.out
   have hnc29 := NB613_599.out
   obtain ⟨z30_0, z30_1, z30_2, z30_3, z30_4, z30_5, z30_6, z30_7⟩ := cz8 BK599.out
   obtain ⟨f30_0, f30_1, f30_2, f30_3, f30_4, f30_5, f30_6, f30_7⟩ := fz8 BK599.out
   go_wp2_with (first | ((with_reducible refine gate_callee (f := 42) rfl ?_); refine goesL_ (some 13) rfl rfl Try.func42 (by kernel_rfl) rfl #[.agg #[.int .i64 a0_0, .int .i64 a0_1, .int .i64 a0_2, .bool a0_3, .slice A0_4 l0_4.length c0_4, .slice A0_5 l0_5.length c0_5, .int .i64 a0_6, .int .i64 a0_7]] rfl la_ ?_; (with_reducible refine (spec_SockOk.calls k a0_0 a0_1 a0_2 a0_3 _ _ l0_4 _ _ l0_5 a0_6 a0_7 false _ ?side1 ?side2 ?side3 ?side4 A15.out).mono ?_); (case side1 => exact Kd.C_below HR0_4.out (qB HB)); (case side2 => exact HC0_4.out); (case side3 => exact Kd.C_below HR0_5.out (qB HB)); (case side4 => exact HC0_5.out); rintro e w31 ⟨rfl, hb⟩; refine ⟨_, rfl, ?_⟩; replace HO607 := am_ (Kd.R_below (by (with_reducible repeat (first | apply Kd.R_alloc | apply Kd.R_drewN | apply Kd.R_drew)); exact (Kd.R_mono (Go.Proofs.YtaimfkfpglhijaaV.R_far8 (g := gb613) (Kd.R_types HO607.out BK613.out (by decide)) (fun _ hk => hk.2)) (fun _ h_ => h_.1))) hb); replace HO610 := am_ (Kd.R_below (by (with_reducible repeat (first | apply Kd.R_alloc | apply Kd.R_drewN | apply Kd.R_drew)); exact (Kd.R_mono (Go.Proofs.YtaimfkfpglhijaaV.R_far8 (g := gb613) (Kd.R_types HO610.out BK613.out (by decide)) (fun _ hk => hk.2)) (fun _ h_ => h_.1))) hb); replace BK599 := am_ (blk_below (g := gb599) (o := .cells #[.int .i64 a0_0, .int .i64 a0_1, .int .i64 a0_2, .bool a0_3, .slice A0_4 l0_4.length c0_4, .slice A0_5 l0_5.length c0_5, .int .i64 a0_6, .int .i64 a0_7] 41 (0, 0)) (by (with_reducible repeat (first | refine blk_drewN ?_ _ | refine blk_drew ?_ | refine blk_alloc ?_ _)); refine Go.Proofs.YtaimfkfpglhijaaV.blk_far8 ?_ NB599_613.out; exact qK BK599) hb); replace BK600 := am_ (blk_below (g := gb600) (o := .cells #[.int .i64 0, .int .i64 0, .int .i64 0, .bool false, .slice none 0 0, .slice none 0 0, .int .i64 0, .int .i64 0] 41 (0, 0)) (by (with_reducible repeat (first | refine blk_drewN ?_ _ | refine blk_drew ?_ | refine blk_alloc ?_ _)); refine Go.Proofs.YtaimfkfpglhijaaV.blk_far8 ?_ NB600_613.out; exact qK BK600) hb); replace BK613 := am_ (blk_below (g := gb613) (o := .cells #[.int .i64 t601, .int .i64 t602, .int .i64 t603, .bool t604, .slice Ao13 t605.length co13, .slice Ao14 t608.length co14, .int .i64 t611, .int .i64 t612] 41 (0, 0)) (by (with_reducible repeat (first | refine blk_drewN ?_ _ | refine blk_drew ?_ | refine blk_alloc ?_ _)); refine Go.Proofs.YtaimfkfpglhijaaV.blk_all8 (show _ = some (Go.Obj.cells #[.int .i64 0, .int .i64 0, .int .i64 0, .bool false, .slice none 0 0, .slice none 0 0, .int .i64 0, .int .i64 0] _ (0, 0)) from ?_); exact qK BK613) hb); replace HB := am_ (below_step (qB HB) hb); (try clear hb); (try clear hb2); (try clear hk); (try clear hi)))
   go_meet
   case rel => exact ⟨_, (true), eqq_, H', ⟨by first | omega | exact Nat.le_refl _⟩, ⟨qR HO607⟩, ⟨qR HO610⟩, ⟨qK BK599⟩, ⟨qK BK600⟩, ⟨qK BK613⟩, ⟨qB HB⟩⟩
 case rest =>
  clear HC3
  try clear c1
  try clear c2
  try clear p2
  try clear c4
  try clear c6
  try clear c10
  try clear c11
  try clear c13
  try clear c16
  try clear c17
  try clear c17b0
  try clear c17b1
  try clear c18
  try clear c19
  try clear c23
  try clear c24
  try clear c26
  try clear c28
  try clear c29
  (try clear z12_0 z12_1 z12_2 z12_3 z12_4 z12_5 z12_6 z12_7)
  (try clear z20_0 z20_1 z20_2 z20_3 z20_4 z20_5 z20_6 z20_7)
  (try clear z22_0 z22_1 z22_2 z22_3 z22_4 z22_5 z22_6 z22_7)
  (try clear z25_0 z25_1 z25_2 z25_3 z25_4 z25_5 z25_6 z25_7)
  (try clear z27_0 z27_1 z27_2 z27_3 z27_4 z27_5 z27_6 z27_7)
  (try clear z30_0 z30_1 z30_2 z30_3 z30_4 z30_5 z30_6 z30_7)
  (try clear z7_0 z7_1 z7_2 z7_3 z7_4 z7_5 z7_6 z7_7)
  (try clear f12_0 f12_1 f12_2 f12_3 f12_4 f12_5 f12_6 f12_7)
  (try clear f20_0 f20_1 f20_2 f20_3 f20_4 f20_5 f20_6 f20_7)
  (try clear f22_0 f22_1 f22_2 f22_3 f22_4 f22_5 f22_6 f22_7)
  (try clear f25_0 f25_1 f25_2 f25_3 f25_4 f25_5 f25_6 f25_7)
  (try clear f27_0 f27_1 f27_2 f27_3 f27_4 f27_5 f27_6 f27_7)
  (try clear f30_0 f30_1 f30_2 f30_3 f30_4 f30_5 f30_6 f30_7)
  (try clear f7_0 f7_1 f7_2 f7_3 f7_4 f7_5 f7_6 f7_7)
  obtain ⟨kq, x23_2, rfl, HA, HJ2, HO_614004, HO_614005, BK599, BK600, BK613, HB⟩ := hcut
  cases kq with
  | zero => exact absurd HA.out (by simp [spec_Answer.j0])
  | succ kj2 =>
   have H := HA.out
   clear HA
   simp only [spec_Answer.j0] at H
   by_cases c32 : x23_2 = true
   ·
    subst c32
    rw [if_pos rfl] at H
    simp only [Option.some.injEq, Prod.mk.injEq] at H
    obtain ⟨rfl, rfl, rfl, rfl, rfl, rfl, rfl, rfl, rfl⟩ := H
    have hnb33 := NB613_599.out
    have hnc33 := NB599_613.out
    have hnb34 := NB613_600.out
    have hnc34 := NB600_613.out
    obtain ⟨z35_0, z35_1, z35_2, z35_3, z35_4, z35_5, z35_6, z35_7⟩ := cz8 BK613.out
    obtain ⟨f35_0, f35_1, f35_2, f35_3, f35_4, f35_5, f35_6, f35_7⟩ := fz8 BK613.out
    have hnb36 := NB600_599.out
    have hnc36 := NB599_600.out
    obtain ⟨z37_0, z37_1, z37_2, z37_3, z37_4, z37_5, z37_6, z37_7⟩ := cz8 BK600.out
    obtain ⟨f37_0, f37_1, f37_2, f37_3, f37_4, f37_5, f37_6, f37_7⟩ := fz8 BK600.out
    go_wp2
    refine bodyPost_ret (results_ct rfl _ _ gb600 41 #[.int .i64 t601, .int .i64 t602, .int .i64 t603, .bool t604, .slice Ao13 t605.length co13, .slice Ao14 t608.length co14, .int .i64 t611, .int .i64 t612] (0, 0) _ rfl (by refine blk_all8 (show _ = some (Go.Obj.cells #[.int .i64 0, .int .i64 0, .int .i64 0, .bool false, .slice none 0 0, .slice none 0 0, .int .i64 0, .int .i64 0] _ (0, 0)) from ?_); exact qK BK600) Try.underlying41 rfl (by kernel_rfl)) rfl ?_
    exact ⟨_, _, er_, by (with_reducible repeat (first | apply Kd.R_alloc | apply Kd.R_drewN | apply Kd.R_drew)); exact Kd.R_mono (Go.Proofs.YtaimfkfpglhijaaV.R_far8 (g := gb600) (Kd.R_types HO_614004.out BK600.out (by decide)) (fun _ hk => hk.2)) (fun _ hk => hk.1), by (with_reducible repeat (first | apply Kd.R_alloc | apply Kd.R_drewN | apply Kd.R_drew)); exact Kd.R_mono (Go.Proofs.YtaimfkfpglhijaaV.R_far8 (g := gb600) (Kd.R_types HO_614005.out BK600.out (by decide)) (fun _ hk => hk.2)) (fun _ hk => hk.1), qB HB⟩
   ·
    replace c32 := Bool.eq_false_iff.mpr c32
    subst c32
    rw [if_neg (show ¬ (false = true) by decide)] at H
    by_cases c38 : 0 ≤ a0_7
    case neg => exact nn_ c38 H
    rw [if_pos c38] at H
    have c38b0 := eq_true c38
    have c38b1 : decide (0 ≤ a0_7) = true := decide_eq_true c38
    clear c38
    by_cases c39 : a0_7 ≤ (l0_5.length : Int)
    case neg => exact nn_ c39 H
    rw [if_pos c39] at H
    have c39b0 := eq_true c39
    have c39b1 : decide (a0_7 ≤ (l0_5.length : Int)) = true := decide_eq_true c39
    clear c39
    obtain ⟨⟨t616, t617, t618, t619, t620⟩, A40, H⟩ := bd_ H
    (try dsimp only at H)
    have HC41 := Aside0.mk H
    clear H
    have hnb42 := NB599_600.out
    have hnc42 := NB600_599.out
    have hnb43 := NB599_613.out
    have hnc43 := NB613_599.out
    obtain ⟨z44_0, z44_1, z44_2, z44_3, z44_4, z44_5, z44_6, z44_7⟩ := cz8 BK599.out
    obtain ⟨f44_0, f44_1, f44_2, f44_3, f44_4, f44_5, f44_6, f44_7⟩ := fz8 BK599.out
    obtain ⟨i045, hi045, _, hsz45, _⟩ := info_parts info5
    obtain ⟨A45, hcut45, hA45, hC45⟩ := print_drop_of (P := Try.prog) (Value.int .u8) 0 22 5 .i64 Try.underlying22 hi045 hsz45 A0_5 c0_5 l0_5 a0_7 od_ od_ HC0_5.out
    have HR615 := Aside0.mk (Kd.C_of_reads (h1 := fun _ => rfl) (hA45 _ (Kd.reads_of_C HR0_5.out)))
    have HC615 := Aside0.mk hC45
    clear hA45 hC45 hi045 hsz45
    go_upto_if 36 with (first | ((with_reducible refine gate_callee (f := 131) rfl ?_); refine goesL_ (some 31) rfl rfl Try.func131 (by kernel_rfl) rfl #[.slice A45 (l0_5.drop (a0_7 : Int).toNat).length (c0_5 - a0_7.toNat)] rfl (by (try simp only [List.map_toArray, List.map_cons, List.map_nil]); first | done | (rw [show (l0_5.drop (a0_7 : Int).toNat).length = (l0_5.length - a0_7.toNat) from List.length_drop] <;> rfl) | rfl | (simp only [List.length_drop, List.length_take]; rfl)) ?_; (with_reducible refine (spec_GetFrame.calls kj2 _ _ (l0_5.drop (a0_7 : Int).toNat) t616 t617 t618 t619 t620 _ ?side1 ?side2 A40.out).mono ?_); (case side1 => exact qC (Kd.C_below HR615.out HB.out)); (case side2 => exact HC615.out); rintro e w46 ⟨rfl, hb⟩; refine ⟨_, rfl, ?_⟩; replace HO_614004 := am_ (Kd.R_below (qR HO_614004) hb); replace HO_614005 := am_ (Kd.R_below (qR HO_614005) hb); replace BK599 := am_ (blk_below (qK BK599) hb); replace BK600 := am_ (blk_below (qK BK600) hb); replace BK613 := am_ (blk_below (qK BK613) hb); replace HB := am_ (below_step (qB HB) hb); (try clear hb); (try clear hb2); (try clear hk); (try clear hi)) | ((with_reducible refine gate_dst (N := 5) rfl ?_); refine box_event ?hg (N := 5) ?hd (cs := #[.int .i64 0, .string (⟨#[]⟩ : ByteArray), .int .i64 0]) (t := 47) ?hr ?_; (case hd => rfl); (case hg => rfl); (case hr => first | (go_simp; done) | (go_simp; rfl)); intro gb621 hg w47 hbox hb; replace HO_614004 := am_ (Kd.R_below (qR HO_614004) hb); replace HO_614005 := am_ (Kd.R_below (qR HO_614005) hb); have BK621 := am_ (hbox); have GW621 := am_ ((gG_ hg (qB HB))); have IGW621 := gI_ GW621; have GE621 := am_ ((gG_ hg (qB HB))); have IGE621 := gI_ GE621; replace HB := am_ (below_step (qB HB) hb); have NB599_621 := am_ ((gN_ hg (qK BK599))); have NB621_599 := am_ ((gM_ hg (qK BK599))); replace BK599 := am_ (blk_below (qK BK599) hb); have NB600_621 := am_ ((gN_ hg (qK BK600))); have NB621_600 := am_ ((gM_ hg (qK BK600))); replace BK600 := am_ (blk_below (qK BK600) hb); have NB613_621 := am_ ((gN_ hg (qK BK613))); have NB621_613 := am_ ((gM_ hg (qK BK613))); replace BK613 := am_ (blk_below (qK BK613) hb); clear hb hbox hg; have hnb48 := NB621_599.out; have hnc48 := NB599_621.out; have hnb49 := NB621_600.out; have hnc49 := NB600_621.out; have hnb50 := NB621_613.out; have hnc50 := NB613_621.out; obtain ⟨z51_0, z51_1, z51_2⟩ := cz3 BK621.out; obtain ⟨f51_0, f51_1, f51_2⟩ := fz3 BK621.out))
    (try simp only [Act.put, List.setIfInBounds_toArray, List.set_cons_zero, List.set_cons_succ])
    have H := HC41.out
    clear HC41
    by_cases c52 : t620 = 0
    ·
     rw [if_pos c52] at H
     have c52b0 : (t620 == 0) = true := beq_iff_eq.mpr c52
     have c52b1 : (t620 != 0) = false := bne_eq_false_iff_eq.mpr c52
     clear c52
     (first | rw [c52b0] | rw [c52b1] | (simp only [i64_w, i32_w]; rw [c52b0]) | skip)
     obtain ⟨y622, hy622⟩ : ∃ y_ : List (S47), y_ = (([(⟨6, (⟨#[102, 111, 114, 109]⟩ : ByteArray), 0⟩ : S47), (⟨5, (⟨#[]⟩ : ByteArray), a0_6⟩ : S47)] : List (S47))) := ⟨_, rfl⟩
     rw [← hy622] at H
     have Ny622 := Aside0.mk hy622
     clear hy622
     have HC53 := Aside0.mk H
     clear H
     have hnb54 := NB599_600.out
     have hnc54 := NB600_599.out
     have hnb55 := NB599_613.out
     have hnc55 := NB613_599.out
     have hnb56 := NB599_621.out
     have hnc56 := NB621_599.out
     obtain ⟨z57_0, z57_1, z57_2, z57_3, z57_4, z57_5, z57_6, z57_7⟩ := cz8 BK599.out
     obtain ⟨f57_0, f57_1, f57_2, f57_3, f57_4, f57_5, f57_6, f57_7⟩ := fz8 BK599.out
     go_upto_if 45 with (first | ((with_reducible refine gate_dst (N := 42) rfl ?_); refine Kd.R_lit k47 _ 47 ?hg (N := 42) ?hd (xs := ([(⟨6, (⟨#[102, 111, 114, 109]⟩ : ByteArray), 0⟩ : S47), (⟨5, (⟨#[]⟩ : ByteArray), a0_6⟩ : S47)] : List (S47))) (inner := [.int .i64 6, .string (⟨#[102, 111, 114, 109]⟩ : ByteArray), .int .i64 0, .int .i64 5, .string (⟨#[]⟩ : ByteArray), .int .i64 a0_6]) (ok := fun _ => True) (okp := fun _ => True) ?hr ?hp (fun _ hk => hk) trivial (Below.refl _ _) (Nat.le_refl _) (by simp) ?_; (case hd => rfl); (case hg => rfl); (case hr => first | (go_simp; done) | (go_simp; rfl)); (case hp => exact (Reps.c3 (show Kd.M k47 _ _ _ (⟨6, (⟨#[102, 111, 114, 109]⟩ : ByteArray), 0⟩ : S47) [.int .i64 6, .string (⟨#[102, 111, 114, 109]⟩ : ByteArray), .int .i64 0] from (k47_mkM _ _ _ (⟨6, (⟨#[102, 111, 114, 109]⟩ : ByteArray), 0⟩ : S47) )) (Reps.c3 (show Kd.M k47 _ _ _ (⟨5, (⟨#[]⟩ : ByteArray), a0_6⟩ : S47) [.int .i64 5, .string (⟨#[]⟩ : ByteArray), .int .i64 a0_6] from (k47_mkM _ _ _ (⟨5, (⟨#[]⟩ : ByteArray), a0_6⟩ : S47) )) (Reps.none _ _)))); intro v623 w58 ho59 hb hg_ hnew_; clear hg_ hnew_; (first | rw [← Ny622.out] at ho59 | (simp only [Int.reduceToNat] at ho59; rw [← Ny622.out] at ho59)); replace HO_614004 := am_ (Kd.R_below (by (with_reducible repeat (first | apply Kd.R_alloc | apply Kd.R_drewN | apply Kd.R_drew)); exact (Kd.R_mono (Go.Proofs.YtaimfkfpglhijaaV.R_far3 (g := gb621) (Kd.R_types HO_614004.out BK621.out (by decide)) (fun _ hk => hk.2)) (fun _ h_ => h_.1))) hb); replace HO_614005 := am_ (Kd.R_below (by (with_reducible repeat (first | apply Kd.R_alloc | apply Kd.R_drewN | apply Kd.R_drew)); exact (Kd.R_mono (Go.Proofs.YtaimfkfpglhijaaV.R_far3 (g := gb621) (Kd.R_types HO_614005.out BK621.out (by decide)) (fun _ hk => hk.2)) (fun _ h_ => h_.1))) hb); have HO624 := am_ (Kd.R_lower (Kd.R_newB ho59 (g := gb621) (o := .cells #[.int .i64 t616, .string t617, .int .i64 t618] 47 (0, 0)) (by (with_reducible repeat (first | refine blk_drewN ?_ _ | refine blk_drew ?_ | refine blk_alloc ?_ _)); refine Go.Proofs.YtaimfkfpglhijaaV.blk_all3 (show _ = some (Go.Obj.cells #[.int .i64 0, .string (⟨#[]⟩ : ByteArray), .int .i64 0] _ (0, 0)) from ?_); exact qK BK621)) (below_size (qB HB))); replace BK599 := am_ (blk_below (g := gb599) (o := .cells #[.int .i64 a0_0, .int .i64 a0_1, .int .i64 a0_2, .bool a0_3, .slice A0_4 l0_4.length c0_4, .slice A0_5 l0_5.length c0_5, .int .i64 a0_6, .int .i64 a0_7] 41 (0, 0)) (by (with_reducible repeat (first | refine blk_drewN ?_ _ | refine blk_drew ?_ | refine blk_alloc ?_ _)); refine Go.Proofs.YtaimfkfpglhijaaV.blk_far3 ?_ NB599_621.out; exact qK BK599) hb); replace BK600 := am_ (blk_below (g := gb600) (o := .cells #[.int .i64 0, .int .i64 0, .int .i64 0, .bool false, .slice none 0 0, .slice none 0 0, .int .i64 0, .int .i64 0] 41 (0, 0)) (by (with_reducible repeat (first | refine blk_drewN ?_ _ | refine blk_drew ?_ | refine blk_alloc ?_ _)); refine Go.Proofs.YtaimfkfpglhijaaV.blk_far3 ?_ NB600_621.out; exact qK BK600) hb); replace BK613 := am_ (blk_below (g := gb613) (o := .cells #[.int .i64 t601, .int .i64 t602, .int .i64 t603, .bool t604, .slice Ao13 t605.length co13, .slice Ao14 t608.length co14, .int .i64 t611, .int .i64 t612] 41 (0, 0)) (by (with_reducible repeat (first | refine blk_drewN ?_ _ | refine blk_drew ?_ | refine blk_alloc ?_ _)); refine Go.Proofs.YtaimfkfpglhijaaV.blk_far3 ?_ NB613_621.out; exact qK BK613) hb); replace BK621 := am_ (blk_below (g := gb621) (o := .cells #[.int .i64 t616, .string t617, .int .i64 t618] 47 (0, 0)) (by (with_reducible repeat (first | refine blk_drewN ?_ _ | refine blk_drew ?_ | refine blk_alloc ?_ _)); refine Go.Proofs.YtaimfkfpglhijaaV.blk_all3 (show _ = some (Go.Obj.cells #[.int .i64 0, .string (⟨#[]⟩ : ByteArray), .int .i64 0] _ (0, 0)) from ?_); exact qK BK621) hb); replace HB := am_ (below_step (qB HB) hb); clear hb ho59; have hnb60 := NB621_600.out; have hnc60 := NB600_621.out; have hnb61 := NB621_613.out; have hnc61 := NB613_621.out; obtain ⟨z62_0, z62_1, z62_2⟩ := cz3 BK621.out; obtain ⟨f62_0, f62_1, f62_2⟩ := fz3 BK621.out))
     (try simp only [Act.put, List.setIfInBounds_toArray, List.set_cons_zero, List.set_cons_succ])
     go_cut [8] (fun v8 wc => ∃ (kq : Nat) (x8_52 : List (S47)) (x614006_52 : Int), Aside0 (spec_Answer.j1 kq t619 x8_52 a0_0 a0_1 a0_2 a0_3 l0_4 l0_5 a0_6 a0_7 t601 t602 t603 t604 t605 t608 x614006_52 t612 = some (r1, r2, r3, r4, r5, r6, r7, r8, r9)) ∧ Aside0 (kq ≤ kj2) ∧ Aside0 (Kd.R k47 47 wc w.heap.size (fun k_ => k_ ≠ gb621) v8 x8_52) ∧ Aside0 (Kd.R (Kd.int .u8) 5 wc w.heap.size (fun k_ => some k_ ≠ ((.slice Ao14 t608.length co14) : Value).ownBlock) (.slice Ao13 t605.length co13) t605) ∧ Aside0 (Kd.R (Kd.int .u8) 5 wc w.heap.size (fun k_ => some k_ ≠ ((.slice Ao13 t605.length co13) : Value).ownBlock) (.slice Ao14 t608.length co14) t608) ∧ Aside0 (wc.heap[gb599]? = some (.cells #[.int .i64 a0_0, .int .i64 a0_1, .int .i64 a0_2, .bool a0_3, (.slice A0_4 l0_4.length c0_4), (.slice A0_5 l0_5.length c0_5), .int .i64 a0_6, .int .i64 a0_7] 41 (0, 0))) ∧ Aside0 (wc.heap[gb600]? = some (.cells #[.int .i64 0, .int .i64 0, .int .i64 0, .bool false, (.slice none 0 0), (.slice none 0 0), .int .i64 0, .int .i64 0] 41 (0, 0))) ∧ Aside0 (wc.heap[gb613]? = some (.cells #[.int .i64 t601, .int .i64 t602, .int .i64 t603, .bool t604, (.slice Ao13 t605.length co13), (.slice Ao14 t608.length co14), .int .i64 x614006_52, .int .i64 t612] 41 (0, 0))) ∧ Aside0 (wc.heap[gb621]? = some (.cells #[.int .i64 t616, .string t617, .int .i64 t618] 47 (0, 0))) ∧ Aside0 (Below w.heap.size w wc))
     case first =>
      have H := HC53.out
      clear HC53
      by_cases c63 : t616 = 2
      ·
       rw [if_pos c63] at H
       have c63b0 : (t616 == 2) = true := beq_iff_eq.mpr c63
       have c63b1 : (t616 != 2) = false := bne_eq_false_iff_eq.mpr c63
       clear c63
       (first | rw [c63b0] | rw [c63b1] | (simp only [i64_w, i32_w]; rw [c63b0]) | skip)
       obtain ⟨t625, A64, H⟩ := bd_ H
       obtain ⟨t628, A65, H⟩ := bd_ H
       obtain ⟨t629, A66, H⟩ := bd_ H
       have H' := Aside0.mk H
       clear H
       have hnb67 := NB599_600.out
       have hnc67 := NB600_599.out
       have hnb68 := NB599_613.out
       have hnc68 := NB613_599.out
       have hnb69 := NB599_621.out
       have hnc69 := NB621_599.out
       obtain ⟨z70_0, z70_1, z70_2, z70_3, z70_4, z70_5, z70_6, z70_7⟩ := cz8 BK599.out
       obtain ⟨f70_0, f70_1, f70_2, f70_3, f70_4, f70_5, f70_6, f70_7⟩ := fz8 BK599.out
       have hnb71 := NB621_600.out
       have hnc71 := NB600_621.out
       have hnb72 := NB621_613.out
       have hnc72 := NB613_621.out
       obtain ⟨z73_0, z73_1, z73_2⟩ := cz3 BK621.out
       obtain ⟨f73_0, f73_1, f73_2⟩ := fz3 BK621.out
       try go_wp2_with (first | ((with_reducible refine gate_callee (f := 132) rfl ?_); refine goesL_ (some 50) rfl rfl Try.func132 (by kernel_rfl) rfl #[.int .i64 a0_6, .string t617] rfl la_ ?_; (with_reducible refine (spec_AnswerTo.calls kj2 a0_6 t617 t625 _ A64.out).mono ?_); rintro e w74 ⟨v626, rfl, ho0, hb⟩; refine ⟨_, rfl, ?_⟩; replace HO_614004 := am_ (Kd.R_below (qR HO_614004) hb); replace HO_614005 := am_ (Kd.R_below (qR HO_614005) hb); have HO627 := am_ (Kd.R_lower (Kd.R_newB (Kd.R_new' ho0 (Kd.R_lt (qR HO624))) (qK BK621)) (below_size (qB HB))); replace HO624 := am_ (eR HO624 ho0 hb); replace BK599 := am_ (blk_below (qK BK599) hb); replace BK600 := am_ (blk_below (qK BK600) hb); replace BK613 := am_ (blk_below (qK BK613) hb); replace BK621 := am_ (blk_below (qK BK621) hb); replace HB := am_ (below_step (qB HB) hb); (try clear hb); (try clear hb2); (try clear hk); (try clear hi); (try clear ho0)))
       replace HO_614004 := am_ (Kd.R_drew HO_614004.out)
       replace HO_614005 := am_ (Kd.R_drew HO_614005.out)
       replace HO624 := am_ (Kd.R_drew HO624.out)
       replace HO627 := am_ (Kd.R_drew HO627.out)
       replace BK599 := am_ (blk_drew BK599.out)
       replace BK600 := am_ (blk_drew BK600.out)
       replace BK613 := am_ (blk_drew BK613.out)
       replace BK621 := am_ (blk_drew BK621.out)
       replace HB := am_ (below_drew1 HB.out)
       refine start_ (n := 8) (S := fun w' => w'.cell? ⟨gb599, 0, none⟩ = some (.int .i64 a0_0) ∧ w'.cell? ⟨gb599, 1, none⟩ = some (.int .i64 a0_1) ∧ w'.cell? ⟨gb599, 2, none⟩ = some (.int .i64 a0_2) ∧ w'.cell? ⟨gb599, 3, none⟩ = some (.bool a0_3) ∧ w'.cell? ⟨gb599, 4, none⟩ = some (.slice A0_4 l0_4.length c0_4) ∧ w'.cell? ⟨gb599, 5, none⟩ = some (.slice A0_5 l0_5.length c0_5) ∧ w'.cell? ⟨gb599, 6, none⟩ = some (.int .i64 a0_6) ∧ w'.cell? ⟨gb599, 7, none⟩ = some (.int .i64 a0_7) ∧ w'.cell? ⟨gb621, 0, none⟩ = some (.int .i64 t616) ∧ w'.cell? ⟨gb621, 1, none⟩ = some (.string t617) ∧ w'.cell? ⟨gb621, 2, none⟩ = some (.int .i64 t618)) (ds := []) #[oo,oo,oo,oo,oo,oo,oo,oo] (by kernel_rfl) rfl rfl (cw8 BK599.out (cz3 BK621.out)) (fun hHeld => ?_); refine with_tabW spec_Answer.tab10 spec_Answer.bits10 (fun HT_ HW_ => ?_)
       generalize w74.drew = w75 at HO_614004 HO_614005 HO624 HO627 BK599 BK600 BK613 BK621 HB hHeld ⊢
       refine pz_ (i := 0) (N := some 51) HT_ #[ii,oo,oo,oo,oo,oo,oo,oo] rfl rfl ?_
       refine pz_ (i := 2) (N := some 53) HT_ #[ii,oo,ii,oo,oo,oo,oo,oo] rfl rfl ?_
       refine take_ (i := 1) (N := some 52) (v := ?_) (a' := ?_) #[ii,ii,ii,oo,oo,oo,oo,oo] rfl rfl (take_ofW HT_.out HW_.out (by kernel_rfl)) (fun _ _ _ h => h) (Or.inl ⟨by rfl, ?_⟩) hHeld ?_ ?_
       rotate_left
       ·
        rintro w' ⟨s0, s1, s2, s3, s4, s5, s6, s7, s8, s9, s10⟩
        go_simp
        with_reducible rfl
       rotate_left
       ·
        exact ap_
       refine take_ (i := 3) (N := some 54) (v := ?_) (a' := ?_) #[ii,ii,ii,ii,oo,oo,oo,oo] rfl rfl (take_ofW HT_.out HW_.out (by kernel_rfl)) (fun _ _ _ h => h) (Or.inl ⟨by rfl, ?_⟩) hHeld ?_ ?_
       rotate_left
       ·
        rintro w' ⟨s0, s1, s2, s3, s4, s5, s6, s7, s8, s9, s10⟩
        go_simp
        with_reducible rfl
       rotate_left
       ·
        exact ap_
       refine one_ (i := 4) (N := some 55) #[ii,ii,ii,ii,ii,oo,oo,oo] rfl rfl (one_of HT_.out (by kernel_rfl)) (by decide) (fun K hK => ?_)
       refine goes_ Try.func134 (by kernel_rfl) rfl #[.string t617] (by rfl) rfl rfl la_ ?_
       with_reducible refine (spec_WordOf.calls t617 t628 _ A65.out).mono ?_
       rintro e w' ⟨rfl, ⟨nd, rfl⟩⟩
       refine ⟨_, rfl, ?_⟩
       refine hK.out _ _ (cw8 BK599.out (cz3 BK621.out)) (fun hHeld => ?_)
       clear hK K
       refine norm_ (a' := ?_) ?_ ?_
       rotate_left
       ·
        show Act.put _ (some 55) _ = _
        exact ap_
       refine one_ (i := 5) (N := some 56) #[ii,ii,ii,ii,ii,ii,oo,oo] rfl rfl (one_of HT_.out (by kernel_rfl)) (by decide) (fun K hK => ?_)
       refine goes_ Try.func133 (by kernel_rfl) rfl #[.int .i64 a0_6, .int .i64 t628] (by rfl) rfl rfl la_ ?_
       with_reducible refine (spec_NextSt.calls kj2 a0_6 t628 t629 _ A66.out).mono ?_
       rintro e w' ⟨rfl, ⟨nd, rfl⟩⟩
       refine ⟨_, rfl, ?_⟩
       refine hK.out _ _ (cw8 BK599.out (cz3 BK621.out)) (fun hHeld => ?_)
       clear hK K
       refine norm_ (a' := ?_) ?_ ?_
       rotate_left
       ·
        show Act.put _ (some 56) _ = _
        exact ap_
       refine pz_ (i := 6) (N := some 57) HT_ #[ii,ii,ii,ii,ii,ii,ii,oo] rfl rfl ?_
       refine one_ (i := 7) (N := none) #[ii,ii,ii,ii,ii,ii,ii,ii] rfl rfl (one_of HT_.out (by kernel_rfl)) (by decide) (fun K hK => ?_)
       have hs76 : w75.cell? ⟨gb613, 6, none⟩ = some (.int .i64 t611) := (blk_cell BK613.out 6).trans rfl
       have hfs76 := blk_frozen BK613.out 6
       have hns76_0 := NB599_613.out
       have hns76_1 := NB600_613.out
       have hns76_3 := NB621_613.out
       have hms76_0 := NB613_599.out
       have hms76_1 := NB613_600.out
       have hms76_3 := NB613_621.out
       refine skip_ (w1 := ?_) (by rfl) rfl ?_ ?_
       rotate_left
       ·
        go_simp
        rfl
       refine hK.out _ _ ⟨((cell_far (p := ⟨gb613, _, none⟩) NB599_613.out _).trans (hHeld.1)), ((cell_far (p := ⟨gb613, _, none⟩) NB599_613.out _).trans (hHeld.2.1)), ((cell_far (p := ⟨gb613, _, none⟩) NB599_613.out _).trans (hHeld.2.2.1)), ((cell_far (p := ⟨gb613, _, none⟩) NB599_613.out _).trans (hHeld.2.2.2.1)), ((cell_far (p := ⟨gb613, _, none⟩) NB599_613.out _).trans (hHeld.2.2.2.2.1)), ((cell_far (p := ⟨gb613, _, none⟩) NB599_613.out _).trans (hHeld.2.2.2.2.2.1)), ((cell_far (p := ⟨gb613, _, none⟩) NB599_613.out _).trans (hHeld.2.2.2.2.2.2.1)), ((cell_far (p := ⟨gb613, _, none⟩) NB599_613.out _).trans (hHeld.2.2.2.2.2.2.2.1)), ((cell_far (p := ⟨gb613, _, none⟩) NB621_613.out _).trans (hHeld.2.2.2.2.2.2.2.2.1)), ((cell_far (p := ⟨gb613, _, none⟩) NB621_613.out _).trans (hHeld.2.2.2.2.2.2.2.2.2.1)), ((cell_far (p := ⟨gb613, _, none⟩) NB621_613.out _).trans (hHeld.2.2.2.2.2.2.2.2.2.2))⟩ (fun hHeld => ?_)
       clear hK K
       refine done_ (done_of HT_.out (by kernel_rfl)) ?_
       try go_wp2
       go_meet
       case rel => exact ⟨_, (t625), (t629), H', ⟨by have := HJ2.out; first | omega | exact Nat.le_refl _⟩, ⟨by (with_reducible repeat (first | apply Kd.R_alloc | apply Kd.R_drewN | apply Kd.R_drew)); exact Kd.R_mono (Kd.R_far (p := ⟨gb613, 6, none⟩) (Kd.R_types HO627.out BK613.out (by decide)) (fun _ hk => hk.2) (.int .i64 t629)) (fun _ hk => hk.1.2)⟩, ⟨by (with_reducible repeat (first | apply Kd.R_alloc | apply Kd.R_drewN | apply Kd.R_drew)); exact Kd.R_mono (Kd.R_far (p := ⟨gb613, 6, none⟩) (Kd.R_types HO_614004.out BK613.out (by decide)) (fun _ hk => hk.2) (.int .i64 t629)) (fun _ hk => hk.1)⟩, ⟨by (with_reducible repeat (first | apply Kd.R_alloc | apply Kd.R_drewN | apply Kd.R_drew)); exact Kd.R_mono (Kd.R_far (p := ⟨gb613, 6, none⟩) (Kd.R_types HO_614005.out BK613.out (by decide)) (fun _ hk => hk.2) (.int .i64 t629)) (fun _ hk => hk.1)⟩, ⟨by (with_reducible repeat (first | refine blk_drewN ?_ _ | refine blk_drew ?_ | refine blk_alloc ?_ _)); refine blk_far ?_ NB599_613.out _; exact qK BK599⟩, ⟨by (with_reducible repeat (first | refine blk_drewN ?_ _ | refine blk_drew ?_ | refine blk_alloc ?_ _)); refine blk_far ?_ NB600_613.out _; exact qK BK600⟩, ⟨by (with_reducible repeat (first | refine blk_drewN ?_ _ | refine blk_drew ?_ | refine blk_alloc ?_ _)); refine blk_put (cs := #[.int .i64 t601, .int .i64 t602, .int .i64 t603, .bool t604, .slice Ao13 t605.length co13, .slice Ao14 t608.length co14, .int .i64 t611, .int .i64 t612]) ?_ 6 _ rfl; exact qK BK613⟩, ⟨by (with_reducible repeat (first | refine blk_drewN ?_ _ | refine blk_drew ?_ | refine blk_alloc ?_ _)); refine blk_far ?_ NB621_613.out _; exact qK BK621⟩, ⟨qB HB⟩⟩
      ·
       rw [if_neg c63] at H
       have c63b0 : (t616 == 2) = false := beq_eq_false_iff_ne.mpr c63
       have c63b1 : (t616 != 2) = true := bne_iff_ne.mpr c63
       (first | rw [c63b0] | rw [c63b1] | (simp only [i64_w, i32_w]; rw [c63b0]) | skip)
       have H' := Aside0.mk H
       clear H
       go_wp2
       go_meet
       case rel => exact ⟨_, (y622), (t611), H', ⟨by have := HJ2.out; first | omega | exact Nat.le_refl _⟩, ⟨by (with_reducible repeat (first | apply Kd.R_alloc | apply Kd.R_drewN | apply Kd.R_drew)); exact Kd.R_mono HO624.out (fun _ hk => hk.2)⟩, ⟨qR HO_614004⟩, ⟨qR HO_614005⟩, ⟨qK BK599⟩, ⟨qK BK600⟩, ⟨qK BK613⟩, ⟨qK BK621⟩, ⟨qB HB⟩⟩
     case rest =>
      clear HC53
      try clear c1
      try clear c2
      try clear p2
      try clear c3
      try clear c4
      try clear c5
      try clear c6
      try clear c7
      try clear c10
      try clear c11
      try clear c13
      try clear c16
      try clear c17
      try clear c17b0
      try clear c17b1
      try clear c18
      try clear c19
      try clear c23
      try clear c24
      try clear c26
      try clear c28
      try clear c29
      try clear c32
      try clear c33
      try clear c34
      try clear c36
      try clear c38
      try clear c38b0
      try clear c38b1
      try clear c39
      try clear c39b0
      try clear c39b1
      try clear c42
      try clear c43
      try clear c48
      try clear c49
      try clear c50
      try clear c52
      try clear c52b0
      try clear c52b1
      try clear c54
      try clear c55
      try clear c56
      try clear c60
      try clear c61
      try clear c63
      try clear c63b0
      try clear c63b1
      try clear c67
      try clear c68
      try clear c69
      try clear c71
      try clear c72
      (try clear z12_0 z12_1 z12_2 z12_3 z12_4 z12_5 z12_6 z12_7)
      (try clear z20_0 z20_1 z20_2 z20_3 z20_4 z20_5 z20_6 z20_7)
      (try clear z22_0 z22_1 z22_2 z22_3 z22_4 z22_5 z22_6 z22_7)
      (try clear z25_0 z25_1 z25_2 z25_3 z25_4 z25_5 z25_6 z25_7)
      (try clear z27_0 z27_1 z27_2 z27_3 z27_4 z27_5 z27_6 z27_7)
      (try clear z30_0 z30_1 z30_2 z30_3 z30_4 z30_5 z30_6 z30_7)
      (try clear z35_0 z35_1 z35_2 z35_3 z35_4 z35_5 z35_6 z35_7)
      (try clear z37_0 z37_1 z37_2 z37_3 z37_4 z37_5 z37_6 z37_7)
      (try clear z44_0 z44_1 z44_2 z44_3 z44_4 z44_5 z44_6 z44_7)
      (try clear z51_0 z51_1 z51_2)
      (try clear z57_0 z57_1 z57_2 z57_3 z57_4 z57_5 z57_6 z57_7)
      (try clear z62_0 z62_1 z62_2)
      (try clear z70_0 z70_1 z70_2 z70_3 z70_4 z70_5 z70_6 z70_7)
      (try clear z73_0 z73_1 z73_2)
      (try clear z7_0 z7_1 z7_2 z7_3 z7_4 z7_5 z7_6 z7_7)
      (try clear f12_0 f12_1 f12_2 f12_3 f12_4 f12_5 f12_6 f12_7)
      (try clear f20_0 f20_1 f20_2 f20_3 f20_4 f20_5 f20_6 f20_7)
      (try clear f22_0 f22_1 f22_2 f22_3 f22_4 f22_5 f22_6 f22_7)
      (try clear f25_0 f25_1 f25_2 f25_3 f25_4 f25_5 f25_6 f25_7)
      (try clear f27_0 f27_1 f27_2 f27_3 f27_4 f27_5 f27_6 f27_7)
      (try clear f30_0 f30_1 f30_2 f30_3 f30_4 f30_5 f30_6 f30_7)
      (try clear f35_0 f35_1 f35_2 f35_3 f35_4 f35_5 f35_6 f35_7)
      (try clear f37_0 f37_1 f37_2 f37_3 f37_4 f37_5 f37_6 f37_7)
      (try clear f44_0 f44_1 f44_2 f44_3 f44_4 f44_5 f44_6 f44_7)
      (try clear f51_0 f51_1 f51_2)
      (try clear f57_0 f57_1 f57_2 f57_3 f57_4 f57_5 f57_6 f57_7)
      (try clear f62_0 f62_1 f62_2)
      (try clear f70_0 f70_1 f70_2 f70_3 f70_4 f70_5 f70_6 f70_7)
      (try clear f73_0 f73_1 f73_2)
      (try clear f7_0 f7_1 f7_2 f7_3 f7_4 f7_5 f7_6 f7_7)
      try clear p2
      obtain ⟨kq, x8_52, x614006_52, HA, HJ52, HO_8, HO_614004, HO_614005, BK599, BK600, BK613, BK621, HB⟩ := hcut
      cases kq with
      | zero => exact absurd HA.out (by simp [spec_Answer.j1])
      | succ kj52 =>
       have H := HA.out
       clear HA
       simp only [spec_Answer.j1] at H
       by_cases c77 : 0 < (x8_52.length : Int)
       case neg => exact nn_ c77 H
       rw [if_pos c77] at H
       have c77b0 : decide (0 < (x8_52.length : Int)) = true := decide_eq_true c77
       have c77b1 : decide (0 < x8_52.length) = true := decide_eq_true (by omega)
       clear c77
       obtain ⟨t631, A78, H⟩ := bd_ H
       by_cases c79 : 1 < (x8_52.length : Int)
       case neg => exact nn_ c79 H
       rw [if_pos c79] at H
       have c79b0 : decide (1 < (x8_52.length : Int)) = true := decide_eq_true c79
       have c79b1 : decide (1 < x8_52.length) = true := decide_eq_true (by omega)
       clear c79
       obtain ⟨t635, A80, H⟩ := bd_ H
       by_cases c81 : t631.length + t635.length < 140737488355328
       case neg => exact nn_ c81 H
       rw [if_pos c81] at H
       have LMc81 := Aside0.mk c81
       clear c81
       obtain ⟨y638, hy638⟩ : ∃ y_ : List Int, y_ = (t631 ++ t635) := ⟨_, rfl⟩
       replace H := mk_ H hy638
       (try dsimp only at H)
       have Ny638 := Aside0.mk hy638
       clear hy638
       have HC82 := Aside0.mk H
       clear H
       try go_wp2
       replace HO_8 := am_ (Kd.R_drew HO_8.out)
       replace HO_614004 := am_ (Kd.R_drew HO_614004.out)
       replace HO_614005 := am_ (Kd.R_drew HO_614005.out)
       replace BK599 := am_ (blk_drew BK599.out)
       replace BK600 := am_ (blk_drew BK600.out)
       replace BK613 := am_ (blk_drew BK613.out)
       replace BK621 := am_ (blk_drew BK621.out)
       replace HB := am_ (below_drew1 HB.out)
       obtain ⟨Ao84, co84, eo84⟩ := Kd.R_slice HO_8.out
       (first | subst eo84 | (injection eo84 with f1_ f2_ f3_; have f4_ := f1_.symm; have f5_ := f3_.symm; clear f1_ f2_ f3_; subst f4_; subst f5_))
       have p630 : 0 ≤ (0 : Int) := (by omega)
       have q630 : 0 < (x8_52.length : Int) := od_
       obtain ⟨ad630, e630, hx630_0, hx630_1, hx630_2⟩ := at_T47 (Kd.R_reads' HO_8.out).2.2 0 p630 q630
       cases e630
       have qi630 : (0 < x8_52.length) = True := eq_true (by omega)
       (try rw [show ((0 : Int)).toNat = 0 from rfl] at hx630_0)
       (try rw [show 0 * 3 = 0 from rfl] at hx630_0)
       (try rw [Addr.add_zero'] at hx630_0)
       (try rw [show ((0 : Int)).toNat = 0 from rfl] at hx630_1)
       (try rw [show 0 * 3 = 0 from rfl] at hx630_1)
       (try rw [Addr.add_zero'] at hx630_1)
       (try rw [show ((0 : Int)).toNat = 0 from rfl] at hx630_2)
       (try rw [show 0 * 3 = 0 from rfl] at hx630_2)
       (try rw [Addr.add_zero'] at hx630_2)
       replace p630 := eq_true p630
       replace q630 := eq_true q630
       have p634 : 0 ≤ (1 : Int) := (by omega)
       have q634 : 1 < (x8_52.length : Int) := od_
       obtain ⟨ad634, e634, hx634_0, hx634_1, hx634_2⟩ := at_T47 (Kd.R_reads' HO_8.out).2.2 1 p634 q634
       obtain rfl : ad630 = ad634 := (by injection e634)
       (try simp only [show (1 : Int).toNat = 1 from rfl, Nat.reduceMul, Nat.reduceEqDiff, Go.Addr.add, ↓reduceIte] at hx634_0)
       (try simp only [show (1 : Int).toNat = 1 from rfl, Nat.reduceMul, Nat.reduceEqDiff, Go.Addr.add, ↓reduceIte] at hx634_1)
       (try simp only [show (1 : Int).toNat = 1 from rfl, Nat.reduceMul, Nat.reduceEqDiff, Go.Addr.add, ↓reduceIte] at hx634_2)
       have qi634 : (1 < x8_52.length) = True := eq_true (by omega)
       (try rw [show ((1 : Int)).toNat = 1 from rfl] at hx634_0)
       (try rw [show 1 * 3 = 3 from rfl] at hx634_0)
       (try rw [show ((1 : Int)).toNat = 1 from rfl] at hx634_1)
       (try rw [show 1 * 3 = 3 from rfl] at hx634_1)
       (try rw [show ((1 : Int)).toNat = 1 from rfl] at hx634_2)
       (try rw [show 1 * 3 = 3 from rfl] at hx634_2)
       replace p634 := eq_true p634
       replace q634 := eq_true q634
       refine start_ (n := 10) (S := fun w' => w'.cell? ad630 = some (.int .i64 ((rd_T47 x8_52 0).f0)) ∧ w'.cell? ⟨ad630.block, ad630.off + 1, none⟩ = some (.string ((rd_T47 x8_52 0).f1)) ∧ w'.cell? ⟨ad630.block, ad630.off + 2, none⟩ = some (.int .i64 ((rd_T47 x8_52 0).f2)) ∧ w'.cell? ⟨ad630.block, ad630.off + 3, none⟩ = some (.int .i64 ((rd_T47 x8_52 1).f0)) ∧ w'.cell? ⟨ad630.block, ad630.off + 3 + 1, none⟩ = some (.string ((rd_T47 x8_52 1).f1)) ∧ w'.cell? ⟨ad630.block, ad630.off + 3 + 2, none⟩ = some (.int .i64 ((rd_T47 x8_52 1).f2))) (ds := [8]) #[oo,oo,oo,oo,oo,oo,oo,oo,oo,oo] (by kernel_rfl) rfl rfl ⟨hx630_0, hx630_1, hx630_2, hx634_0, hx634_1, hx634_2⟩ (fun hHeld => ?_); refine with_tabW spec_Answer.tab11 spec_Answer.bits11 (fun HT_ HW_ => ?_)
       generalize wc.drew = w83 at HO_8 HO_614004 HO_614005 BK599 BK600 BK613 BK621 HB hx630_0 hx630_1 hx630_2 hx634_0 hx634_1 hx634_2 hHeld ⊢
       refine pz_ (i := 0) (N := some 58) HT_ #[ii,oo,oo,oo,oo,oo,oo,oo,oo,oo] rfl rfl ?_
       refine pz_ (i := 1) (N := some 59) HT_ #[ii,ii,oo,oo,oo,oo,oo,oo,oo,oo] rfl rfl ?_
       refine pz_ (i := 4) (N := some 62) HT_ #[ii,ii,oo,oo,ii,oo,oo,oo,oo,oo] rfl rfl ?_
       refine pz_ (i := 5) (N := some 63) HT_ #[ii,ii,oo,oo,ii,ii,oo,oo,oo,oo] rfl rfl ?_
       refine take_ (i := 2) (N := some 60) (v := ?_) (a' := ?_) #[ii,ii,ii,oo,ii,ii,oo,oo,oo,oo] rfl rfl (take_ofW HT_.out HW_.out (by kernel_rfl)) (fun _ _ _ h => h) (Or.inl ⟨by rfl, ?_⟩) hHeld ?_ ?_
       rotate_left
       ·
        rintro w' ⟨s0, s1, s2, s3, s4, s5⟩
        go_simp
        with_reducible rfl
       rotate_left
       ·
        exact ap_
       refine take_ (i := 6) (N := some 64) (v := ?_) (a' := ?_) #[ii,ii,ii,oo,ii,ii,ii,oo,oo,oo] rfl rfl (take_ofW HT_.out HW_.out (by kernel_rfl)) (fun _ _ _ h => h) (Or.inl ⟨by rfl, ?_⟩) hHeld ?_ ?_
       rotate_left
       ·
        rintro w' ⟨s0, s1, s2, s3, s4, s5⟩
        go_simp
        with_reducible rfl
       rotate_left
       ·
        exact ap_
       refine one_ (i := 3) (N := some 61) #[ii,ii,ii,ii,ii,ii,ii,oo,oo,oo] rfl rfl (one_of HT_.out (by kernel_rfl)) (by decide) (fun K hK => ?_)
       refine goes_ Try.func126 (by kernel_rfl) rfl #[.agg #[.int .i64 ((rd_T47 x8_52 0).f0), .string ((rd_T47 x8_52 0).f1), .int .i64 ((rd_T47 x8_52 0).f2)]] (by rfl) rfl rfl la_ ?_
       with_reducible refine (spec_PutFrame.calls kj52 ((rd_T47 x8_52 0).f0) ((rd_T47 x8_52 0).f1) ((rd_T47 x8_52 0).f2) t631 _ A78.out).mono ?_
       rintro e w85 ⟨v632, rfl, ho0, hb⟩
       have HS0_ := (hb.cell (World.block_lt_of_cell? _ _ (hHeld.1))).trans (hHeld.1)
       have HS1_ := (hb.cell (World.block_lt_of_cell? _ _ (hHeld.2.1))).trans (hHeld.2.1)
       have HS2_ := (hb.cell (World.block_lt_of_cell? _ _ (hHeld.2.2.1))).trans (hHeld.2.2.1)
       have HS3_ := (hb.cell (World.block_lt_of_cell? _ _ (hHeld.2.2.2.1))).trans (hHeld.2.2.2.1)
       have HS4_ := (hb.cell (World.block_lt_of_cell? _ _ (hHeld.2.2.2.2.1))).trans (hHeld.2.2.2.2.1)
       have HS5_ := (hb.cell (World.block_lt_of_cell? _ _ (hHeld.2.2.2.2.2))).trans (hHeld.2.2.2.2.2)
       refine ⟨_, rfl, ?_⟩
       replace HO_8 := am_ (Kd.R_below (qR HO_8) hb)
       have HO633 := am_ (Kd.R_lower (Kd.R_new' (Kd.R_new' ho0 (Kd.R_lt (qR HO_614004))) (Kd.R_lt (qR HO_614005))) (below_size (qB HB)))
       replace HO_614004 := am_ (eR HO_614004 ho0 hb)
       replace HO_614005 := am_ (eR HO_614005 ho0 hb)
       replace BK599 := am_ (blk_below (qK BK599) hb)
       replace BK600 := am_ (blk_below (qK BK600) hb)
       replace BK613 := am_ (blk_below (qK BK613) hb)
       replace BK621 := am_ (blk_below (qK BK621) hb)
       replace HB := am_ (below_step (qB HB) hb)
       (try clear hb ho0)
       refine hK.out _ _ ⟨HS0_, HS1_, HS2_, HS3_, HS4_, HS5_⟩ (fun hHeld => ?_)
       clear hK K
       refine norm_ (a' := ?_) ?_ ?_
       rotate_left
       ·
        show Act.put _ (some 61) _ = _
        exact ap_
       refine one_ (i := 7) (N := some 65) #[ii,ii,ii,ii,ii,ii,ii,ii,oo,oo] rfl rfl (one_of HT_.out (by kernel_rfl)) (by decide) (fun K hK => ?_)
       refine goes_ Try.func126 (by kernel_rfl) rfl #[.agg #[.int .i64 ((rd_T47 x8_52 1).f0), .string ((rd_T47 x8_52 1).f1), .int .i64 ((rd_T47 x8_52 1).f2)]] (by rfl) rfl rfl la_ ?_
       with_reducible refine (spec_PutFrame.calls kj52 ((rd_T47 x8_52 1).f0) ((rd_T47 x8_52 1).f1) ((rd_T47 x8_52 1).f2) t635 _ A80.out).mono ?_
       rintro e w86 ⟨v636, rfl, ho0, hb⟩
       have HS0_ := (hb.cell (World.block_lt_of_cell? _ _ (hHeld.1))).trans (hHeld.1)
       have HS1_ := (hb.cell (World.block_lt_of_cell? _ _ (hHeld.2.1))).trans (hHeld.2.1)
       have HS2_ := (hb.cell (World.block_lt_of_cell? _ _ (hHeld.2.2.1))).trans (hHeld.2.2.1)
       have HS3_ := (hb.cell (World.block_lt_of_cell? _ _ (hHeld.2.2.2.1))).trans (hHeld.2.2.2.1)
       have HS4_ := (hb.cell (World.block_lt_of_cell? _ _ (hHeld.2.2.2.2.1))).trans (hHeld.2.2.2.2.1)
       have HS5_ := (hb.cell (World.block_lt_of_cell? _ _ (hHeld.2.2.2.2.2))).trans (hHeld.2.2.2.2.2)
       refine ⟨_, rfl, ?_⟩
       replace HO_8 := am_ (Kd.R_below (qR HO_8) hb)
       have HO637 := am_ (Kd.R_lower (Kd.R_new' (Kd.R_new' (Kd.R_new' ho0 (Kd.R_lt (qR HO_614004))) (Kd.R_lt (qR HO_614005))) (Kd.R_lt (qR HO633))) (below_size (qB HB)))
       replace HO_614004 := am_ (eR HO_614004 ho0 hb)
       replace HO_614005 := am_ (eR HO_614005 ho0 hb)
       replace HO633 := am_ (eR HO633 ho0 hb)
       replace BK599 := am_ (blk_below (qK BK599) hb)
       replace BK600 := am_ (blk_below (qK BK600) hb)
       replace BK613 := am_ (blk_below (qK BK613) hb)
       replace BK621 := am_ (blk_below (qK BK621) hb)
       replace HB := am_ (below_step (qB HB) hb)
       (try clear hb ho0)
       obtain ⟨Ao88, co88, eo88⟩ := Kd.R_slice HO637.out
       (first | subst eo88 | (injection eo88 with f1_ f2_ f3_; have f4_ := f1_.symm; have f5_ := f3_.symm; clear f1_ f2_ f3_; subst f4_; subst f5_))
       refine hK.out _ _ ⟨HS0_, HS1_, HS2_, HS3_, HS4_, HS5_⟩ (fun hHeld => ?_)
       clear hK K
       refine norm_ (a' := ?_) ?_ ?_
       rotate_left
       ·
        show Act.put _ (some 65) _ = _
        exact ap_
       refine last_ (i := 8) (N := some 66) #[ii,ii,ii,ii,ii,ii,ii,ii,ii,oo] rfl rfl (one_of HT_.out (by kernel_rfl)) (by decide) (fun K hK => ?_)
       refine Kd.R_append_rows_step (Kd.int .u8) (w0 := w) w.heap.size (by rfl) (.tmp 61) (.tmp 65) 22 5 (.int .u8 0) 1 rfl Try.underlying22 info5 rfl (by decide) (by omega) v632 t631 t635 _ _ _ (fun k_ => some k_ ≠ (.slice Ao13 t605.length co13 : Value).ownBlock ∧ some k_ ≠ (.slice Ao14 t608.length co14 : Value).ownBlock ∧ some k_ ≠ (.slice Ao88 t635.length co88 : Value).ownBlock) (fun _ => False) rfl rfl ?aO ?aR (fun _ _ h => h) (fun _ h => h.elim) ?aF ?aB ?aS ?aL ?_
       (case aR => exact qC ((Kd.R_reads' HO637.out).2.2))
       (case aB => exact (qB HB))
       (case aF => exact (fun k_ hk => ⟨Kd.fresh' (Kd.R_lt (qR HO_614004)) k_ hk, Kd.fresh' (Kd.R_lt (qR HO_614005)) k_ hk, Kd.fresh' (Kd.R_lt (qR HO637)) k_ hk⟩))
       (case aO => exact (tR (Kd.R_mono HO633.out (fun _ hk => ⟨hk.1.1.2, ⟨hk.1.2, hk.2⟩⟩))))
       (case aS => exact (below_size (qB HB)))
       (case aL => have := LMc81.out; omega)
       intro v639 w87 ho hb hg hat
       rw [← Ny638.out] at ho
       replace HO_8 := am_ (Kd.R_over' (qR HO_8) (Kd.R_typed (qR HO633)) (by decide) hg)
       replace HO_614004 := am_ (Kd.R_after (ok := (fun k_ => some k_ ≠ (.slice Ao14 t608.length co14 : Value).ownBlock ∧ some k_ ≠ (.slice Ao88 t635.length co88 : Value).ownBlock)) (tR (Kd.R_mono HO_614004.out (fun _ hk => ⟨⟨hk.1.1, hk.2⟩, hk.1.2⟩))) hg hat)
       replace HO_614005 := am_ (Kd.R_after (ok := (fun k_ => some k_ ≠ (.slice Ao13 t605.length co13 : Value).ownBlock ∧ some k_ ≠ (.slice Ao88 t635.length co88 : Value).ownBlock)) (tR (Kd.R_mono HO_614005.out (fun _ hk => ⟨⟨hk.1.1, hk.2⟩, hk.1.2⟩))) hg hat)
       replace BK599 := am_ (blk_grown (qK BK599) hg (Kd.R_ne HO633.out BK599.out (by decide)))
       replace BK600 := am_ (blk_grown (qK BK600) hg (Kd.R_ne HO633.out BK600.out (by decide)))
       replace BK613 := am_ (blk_grown (qK BK613) hg (Kd.R_ne HO633.out BK613.out (by decide)))
       replace BK621 := am_ (blk_grown (qK BK621) hg (Kd.R_ne HO633.out BK621.out (by decide)))
       replace HO637 := am_ (Kd.R_after (ok := (fun k_ => some k_ ≠ (.slice Ao13 t605.length co13 : Value).ownBlock ∧ some k_ ≠ (.slice Ao14 t608.length co14 : Value).ownBlock)) (tR (Kd.R_mono HO637.out (fun _ hk => ⟨⟨hk.1.1.2, hk.1.2⟩, hk.2⟩))) hg hat)
       replace HB := am_ (hb)
       have HO640 := am_ (ho)
       clear HO633
       clear ho hb hg hat
       refine hK.out _ _ ?_
       clear hK K
       refine norm_ (a' := ?_) ?_ ?_
       rotate_left
       ·
        show Act.put _ (some 66) _ = _
        exact ap_
       refine pz_ (i := 9) (N := some 9) HT_ #[ii,ii,ii,ii,ii,ii,ii,ii,ii,ii] rfl rfl ?_
       refine done_ (done_of HT_.out (by kernel_rfl)) ?_
       obtain ⟨Ao89, co89, eo89⟩ := Kd.R_slice HO640.out
       subst eo89
       have hnb90 := NB599_600.out
       have hnc90 := NB600_599.out
       have hnb91 := NB599_613.out
       have hnc91 := NB613_599.out
       have hnb92 := NB599_621.out
       have hnc92 := NB621_599.out
       obtain ⟨z93_0, z93_1, z93_2, z93_3, z93_4, z93_5, z93_6, z93_7⟩ := cz8 BK599.out
       obtain ⟨f93_0, f93_1, f93_2, f93_3, f93_4, f93_5, f93_6, f93_7⟩ := fz8 BK599.out
       go_upto_if 73 with (fail)
       have H := HC82.out
       clear HC82
       by_cases c94 : (y638.length : Int) > (wrap64 (240 - (l0_4.length : Int)))
       ·
        rw [if_pos c94] at H
        have c94b0 : decide ((wrap64 (240 - (l0_4.length : Int))) < (y638.length : Int)) = true := decide_eq_true c94
        clear c94
        (first | rw [c94b0] | (simp only [i64_w, i32_w]; rw [c94b0]) | skip)
        obtain ⟨⟨t641, t642, t643, t644, t645, t648, t651, t652⟩, A95, H⟩ := bd_ H
        (try dsimp only at H)
        simp only [Option.some.injEq, Prod.mk.injEq] at H
        obtain ⟨rfl, rfl, rfl, rfl, rfl, rfl, rfl, rfl, rfl⟩ := H
        have hnb96 := NB599_600.out
        have hnc96 := NB600_599.out
        have hnb97 := NB599_613.out
        have hnc97 := NB613_599.out
        have hnb98 := NB599_621.out
        have hnc98 := NB621_599.out
        obtain ⟨z99_0, z99_1, z99_2, z99_3, z99_4, z99_5, z99_6, z99_7⟩ := cz8 BK599.out
        obtain ⟨f99_0, f99_1, f99_2, f99_3, f99_4, f99_5, f99_6, f99_7⟩ := fz8 BK599.out
        go_wp2_with (first | ((with_reducible refine gate_callee (f := 130) rfl ?_); refine goesL_ (some 75) rfl rfl Try.func130 (by kernel_rfl) rfl #[.agg #[.int .i64 a0_0, .int .i64 a0_1, .int .i64 a0_2, .bool a0_3, .slice A0_4 l0_4.length c0_4, .slice A0_5 l0_5.length c0_5, .int .i64 a0_6, .int .i64 a0_7]] rfl la_ ?_; (with_reducible refine (spec_l8Copy.calls a0_0 a0_1 a0_2 a0_3 _ _ l0_4 _ _ l0_5 a0_6 a0_7 t641 t642 t643 t644 t645 t648 t651 t652 _ ?side1 ?side2 ?side3 ?side4 A95.out).mono ?_); (case side1 => exact qC (Kd.C_below HR0_4.out HB.out)); (case side2 => exact HC0_4.out); (case side3 => exact qC (Kd.C_below HR0_5.out HB.out)); (case side4 => exact HC0_5.out); rintro e w100 ⟨v646, v649, rfl, ho0, ho1, hb⟩; refine ⟨_, rfl, ?_⟩; replace HO_8 := am_ (Kd.R_below (qR HO_8) hb); have HO647 := am_ (Kd.R_lower (Kd.R_new' (Kd.R_new' (Kd.R_new' (Kd.R_new' ho0 (Kd.R_lt (qR HO_614004))) (Kd.R_lt (qR HO_614005))) (Kd.R_lt (qR HO637))) (Kd.R_lt (qR HO640))) (below_size (qB HB))); have HO650 := am_ (Kd.R_lower (Kd.R_new' (Kd.R_new' (Kd.R_new' (Kd.R_new' ho1 (Kd.R_lt (qR HO_614004))) (Kd.R_lt (qR HO_614005))) (Kd.R_lt (qR HO637))) (Kd.R_lt (qR HO640))) (below_size (qB HB))); replace HO_614004 := am_ (Kd.R_mono (Kd.R_told (Kd.R_told (Kd.R_old (qR HO_614004) hb) (Kd.R_base ho0)) (Kd.R_base ho1)) (fun _ h_ => h_.1)); replace HO_614005 := am_ (Kd.R_mono (Kd.R_told (Kd.R_told (Kd.R_old (qR HO_614005) hb) (Kd.R_base ho0)) (Kd.R_base ho1)) (fun _ h_ => h_.1)); replace HO637 := am_ (Kd.R_mono (Kd.R_told (Kd.R_told (Kd.R_old (qR HO637) hb) (Kd.R_base ho0)) (Kd.R_base ho1)) (fun _ h_ => h_.1)); replace HO640 := am_ (Kd.R_mono (Kd.R_told (Kd.R_told (Kd.R_old (qR HO640) hb) (Kd.R_base ho0)) (Kd.R_base ho1)) (fun _ h_ => h_.1)); replace BK599 := am_ (blk_below (qK BK599) hb); replace BK600 := am_ (blk_below (qK BK600) hb); replace BK613 := am_ (blk_below (qK BK613) hb); replace BK621 := am_ (blk_below (qK BK621) hb); replace HB := am_ (below_step (qB HB) hb); (try clear hb); (try clear hb2); (try clear hk); (try clear hi); (try clear ho0); (try clear ho1); have hnb101 := NB600_613.out; have hnc101 := NB613_600.out; have hnb102 := NB600_621.out; have hnc102 := NB621_600.out; obtain ⟨z103_0, z103_1, z103_2, z103_3, z103_4, z103_5, z103_6, z103_7⟩ := cz8 BK600.out; obtain ⟨f103_0, f103_1, f103_2, f103_3, f103_4, f103_5, f103_6, f103_7⟩ := fz8 BK600.out; obtain ⟨Ao104, co104, eo104⟩ := Kd.R_slice HO647.out; subst eo104; obtain ⟨Ao105, co105, eo105⟩ := Kd.R_slice HO650.out; subst eo105))
        refine bodyPost_ret (results_ct rfl _ _ gb600 41 #[.int .i64 t641, .int .i64 t642, .int .i64 t643, .bool t644, .slice Ao104 t645.length co104, .slice Ao105 t648.length co105, .int .i64 t651, .int .i64 t652] (0, 0) _ rfl (by refine blk_all8 (show _ = some (Go.Obj.cells #[.int .i64 0, .int .i64 0, .int .i64 0, .bool false, .slice none 0 0, .slice none 0 0, .int .i64 0, .int .i64 0] _ (0, 0)) from ?_); exact qK BK600) Try.underlying41 rfl (by kernel_rfl)) rfl ?_
        exact ⟨_, _, er_, by (with_reducible repeat (first | apply Kd.R_alloc | apply Kd.R_drewN | apply Kd.R_drew)); exact Kd.R_mono (Go.Proofs.YtaimfkfpglhijaaV.R_far8 (g := gb600) (Kd.R_types HO647.out BK600.out (by decide)) (fun _ hk => hk.2)) (fun _ hk => hk.1.1.1.1.1), by (with_reducible repeat (first | apply Kd.R_alloc | apply Kd.R_drewN | apply Kd.R_drew)); exact Kd.R_mono (Go.Proofs.YtaimfkfpglhijaaV.R_far8 (g := gb600) (Kd.R_types HO650.out BK600.out (by decide)) (fun _ hk => hk.2)) (fun _ hk => hk.1.1.1.1.1), qB HB⟩
       ·
        rw [if_neg c94] at H
        have c94b0 : decide ((wrap64 (240 - (l0_4.length : Int))) < (y638.length : Int)) = false := decide_eq_false c94
        clear c94
        (first | rw [c94b0] | (simp only [i64_w, i32_w]; rw [c94b0]) | skip)
        by_cases c106 : t605.length + y638.length < 140737488355328
        case neg => exact nn_ c106 H
        rw [if_pos c106] at H
        have LMc106 := Aside0.mk c106
        clear c106
        obtain ⟨y653, hy653⟩ : ∃ y_ : List Int, y_ = (t605 ++ y638) := ⟨_, rfl⟩
        replace H : (some (t601, t602, t603, t604, y653, t608, x614006_52, wrap64 (a0_7 + t619), true)) = some (r1, r2, r3, r4, r5, r6, r7, r8, r9) := by first | (rw [hy653]; with_reducible exact H) | (have H2_ := (Option.bind_some _ _).symm.trans H; rw [hy653]; with_reducible exact H2_) | (have H2_ := (Option.bind_some _ _).symm.trans H; with_reducible exact H2_) | with_reducible exact H | (rw [hy653]; exact H) | exact H
        have Ny653 := Aside0.mk hy653
        clear hy653
        simp only [Option.some.injEq, Prod.mk.injEq] at H
        obtain ⟨rfl, rfl, rfl, rfl, rfl, rfl, rfl, rfl, rfl⟩ := H
        have hnb107 := NB613_599.out
        have hnc107 := NB599_613.out
        have hnb108 := NB613_600.out
        have hnc108 := NB600_613.out
        have hnb109 := NB613_621.out
        have hnc109 := NB621_613.out
        obtain ⟨z110_0, z110_1, z110_2, z110_3, z110_4, z110_5, z110_6, z110_7⟩ := cz8 BK613.out
        obtain ⟨f110_0, f110_1, f110_2, f110_3, f110_4, f110_5, f110_6, f110_7⟩ := fz8 BK613.out
        go_wp2_with (first | ((with_reducible refine gate_builtin (b := .append) (xs := #[.tmp 77, .tmp 78]) rfl ?_); at_builtin; refine Kd.R_append_rows (Kd.int .u8) (w0 := w) w.heap.size rfl (.tmp 77) (.tmp 78) 22 5 (.int .u8 0) 1 rfl Try.underlying22 info5 rfl (by decide) (by omega) (.slice Ao13 t605.length co13) t605 y638 _ _ _ (fun k_ => some k_ ≠ (.slice Ao14 t608.length co14 : Value).ownBlock ∧ some k_ ≠ (.slice Ao88 t635.length co88 : Value).ownBlock ∧ some k_ ≠ (.slice Ao89 y638.length co89 : Value).ownBlock) (fun _ => False) rfl rfl ?aO ?aR (fun _ _ h => h) (fun _ h => h.elim) ?aF ?aB ?aS ?aL ?_; (case aR => exact qC ((Kd.R_reads' HO640.out).2.2)); (case aB => exact (qB HB)); (case aF => exact (fun k_ hk => ⟨Kd.fresh' (Kd.R_lt (qR HO_614005)) k_ hk, Kd.fresh' (Kd.R_lt (qR HO637)) k_ hk, Kd.fresh' (Kd.R_lt (qR HO640)) k_ hk⟩)); (case aO => exact (tR (Kd.R_mono HO_614004.out (fun _ hk => ⟨hk.1.1, ⟨hk.1.2, hk.2⟩⟩)))); (case aS => exact (below_size (qB HB))); (case aL => have := LMc106.out; omega); intro v654 w111 ho hb hg hat; rw [← Ny653.out] at ho; replace HO_8 := am_ (Kd.R_over' (qR HO_8) (Kd.R_typed (qR HO_614004)) (by decide) hg); replace HO_614005 := am_ (Kd.R_after (ok := (fun k_ => some k_ ≠ (.slice Ao88 t635.length co88 : Value).ownBlock ∧ some k_ ≠ (.slice Ao89 y638.length co89 : Value).ownBlock)) (tR (Kd.R_mono HO_614005.out (fun _ hk => ⟨⟨hk.1.2, hk.2⟩, hk.1.1⟩))) hg hat); replace BK599 := am_ (blk_grown (qK BK599) hg (Kd.R_ne HO_614004.out BK599.out (by decide))); replace BK600 := am_ (blk_grown (qK BK600) hg (Kd.R_ne HO_614004.out BK600.out (by decide))); replace BK613 := am_ (blk_grown (qK BK613) hg (Kd.R_ne HO_614004.out BK613.out (by decide))); replace BK621 := am_ (blk_grown (qK BK621) hg (Kd.R_ne HO_614004.out BK621.out (by decide))); replace HO637 := am_ (Kd.R_after (ok := (fun k_ => some k_ ≠ (.slice Ao14 t608.length co14 : Value).ownBlock ∧ some k_ ≠ (.slice Ao89 y638.length co89 : Value).ownBlock)) (tR (Kd.R_mono HO637.out (fun _ hk => ⟨⟨hk.1.2, hk.2⟩, hk.1.1⟩))) hg hat); replace HO640 := am_ (Kd.R_after (ok := (fun k_ => some k_ ≠ (.slice Ao14 t608.length co14 : Value).ownBlock ∧ some k_ ≠ (.slice Ao88 t635.length co88 : Value).ownBlock)) (tR (Kd.R_mono HO640.out (fun _ hk => ⟨⟨hk.2.1, hk.2.2⟩, hk.1⟩))) hg hat); replace HB := am_ (hb); have HO655 := am_ (ho); clear HO_614004; clear ho hb hg hat; obtain ⟨Ao112, co112, eo112⟩ := Kd.R_slice HO655.out; subst eo112; obtain ⟨z113_0, z113_1, z113_2, z113_3, z113_4, z113_5, z113_6, z113_7⟩ := cz8 BK613.out; obtain ⟨f113_0, f113_1, f113_2, f113_3, f113_4, f113_5, f113_6, f113_7⟩ := fz8 BK613.out; have hnb114 := NB599_600.out; have hnc114 := NB600_599.out; have hnb115 := NB599_621.out; have hnc115 := NB621_599.out; obtain ⟨z116_0, z116_1, z116_2, z116_3, z116_4, z116_5, z116_6, z116_7⟩ := cz8 BK599.out; obtain ⟨f116_0, f116_1, f116_2, f116_3, f116_4, f116_5, f116_6, f116_7⟩ := fz8 BK599.out; have hnb117 := NB600_621.out; have hnc117 := NB621_600.out; obtain ⟨z118_0, z118_1, z118_2, z118_3, z118_4, z118_5, z118_6, z118_7⟩ := cz8 BK600.out; obtain ⟨f118_0, f118_1, f118_2, f118_3, f118_4, f118_5, f118_6, f118_7⟩ := fz8 BK600.out))
        refine bodyPost_ret (results_ct rfl _ _ gb600 41 #[.int .i64 t601, .int .i64 t602, .int .i64 t603, .bool t604, .slice Ao112 y653.length co112, .slice Ao14 t608.length co14, .int .i64 x614006_52, .int .i64 (wrap64 (a0_7 + t619))] (0, 0) _ rfl (by refine blk_all8 (show _ = some (Go.Obj.cells #[.int .i64 0, .int .i64 0, .int .i64 0, .bool false, .slice none 0 0, .slice none 0 0, .int .i64 0, .int .i64 0] _ (0, 0)) from ?_); refine blk_far ?_ NB600_613.out _; refine blk_far ?_ NB600_613.out _; exact qK BK600) Try.underlying41 rfl (by kernel_rfl)) rfl ?_
        exact ⟨_, _, er_, by (with_reducible repeat (first | apply Kd.R_alloc | apply Kd.R_drewN | apply Kd.R_drew)); exact Kd.R_mono (Go.Proofs.YtaimfkfpglhijaaV.R_far8 (g := gb600) (Go.Proofs.YtaimfkfpglhijaaV.R_far2 (g := gb613) (Kd.R_types (Kd.R_types HO655.out BK613.out (by decide)) BK600.out (by decide)) (fun _ hk => hk.1.2)) (fun _ hk => hk.2)) (fun _ hk => hk.1.1.1), by (with_reducible repeat (first | apply Kd.R_alloc | apply Kd.R_drewN | apply Kd.R_drew)); exact Kd.R_mono (Go.Proofs.YtaimfkfpglhijaaV.R_far8 (g := gb600) (Go.Proofs.YtaimfkfpglhijaaV.R_far2 (g := gb613) (Kd.R_types (Kd.R_types HO_614005.out BK613.out (by decide)) BK600.out (by decide)) (fun _ hk => hk.1.2)) (fun _ hk => hk.2)) (fun _ hk => hk.1.1.2), qB HB⟩
    ·
     rw [if_neg c52] at H
     have c52b0 : (t620 == 0) = false := beq_eq_false_iff_ne.mpr c52
     have c52b1 : (t620 != 0) = true := bne_iff_ne.mpr c52
     (first | rw [c52b0] | rw [c52b1] | (simp only [i64_w, i32_w]; rw [c52b0]) | skip)
     simp only [Option.some.injEq, Prod.mk.injEq] at H
     obtain ⟨rfl, rfl, rfl, rfl, rfl, rfl, rfl, rfl, rfl⟩ := H
     have hnb119 := NB613_599.out
     have hnc119 := NB599_613.out
     have hnb120 := NB613_600.out
     have hnc120 := NB600_613.out
     have hnb121 := NB613_621.out
     have hnc121 := NB621_613.out
     obtain ⟨z122_0, z122_1, z122_2, z122_3, z122_4, z122_5, z122_6, z122_7⟩ := cz8 BK613.out
     obtain ⟨f122_0, f122_1, f122_2, f122_3, f122_4, f122_5, f122_6, f122_7⟩ := fz8 BK613.out
     have hnb123 := NB600_599.out
     have hnc123 := NB599_600.out
     have hnb124 := NB600_621.out
     have hnc124 := NB621_600.out
     obtain ⟨z125_0, z125_1, z125_2, z125_3, z125_4, z125_5, z125_6, z125_7⟩ := cz8 BK600.out
     obtain ⟨f125_0, f125_1, f125_2, f125_3, f125_4, f125_5, f125_6, f125_7⟩ := fz8 BK600.out
     go_wp2
     refine bodyPost_ret (results_ct rfl _ _ gb600 41 #[.int .i64 t601, .int .i64 t602, .int .i64 t603, .bool t604, .slice Ao13 t605.length co13, .slice Ao14 t608.length co14, .int .i64 t611, .int .i64 t612] (0, 0) _ rfl (by refine blk_all8 (show _ = some (Go.Obj.cells #[.int .i64 0, .int .i64 0, .int .i64 0, .bool false, .slice none 0 0, .slice none 0 0, .int .i64 0, .int .i64 0] _ (0, 0)) from ?_); refine blk_far ?_ NB600_621.out _; refine blk_far ?_ NB600_621.out _; refine blk_far ?_ NB600_621.out _; exact qK BK600) Try.underlying41 rfl (by kernel_rfl)) rfl ?_
     exact ⟨_, _, er_, by (with_reducible repeat (first | apply Kd.R_alloc | apply Kd.R_drewN | apply Kd.R_drew)); exact Kd.R_mono (Go.Proofs.YtaimfkfpglhijaaV.R_far8 (g := gb600) (Go.Proofs.YtaimfkfpglhijaaV.R_far3 (g := gb621) (Kd.R_types (Kd.R_types HO_614004.out BK621.out (by decide)) BK600.out (by decide)) (fun _ hk => hk.1.2)) (fun _ hk => hk.2)) (fun _ hk => hk.1.1), by (with_reducible repeat (first | apply Kd.R_alloc | apply Kd.R_drewN | apply Kd.R_drew)); exact Kd.R_mono (Go.Proofs.YtaimfkfpglhijaaV.R_far8 (g := gb600) (Go.Proofs.YtaimfkfpglhijaaV.R_far3 (g := gb621) (Kd.R_types (Kd.R_types HO_614005.out BK621.out (by decide)) BK600.out (by decide)) (fun _ hk => hk.1.2)) (fun _ hk => hk.2)) (fun _ hk => hk.1.1), qB HB⟩
end Go.Proofs.Ytaimfkfpglhijaa.PFnFar
