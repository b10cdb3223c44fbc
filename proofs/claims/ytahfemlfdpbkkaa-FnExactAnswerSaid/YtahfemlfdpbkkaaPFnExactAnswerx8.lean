-- Written by a program of this session (myprint.py, over the kit's print): contracts of FnExactAnswer
import Derived.Test.YtahfemlfdpbkkaaPFnExactAnswerx0
import Derived.Test.YtahfemlfdpbkkaaPFnExactAnswerx3
import Derived.Test.YtahfemlfdpbkkaaPFnExactAnswerx4
import Derived.Test.YtahfemlfdpbkkaaPFnExactAnswerx5
import Derived.Test.YtahfemlfdpbkkaaPFnExactAnswerx6
import Derived.Test.YtahfemlfdpbkkaaPFnExactAnswerx7
namespace Go.Proofs.Ytahfemlfdpbkkaa.PFnExactAnswer
open Go.RowKit Go.Proofs.YtahfemlfdpbkkaaW.PrintWords Go.Proofs.YtahfemlfdpbkkaaW.PrintLast Go.Proofs.YtahfemlfdpbkkaaW.PrintMore Go.Proofs.YtahfemlfdpbkkaaV
attribute [local go_sem] max2_int min2_int max_two min_two max_three min_three max_four min_four   -- for this text's walks alone
set_option linter.unusedVariables false
set_option linter.unusedSimpArgs false

/-! ### spec_Answer: function 51 -/
mutual
def spec_Answer.j0 : Nat → Bool → Int → Int → Int → Bool → List Int → List Int → Int → Int → Int → Int → Int → Bool → List Int → List Int → Int → Int → Option (Int × Int × Int × Bool × List Int × List Int × Int × Int × Bool)
 | 0, _, _, _, _, _, _, _, _, _, _, _, _, _, _, _, _, _ => none
 | k + 1, x23, x225000, x225001, x225002, x225003, x225004, x225005, x225006, x225007, x239000, x239001, x239002, x239003, x239004, x239005, x239006, x239007 => if x23 = true then (some (x239000, x239001, x239002, x239003, x239004, x239005, x239006, x239007, false)) else (if 0 ≤ x225007 then (if x225007 ≤ (x225005.length : Int) then ((spec_GetFrame.f k (x225005.drop (x225007 : Int).toNat)).bind fun bt241 => (if bt241.2.2.2.2 = 0 then (if bt241.1 = 2 then ((spec_AnswerTo.f k x225006 bt241.2.1).bind fun t250 => ((spec_WordOf.f bt241.2.1).bind fun t253 => ((spec_NextSt.f k x225006 t253).bind fun t254 => (spec_Answer.j1 k bt241.2.2.2.1 t250 x225000 x225001 x225002 x225003 x225004 x225005 x225006 x225007 x239000 x239001 x239002 x239003 x239004 x239005 t254 x239007)))) else (spec_Answer.j1 k bt241.2.2.2.1 (([(⟨6, (⟨#[102, 111, 114, 109]⟩ : ByteArray), 0⟩ : S32), (⟨5, (⟨#[]⟩ : ByteArray), x225006⟩ : S32)] : List (S32))) x225000 x225001 x225002 x225003 x225004 x225005 x225006 x225007 x239000 x239001 x239002 x239003 x239004 x239005 x239006 x239007)) else (some (x239000, x239001, x239002, x239003, x239004, x239005, x239006, x239007, false)))) else (none)) else (none))
def spec_Answer.j1 : Nat → Int → List (S32) → Int → Int → Int → Bool → List Int → List Int → Int → Int → Int → Int → Int → Bool → List Int → List Int → Int → Int → Option (Int × Int × Int × Bool × List Int × List Int × Int × Int × Bool)
 | 0, _, _, _, _, _, _, _, _, _, _, _, _, _, _, _, _, _, _ => none
 | k + 1, x6, x8, x225000, x225001, x225002, x225003, x225004, x225005, x225006, x225007, x239000, x239001, x239002, x239003, x239004, x239005, x239006, x239007 => if 0 < (x8.length : Int) then ((spec_PutFrame.f k ((rd_T32 x8 0).f0) ((rd_T32 x8 0).f1) ((rd_T32 x8 0).f2)).bind fun t256 => (if 1 < (x8.length : Int) then ((spec_PutFrame.f k ((rd_T32 x8 1).f0) ((rd_T32 x8 1).f1) ((rd_T32 x8 1).f2)).bind fun t260 => (if t256.length + t260.length < 140737488355328 then ((some (t256 ++ t260 : List Int)).bind fun y263 => (if (y263.length : Int) > (wrap64 (240 - (x225004.length : Int))) then ((spec_l8Copy.f x225000 x225001 x225002 x225003 x225004 x225005 x225006 x225007).bind fun bt266 => (some (bt266.1, bt266.2.1, bt266.2.2.1, bt266.2.2.2.1, bt266.2.2.2.2.1, bt266.2.2.2.2.2.1, bt266.2.2.2.2.2.2.1, bt266.2.2.2.2.2.2.2, false))) else (if x239004.length + y263.length < 140737488355328 then (some (x239000, x239001, x239002, x239003, (x239004 ++ y263), x239005, x239006, wrap64 (x225007 + x6), true)) else (none)))) else (none))) else (none))) else (none)
end
def spec_Answer.f (k : Nat) (a0_0 : Int) (a0_1 : Int) (a0_2 : Int) (a0_3 : Bool) (l0_4 : List Int) (l0_5 : List Int) (a0_6 : Int) (a0_7 : Int) : Option (Int × Int × Int × Bool × List Int × List Int × Int × Int × Bool) := (spec_l8Copy.f a0_0 a0_1 a0_2 a0_3 l0_4 l0_5 a0_6 a0_7).bind fun bt226 => ((spec_SockOk.f k a0_0 a0_1 a0_2 a0_3 l0_4 l0_5 a0_6 a0_7).bind fun t239 => (if t239 = true then (if a0_1 = 2 then (spec_Answer.j0 k a0_3 a0_0 a0_1 a0_2 a0_3 l0_4 l0_5 a0_6 a0_7 bt226.1 bt226.2.1 bt226.2.2.1 bt226.2.2.2.1 bt226.2.2.2.2.1 bt226.2.2.2.2.2.1 bt226.2.2.2.2.2.2.1 bt226.2.2.2.2.2.2.2) else (spec_Answer.j0 k true a0_0 a0_1 a0_2 a0_3 l0_4 l0_5 a0_6 a0_7 bt226.1 bt226.2.1 bt226.2.2.1 bt226.2.2.2.1 bt226.2.2.2.2.1 bt226.2.2.2.2.2.1 bt226.2.2.2.2.2.2.1 bt226.2.2.2.2.2.2.2)) else (spec_Answer.j0 k true a0_0 a0_1 a0_2 a0_3 l0_4 l0_5 a0_6 a0_7 bt226.1 bt226.2.1 bt226.2.2.1 bt226.2.2.2.1 bt226.2.2.2.2.1 bt226.2.2.2.2.2.1 bt226.2.2.2.2.2.2.1 bt226.2.2.2.2.2.2.2)))
theorem spec_Answer.mono_l : ∀ k, (∀ y0 y1 y2 y3 y4 y5 y6 y7 y8 y9 y10 y11 y12 y13 y14 y15 y16, LeO (spec_Answer.j0 k y0 y1 y2 y3 y4 y5 y6 y7 y8 y9 y10 y11 y12 y13 y14 y15 y16) (spec_Answer.j0 (k + 1) y0 y1 y2 y3 y4 y5 y6 y7 y8 y9 y10 y11 y12 y13 y14 y15 y16)) ∧ (∀ y0 y1 y2 y3 y4 y5 y6 y7 y8 y9 y10 y11 y12 y13 y14 y15 y16 y17, LeO (spec_Answer.j1 k y0 y1 y2 y3 y4 y5 y6 y7 y8 y9 y10 y11 y12 y13 y14 y15 y16 y17) (spec_Answer.j1 (k + 1) y0 y1 y2 y3 y4 y5 y6 y7 y8 y9 y10 y11 y12 y13 y14 y15 y16 y17))
 | 0 => ⟨fun _ _ _ _ _ _ _ _ _ _ _ _ _ _ _ _ _ r h => by simp [spec_Answer.j0] at h, fun _ _ _ _ _ _ _ _ _ _ _ _ _ _ _ _ _ _ r h => by simp [spec_Answer.j1] at h⟩
 | k + 1 => by
  obtain ⟨ih0, ih1⟩ := spec_Answer.mono_l k
  refine ⟨?_, ?_⟩
  ·
   intro y0 y1 y2 y3 y4 y5 y6 y7 y8 y9 y10 y11 y12 y13 y14 y15 y16
   unfold spec_Answer.j0
   repeat' first
   | (with_reducible exact ih0 _ _ _ _ _ _ _ _ _ _ _ _ _ _ _ _ _)
   | (with_reducible exact ih1 _ _ _ _ _ _ _ _ _ _ _ _ _ _ _ _ _ _)
   | (with_reducible exact spec_AnswerTo.mono _ _ _)
   | (with_reducible exact spec_GetFrame.mono _ _)
   | (with_reducible exact spec_NextSt.mono _ _ _)
   | (with_reducible exact spec_PutFrame.mono _ _ _ _)
   | (with_reducible exact spec_SockOk.mono _ _ _ _ _ _ _ _ _)
   | (with_reducible exact LeO.refl _)
   | (with_reducible exact LeO.none _)
   | (with_reducible refine LeO.ite ?_ ?_)
   | (with_reducible refine LeO.bind ?_ (fun _ => ?_))
   | exact ih0 _ _ _ _ _ _ _ _ _ _ _ _ _ _ _ _ _
   | exact ih1 _ _ _ _ _ _ _ _ _ _ _ _ _ _ _ _ _ _
   | exact spec_AnswerTo.mono _ _ _
   | exact spec_GetFrame.mono _ _
   | exact spec_NextSt.mono _ _ _
   | exact spec_PutFrame.mono _ _ _ _
   | exact spec_SockOk.mono _ _ _ _ _ _ _ _ _
   | exact LeO.none _
   | refine LeO.ite ?_ ?_
   | refine LeO.bind ?_ (fun _ => ?_)
  ·
   intro y0 y1 y2 y3 y4 y5 y6 y7 y8 y9 y10 y11 y12 y13 y14 y15 y16 y17
   unfold spec_Answer.j1
   repeat' first
   | (with_reducible exact ih0 _ _ _ _ _ _ _ _ _ _ _ _ _ _ _ _ _)
   | (with_reducible exact ih1 _ _ _ _ _ _ _ _ _ _ _ _ _ _ _ _ _ _)
   | (with_reducible exact spec_AnswerTo.mono _ _ _)
   | (with_reducible exact spec_GetFrame.mono _ _)
   | (with_reducible exact spec_NextSt.mono _ _ _)
   | (with_reducible exact spec_PutFrame.mono _ _ _ _)
   | (with_reducible exact spec_SockOk.mono _ _ _ _ _ _ _ _ _)
   | (with_reducible exact LeO.refl _)
   | (with_reducible exact LeO.none _)
   | (with_reducible refine LeO.ite ?_ ?_)
   | (with_reducible refine LeO.bind ?_ (fun _ => ?_))
   | exact ih0 _ _ _ _ _ _ _ _ _ _ _ _ _ _ _ _ _
   | exact ih1 _ _ _ _ _ _ _ _ _ _ _ _ _ _ _ _ _ _
   | exact spec_AnswerTo.mono _ _ _
   | exact spec_GetFrame.mono _ _
   | exact spec_NextSt.mono _ _ _
   | exact spec_PutFrame.mono _ _ _ _
   | exact spec_SockOk.mono _ _ _ _ _ _ _ _ _
   | exact LeO.none _
   | refine LeO.ite ?_ ?_
   | refine LeO.bind ?_ (fun _ => ?_)
theorem spec_Answer.mono : ∀ a0 a1 a2 a3 a4 a5 a6 a7 k, LeO (spec_Answer.f k a0 a1 a2 a3 a4 a5 a6 a7) (spec_Answer.f (k + 1) a0 a1 a2 a3 a4 a5 a6 a7) := by
 intro a0 a1 a2 a3 a4 a5 a6 a7 k
 obtain ⟨ih0, ih1⟩ := spec_Answer.mono_l k
 unfold spec_Answer.f
 repeat' first
   | (with_reducible exact ih0 _ _ _ _ _ _ _ _ _ _ _ _ _ _ _ _ _)
   | (with_reducible exact ih1 _ _ _ _ _ _ _ _ _ _ _ _ _ _ _ _ _ _)
   | (with_reducible exact spec_AnswerTo.mono _ _ _)
   | (with_reducible exact spec_GetFrame.mono _ _)
   | (with_reducible exact spec_NextSt.mono _ _ _)
   | (with_reducible exact spec_PutFrame.mono _ _ _ _)
   | (with_reducible exact spec_SockOk.mono _ _ _ _ _ _ _ _ _)
   | (with_reducible exact LeO.refl _)
   | (with_reducible exact LeO.none _)
   | (with_reducible refine LeO.ite ?_ ?_)
   | (with_reducible refine LeO.bind ?_ (fun _ => ?_))
   | exact ih0 _ _ _ _ _ _ _ _ _ _ _ _ _ _ _ _ _
   | exact ih1 _ _ _ _ _ _ _ _ _ _ _ _ _ _ _ _ _ _
   | exact spec_AnswerTo.mono _ _ _
   | exact spec_GetFrame.mono _ _
   | exact spec_NextSt.mono _ _ _
   | exact spec_PutFrame.mono _ _ _ _
   | exact spec_SockOk.mono _ _ _ _ _ _ _ _ _
   | exact LeO.none _
   | refine LeO.ite ?_ ?_
   | refine LeO.bind ?_ (fun _ => ?_)
def spec_Answer.T10 : Bool × List (List Nat × List Nat) := (true, [([], []), ([0], [0]), ([], []), ([2], [2]), ([3], [3]), ([1, 4, 4], [1, 4]), ([0, 1, 2, 3, 4, 5], []), ([6, 5, 5, 0, 1, 2, 3, 4, 5], [5, 6])])
def spec_Answer.B10 : List Nat := [0, 1, 0, 4, 12, 31, 63, 127]
theorem spec_Answer.tab10 : rtab .any (opsOf Try.f51 10) = spec_Answer.T10 := by kernel_rfl
theorem spec_Answer.bits10 : waitsOk spec_Answer.T10.2 spec_Answer.B10 = true := by kernel_rfl
def spec_Answer.T11 : Bool × List (List Nat × List Nat) := (true, [([], []), ([0], [0]), ([1], [1]), ([2], [2]), ([], []), ([4], [4]), ([5], [5]), ([6, 3], [6]), ([3, 7, 7], [3, 7]), ([8, 8, 0, 1, 2, 3, 4, 5, 6, 7, 8], [8])])
def spec_Answer.B11 : List Nat := [0, 1, 3, 7, 0, 16, 48, 127, 255, 511]
theorem spec_Answer.tab11 : rtab .any (opsOf Try.f51 11) = spec_Answer.T11 := by kernel_rfl
theorem spec_Answer.bits11 : waitsOk spec_Answer.T11.2 spec_Answer.B11 = true := by kernel_rfl
set_option maxHeartbeats 8000000 in
set_option maxRecDepth 100000 in
theorem spec_Answer.calls (k : Nat) (a0_0 : Int) (a0_1 : Int) (a0_2 : Int) (a0_3 : Bool) (A0_4 : Option Addr) (c0_4 : Nat) (l0_4 : List Int) (A0_5 : Option Addr) (c0_5 : Nat) (l0_5 : List Int) (a0_6 : Int) (a0_7 : Int) (r1 : Int) (r2 : Int) (r3 : Int) (r4 : Bool) (r5 : List Int) (r6 : List Int) (r7 : Int) (r8 : Int) (r9 : Bool) (w : World) (hr0_4 : Kd.C (Kd.int .u8) w A0_4 l0_4.length l0_4) (hc0_4 : l0_4.length ≤ c0_4) (hr0_5 : Kd.C (Kd.int .u8) w A0_5 l0_5.length l0_5) (hc0_5 : l0_5.length ≤ c0_5) (h : spec_Answer.f k a0_0 a0_1 a0_2 a0_3 l0_4 l0_5 a0_6 a0_7 = some (r1, r2, r3, r4, r5, r6, r7, r8, r9)) :
  Calls Try.prog 51 #[.agg #[.int .i64 a0_0, .int .i64 a0_1, .int .i64 a0_2, .bool a0_3, .slice A0_4 l0_4.length c0_4, .slice A0_5 l0_5.length c0_5, .int .i64 a0_6, .int .i64 a0_7]] w fun e w' => ∃ v4_ v5_ : Value, e = .returned (.tuple #[.agg #[.int .i64 r1, .int .i64 r2, .int .i64 r3, .bool r4, v4_, v5_, .int .i64 r7, .int .i64 r8], .bool r9]) ∧ Kd.R (Kd.int .u8) 5 w' w.heap.size (fun k_ => some k_ ≠ (v5_ : Value).ownBlock) v4_ r5 ∧ Kd.R (Kd.int .u8) 5 w' w.heap.size (fun k_ => some k_ ≠ (v4_ : Value).ownBlock) v5_ r6 ∧ Below w.heap.size w w' := by
 have hu29 := Try.underlying29
 have hu32 := Try.underlying32
 have HR0_4 := Aside0.mk hr0_4
 have HC0_4 := Aside0.mk hc0_4
 clear hr0_4 hc0_4
 have HR0_5 := Aside0.mk hr0_5
 have HC0_5 := Aside0.mk hc0_5
 clear hr0_5 hc0_5
 have HB := Aside0.mk (Below.refl w.heap.size w)
 have H : ((spec_l8Copy.f a0_0 a0_1 a0_2 a0_3 l0_4 l0_5 a0_6 a0_7).bind fun bt226 => ((spec_SockOk.f k a0_0 a0_1 a0_2 a0_3 l0_4 l0_5 a0_6 a0_7).bind fun t239 => (if t239 = true then (if a0_1 = 2 then (spec_Answer.j0 k a0_3 a0_0 a0_1 a0_2 a0_3 l0_4 l0_5 a0_6 a0_7 bt226.1 bt226.2.1 bt226.2.2.1 bt226.2.2.2.1 bt226.2.2.2.2.1 bt226.2.2.2.2.2.1 bt226.2.2.2.2.2.2.1 bt226.2.2.2.2.2.2.2) else (spec_Answer.j0 k true a0_0 a0_1 a0_2 a0_3 l0_4 l0_5 a0_6 a0_7 bt226.1 bt226.2.1 bt226.2.2.1 bt226.2.2.2.1 bt226.2.2.2.2.1 bt226.2.2.2.2.2.1 bt226.2.2.2.2.2.2.1 bt226.2.2.2.2.2.2.2)) else (spec_Answer.j0 k true a0_0 a0_1 a0_2 a0_3 l0_4 l0_5 a0_6 a0_7 bt226.1 bt226.2.1 bt226.2.2.1 bt226.2.2.2.1 bt226.2.2.2.2.1 bt226.2.2.2.2.2.1 bt226.2.2.2.2.2.2.1 bt226.2.2.2.2.2.2.2)))) = some (r1, r2, r3, r4, r5, r6, r7, r8, r9) := h
 clear h
 replace H := Option.bind_eq_some_iff.mp H
 obtain ⟨⟨t226, t227, t228, t229, t230, t233, t236, t237⟩, A20, H⟩ := H
 replace H : ((spec_SockOk.f k a0_0 a0_1 a0_2 a0_3 l0_4 l0_5 a0_6 a0_7).bind fun t239 => (if t239 = true then (if a0_1 = 2 then (spec_Answer.j0 k a0_3 a0_0 a0_1 a0_2 a0_3 l0_4 l0_5 a0_6 a0_7 t226 t227 t228 t229 t230 t233 t236 t237) else (spec_Answer.j0 k true a0_0 a0_1 a0_2 a0_3 l0_4 l0_5 a0_6 a0_7 t226 t227 t228 t229 t230 t233 t236 t237)) else (spec_Answer.j0 k true a0_0 a0_1 a0_2 a0_3 l0_4 l0_5 a0_6 a0_7 t226 t227 t228 t229 t230 t233 t236 t237))) = some (r1, r2, r3, r4, r5, r6, r7, r8, r9) := H
 have A2 := Aside0.mk A20
 clear A20
 have HC3 := Aside0.mk H
 clear H
 go_enter Try.func51, Try.ntmps51
 go_upto_region 2 with (first | ((with_reducible refine gate_dst (N := 1) rfl ?_); refine box_event ?hg (N := 1) ?hd (cs := #[.int .i64 a0_0, .int .i64 a0_1, .int .i64 a0_2, .bool a0_3, .slice A0_4 l0_4.length c0_4, .slice A0_5 l0_5.length c0_5, .int .i64 a0_6, .int .i64 a0_7]) (t := 29) ?hr ?_; (case hd => rfl); (case hg => rfl); (case hr => first | (go_simp; done) | (go_simp; rfl)); intro gb224 hg w4 hbox hb; have BK224 := am_ (hbox); have GW224 := am_ ((gG_ hg (qB HB))); have IGW224 := gI_ GW224; have GE224 := am_ ((gG_ hg (qB HB))); have IGE224 := gI_ GE224; replace HB := am_ (below_step (qB HB) hb); clear hb hbox hg) | ((with_reducible refine gate_dst (N := 2) rfl ?_); refine box_event ?hg (N := 2) ?hd (cs := #[.int .i64 0, .int .i64 0, .int .i64 0, .bool false, .slice none 0 0, .slice none 0 0, .int .i64 0, .int .i64 0]) (t := 29) ?hr ?_; (case hd => rfl); (case hg => rfl); (case hr => first | (go_simp; done) | (go_simp; rfl)); intro gb225 hg w5 hbox hb; have BK225 := am_ (hbox); have GW225 := am_ ((gG_ hg (qB HB))); have IGW225 := gI_ GW225; have GE225 := am_ ((gG_ hg (qB HB))); have IGE225 := gI_ GE225; replace HB := am_ (below_step (qB HB) hb); have NB224_225 := am_ ((gN_ hg (qK BK224))); have NB225_224 := am_ ((gM_ hg (qK BK224))); replace BK224 := am_ (blk_below (qK BK224) hb); clear hb hbox hg; have hnb6 := NB224_225.out; have hnc6 := NB225_224.out; obtain ⟨hcz7_0, hcz7_1, hcz7_2, hcz7_3, hcz7_4, hcz7_5, hcz7_6, hcz7_7⟩ := cz8 BK224.out; obtain ⟨hfz7_0, hfz7_1, hfz7_2, hfz7_3, hfz7_4, hfz7_5, hfz7_6, hfz7_7⟩ := fz8 BK224.out) | ((with_reducible refine gate_callee (f := 65) rfl ?_); refine goesL_ (some 11) rfl rfl Try.func65 (by kernel_rfl) rfl #[.agg #[.int .i64 a0_0, .int .i64 a0_1, .int .i64 a0_2, .bool a0_3, .slice A0_4 l0_4.length c0_4, .slice A0_5 l0_5.length c0_5, .int .i64 a0_6, .int .i64 a0_7]] rfl (by (try simp only [List.map_toArray, List.map_cons, List.map_nil]); first | done | rfl | (simp only [List.length_drop, List.length_take]; rfl)) ?_; (with_reducible refine (spec_l8Copy.calls a0_0 a0_1 a0_2 a0_3 _ _ l0_4 _ _ l0_5 a0_6 a0_7 t226 t227 t228 t229 t230 t233 t236 t237 _ ?side1 ?side2 ?side3 ?side4 A2.out).mono ?_); (case side1 => exact qC (Kd.C_below HR0_4.out HB.out)); (case side2 => exact HC0_4.out); (case side3 => exact qC (Kd.C_below HR0_5.out HB.out)); (case side4 => exact HC0_5.out); rintro e w8 ⟨v231, v234, rfl, ho0, ho1, hb⟩; refine ⟨_, rfl, ?_⟩; have HO232 := am_ (Kd.R_lower ho0 (below_size (qB HB))); have HO235 := am_ (Kd.R_lower ho1 (below_size (qB HB))); replace BK224 := am_ (blk_below (qK BK224) hb); replace BK225 := am_ (blk_below (qK BK225) hb); replace HB := am_ (below_step (qB HB) hb); (try clear hb); (try clear hb2); (try clear hk); (try clear hi); (try clear ho0); (try clear ho1)) | ((with_reducible refine gate_dst (N := 4) rfl ?_); refine box_event ?hg (N := 4) ?hd (cs := #[.int .i64 0, .int .i64 0, .int .i64 0, .bool false, .slice none 0 0, .slice none 0 0, .int .i64 0, .int .i64 0]) (t := 29) ?hr ?_; (case hd => rfl); (case hg => rfl); (case hr => first | (go_simp; done) | (go_simp; rfl)); intro gb238 hg w9 hbox hb; replace HO232 := am_ (Kd.R_below (qR HO232) hb); replace HO235 := am_ (Kd.R_below (qR HO235) hb); have BK238 := am_ (hbox); have GW238 := am_ ((gG_ hg (qB HB))); have IGW238 := gI_ GW238; have GE238 := am_ ((gG_ hg (qB HB))); have IGE238 := gI_ GE238; replace HB := am_ (below_step (qB HB) hb); have NB224_238 := am_ ((gN_ hg (qK BK224))); have NB238_224 := am_ ((gM_ hg (qK BK224))); replace BK224 := am_ (blk_below (qK BK224) hb); have NB225_238 := am_ ((gN_ hg (qK BK225))); have NB238_225 := am_ ((gM_ hg (qK BK225))); replace BK225 := am_ (blk_below (qK BK225) hb); clear hb hbox hg; have hnb10 := NB238_224.out; have hnc10 := NB224_238.out; have hnb11 := NB238_225.out; have hnc11 := NB225_238.out; obtain ⟨hcz12_0, hcz12_1, hcz12_2, hcz12_3, hcz12_4, hcz12_5, hcz12_6, hcz12_7⟩ := cz8 BK238.out; obtain ⟨hfz12_0, hfz12_1, hfz12_2, hfz12_3, hfz12_4, hfz12_5, hfz12_6, hfz12_7⟩ := fz8 BK238.out; obtain ⟨Ao13, co13, eo13⟩ := Kd.R_slice HO232.out; subst eo13; obtain ⟨Ao14, co14, eo14⟩ := Kd.R_slice HO235.out; subst eo14))
 (try simp only [Act.put, List.setIfInBounds_toArray, List.set_cons_zero, List.set_cons_succ])
 go_cut [23] (fun v23 wc => ∃ (kq : Nat) (x23_2 : Bool), v23 = .bool x23_2 ∧ Aside0 (spec_Answer.j0 kq x23_2 a0_0 a0_1 a0_2 a0_3 l0_4 l0_5 a0_6 a0_7 t226 t227 t228 t229 t230 t233 t236 t237 = some (r1, r2, r3, r4, r5, r6, r7, r8, r9)) ∧ Aside0 (kq ≤ k) ∧ Aside0 (Kd.R (Kd.int .u8) 5 wc w.heap.size (fun k_ => some k_ ≠ ((.slice Ao14 t233.length co14) : Value).ownBlock) (.slice Ao13 t230.length co13) t230) ∧ Aside0 (Kd.R (Kd.int .u8) 5 wc w.heap.size (fun k_ => some k_ ≠ ((.slice Ao13 t230.length co13) : Value).ownBlock) (.slice Ao14 t233.length co14) t233) ∧ Aside0 (wc.heap[gb224]? = some (.cells #[.int .i64 a0_0, .int .i64 a0_1, .int .i64 a0_2, .bool a0_3, (.slice A0_4 l0_4.length c0_4), (.slice A0_5 l0_5.length c0_5), .int .i64 a0_6, .int .i64 a0_7] 29 (0, 0))) ∧ Aside0 (wc.heap[gb225]? = some (.cells #[.int .i64 0, .int .i64 0, .int .i64 0, .bool false, (.slice none 0 0), (.slice none 0 0), .int .i64 0, .int .i64 0] 29 (0, 0))) ∧ Aside0 (wc.heap[gb238]? = some (.cells #[.int .i64 t226, .int .i64 t227, .int .i64 t228, .bool t229, (.slice Ao13 t230.length co13), (.slice Ao14 t233.length co14), .int .i64 t236, .int .i64 t237] 29 (0, 0))) ∧ Aside0 (Below w.heap.size w wc))
 case first =>
  have H := HC3.out
  clear HC3
  replace H := Option.bind_eq_some_iff.mp H
  obtain ⟨t239, A150, H⟩ := H
  replace H : (if t239 = true then (if a0_1 = 2 then (spec_Answer.j0 k a0_3 a0_0 a0_1 a0_2 a0_3 l0_4 l0_5 a0_6 a0_7 t226 t227 t228 t229 t230 t233 t236 t237) else (spec_Answer.j0 k true a0_0 a0_1 a0_2 a0_3 l0_4 l0_5 a0_6 a0_7 t226 t227 t228 t229 t230 t233 t236 t237)) else (spec_Answer.j0 k true a0_0 a0_1 a0_2 a0_3 l0_4 l0_5 a0_6 a0_7 t226 t227 t228 t229 t230 t233 t236 t237)) = some (r1, r2, r3, r4, r5, r6, r7, r8, r9) := H
  have A15 := Aside0.mk A150
  clear A150
  by_cases c16 : t239 = true
  ·
   subst c16
   have H1 : (if a0_1 = 2 then (spec_Answer.j0 k a0_3 a0_0 a0_1 a0_2 a0_3 l0_4 l0_5 a0_6 a0_7 t226 t227 t228 t229 t230 t233 t236 t237) else (spec_Answer.j0 k true a0_0 a0_1 a0_2 a0_3 l0_4 l0_5 a0_6 a0_7 t226 t227 t228 t229 t230 t233 t236 t237)) = some (r1, r2, r3, r4, r5, r6, r7, r8, r9) := by rw [if_pos rfl] at H; exact H
   clear H
   have H := H1
   clear H1
   by_cases c17 : a0_1 = 2
   ·
    rw [if_pos c17] at H
    have c17b0 : (a0_1 == 2) = true := beq_iff_eq.mpr c17
    have c17b1 : (a0_1 != 2) = false := bne_eq_false_iff_eq.mpr c17
    clear c17
    (first | rw [c17b0] | (simp only [i64_w, i32_w]; rw [c17b0]) | skip)
    have H' := Aside0.mk H
    clear H
    have hnb18 := NB224_225.out
    have hnc18 := NB225_224.out
    have hnb19 := NB224_238.out
    have hnc19 := NB238_224.out
    obtain ⟨hcz20_0, hcz20_1, hcz20_2, hcz20_3, hcz20_4, hcz20_5, hcz20_6, hcz20_7⟩ := cz8 BK224.out
    obtain ⟨hfz20_0, hfz20_1, hfz20_2, hfz20_3, hfz20_4, hfz20_5, hfz20_6, hfz20_7⟩ := fz8 BK224.out
    go_wp2_with (first | ((with_reducible refine gate_callee (f := 66) rfl ?_); refine goesL_ (some 13) rfl rfl Try.func66 (by kernel_rfl) rfl #[.agg #[.int .i64 a0_0, .int .i64 a0_1, .int .i64 a0_2, .bool a0_3, .slice A0_4 l0_4.length c0_4, .slice A0_5 l0_5.length c0_5, .int .i64 a0_6, .int .i64 a0_7]] rfl (by (try simp only [List.map_toArray, List.map_cons, List.map_nil]); first | done | rfl | (simp only [List.length_drop, List.length_take]; rfl)) ?_; (with_reducible refine (spec_SockOk.calls k a0_0 a0_1 a0_2 a0_3 _ _ l0_4 _ _ l0_5 a0_6 a0_7 true _ ?side1 ?side2 ?side3 ?side4 A15.out).mono ?_); (case side1 => exact Kd.C_below HR0_4.out (qB HB)); (case side2 => exact HC0_4.out); (case side3 => exact Kd.C_below HR0_5.out (qB HB)); (case side4 => exact HC0_5.out); rintro e w21 ⟨rfl, hb⟩; refine ⟨_, rfl, ?_⟩; replace HO232 := am_ (Kd.R_below (by (with_reducible repeat (first | apply Kd.R_alloc | apply Kd.R_drewN | apply Kd.R_drew)); exact (Kd.R_mono (Go.Proofs.YtahfemlfdpbkkaaV.R_far8 (g := gb238) (Kd.R_types HO232.out BK238.out (by decide)) (fun _ hk => hk.2)) (fun _ h_ => h_.1))) hb); replace HO235 := am_ (Kd.R_below (by (with_reducible repeat (first | apply Kd.R_alloc | apply Kd.R_drewN | apply Kd.R_drew)); exact (Kd.R_mono (Go.Proofs.YtahfemlfdpbkkaaV.R_far8 (g := gb238) (Kd.R_types HO235.out BK238.out (by decide)) (fun _ hk => hk.2)) (fun _ h_ => h_.1))) hb); replace BK224 := am_ (blk_below (g := gb224) (o := .cells #[.int .i64 a0_0, .int .i64 a0_1, .int .i64 a0_2, .bool a0_3, .slice A0_4 l0_4.length c0_4, .slice A0_5 l0_5.length c0_5, .int .i64 a0_6, .int .i64 a0_7] 29 (0, 0)) (by (with_reducible repeat (first | refine blk_drewN ?_ _ | refine blk_drew ?_ | refine blk_alloc ?_ _)); refine Go.Proofs.YtahfemlfdpbkkaaV.blk_far8 ?_ NB224_238.out; (with_reducible repeat (first | refine blk_drewN ?_ _ | refine blk_drew ?_ | refine blk_alloc ?_ _)); exact BK224.out) hb); replace BK225 := am_ (blk_below (g := gb225) (o := .cells #[.int .i64 0, .int .i64 0, .int .i64 0, .bool false, .slice none 0 0, .slice none 0 0, .int .i64 0, .int .i64 0] 29 (0, 0)) (by (with_reducible repeat (first | refine blk_drewN ?_ _ | refine blk_drew ?_ | refine blk_alloc ?_ _)); refine Go.Proofs.YtahfemlfdpbkkaaV.blk_far8 ?_ NB225_238.out; (with_reducible repeat (first | refine blk_drewN ?_ _ | refine blk_drew ?_ | refine blk_alloc ?_ _)); exact BK225.out) hb); replace BK238 := am_ (blk_below (g := gb238) (o := .cells #[.int .i64 t226, .int .i64 t227, .int .i64 t228, .bool t229, .slice Ao13 t230.length co13, .slice Ao14 t233.length co14, .int .i64 t236, .int .i64 t237] 29 (0, 0)) (by (with_reducible repeat (first | refine blk_drewN ?_ _ | refine blk_drew ?_ | refine blk_alloc ?_ _)); refine Go.Proofs.YtahfemlfdpbkkaaV.blk_all8 (show _ = some (Go.Obj.cells #[.int .i64 0, .int .i64 0, .int .i64 0, .bool false, .slice none 0 0, .slice none 0 0, .int .i64 0, .int .i64 0] _ (0, 0)) from ?_); (with_reducible repeat (first | refine blk_drewN ?_ _ | refine blk_drew ?_ | refine blk_alloc ?_ _)); exact BK238.out) hb); replace HB := am_ (below_step (qB HB) hb); (try clear hb); (try clear hb2); (try clear hk); (try clear hi); obtain ⟨hcz22_0, hcz22_1, hcz22_2, hcz22_3, hcz22_4, hcz22_5, hcz22_6, hcz22_7⟩ := cz8 BK224.out; obtain ⟨hfz22_0, hfz22_1, hfz22_2, hfz22_3, hfz22_4, hfz22_5, hfz22_6, hfz22_7⟩ := fz8 BK224.out))
    go_meet
    case rel => exact ⟨_, (a0_3), (by first | rfl | (simp; done) | (simp [*]; done) | (simp [Go.Proofs.YtahfemlfdpbkkaaV.bne_nil, Go.Proofs.YtahfemlfdpbkkaaV.beq_nil]; done)), H', ⟨by first | omega | exact Nat.le_refl _⟩, ⟨qR HO232⟩, ⟨qR HO235⟩, ⟨qK BK224⟩, ⟨qK BK225⟩, ⟨qK BK238⟩, ⟨qB HB⟩⟩
   ·
    rw [if_neg c17] at H
    have c17b0 : (a0_1 == 2) = false := beq_eq_false_iff_ne.mpr c17
    have c17b1 : (a0_1 != 2) = true := bne_iff_ne.mpr c17
    (first | rw [c17b0] | (simp only [i64_w, i32_w]; rw [c17b0]) | skip)
    have H' := Aside0.mk H
    clear H
    have hnb23 := NB224_225.out
    have hnc23 := NB225_224.out
    have hnb24 := NB224_238.out
    have hnc24 := NB238_224.out
    obtain ⟨hcz25_0, hcz25_1, hcz25_2, hcz25_3, hcz25_4, hcz25_5, hcz25_6, hcz25_7⟩ := cz8 BK224.out
    obtain ⟨hfz25_0, hfz25_1, hfz25_2, hfz25_3, hfz25_4, hfz25_5, hfz25_6, hfz25_7⟩ := fz8 BK224.out
    go_wp2_with (first | ((with_reducible refine gate_callee (f := 66) rfl ?_); refine goesL_ (some 13) rfl rfl Try.func66 (by kernel_rfl) rfl #[.agg #[.int .i64 a0_0, .int .i64 a0_1, .int .i64 a0_2, .bool a0_3, .slice A0_4 l0_4.length c0_4, .slice A0_5 l0_5.length c0_5, .int .i64 a0_6, .int .i64 a0_7]] rfl (by (try simp only [List.map_toArray, List.map_cons, List.map_nil]); first | done | rfl | (simp only [List.length_drop, List.length_take]; rfl)) ?_; (with_reducible refine (spec_SockOk.calls k a0_0 a0_1 a0_2 a0_3 _ _ l0_4 _ _ l0_5 a0_6 a0_7 true _ ?side1 ?side2 ?side3 ?side4 A15.out).mono ?_); (case side1 => exact Kd.C_below HR0_4.out (qB HB)); (case side2 => exact HC0_4.out); (case side3 => exact Kd.C_below HR0_5.out (qB HB)); (case side4 => exact HC0_5.out); rintro e w26 ⟨rfl, hb⟩; refine ⟨_, rfl, ?_⟩; replace HO232 := am_ (Kd.R_below (by (with_reducible repeat (first | apply Kd.R_alloc | apply Kd.R_drewN | apply Kd.R_drew)); exact (Kd.R_mono (Go.Proofs.YtahfemlfdpbkkaaV.R_far8 (g := gb238) (Kd.R_types HO232.out BK238.out (by decide)) (fun _ hk => hk.2)) (fun _ h_ => h_.1))) hb); replace HO235 := am_ (Kd.R_below (by (with_reducible repeat (first | apply Kd.R_alloc | apply Kd.R_drewN | apply Kd.R_drew)); exact (Kd.R_mono (Go.Proofs.YtahfemlfdpbkkaaV.R_far8 (g := gb238) (Kd.R_types HO235.out BK238.out (by decide)) (fun _ hk => hk.2)) (fun _ h_ => h_.1))) hb); replace BK224 := am_ (blk_below (g := gb224) (o := .cells #[.int .i64 a0_0, .int .i64 a0_1, .int .i64 a0_2, .bool a0_3, .slice A0_4 l0_4.length c0_4, .slice A0_5 l0_5.length c0_5, .int .i64 a0_6, .int .i64 a0_7] 29 (0, 0)) (by (with_reducible repeat (first | refine blk_drewN ?_ _ | refine blk_drew ?_ | refine blk_alloc ?_ _)); refine Go.Proofs.YtahfemlfdpbkkaaV.blk_far8 ?_ NB224_238.out; (with_reducible repeat (first | refine blk_drewN ?_ _ | refine blk_drew ?_ | refine blk_alloc ?_ _)); exact BK224.out) hb); replace BK225 := am_ (blk_below (g := gb225) (o := .cells #[.int .i64 0, .int .i64 0, .int .i64 0, .bool false, .slice none 0 0, .slice none 0 0, .int .i64 0, .int .i64 0] 29 (0, 0)) (by (with_reducible repeat (first | refine blk_drewN ?_ _ | refine blk_drew ?_ | refine blk_alloc ?_ _)); refine Go.Proofs.YtahfemlfdpbkkaaV.blk_far8 ?_ NB225_238.out; (with_reducible repeat (first | refine blk_drewN ?_ _ | refine blk_drew ?_ | refine blk_alloc ?_ _)); exact BK225.out) hb); replace BK238 := am_ (blk_below (g := gb238) (o := .cells #[.int .i64 t226, .int .i64 t227, .int .i64 t228, .bool t229, .slice Ao13 t230.length co13, .slice Ao14 t233.length co14, .int .i64 t236, .int .i64 t237] 29 (0, 0)) (by (with_reducible repeat (first | refine blk_drewN ?_ _ | refine blk_drew ?_ | refine blk_alloc ?_ _)); refine Go.Proofs.YtahfemlfdpbkkaaV.blk_all8 (show _ = some (Go.Obj.cells #[.int .i64 0, .int .i64 0, .int .i64 0, .bool false, .slice none 0 0, .slice none 0 0, .int .i64 0, .int .i64 0] _ (0, 0)) from ?_); (with_reducible repeat (first | refine blk_drewN ?_ _ | refine blk_drew ?_ | refine blk_alloc ?_ _)); exact BK238.out) hb); replace HB := am_ (below_step (qB HB) hb); (try clear hb); (try clear hb2); (try clear hk); (try clear hi); obtain ⟨hcz27_0, hcz27_1, hcz27_2, hcz27_3, hcz27_4, hcz27_5, hcz27_6, hcz27_7⟩ := cz8 BK224.out; obtain ⟨hfz27_0, hfz27_1, hfz27_2, hfz27_3, hfz27_4, hfz27_5, hfz27_6, hfz27_7⟩ := fz8 BK224.out))
    go_meet
    case rel => exact ⟨_, (true), (by first | rfl | (simp; done) | (simp [*]; done) | (simp [Go.Proofs.YtahfemlfdpbkkaaV.bne_nil, Go.Proofs.YtahfemlfdpbkkaaV.beq_nil]; done)), H', ⟨by first | omega | exact Nat.le_refl _⟩, ⟨qR HO232⟩, ⟨qR HO235⟩, ⟨qK BK224⟩, ⟨qK BK225⟩, ⟨qK BK238⟩, ⟨qB HB⟩⟩
  ·
   replace c16 := Bool.eq_false_iff.mpr c16
   subst c16
   have H1 : (spec_Answer.j0 k true a0_0 a0_1 a0_2 a0_3 l0_4 l0_5 a0_6 a0_7 t226 t227 t228 t229 t230 t233 t236 t237) = some (r1, r2, r3, r4, r5, r6, r7, r8, r9) := by rw [if_neg (show ¬ (false = true) by decide)] at H; exact H
   clear H
   have H := H1
   clear H1
   have H' := Aside0.mk H
   clear H
   have hnb28 := NB224_225.out
   have hnc28 := NB225_224.out
   have hnb29 := NB224_238.out
   have hnc29 := NB238_224.out
   obtain ⟨hcz30_0, hcz30_1, hcz30_2, hcz30_3, hcz30_4, hcz30_5, hcz30_6, hcz30_7⟩ := cz8 BK224.out
   obtain ⟨hfz30_0, hfz30_1, hfz30_2, hfz30_3, hfz30_4, hfz30_5, hfz30_6, hfz30_7⟩ := fz8 BK224.out
   go_wp2_with (first | ((with_reducible refine gate_callee (f := 66) rfl ?_); refine goesL_ (some 13) rfl rfl Try.func66 (by kernel_rfl) rfl #[.agg #[.int .i64 a0_0, .int .i64 a0_1, .int .i64 a0_2, .bool a0_3, .slice A0_4 l0_4.length c0_4, .slice A0_5 l0_5.length c0_5, .int .i64 a0_6, .int .i64 a0_7]] rfl (by (try simp only [List.map_toArray, List.map_cons, List.map_nil]); first | done | rfl | (simp only [List.length_drop, List.length_take]; rfl)) ?_; (with_reducible refine (spec_SockOk.calls k a0_0 a0_1 a0_2 a0_3 _ _ l0_4 _ _ l0_5 a0_6 a0_7 false _ ?side1 ?side2 ?side3 ?side4 A15.out).mono ?_); (case side1 => exact Kd.C_below HR0_4.out (qB HB)); (case side2 => exact HC0_4.out); (case side3 => exact Kd.C_below HR0_5.out (qB HB)); (case side4 => exact HC0_5.out); rintro e w31 ⟨rfl, hb⟩; refine ⟨_, rfl, ?_⟩; replace HO232 := am_ (Kd.R_below (by (with_reducible repeat (first | apply Kd.R_alloc | apply Kd.R_drewN | apply Kd.R_drew)); exact (Kd.R_mono (Go.Proofs.YtahfemlfdpbkkaaV.R_far8 (g := gb238) (Kd.R_types HO232.out BK238.out (by decide)) (fun _ hk => hk.2)) (fun _ h_ => h_.1))) hb); replace HO235 := am_ (Kd.R_below (by (with_reducible repeat (first | apply Kd.R_alloc | apply Kd.R_drewN | apply Kd.R_drew)); exact (Kd.R_mono (Go.Proofs.YtahfemlfdpbkkaaV.R_far8 (g := gb238) (Kd.R_types HO235.out BK238.out (by decide)) (fun _ hk => hk.2)) (fun _ h_ => h_.1))) hb); replace BK224 := am_ (blk_below (g := gb224) (o := .cells #[.int .i64 a0_0, .int .i64 a0_1, .int .i64 a0_2, .bool a0_3, .slice A0_4 l0_4.length c0_4, .slice A0_5 l0_5.length c0_5, .int .i64 a0_6, .int .i64 a0_7] 29 (0, 0)) (by (with_reducible repeat (first | refine blk_drewN ?_ _ | refine blk_drew ?_ | refine blk_alloc ?_ _)); refine Go.Proofs.YtahfemlfdpbkkaaV.blk_far8 ?_ NB224_238.out; (with_reducible repeat (first | refine blk_drewN ?_ _ | refine blk_drew ?_ | refine blk_alloc ?_ _)); exact BK224.out) hb); replace BK225 := am_ (blk_below (g := gb225) (o := .cells #[.int .i64 0, .int .i64 0, .int .i64 0, .bool false, .slice none 0 0, .slice none 0 0, .int .i64 0, .int .i64 0] 29 (0, 0)) (by (with_reducible repeat (first | refine blk_drewN ?_ _ | refine blk_drew ?_ | refine blk_alloc ?_ _)); refine Go.Proofs.YtahfemlfdpbkkaaV.blk_far8 ?_ NB225_238.out; (with_reducible repeat (first | refine blk_drewN ?_ _ | refine blk_drew ?_ | refine blk_alloc ?_ _)); exact BK225.out) hb); replace BK238 := am_ (blk_below (g := gb238) (o := .cells #[.int .i64 t226, .int .i64 t227, .int .i64 t228, .bool t229, .slice Ao13 t230.length co13, .slice Ao14 t233.length co14, .int .i64 t236, .int .i64 t237] 29 (0, 0)) (by (with_reducible repeat (first | refine blk_drewN ?_ _ | refine blk_drew ?_ | refine blk_alloc ?_ _)); refine Go.Proofs.YtahfemlfdpbkkaaV.blk_all8 (show _ = some (Go.Obj.cells #[.int .i64 0, .int .i64 0, .int .i64 0, .bool false, .slice none 0 0, .slice none 0 0, .int .i64 0, .int .i64 0] _ (0, 0)) from ?_); (with_reducible repeat (first | refine blk_drewN ?_ _ | refine blk_drew ?_ | refine blk_alloc ?_ _)); exact BK238.out) hb); replace HB := am_ (below_step (qB HB) hb); (try clear hb); (try clear hb2); (try clear hk); (try clear hi)))
   go_meet
   case rel => exact ⟨_, (true), (by first | rfl | (simp; done) | (simp [*]; done) | (simp [Go.Proofs.YtahfemlfdpbkkaaV.bne_nil, Go.Proofs.YtahfemlfdpbkkaaV.beq_nil]; done)), H', ⟨by first | omega | exact Nat.le_refl _⟩, ⟨qR HO232⟩, ⟨qR HO235⟩, ⟨qK BK224⟩, ⟨qK BK225⟩, ⟨qK BK238⟩, ⟨qB HB⟩⟩
 case rest =>
  clear HC3
  try clear c1
  try clear c2
  try clear p2
  try clear c5
  try clear c6
  try clear c10
  try clear c11
  try clear c16
  try clear c17
  try clear c17b0
  try clear c17b1
  try clear c18
  try clear c19
  try clear c23
  try clear c24
  try clear c28
  try clear c29
  (try clear hcz12_0 hcz12_1 hcz12_2 hcz12_3 hcz12_4 hcz12_5 hcz12_6 hcz12_7)
  (try clear hcz20_0 hcz20_1 hcz20_2 hcz20_3 hcz20_4 hcz20_5 hcz20_6 hcz20_7)
  (try clear hcz22_0 hcz22_1 hcz22_2 hcz22_3 hcz22_4 hcz22_5 hcz22_6 hcz22_7)
  (try clear hcz25_0 hcz25_1 hcz25_2 hcz25_3 hcz25_4 hcz25_5 hcz25_6 hcz25_7)
  (try clear hcz27_0 hcz27_1 hcz27_2 hcz27_3 hcz27_4 hcz27_5 hcz27_6 hcz27_7)
  (try clear hcz30_0 hcz30_1 hcz30_2 hcz30_3 hcz30_4 hcz30_5 hcz30_6 hcz30_7)
  (try clear hcz7_0 hcz7_1 hcz7_2 hcz7_3 hcz7_4 hcz7_5 hcz7_6 hcz7_7)
  (try clear hfz12_0 hfz12_1 hfz12_2 hfz12_3 hfz12_4 hfz12_5 hfz12_6 hfz12_7)
  (try clear hfz20_0 hfz20_1 hfz20_2 hfz20_3 hfz20_4 hfz20_5 hfz20_6 hfz20_7)
  (try clear hfz22_0 hfz22_1 hfz22_2 hfz22_3 hfz22_4 hfz22_5 hfz22_6 hfz22_7)
  (try clear hfz25_0 hfz25_1 hfz25_2 hfz25_3 hfz25_4 hfz25_5 hfz25_6 hfz25_7)
  (try clear hfz27_0 hfz27_1 hfz27_2 hfz27_3 hfz27_4 hfz27_5 hfz27_6 hfz27_7)
  (try clear hfz30_0 hfz30_1 hfz30_2 hfz30_3 hfz30_4 hfz30_5 hfz30_6 hfz30_7)
  (try clear hfz7_0 hfz7_1 hfz7_2 hfz7_3 hfz7_4 hfz7_5 hfz7_6 hfz7_7)
  obtain ⟨kq, x23_2, rfl, HA, HJ2, HO_239004, HO_239005, BK224, BK225, BK238, HB⟩ := hcut
  cases kq with
  | zero => exact absurd HA.out (by simp [spec_Answer.j0])
  | succ kj2 =>
   have H := HA.out
   clear HA
   simp only [spec_Answer.j0] at H
   by_cases c32 : x23_2 = true
   ·
    subst c32
    have H1 : (some (t226, t227, t228, t229, t230, t233, t236, t237, false)) = some (r1, r2, r3, r4, r5, r6, r7, r8, r9) := by rw [if_pos rfl] at H; exact H
    clear H
    have H := H1
    clear H1
    simp only [Option.some.injEq, Prod.mk.injEq] at H
    obtain ⟨rfl, rfl, rfl, rfl, rfl, rfl, rfl, rfl, rfl⟩ := H
    have hnb33 := NB238_224.out
    have hnc33 := NB224_238.out
    have hnb34 := NB238_225.out
    have hnc34 := NB225_238.out
    obtain ⟨hcz35_0, hcz35_1, hcz35_2, hcz35_3, hcz35_4, hcz35_5, hcz35_6, hcz35_7⟩ := cz8 BK238.out
    obtain ⟨hfz35_0, hfz35_1, hfz35_2, hfz35_3, hfz35_4, hfz35_5, hfz35_6, hfz35_7⟩ := fz8 BK238.out
    have hnb36 := NB225_224.out
    have hnc36 := NB224_225.out
    obtain ⟨hcz37_0, hcz37_1, hcz37_2, hcz37_3, hcz37_4, hcz37_5, hcz37_6, hcz37_7⟩ := cz8 BK225.out
    obtain ⟨hfz37_0, hfz37_1, hfz37_2, hfz37_3, hfz37_4, hfz37_5, hfz37_6, hfz37_7⟩ := fz8 BK225.out
    go_wp2
    refine bodyPost_ret (results_ct rfl _ _ gb225 29 #[.int .i64 t226, .int .i64 t227, .int .i64 t228, .bool t229, .slice Ao13 t230.length co13, .slice Ao14 t233.length co14, .int .i64 t236, .int .i64 t237] (0, 0) _ rfl (by (with_reducible repeat (first | refine blk_drewN ?_ _ | refine blk_drew ?_ | refine blk_alloc ?_ _)); refine blk_put (cs := #[.int .i64 t226, .int .i64 t227, .int .i64 t228, .bool t229, .slice Ao13 t230.length co13, .slice Ao14 t233.length co14, .int .i64 t236, .int .i64 0]) ?_ 7 _ rfl; (with_reducible repeat (first | refine blk_drewN ?_ _ | refine blk_drew ?_ | refine blk_alloc ?_ _)); refine blk_put (cs := #[.int .i64 t226, .int .i64 t227, .int .i64 t228, .bool t229, .slice Ao13 t230.length co13, .slice Ao14 t233.length co14, .int .i64 0, .int .i64 0]) ?_ 6 _ rfl; (with_reducible repeat (first | refine blk_drewN ?_ _ | refine blk_drew ?_ | refine blk_alloc ?_ _)); refine blk_put (cs := #[.int .i64 t226, .int .i64 t227, .int .i64 t228, .bool t229, .slice Ao13 t230.length co13, .slice none 0 0, .int .i64 0, .int .i64 0]) ?_ 5 _ rfl; (with_reducible repeat (first | refine blk_drewN ?_ _ | refine blk_drew ?_ | refine blk_alloc ?_ _)); refine blk_put (cs := #[.int .i64 t226, .int .i64 t227, .int .i64 t228, .bool t229, .slice none 0 0, .slice none 0 0, .int .i64 0, .int .i64 0]) ?_ 4 _ rfl; (with_reducible repeat (first | refine blk_drewN ?_ _ | refine blk_drew ?_ | refine blk_alloc ?_ _)); refine blk_put (cs := #[.int .i64 t226, .int .i64 t227, .int .i64 t228, .bool false, .slice none 0 0, .slice none 0 0, .int .i64 0, .int .i64 0]) ?_ 3 _ rfl; (with_reducible repeat (first | refine blk_drewN ?_ _ | refine blk_drew ?_ | refine blk_alloc ?_ _)); refine blk_put (cs := #[.int .i64 t226, .int .i64 t227, .int .i64 0, .bool false, .slice none 0 0, .slice none 0 0, .int .i64 0, .int .i64 0]) ?_ 2 _ rfl; (with_reducible repeat (first | refine blk_drewN ?_ _ | refine blk_drew ?_ | refine blk_alloc ?_ _)); refine blk_put (cs := #[.int .i64 t226, .int .i64 0, .int .i64 0, .bool false, .slice none 0 0, .slice none 0 0, .int .i64 0, .int .i64 0]) ?_ 1 _ rfl; (with_reducible repeat (first | refine blk_drewN ?_ _ | refine blk_drew ?_ | refine blk_alloc ?_ _)); refine blk_put (cs := #[.int .i64 0, .int .i64 0, .int .i64 0, .bool false, .slice none 0 0, .slice none 0 0, .int .i64 0, .int .i64 0]) ?_ 0 _ rfl; (with_reducible repeat (first | refine blk_drewN ?_ _ | refine blk_drew ?_ | refine blk_alloc ?_ _)); exact BK225.out) Try.underlying29 rfl (by kernel_rfl)) rfl ?_
    exact ⟨_, _, by first | rfl | (simp [errW_none, errW_some] <;> rfl) | (simp [*, errW_none, errW_some] <;> rfl), by (with_reducible repeat (first | apply Kd.R_alloc | apply Kd.R_drewN | apply Kd.R_drew)); exact Kd.R_mono (Go.Proofs.YtahfemlfdpbkkaaV.R_far8 (g := gb225) (Kd.R_types HO_239004.out BK225.out (by decide)) (fun _ hk => hk.2)) (fun _ hk => hk.1), by (with_reducible repeat (first | apply Kd.R_alloc | apply Kd.R_drewN | apply Kd.R_drew)); exact Kd.R_mono (Go.Proofs.YtahfemlfdpbkkaaV.R_far8 (g := gb225) (Kd.R_types HO_239005.out BK225.out (by decide)) (fun _ hk => hk.2)) (fun _ hk => hk.1), qB HB⟩
   ·
    replace c32 := Bool.eq_false_iff.mpr c32
    subst c32
    have H1 : (if 0 ≤ a0_7 then (if a0_7 ≤ (l0_5.length : Int) then ((spec_GetFrame.f kj2 (l0_5.drop (a0_7 : Int).toNat)).bind fun bt241 => (if bt241.2.2.2.2 = 0 then (if bt241.1 = 2 then ((spec_AnswerTo.f kj2 a0_6 bt241.2.1).bind fun t250 => ((spec_WordOf.f bt241.2.1).bind fun t253 => ((spec_NextSt.f kj2 a0_6 t253).bind fun t254 => (spec_Answer.j1 kj2 bt241.2.2.2.1 t250 a0_0 a0_1 a0_2 a0_3 l0_4 l0_5 a0_6 a0_7 t226 t227 t228 t229 t230 t233 t254 t237)))) else (spec_Answer.j1 kj2 bt241.2.2.2.1 (([(⟨6, (⟨#[102, 111, 114, 109]⟩ : ByteArray), 0⟩ : S32), (⟨5, (⟨#[]⟩ : ByteArray), a0_6⟩ : S32)] : List (S32))) a0_0 a0_1 a0_2 a0_3 l0_4 l0_5 a0_6 a0_7 t226 t227 t228 t229 t230 t233 t236 t237)) else (some (t226, t227, t228, t229, t230, t233, t236, t237, false)))) else (none)) else (none)) = some (r1, r2, r3, r4, r5, r6, r7, r8, r9) := by rw [if_neg (show ¬ (false = true) by decide)] at H; exact H
    clear H
    have H := H1
    clear H1
    by_cases c38 : 0 ≤ a0_7
    ·
     rw [if_pos c38] at H
     have c38b0 := eq_true c38
     have c38b1 : decide (0 ≤ a0_7) = true := decide_eq_true c38
     clear c38
     by_cases c39 : a0_7 ≤ (l0_5.length : Int)
     ·
      rw [if_pos c39] at H
      have c39b0 := eq_true c39
      have c39b1 : decide (a0_7 ≤ (l0_5.length : Int)) = true := decide_eq_true c39
      clear c39
      replace H := Option.bind_eq_some_iff.mp H
      obtain ⟨⟨t241, t242, t243, t244, t245⟩, A400, H⟩ := H
      replace H : (if t245 = 0 then (if t241 = 2 then ((spec_AnswerTo.f kj2 a0_6 t242).bind fun t250 => ((spec_WordOf.f t242).bind fun t253 => ((spec_NextSt.f kj2 a0_6 t253).bind fun t254 => (spec_Answer.j1 kj2 t244 t250 a0_0 a0_1 a0_2 a0_3 l0_4 l0_5 a0_6 a0_7 t226 t227 t228 t229 t230 t233 t254 t237)))) else (spec_Answer.j1 kj2 t244 (([(⟨6, (⟨#[102, 111, 114, 109]⟩ : ByteArray), 0⟩ : S32), (⟨5, (⟨#[]⟩ : ByteArray), a0_6⟩ : S32)] : List (S32))) a0_0 a0_1 a0_2 a0_3 l0_4 l0_5 a0_6 a0_7 t226 t227 t228 t229 t230 t233 t236 t237)) else (some (t226, t227, t228, t229, t230, t233, t236, t237, false))) = some (r1, r2, r3, r4, r5, r6, r7, r8, r9) := H
      have A40 := Aside0.mk A400
      clear A400
      have HC41 := Aside0.mk H
      clear H
      have hnb42 := NB224_225.out
      have hnc42 := NB225_224.out
      have hnb43 := NB224_238.out
      have hnc43 := NB238_224.out
      obtain ⟨hcz44_0, hcz44_1, hcz44_2, hcz44_3, hcz44_4, hcz44_5, hcz44_6, hcz44_7⟩ := cz8 BK224.out
      obtain ⟨hfz44_0, hfz44_1, hfz44_2, hfz44_3, hfz44_4, hfz44_5, hfz44_6, hfz44_7⟩ := fz8 BK224.out
      obtain ⟨i045, hi045, _, hsz45, _⟩ := info_parts info5
      obtain ⟨A45, hcut45, hA45, hC45⟩ := print_drop_of (P := Try.prog) (Value.int .u8) 0 22 5 .i64 Try.underlying22 hi045 hsz45 A0_5 c0_5 l0_5 a0_7 (of_decide_eq_true (by first | (with_reducible assumption) | assumption)) (of_decide_eq_true (by first | (with_reducible assumption) | assumption)) HC0_5.out
      have HR240 := Aside0.mk (Kd.C_of_reads (h1 := fun _ => rfl) (hA45 _ (Kd.reads_of_C HR0_5.out)))
      have HC240 := Aside0.mk hC45
      clear hA45 hC45 hi045 hsz45
      go_upto_if 36 with (first | ((with_reducible refine gate_callee (f := 114) rfl ?_); refine goesL_ (some 31) rfl rfl Try.func114 (by kernel_rfl) rfl #[.slice A45 (l0_5.drop (a0_7 : Int).toNat).length (c0_5 - a0_7.toNat)] rfl (by (try simp only [List.map_toArray, List.map_cons, List.map_nil]); first | done | (rw [show (l0_5.drop (a0_7 : Int).toNat).length = (l0_5.length - a0_7.toNat) from List.length_drop] <;> rfl) | rfl | (simp only [List.length_drop, List.length_take]; rfl)) ?_; (with_reducible refine (spec_GetFrame.calls kj2 _ _ (l0_5.drop (a0_7 : Int).toNat) t241 t242 t243 t244 t245 _ ?side1 ?side2 A40.out).mono ?_); (case side1 => exact qC (Kd.C_below HR240.out HB.out)); (case side2 => exact HC240.out); rintro e w46 ⟨rfl, hb⟩; refine ⟨_, rfl, ?_⟩; replace HO_239004 := am_ (Kd.R_below (qR HO_239004) hb); replace HO_239005 := am_ (Kd.R_below (qR HO_239005) hb); replace BK224 := am_ (blk_below (qK BK224) hb); replace BK225 := am_ (blk_below (qK BK225) hb); replace BK238 := am_ (blk_below (qK BK238) hb); replace HB := am_ (below_step (qB HB) hb); (try clear hb); (try clear hb2); (try clear hk); (try clear hi)) | ((with_reducible refine gate_dst (N := 5) rfl ?_); refine box_event ?hg (N := 5) ?hd (cs := #[.int .i64 0, .string (⟨#[]⟩ : ByteArray), .int .i64 0]) (t := 32) ?hr ?_; (case hd => rfl); (case hg => rfl); (case hr => first | (go_simp; done) | (go_simp; rfl)); intro gb246 hg w47 hbox hb; replace HO_239004 := am_ (Kd.R_below (qR HO_239004) hb); replace HO_239005 := am_ (Kd.R_below (qR HO_239005) hb); have BK246 := am_ (hbox); have GW246 := am_ ((gG_ hg (qB HB))); have IGW246 := gI_ GW246; have GE246 := am_ ((gG_ hg (qB HB))); have IGE246 := gI_ GE246; replace HB := am_ (below_step (qB HB) hb); have NB224_246 := am_ ((gN_ hg (qK BK224))); have NB246_224 := am_ ((gM_ hg (qK BK224))); replace BK224 := am_ (blk_below (qK BK224) hb); have NB225_246 := am_ ((gN_ hg (qK BK225))); have NB246_225 := am_ ((gM_ hg (qK BK225))); replace BK225 := am_ (blk_below (qK BK225) hb); have NB238_246 := am_ ((gN_ hg (qK BK238))); have NB246_238 := am_ ((gM_ hg (qK BK238))); replace BK238 := am_ (blk_below (qK BK238) hb); clear hb hbox hg; have hnb48 := NB246_224.out; have hnc48 := NB224_246.out; have hnb49 := NB246_225.out; have hnc49 := NB225_246.out; have hnb50 := NB246_238.out; have hnc50 := NB238_246.out; obtain ⟨hcz51_0, hcz51_1, hcz51_2⟩ := cz3 BK246.out; obtain ⟨hfz51_0, hfz51_1, hfz51_2⟩ := fz3 BK246.out))
      (try simp only [Act.put, List.setIfInBounds_toArray, List.set_cons_zero, List.set_cons_succ])
      have H := HC41.out
      clear HC41
      by_cases c52 : t245 = 0
      ·
       rw [if_pos c52] at H
       have c52b0 : (t245 == 0) = true := beq_iff_eq.mpr c52
       have c52b1 : (t245 != 0) = false := bne_eq_false_iff_eq.mpr c52
       clear c52
       (first | rw [c52b0] | (simp only [i64_w, i32_w]; rw [c52b0]) | skip)
       obtain ⟨y247, hy247⟩ : ∃ y_ : List (S32), y_ = (([(⟨6, (⟨#[102, 111, 114, 109]⟩ : ByteArray), 0⟩ : S32), (⟨5, (⟨#[]⟩ : ByteArray), a0_6⟩ : S32)] : List (S32))) := ⟨_, rfl⟩
       replace H : (if t241 = 2 then ((spec_AnswerTo.f kj2 a0_6 t242).bind fun t250 => ((spec_WordOf.f t242).bind fun t253 => ((spec_NextSt.f kj2 a0_6 t253).bind fun t254 => (spec_Answer.j1 kj2 t244 t250 a0_0 a0_1 a0_2 a0_3 l0_4 l0_5 a0_6 a0_7 t226 t227 t228 t229 t230 t233 t254 t237)))) else (spec_Answer.j1 kj2 t244 y247 a0_0 a0_1 a0_2 a0_3 l0_4 l0_5 a0_6 a0_7 t226 t227 t228 t229 t230 t233 t236 t237)) = some (r1, r2, r3, r4, r5, r6, r7, r8, r9) := by first | (rw [hy247]; with_reducible exact H) | (have H2_ := (Option.bind_some _ _).symm.trans H; rw [hy247]; with_reducible exact H2_) | (have H2_ := (Option.bind_some _ _).symm.trans H; with_reducible exact H2_) | with_reducible exact H | (rw [hy247]; exact H) | exact H
       have Ny247 := Aside0.mk hy247
       clear hy247
       have HC53 := Aside0.mk H
       clear H
       have hnb54 := NB224_225.out
       have hnc54 := NB225_224.out
       have hnb55 := NB224_238.out
       have hnc55 := NB238_224.out
       have hnb56 := NB224_246.out
       have hnc56 := NB246_224.out
       obtain ⟨hcz57_0, hcz57_1, hcz57_2, hcz57_3, hcz57_4, hcz57_5, hcz57_6, hcz57_7⟩ := cz8 BK224.out
       obtain ⟨hfz57_0, hfz57_1, hfz57_2, hfz57_3, hfz57_4, hfz57_5, hfz57_6, hfz57_7⟩ := fz8 BK224.out
       go_upto_if 45 with (first | ((with_reducible refine gate_dst (N := 42) rfl ?_); refine Kd.R_lit k32 _ 32 ?hg (N := 42) ?hd (xs := ([(⟨6, (⟨#[102, 111, 114, 109]⟩ : ByteArray), 0⟩ : S32), (⟨5, (⟨#[]⟩ : ByteArray), a0_6⟩ : S32)] : List (S32))) (inner := [.int .i64 6, .string (⟨#[102, 111, 114, 109]⟩ : ByteArray), .int .i64 0, .int .i64 5, .string (⟨#[]⟩ : ByteArray), .int .i64 a0_6]) (ok := fun _ => True) (okp := fun _ => True) ?hr ?hp (fun _ hk => hk) trivial (Below.refl _ _) (Nat.le_refl _) (by simp) ?_; (case hd => rfl); (case hg => rfl); (case hr => first | (go_simp; done) | (go_simp; rfl)); (case hp => exact (Reps.c3 (show Kd.M k32 _ _ _ (⟨6, (⟨#[102, 111, 114, 109]⟩ : ByteArray), 0⟩ : S32) [.int .i64 6, .string (⟨#[102, 111, 114, 109]⟩ : ByteArray), .int .i64 0] from (k32_mkM _ _ _ (⟨6, (⟨#[102, 111, 114, 109]⟩ : ByteArray), 0⟩ : S32) )) (Reps.c3 (show Kd.M k32 _ _ _ (⟨5, (⟨#[]⟩ : ByteArray), a0_6⟩ : S32) [.int .i64 5, .string (⟨#[]⟩ : ByteArray), .int .i64 a0_6] from (k32_mkM _ _ _ (⟨5, (⟨#[]⟩ : ByteArray), a0_6⟩ : S32) )) (Reps.none _ _)))); intro v248 w58 ho59 hb hg_ hnew_; clear hg_ hnew_; (first | rw [← Ny247.out] at ho59 | (simp only [Int.reduceToNat] at ho59; rw [← Ny247.out] at ho59)); replace HO_239004 := am_ (Kd.R_below (by (with_reducible repeat (first | apply Kd.R_alloc | apply Kd.R_drewN | apply Kd.R_drew)); exact (Kd.R_mono (Go.Proofs.YtahfemlfdpbkkaaV.R_far3 (g := gb246) (Kd.R_types HO_239004.out BK246.out (by decide)) (fun _ hk => hk.2)) (fun _ h_ => h_.1))) hb); replace HO_239005 := am_ (Kd.R_below (by (with_reducible repeat (first | apply Kd.R_alloc | apply Kd.R_drewN | apply Kd.R_drew)); exact (Kd.R_mono (Go.Proofs.YtahfemlfdpbkkaaV.R_far3 (g := gb246) (Kd.R_types HO_239005.out BK246.out (by decide)) (fun _ hk => hk.2)) (fun _ h_ => h_.1))) hb); have HO249 := am_ (Kd.R_lower (Kd.R_newB ho59 (g := gb246) (o := .cells #[.int .i64 t241, .string t242, .int .i64 t243] 32 (0, 0)) (by (with_reducible repeat (first | refine blk_drewN ?_ _ | refine blk_drew ?_ | refine blk_alloc ?_ _)); refine Go.Proofs.YtahfemlfdpbkkaaV.blk_all3 (show _ = some (Go.Obj.cells #[.int .i64 0, .string (⟨#[]⟩ : ByteArray), .int .i64 0] _ (0, 0)) from ?_); (with_reducible repeat (first | refine blk_drewN ?_ _ | refine blk_drew ?_ | refine blk_alloc ?_ _)); exact BK246.out)) (below_size (qB HB))); replace BK224 := am_ (blk_below (g := gb224) (o := .cells #[.int .i64 a0_0, .int .i64 a0_1, .int .i64 a0_2, .bool a0_3, .slice A0_4 l0_4.length c0_4, .slice A0_5 l0_5.length c0_5, .int .i64 a0_6, .int .i64 a0_7] 29 (0, 0)) (by (with_reducible repeat (first | refine blk_drewN ?_ _ | refine blk_drew ?_ | refine blk_alloc ?_ _)); refine Go.Proofs.YtahfemlfdpbkkaaV.blk_far3 ?_ NB224_246.out; (with_reducible repeat (first | refine blk_drewN ?_ _ | refine blk_drew ?_ | refine blk_alloc ?_ _)); exact BK224.out) hb); replace BK225 := am_ (blk_below (g := gb225) (o := .cells #[.int .i64 0, .int .i64 0, .int .i64 0, .bool false, .slice none 0 0, .slice none 0 0, .int .i64 0, .int .i64 0] 29 (0, 0)) (by (with_reducible repeat (first | refine blk_drewN ?_ _ | refine blk_drew ?_ | refine blk_alloc ?_ _)); refine Go.Proofs.YtahfemlfdpbkkaaV.blk_far3 ?_ NB225_246.out; (with_reducible repeat (first | refine blk_drewN ?_ _ | refine blk_drew ?_ | refine blk_alloc ?_ _)); exact BK225.out) hb); replace BK238 := am_ (blk_below (g := gb238) (o := .cells #[.int .i64 t226, .int .i64 t227, .int .i64 t228, .bool t229, .slice Ao13 t230.length co13, .slice Ao14 t233.length co14, .int .i64 t236, .int .i64 t237] 29 (0, 0)) (by (with_reducible repeat (first | refine blk_drewN ?_ _ | refine blk_drew ?_ | refine blk_alloc ?_ _)); refine Go.Proofs.YtahfemlfdpbkkaaV.blk_far3 ?_ NB238_246.out; (with_reducible repeat (first | refine blk_drewN ?_ _ | refine blk_drew ?_ | refine blk_alloc ?_ _)); exact BK238.out) hb); replace BK246 := am_ (blk_below (g := gb246) (o := .cells #[.int .i64 t241, .string t242, .int .i64 t243] 32 (0, 0)) (by (with_reducible repeat (first | refine blk_drewN ?_ _ | refine blk_drew ?_ | refine blk_alloc ?_ _)); refine Go.Proofs.YtahfemlfdpbkkaaV.blk_all3 (show _ = some (Go.Obj.cells #[.int .i64 0, .string (⟨#[]⟩ : ByteArray), .int .i64 0] _ (0, 0)) from ?_); (with_reducible repeat (first | refine blk_drewN ?_ _ | refine blk_drew ?_ | refine blk_alloc ?_ _)); exact BK246.out) hb); replace HB := am_ (below_step (qB HB) hb); clear hb ho59; have hnb60 := NB246_225.out; have hnc60 := NB225_246.out; have hnb61 := NB246_238.out; have hnc61 := NB238_246.out; obtain ⟨hcz62_0, hcz62_1, hcz62_2⟩ := cz3 BK246.out; obtain ⟨hfz62_0, hfz62_1, hfz62_2⟩ := fz3 BK246.out))
       (try simp only [Act.put, List.setIfInBounds_toArray, List.set_cons_zero, List.set_cons_succ])
       go_cut [8] (fun v8 wc => ∃ (kq : Nat) (x8_52 : List (S32)) (x239006_52 : Int), Aside0 (spec_Answer.j1 kq t244 x8_52 a0_0 a0_1 a0_2 a0_3 l0_4 l0_5 a0_6 a0_7 t226 t227 t228 t229 t230 t233 x239006_52 t237 = some (r1, r2, r3, r4, r5, r6, r7, r8, r9)) ∧ Aside0 (kq ≤ kj2) ∧ Aside0 (Kd.R k32 32 wc w.heap.size (fun k_ => k_ ≠ gb246) v8 x8_52) ∧ Aside0 (Kd.R (Kd.int .u8) 5 wc w.heap.size (fun k_ => some k_ ≠ ((.slice Ao14 t233.length co14) : Value).ownBlock) (.slice Ao13 t230.length co13) t230) ∧ Aside0 (Kd.R (Kd.int .u8) 5 wc w.heap.size (fun k_ => some k_ ≠ ((.slice Ao13 t230.length co13) : Value).ownBlock) (.slice Ao14 t233.length co14) t233) ∧ Aside0 (wc.heap[gb224]? = some (.cells #[.int .i64 a0_0, .int .i64 a0_1, .int .i64 a0_2, .bool a0_3, (.slice A0_4 l0_4.length c0_4), (.slice A0_5 l0_5.length c0_5), .int .i64 a0_6, .int .i64 a0_7] 29 (0, 0))) ∧ Aside0 (wc.heap[gb225]? = some (.cells #[.int .i64 0, .int .i64 0, .int .i64 0, .bool false, (.slice none 0 0), (.slice none 0 0), .int .i64 0, .int .i64 0] 29 (0, 0))) ∧ Aside0 (wc.heap[gb238]? = some (.cells #[.int .i64 t226, .int .i64 t227, .int .i64 t228, .bool t229, (.slice Ao13 t230.length co13), (.slice Ao14 t233.length co14), .int .i64 x239006_52, .int .i64 t237] 29 (0, 0))) ∧ Aside0 (wc.heap[gb246]? = some (.cells #[.int .i64 t241, .string t242, .int .i64 t243] 32 (0, 0))) ∧ Aside0 (Below w.heap.size w wc))
       case first =>
        have H := HC53.out
        clear HC53
        by_cases c63 : t241 = 2
        ·
         rw [if_pos c63] at H
         have c63b0 : (t241 == 2) = true := beq_iff_eq.mpr c63
         have c63b1 : (t241 != 2) = false := bne_eq_false_iff_eq.mpr c63
         clear c63
         (first | rw [c63b0] | (simp only [i64_w, i32_w]; rw [c63b0]) | skip)
         replace H := Option.bind_eq_some_iff.mp H
         obtain ⟨t250, A640, H⟩ := H
         replace H : ((spec_WordOf.f t242).bind fun t253 => ((spec_NextSt.f kj2 a0_6 t253).bind fun t254 => (spec_Answer.j1 kj2 t244 t250 a0_0 a0_1 a0_2 a0_3 l0_4 l0_5 a0_6 a0_7 t226 t227 t228 t229 t230 t233 t254 t237))) = some (r1, r2, r3, r4, r5, r6, r7, r8, r9) := H
         have A64 := Aside0.mk A640
         clear A640
         replace H := Option.bind_eq_some_iff.mp H
         obtain ⟨t253, A650, H⟩ := H
         replace H : ((spec_NextSt.f kj2 a0_6 t253).bind fun t254 => (spec_Answer.j1 kj2 t244 t250 a0_0 a0_1 a0_2 a0_3 l0_4 l0_5 a0_6 a0_7 t226 t227 t228 t229 t230 t233 t254 t237)) = some (r1, r2, r3, r4, r5, r6, r7, r8, r9) := H
         have A65 := Aside0.mk A650
         clear A650
         replace H := Option.bind_eq_some_iff.mp H
         obtain ⟨t254, A660, H⟩ := H
         replace H : (spec_Answer.j1 kj2 t244 t250 a0_0 a0_1 a0_2 a0_3 l0_4 l0_5 a0_6 a0_7 t226 t227 t228 t229 t230 t233 t254 t237) = some (r1, r2, r3, r4, r5, r6, r7, r8, r9) := H
         have A66 := Aside0.mk A660
         clear A660
         have H' := Aside0.mk H
         clear H
         have hnb67 := NB224_225.out
         have hnc67 := NB225_224.out
         have hnb68 := NB224_238.out
         have hnc68 := NB238_224.out
         have hnb69 := NB224_246.out
         have hnc69 := NB246_224.out
         obtain ⟨hcz70_0, hcz70_1, hcz70_2, hcz70_3, hcz70_4, hcz70_5, hcz70_6, hcz70_7⟩ := cz8 BK224.out
         obtain ⟨hfz70_0, hfz70_1, hfz70_2, hfz70_3, hfz70_4, hfz70_5, hfz70_6, hfz70_7⟩ := fz8 BK224.out
         have hnb71 := NB246_225.out
         have hnc71 := NB225_246.out
         have hnb72 := NB246_238.out
         have hnc72 := NB238_246.out
         obtain ⟨hcz73_0, hcz73_1, hcz73_2⟩ := cz3 BK246.out
         obtain ⟨hfz73_0, hfz73_1, hfz73_2⟩ := fz3 BK246.out
         try go_wp2_with (first | ((with_reducible refine gate_callee (f := 115) rfl ?_); refine goesL_ (some 50) rfl rfl Try.func115 (by kernel_rfl) rfl #[.int .i64 a0_6, .string t242] rfl (by (try simp only [List.map_toArray, List.map_cons, List.map_nil]); first | done | rfl | (simp only [List.length_drop, List.length_take]; rfl)) ?_; (with_reducible refine (spec_AnswerTo.calls kj2 a0_6 t242 t250 _ A64.out).mono ?_); rintro e w74 ⟨v251, rfl, ho0, hb⟩; refine ⟨_, rfl, ?_⟩; replace HO_239004 := am_ (Kd.R_below (qR HO_239004) hb); replace HO_239005 := am_ (Kd.R_below (qR HO_239005) hb); have HO252 := am_ (Kd.R_lower (Kd.R_newB (Kd.R_new' ho0 (Kd.R_lt (qR HO249))) (qK BK246)) (below_size (qB HB))); replace HO249 := am_ (Kd.R_elder' (qR HO249) (Kd.R_base ho0) hb); replace BK224 := am_ (blk_below (qK BK224) hb); replace BK225 := am_ (blk_below (qK BK225) hb); replace BK238 := am_ (blk_below (qK BK238) hb); replace BK246 := am_ (blk_below (qK BK246) hb); replace HB := am_ (below_step (qB HB) hb); (try clear hb); (try clear hb2); (try clear hk); (try clear hi); (try clear ho0)))
         replace HO_239004 := am_ (Kd.R_drew HO_239004.out)
         replace HO_239005 := am_ (Kd.R_drew HO_239005.out)
         replace HO249 := am_ (Kd.R_drew HO249.out)
         replace HO252 := am_ (Kd.R_drew HO252.out)
         replace BK224 := am_ (blk_drew BK224.out)
         replace BK225 := am_ (blk_drew BK225.out)
         replace BK238 := am_ (blk_drew BK238.out)
         replace BK246 := am_ (blk_drew BK246.out)
         replace HB := am_ (below_drew1 HB.out)
         refine start_ (n := 8) (S := fun w' => w'.cell? ⟨gb224, 0, none⟩ = some (.int .i64 a0_0) ∧ w'.cell? ⟨gb224, 1, none⟩ = some (.int .i64 a0_1) ∧ w'.cell? ⟨gb224, 2, none⟩ = some (.int .i64 a0_2) ∧ w'.cell? ⟨gb224, 3, none⟩ = some (.bool a0_3) ∧ w'.cell? ⟨gb224, 4, none⟩ = some (.slice A0_4 l0_4.length c0_4) ∧ w'.cell? ⟨gb224, 5, none⟩ = some (.slice A0_5 l0_5.length c0_5) ∧ w'.cell? ⟨gb224, 6, none⟩ = some (.int .i64 a0_6) ∧ w'.cell? ⟨gb224, 7, none⟩ = some (.int .i64 a0_7) ∧ w'.cell? ⟨gb246, 0, none⟩ = some (.int .i64 t241) ∧ w'.cell? ⟨gb246, 1, none⟩ = some (.string t242) ∧ w'.cell? ⟨gb246, 2, none⟩ = some (.int .i64 t243)) (ds := []) #[false, false, false, false, false, false, false, false] (by kernel_rfl) rfl rfl (cw8 BK224.out (cz3 BK246.out)) (fun hHeld => ?_); refine with_tabW spec_Answer.tab10 spec_Answer.bits10 (fun HT_ HW_ => ?_)
         generalize w74.drew = w75 at HO_239004 HO_239005 HO249 HO252 BK224 BK225 BK238 BK246 HB hHeld ⊢
         refine pure_ (i := 0) (N := some 51) (v := ?_) (a' := ?_) #[true, false, false, false, false, false, false, false] rfl rfl (any_of HT_.out (by kernel_rfl)) (fun _ _ _ h => h) (Or.inl ⟨by rfl, ?_⟩) ?_ ?_
         rotate_left
         ·
          intro w'
          go_simp
          with_reducible rfl
         rotate_left
         ·
          simp only [Act.put, List.setIfInBounds_toArray, List.set_cons_zero, List.set_cons_succ, i64_w, i32_w]
          rfl
         refine pure_ (i := 2) (N := some 53) (v := ?_) (a' := ?_) #[true, false, true, false, false, false, false, false] rfl rfl (any_of HT_.out (by kernel_rfl)) (fun _ _ _ h => h) (Or.inl ⟨by rfl, ?_⟩) ?_ ?_
         rotate_left
         ·
          intro w'
          go_simp
          with_reducible rfl
         rotate_left
         ·
          simp only [Act.put, List.setIfInBounds_toArray, List.set_cons_zero, List.set_cons_succ, i64_w, i32_w]
          rfl
         refine take_ (i := 1) (N := some 52) (v := ?_) (a' := ?_) #[true, true, true, false, false, false, false, false] rfl rfl (take_ofW HT_.out HW_.out (by kernel_rfl)) (fun _ _ _ h => h) (Or.inl ⟨by rfl, ?_⟩) hHeld ?_ ?_
         rotate_left
         ·
          rintro w' ⟨s0, s1, s2, s3, s4, s5, s6, s7, s8, s9, s10⟩
          go_simp
          with_reducible rfl
         rotate_left
         ·
          simp only [Act.put, List.setIfInBounds_toArray, List.set_cons_zero, List.set_cons_succ, i64_w, i32_w]
          rfl
         refine take_ (i := 3) (N := some 54) (v := ?_) (a' := ?_) #[true, true, true, true, false, false, false, false] rfl rfl (take_ofW HT_.out HW_.out (by kernel_rfl)) (fun _ _ _ h => h) (Or.inl ⟨by rfl, ?_⟩) hHeld ?_ ?_
         rotate_left
         ·
          rintro w' ⟨s0, s1, s2, s3, s4, s5, s6, s7, s8, s9, s10⟩
          go_simp
          with_reducible rfl
         rotate_left
         ·
          simp only [Act.put, List.setIfInBounds_toArray, List.set_cons_zero, List.set_cons_succ, i64_w, i32_w]
          rfl
         refine one_ (i := 4) (N := some 55) #[true, true, true, true, true, false, false, false] rfl rfl (one_of HT_.out (by kernel_rfl)) (by decide) (fun K hK => ?_)
         refine goes_ Try.func117 (by kernel_rfl) rfl #[.string t242] (by rfl) rfl rfl (by (try simp only [List.map_toArray, List.map_cons, List.map_nil]); first | done | rfl | (simp only [List.length_drop, List.length_take]; rfl)) ?_
         with_reducible refine (spec_WordOf.calls t242 t253 _ A65.out).mono ?_
         rintro e w' ⟨rfl, ⟨nd, rfl⟩⟩
         refine ⟨_, rfl, ?_⟩
         refine hK.out _ _ (cw8 BK224.out (cz3 BK246.out)) (fun hHeld => ?_)
         clear hK K
         refine norm_ (a' := ?_) ?_ ?_
         rotate_left
         ·
          show Act.put _ (some 55) _ = _
          simp only [Act.put, List.setIfInBounds_toArray, List.set_cons_zero, List.set_cons_succ, i64_w, i32_w]
          rfl
         refine one_ (i := 5) (N := some 56) #[true, true, true, true, true, true, false, false] rfl rfl (one_of HT_.out (by kernel_rfl)) (by decide) (fun K hK => ?_)
         refine goes_ Try.func116 (by kernel_rfl) rfl #[.int .i64 a0_6, .int .i64 t253] (by rfl) rfl rfl (by (try simp only [List.map_toArray, List.map_cons, List.map_nil]); first | done | rfl | (simp only [List.length_drop, List.length_take]; rfl)) ?_
         with_reducible refine (spec_NextSt.calls kj2 a0_6 t253 t254 _ A66.out).mono ?_
         rintro e w' ⟨rfl, ⟨nd, rfl⟩⟩
         refine ⟨_, rfl, ?_⟩
         refine hK.out _ _ (cw8 BK224.out (cz3 BK246.out)) (fun hHeld => ?_)
         clear hK K
         refine norm_ (a' := ?_) ?_ ?_
         rotate_left
         ·
          show Act.put _ (some 56) _ = _
          simp only [Act.put, List.setIfInBounds_toArray, List.set_cons_zero, List.set_cons_succ, i64_w, i32_w]
          rfl
         refine pure_ (i := 6) (N := some 57) (v := ?_) (a' := ?_) #[true, true, true, true, true, true, true, false] rfl rfl (any_of HT_.out (by kernel_rfl)) (fun _ _ _ h => h) (Or.inl ⟨by rfl, ?_⟩) ?_ ?_
         rotate_left
         ·
          intro w'
          go_simp
          with_reducible rfl
         rotate_left
         ·
          simp only [Act.put, List.setIfInBounds_toArray, List.set_cons_zero, List.set_cons_succ, i64_w, i32_w]
          rfl
         refine one_ (i := 7) (N := none) #[true, true, true, true, true, true, true, true] rfl rfl (one_of HT_.out (by kernel_rfl)) (by decide) (fun K hK => ?_)
         have hs76 : w75.cell? ⟨gb238, 6, none⟩ = some (.int .i64 t236) := (blk_cell BK238.out 6).trans rfl
         have hfs76 := blk_frozen BK238.out 6
         have hns76_0 := NB224_238.out
         have hns76_1 := NB225_238.out
         have hns76_3 := NB246_238.out
         have hms76_0 := NB238_224.out
         have hms76_1 := NB238_225.out
         have hms76_3 := NB238_246.out
         refine skip_ (w1 := ?_) (by rfl) rfl ?_ ?_
         rotate_left
         ·
          go_simp
          rfl
         refine hK.out _ _ ⟨((cell_far (p := ⟨gb238, _, none⟩) NB224_238.out _).trans (hHeld.1)), ((cell_far (p := ⟨gb238, _, none⟩) NB224_238.out _).trans (hHeld.2.1)), ((cell_far (p := ⟨gb238, _, none⟩) NB224_238.out _).trans (hHeld.2.2.1)), ((cell_far (p := ⟨gb238, _, none⟩) NB224_238.out _).trans (hHeld.2.2.2.1)), ((cell_far (p := ⟨gb238, _, none⟩) NB224_238.out _).trans (hHeld.2.2.2.2.1)), ((cell_far (p := ⟨gb238, _, none⟩) NB224_238.out _).trans (hHeld.2.2.2.2.2.1)), ((cell_far (p := ⟨gb238, _, none⟩) NB224_238.out _).trans (hHeld.2.2.2.2.2.2.1)), ((cell_far (p := ⟨gb238, _, none⟩) NB224_238.out _).trans (hHeld.2.2.2.2.2.2.2.1)), ((cell_far (p := ⟨gb238, _, none⟩) NB246_238.out _).trans (hHeld.2.2.2.2.2.2.2.2.1)), ((cell_far (p := ⟨gb238, _, none⟩) NB246_238.out _).trans (hHeld.2.2.2.2.2.2.2.2.2.1)), ((cell_far (p := ⟨gb238, _, none⟩) NB246_238.out _).trans (hHeld.2.2.2.2.2.2.2.2.2.2))⟩ (fun hHeld => ?_)
         clear hK K
         refine done_ (done_of HT_.out (by kernel_rfl)) ?_
         try go_wp2
         go_meet
         case rel => exact ⟨_, (t250), (t254), H', ⟨by have := HJ2.out; first | omega | exact Nat.le_refl _⟩, ⟨by (with_reducible repeat (first | apply Kd.R_alloc | apply Kd.R_drewN | apply Kd.R_drew)); exact Kd.R_mono (Kd.R_far (p := ⟨gb238, 6, none⟩) (Kd.R_types HO252.out BK238.out (by decide)) (fun _ hk => hk.2) (.int .i64 t254)) (fun _ hk => hk.1.2)⟩, ⟨by (with_reducible repeat (first | apply Kd.R_alloc | apply Kd.R_drewN | apply Kd.R_drew)); exact Kd.R_mono (Kd.R_far (p := ⟨gb238, 6, none⟩) (Kd.R_types HO_239004.out BK238.out (by decide)) (fun _ hk => hk.2) (.int .i64 t254)) (fun _ hk => hk.1)⟩, ⟨by (with_reducible repeat (first | apply Kd.R_alloc | apply Kd.R_drewN | apply Kd.R_drew)); exact Kd.R_mono (Kd.R_far (p := ⟨gb238, 6, none⟩) (Kd.R_types HO_239005.out BK238.out (by decide)) (fun _ hk => hk.2) (.int .i64 t254)) (fun _ hk => hk.1)⟩, ⟨by (with_reducible repeat (first | refine blk_drewN ?_ _ | refine blk_drew ?_ | refine blk_alloc ?_ _)); refine blk_far ?_ NB224_238.out _; (with_reducible repeat (first | refine blk_drewN ?_ _ | refine blk_drew ?_ | refine blk_alloc ?_ _)); exact BK224.out⟩, ⟨by (with_reducible repeat (first | refine blk_drewN ?_ _ | refine blk_drew ?_ | refine blk_alloc ?_ _)); refine blk_far ?_ NB225_238.out _; (with_reducible repeat (first | refine blk_drewN ?_ _ | refine blk_drew ?_ | refine blk_alloc ?_ _)); exact BK225.out⟩, ⟨by (with_reducible repeat (first | refine blk_drewN ?_ _ | refine blk_drew ?_ | refine blk_alloc ?_ _)); refine blk_put (cs := #[.int .i64 t226, .int .i64 t227, .int .i64 t228, .bool t229, .slice Ao13 t230.length co13, .slice Ao14 t233.length co14, .int .i64 t236, .int .i64 t237]) ?_ 6 _ rfl; (with_reducible repeat (first | refine blk_drewN ?_ _ | refine blk_drew ?_ | refine blk_alloc ?_ _)); exact BK238.out⟩, ⟨by (with_reducible repeat (first | refine blk_drewN ?_ _ | refine blk_drew ?_ | refine blk_alloc ?_ _)); refine blk_far ?_ NB246_238.out _; (with_reducible repeat (first | refine blk_drewN ?_ _ | refine blk_drew ?_ | refine blk_alloc ?_ _)); exact BK246.out⟩, ⟨qB HB⟩⟩
        ·
         rw [if_neg c63] at H
         have c63b0 : (t241 == 2) = false := beq_eq_false_iff_ne.mpr c63
         have c63b1 : (t241 != 2) = true := bne_iff_ne.mpr c63
         (first | rw [c63b0] | (simp only [i64_w, i32_w]; rw [c63b0]) | skip)
         have H' := Aside0.mk H
         clear H
         go_wp2
         go_meet
         case rel => exact ⟨_, (y247), (t236), H', ⟨by have := HJ2.out; first | omega | exact Nat.le_refl _⟩, ⟨by (with_reducible repeat (first | apply Kd.R_alloc | apply Kd.R_drewN | apply Kd.R_drew)); exact Kd.R_mono HO249.out (fun _ hk => hk.2)⟩, ⟨qR HO_239004⟩, ⟨qR HO_239005⟩, ⟨qK BK224⟩, ⟨qK BK225⟩, ⟨qK BK238⟩, ⟨qK BK246⟩, ⟨qB HB⟩⟩
       case rest =>
        clear HC53
        try clear c1
        try clear c2
        try clear p2
        try clear c3
        try clear c4
        try clear c5
        try clear c6
        try clear c7
        try clear c10
        try clear c11
        try clear c16
        try clear c17
        try clear c17b0
        try clear c17b1
        try clear c18
        try clear c19
        try clear c23
        try clear c24
        try clear c28
        try clear c29
        try clear c32
        try clear c33
        try clear c34
        try clear c36
        try clear c38
        try clear c38b0
        try clear c38b1
        try clear c39
        try clear c39b0
        try clear c39b1
        try clear c42
        try clear c43
        try clear c48
        try clear c49
        try clear c50
        try clear c51
        try clear c52
        try clear c52b0
        try clear c52b1
        try clear c54
        try clear c55
        try clear c56
        try clear c60
        try clear c61
        try clear c63
        try clear c63b0
        try clear c63b1
        try clear c65
        try clear c66
        try clear c67
        try clear c68
        try clear c69
        try clear c71
        try clear c72
        (try clear hcz12_0 hcz12_1 hcz12_2 hcz12_3 hcz12_4 hcz12_5 hcz12_6 hcz12_7)
        (try clear hcz20_0 hcz20_1 hcz20_2 hcz20_3 hcz20_4 hcz20_5 hcz20_6 hcz20_7)
        (try clear hcz22_0 hcz22_1 hcz22_2 hcz22_3 hcz22_4 hcz22_5 hcz22_6 hcz22_7)
        (try clear hcz25_0 hcz25_1 hcz25_2 hcz25_3 hcz25_4 hcz25_5 hcz25_6 hcz25_7)
        (try clear hcz27_0 hcz27_1 hcz27_2 hcz27_3 hcz27_4 hcz27_5 hcz27_6 hcz27_7)
        (try clear hcz30_0 hcz30_1 hcz30_2 hcz30_3 hcz30_4 hcz30_5 hcz30_6 hcz30_7)
        (try clear hcz35_0 hcz35_1 hcz35_2 hcz35_3 hcz35_4 hcz35_5 hcz35_6 hcz35_7)
        (try clear hcz37_0 hcz37_1 hcz37_2 hcz37_3 hcz37_4 hcz37_5 hcz37_6 hcz37_7)
        (try clear hcz44_0 hcz44_1 hcz44_2 hcz44_3 hcz44_4 hcz44_5 hcz44_6 hcz44_7)
        (try clear hcz51_0 hcz51_1 hcz51_2)
        (try clear hcz57_0 hcz57_1 hcz57_2 hcz57_3 hcz57_4 hcz57_5 hcz57_6 hcz57_7)
        (try clear hcz62_0 hcz62_1 hcz62_2)
        (try clear hcz70_0 hcz70_1 hcz70_2 hcz70_3 hcz70_4 hcz70_5 hcz70_6 hcz70_7)
        (try clear hcz73_0 hcz73_1 hcz73_2)
        (try clear hcz7_0 hcz7_1 hcz7_2 hcz7_3 hcz7_4 hcz7_5 hcz7_6 hcz7_7)
        (try clear hfz12_0 hfz12_1 hfz12_2 hfz12_3 hfz12_4 hfz12_5 hfz12_6 hfz12_7)
        (try clear hfz20_0 hfz20_1 hfz20_2 hfz20_3 hfz20_4 hfz20_5 hfz20_6 hfz20_7)
        (try clear hfz22_0 hfz22_1 hfz22_2 hfz22_3 hfz22_4 hfz22_5 hfz22_6 hfz22_7)
        (try clear hfz25_0 hfz25_1 hfz25_2 hfz25_3 hfz25_4 hfz25_5 hfz25_6 hfz25_7)
        (try clear hfz27_0 hfz27_1 hfz27_2 hfz27_3 hfz27_4 hfz27_5 hfz27_6 hfz27_7)
        (try clear hfz30_0 hfz30_1 hfz30_2 hfz30_3 hfz30_4 hfz30_5 hfz30_6 hfz30_7)
        (try clear hfz35_0 hfz35_1 hfz35_2 hfz35_3 hfz35_4 hfz35_5 hfz35_6 hfz35_7)
        (try clear hfz37_0 hfz37_1 hfz37_2 hfz37_3 hfz37_4 hfz37_5 hfz37_6 hfz37_7)
        (try clear hfz44_0 hfz44_1 hfz44_2 hfz44_3 hfz44_4 hfz44_5 hfz44_6 hfz44_7)
        (try clear hfz51_0 hfz51_1 hfz51_2)
        (try clear hfz57_0 hfz57_1 hfz57_2 hfz57_3 hfz57_4 hfz57_5 hfz57_6 hfz57_7)
        (try clear hfz62_0 hfz62_1 hfz62_2)
        (try clear hfz70_0 hfz70_1 hfz70_2 hfz70_3 hfz70_4 hfz70_5 hfz70_6 hfz70_7)
        (try clear hfz73_0 hfz73_1 hfz73_2)
        (try clear hfz7_0 hfz7_1 hfz7_2 hfz7_3 hfz7_4 hfz7_5 hfz7_6 hfz7_7)
        try clear p2
        obtain ⟨kq, x8_52, x239006_52, HA, HJ52, HO_8, HO_239004, HO_239005, BK224, BK225, BK238, BK246, HB⟩ := hcut
        cases kq with
        | zero => exact absurd HA.out (by simp [spec_Answer.j1])
        | succ kj52 =>
         have H := HA.out
         clear HA
         simp only [spec_Answer.j1] at H
         by_cases c77 : 0 < (x8_52.length : Int)
         ·
          rw [if_pos c77] at H
          have c77b0 : decide (0 < (x8_52.length : Int)) = true := decide_eq_true c77
          have c77b1 : decide (0 < x8_52.length) = true := decide_eq_true (by omega)
          clear c77
          replace H := Option.bind_eq_some_iff.mp H
          obtain ⟨t256, A780, H⟩ := H
          replace H : (if 1 < (x8_52.length : Int) then ((spec_PutFrame.f kj52 ((rd_T32 x8_52 1).f0) ((rd_T32 x8_52 1).f1) ((rd_T32 x8_52 1).f2)).bind fun t260 => (if t256.length + t260.length < 140737488355328 then ((some (t256 ++ t260 : List Int)).bind fun y263 => (if (y263.length : Int) > (wrap64 (240 - (l0_4.length : Int))) then ((spec_l8Copy.f a0_0 a0_1 a0_2 a0_3 l0_4 l0_5 a0_6 a0_7).bind fun bt266 => (some (bt266.1, bt266.2.1, bt266.2.2.1, bt266.2.2.2.1, bt266.2.2.2.2.1, bt266.2.2.2.2.2.1, bt266.2.2.2.2.2.2.1, bt266.2.2.2.2.2.2.2, false))) else (if t230.length + y263.length < 140737488355328 then (some (t226, t227, t228, t229, (t230 ++ y263), t233, x239006_52, wrap64 (a0_7 + t244), true)) else (none)))) else (none))) else (none)) = some (r1, r2, r3, r4, r5, r6, r7, r8, r9) := H
          have A78 := Aside0.mk A780
          clear A780
          by_cases c79 : 1 < (x8_52.length : Int)
          ·
           rw [if_pos c79] at H
           have c79b0 : decide (1 < (x8_52.length : Int)) = true := decide_eq_true c79
           have c79b1 : decide (1 < x8_52.length) = true := decide_eq_true (by omega)
           clear c79
           replace H := Option.bind_eq_some_iff.mp H
           obtain ⟨t260, A800, H⟩ := H
           replace H : (if t256.length + t260.length < 140737488355328 then ((some (t256 ++ t260 : List Int)).bind fun y263 => (if (y263.length : Int) > (wrap64 (240 - (l0_4.length : Int))) then ((spec_l8Copy.f a0_0 a0_1 a0_2 a0_3 l0_4 l0_5 a0_6 a0_7).bind fun bt266 => (some (bt266.1, bt266.2.1, bt266.2.2.1, bt266.2.2.2.1, bt266.2.2.2.2.1, bt266.2.2.2.2.2.1, bt266.2.2.2.2.2.2.1, bt266.2.2.2.2.2.2.2, false))) else (if t230.length + y263.length < 140737488355328 then (some (t226, t227, t228, t229, (t230 ++ y263), t233, x239006_52, wrap64 (a0_7 + t244), true)) else (none)))) else (none)) = some (r1, r2, r3, r4, r5, r6, r7, r8, r9) := H
           have A80 := Aside0.mk A800
           clear A800
           by_cases c81 : t256.length + t260.length < 140737488355328
           ·
            rw [if_pos c81] at H
            have LMc81 := Aside0.mk c81
            clear c81
            obtain ⟨y263, hy263⟩ : ∃ y_ : List Int, y_ = (t256 ++ t260) := ⟨_, rfl⟩
            replace H : (if (y263.length : Int) > (wrap64 (240 - (l0_4.length : Int))) then ((spec_l8Copy.f a0_0 a0_1 a0_2 a0_3 l0_4 l0_5 a0_6 a0_7).bind fun bt266 => (some (bt266.1, bt266.2.1, bt266.2.2.1, bt266.2.2.2.1, bt266.2.2.2.2.1, bt266.2.2.2.2.2.1, bt266.2.2.2.2.2.2.1, bt266.2.2.2.2.2.2.2, false))) else (if t230.length + y263.length < 140737488355328 then (some (t226, t227, t228, t229, (t230 ++ y263), t233, x239006_52, wrap64 (a0_7 + t244), true)) else (none))) = some (r1, r2, r3, r4, r5, r6, r7, r8, r9) := by first | (rw [hy263]; with_reducible exact H) | (have H2_ := (Option.bind_some _ _).symm.trans H; rw [hy263]; with_reducible exact H2_) | (have H2_ := (Option.bind_some _ _).symm.trans H; with_reducible exact H2_) | with_reducible exact H | (rw [hy263]; exact H) | exact H
            have Ny263 := Aside0.mk hy263
            clear hy263
            have HC82 := Aside0.mk H
            clear H
            try go_wp2
            replace HO_8 := am_ (Kd.R_drew HO_8.out)
            replace HO_239004 := am_ (Kd.R_drew HO_239004.out)
            replace HO_239005 := am_ (Kd.R_drew HO_239005.out)
            replace BK224 := am_ (blk_drew BK224.out)
            replace BK225 := am_ (blk_drew BK225.out)
            replace BK238 := am_ (blk_drew BK238.out)
            replace BK246 := am_ (blk_drew BK246.out)
            replace HB := am_ (below_drew1 HB.out)
            obtain ⟨Ao84, co84, eo84⟩ := Kd.R_slice HO_8.out
            (first | subst eo84 | (injection eo84 with f1_ f2_ f3_; have f4_ := f1_.symm; have f5_ := f3_.symm; clear f1_ f2_ f3_; subst f4_; subst f5_))
            have p255 : 0 ≤ (0 : Int) := (by omega)
            have q255 : 0 < (x8_52.length : Int) := of_decide_eq_true (by first | (with_reducible assumption) | assumption)
            obtain ⟨ad255, e255, hx255_0, hx255_1, hx255_2⟩ := at_T32 (Kd.R_reads' HO_8.out).2.2 0 p255 q255
            cases e255
            have qi255 : (0 < x8_52.length) = True := eq_true (by omega)
            (try rw [show ((0 : Int)).toNat = 0 from rfl] at hx255_0)
            (try rw [show 0 * 3 = 0 from rfl] at hx255_0)
            (try rw [Addr.add_zero'] at hx255_0)
            (try rw [show ((0 : Int)).toNat = 0 from rfl] at hx255_1)
            (try rw [show 0 * 3 = 0 from rfl] at hx255_1)
            (try rw [Addr.add_zero'] at hx255_1)
            (try rw [show ((0 : Int)).toNat = 0 from rfl] at hx255_2)
            (try rw [show 0 * 3 = 0 from rfl] at hx255_2)
            (try rw [Addr.add_zero'] at hx255_2)
            replace p255 := eq_true p255
            replace q255 := eq_true q255
            have p259 : 0 ≤ (1 : Int) := (by omega)
            have q259 : 1 < (x8_52.length : Int) := of_decide_eq_true (by first | (with_reducible assumption) | assumption)
            obtain ⟨ad259, e259, hx259_0, hx259_1, hx259_2⟩ := at_T32 (Kd.R_reads' HO_8.out).2.2 1 p259 q259
            obtain rfl : ad255 = ad259 := (by injection e259)
            (try simp only [show (1 : Int).toNat = 1 from rfl, Nat.reduceMul, Nat.reduceEqDiff, Go.Addr.add, ↓reduceIte] at hx259_0)
            (try simp only [show (1 : Int).toNat = 1 from rfl, Nat.reduceMul, Nat.reduceEqDiff, Go.Addr.add, ↓reduceIte] at hx259_1)
            (try simp only [show (1 : Int).toNat = 1 from rfl, Nat.reduceMul, Nat.reduceEqDiff, Go.Addr.add, ↓reduceIte] at hx259_2)
            have qi259 : (1 < x8_52.length) = True := eq_true (by omega)
            (try rw [show ((1 : Int)).toNat = 1 from rfl] at hx259_0)
            (try rw [show 1 * 3 = 3 from rfl] at hx259_0)
            (try rw [show ((1 : Int)).toNat = 1 from rfl] at hx259_1)
            (try rw [show 1 * 3 = 3 from rfl] at hx259_1)
            (try rw [show ((1 : Int)).toNat = 1 from rfl] at hx259_2)
            (try rw [show 1 * 3 = 3 from rfl] at hx259_2)
            replace p259 := eq_true p259
            replace q259 := eq_true q259
            refine start_ (n := 10) (S := fun w' => w'.cell? ad255 = some (.int .i64 ((rd_T32 x8_52 0).f0)) ∧ w'.cell? ⟨ad255.block, ad255.off + 1, none⟩ = some (.string ((rd_T32 x8_52 0).f1)) ∧ w'.cell? ⟨ad255.block, ad255.off + 2, none⟩ = some (.int .i64 ((rd_T32 x8_52 0).f2)) ∧ w'.cell? ⟨ad255.block, ad255.off + 3, none⟩ = some (.int .i64 ((rd_T32 x8_52 1).f0)) ∧ w'.cell? ⟨ad255.block, ad255.off + 3 + 1, none⟩ = some (.string ((rd_T32 x8_52 1).f1)) ∧ w'.cell? ⟨ad255.block, ad255.off + 3 + 2, none⟩ = some (.int .i64 ((rd_T32 x8_52 1).f2))) (ds := [8]) #[false, false, false, false, false, false, false, false, false, false] (by kernel_rfl) rfl rfl ⟨hx255_0, hx255_1, hx255_2, hx259_0, hx259_1, hx259_2⟩ (fun hHeld => ?_); refine with_tabW spec_Answer.tab11 spec_Answer.bits11 (fun HT_ HW_ => ?_)
            generalize wc.drew = w83 at HO_8 HO_239004 HO_239005 BK224 BK225 BK238 BK246 HB hx255_0 hx255_1 hx255_2 hx259_0 hx259_1 hx259_2 hHeld ⊢
            refine pure_ (i := 0) (N := some 58) (v := ?_) (a' := ?_) #[true, false, false, false, false, false, false, false, false, false] rfl rfl (any_of HT_.out (by kernel_rfl)) (fun _ _ _ h => h) (Or.inl ⟨by rfl, ?_⟩) ?_ ?_
            rotate_left
            ·
             intro w'
             go_simp
             with_reducible rfl
            rotate_left
            ·
             simp only [Act.put, List.setIfInBounds_toArray, List.set_cons_zero, List.set_cons_succ, i64_w, i32_w]
             rfl
            refine pure_ (i := 1) (N := some 59) (v := ?_) (a' := ?_) #[true, true, false, false, false, false, false, false, false, false] rfl rfl (any_of HT_.out (by kernel_rfl)) (fun _ _ _ h => h) (Or.inl ⟨by rfl, ?_⟩) ?_ ?_
            rotate_left
            ·
             intro w'
             go_simp
             with_reducible rfl
            rotate_left
            ·
             simp only [Act.put, List.setIfInBounds_toArray, List.set_cons_zero, List.set_cons_succ, i64_w, i32_w]
             rfl
            refine pure_ (i := 4) (N := some 62) (v := ?_) (a' := ?_) #[true, true, false, false, true, false, false, false, false, false] rfl rfl (any_of HT_.out (by kernel_rfl)) (fun _ _ _ h => h) (Or.inl ⟨by rfl, ?_⟩) ?_ ?_
            rotate_left
            ·
             intro w'
             go_simp
             with_reducible rfl
            rotate_left
            ·
             simp only [Act.put, List.setIfInBounds_toArray, List.set_cons_zero, List.set_cons_succ, i64_w, i32_w]
             rfl
            refine pure_ (i := 5) (N := some 63) (v := ?_) (a' := ?_) #[true, true, false, false, true, true, false, false, false, false] rfl rfl (any_of HT_.out (by kernel_rfl)) (fun _ _ _ h => h) (Or.inl ⟨by rfl, ?_⟩) ?_ ?_
            rotate_left
            ·
             intro w'
             go_simp
             with_reducible rfl
            rotate_left
            ·
             simp only [Act.put, List.setIfInBounds_toArray, List.set_cons_zero, List.set_cons_succ, i64_w, i32_w]
             rfl
            refine take_ (i := 2) (N := some 60) (v := ?_) (a' := ?_) #[true, true, true, false, true, true, false, false, false, false] rfl rfl (take_ofW HT_.out HW_.out (by kernel_rfl)) (fun _ _ _ h => h) (Or.inl ⟨by rfl, ?_⟩) hHeld ?_ ?_
            rotate_left
            ·
             rintro w' ⟨s0, s1, s2, s3, s4, s5⟩
             go_simp
             with_reducible rfl
            rotate_left
            ·
             simp only [Act.put, List.setIfInBounds_toArray, List.set_cons_zero, List.set_cons_succ, i64_w, i32_w]
             rfl
            refine take_ (i := 6) (N := some 64) (v := ?_) (a' := ?_) #[true, true, true, false, true, true, true, false, false, false] rfl rfl (take_ofW HT_.out HW_.out (by kernel_rfl)) (fun _ _ _ h => h) (Or.inl ⟨by rfl, ?_⟩) hHeld ?_ ?_
            rotate_left
            ·
             rintro w' ⟨s0, s1, s2, s3, s4, s5⟩
             go_simp
             with_reducible rfl
            rotate_left
            ·
             simp only [Act.put, List.setIfInBounds_toArray, List.set_cons_zero, List.set_cons_succ, i64_w, i32_w]
             rfl
            refine one_ (i := 3) (N := some 61) #[true, true, true, true, true, true, true, false, false, false] rfl rfl (one_of HT_.out (by kernel_rfl)) (by decide) (fun K hK => ?_)
            refine goes_ Try.func67 (by kernel_rfl) rfl #[.agg #[.int .i64 ((rd_T32 x8_52 0).f0), .string ((rd_T32 x8_52 0).f1), .int .i64 ((rd_T32 x8_52 0).f2)]] (by rfl) rfl rfl (by (try simp only [List.map_toArray, List.map_cons, List.map_nil]); first | done | rfl | (simp only [List.length_drop, List.length_take]; rfl)) ?_
            with_reducible refine (spec_PutFrame.calls kj52 ((rd_T32 x8_52 0).f0) ((rd_T32 x8_52 0).f1) ((rd_T32 x8_52 0).f2) t256 _ A78.out).mono ?_
            rintro e w85 ⟨v257, rfl, ho0, hb⟩
            have HS0_ := (hb.cell (World.block_lt_of_cell? _ _ (hHeld.1))).trans (hHeld.1)
            have HS1_ := (hb.cell (World.block_lt_of_cell? _ _ (hHeld.2.1))).trans (hHeld.2.1)
            have HS2_ := (hb.cell (World.block_lt_of_cell? _ _ (hHeld.2.2.1))).trans (hHeld.2.2.1)
            have HS3_ := (hb.cell (World.block_lt_of_cell? _ _ (hHeld.2.2.2.1))).trans (hHeld.2.2.2.1)
            have HS4_ := (hb.cell (World.block_lt_of_cell? _ _ (hHeld.2.2.2.2.1))).trans (hHeld.2.2.2.2.1)
            have HS5_ := (hb.cell (World.block_lt_of_cell? _ _ (hHeld.2.2.2.2.2))).trans (hHeld.2.2.2.2.2)
            refine ⟨_, rfl, ?_⟩
            replace HO_8 := am_ (Kd.R_below (qR HO_8) hb)
            have HO258 := am_ (Kd.R_lower (Kd.R_new' (Kd.R_new' ho0 (Kd.R_lt (qR HO_239004))) (Kd.R_lt (qR HO_239005))) (below_size (qB HB)))
            replace HO_239004 := am_ (Kd.R_elder' (qR HO_239004) (Kd.R_base ho0) hb)
            replace HO_239005 := am_ (Kd.R_elder' (qR HO_239005) (Kd.R_base ho0) hb)
            replace BK224 := am_ (blk_below (qK BK224) hb)
            replace BK225 := am_ (blk_below (qK BK225) hb)
            replace BK238 := am_ (blk_below (qK BK238) hb)
            replace BK246 := am_ (blk_below (qK BK246) hb)
            replace HB := am_ (below_step (qB HB) hb)
            (try clear hb ho0)
            refine hK.out _ _ ⟨HS0_, HS1_, HS2_, HS3_, HS4_, HS5_⟩ (fun hHeld => ?_)
            clear hK K
            refine norm_ (a' := ?_) ?_ ?_
            rotate_left
            ·
             show Act.put _ (some 61) _ = _
             simp only [Act.put, List.setIfInBounds_toArray, List.set_cons_zero, List.set_cons_succ, i64_w, i32_w]
             rfl
            refine one_ (i := 7) (N := some 65) #[true, true, true, true, true, true, true, true, false, false] rfl rfl (one_of HT_.out (by kernel_rfl)) (by decide) (fun K hK => ?_)
            refine goes_ Try.func67 (by kernel_rfl) rfl #[.agg #[.int .i64 ((rd_T32 x8_52 1).f0), .string ((rd_T32 x8_52 1).f1), .int .i64 ((rd_T32 x8_52 1).f2)]] (by rfl) rfl rfl (by (try simp only [List.map_toArray, List.map_cons, List.map_nil]); first | done | rfl | (simp only [List.length_drop, List.length_take]; rfl)) ?_
            with_reducible refine (spec_PutFrame.calls kj52 ((rd_T32 x8_52 1).f0) ((rd_T32 x8_52 1).f1) ((rd_T32 x8_52 1).f2) t260 _ A80.out).mono ?_
            rintro e w86 ⟨v261, rfl, ho0, hb⟩
            have HS0_ := (hb.cell (World.block_lt_of_cell? _ _ (hHeld.1))).trans (hHeld.1)
            have HS1_ := (hb.cell (World.block_lt_of_cell? _ _ (hHeld.2.1))).trans (hHeld.2.1)
            have HS2_ := (hb.cell (World.block_lt_of_cell? _ _ (hHeld.2.2.1))).trans (hHeld.2.2.1)
            have HS3_ := (hb.cell (World.block_lt_of_cell? _ _ (hHeld.2.2.2.1))).trans (hHeld.2.2.2.1)
            have HS4_ := (hb.cell (World.block_lt_of_cell? _ _ (hHeld.2.2.2.2.1))).trans (hHeld.2.2.2.2.1)
            have HS5_ := (hb.cell (World.block_lt_of_cell? _ _ (hHeld.2.2.2.2.2))).trans (hHeld.2.2.2.2.2)
            refine ⟨_, rfl, ?_⟩
            replace HO_8 := am_ (Kd.R_below (qR HO_8) hb)
            have HO262 := am_ (Kd.R_lower (Kd.R_new' (Kd.R_new' (Kd.R_new' ho0 (Kd.R_lt (qR HO_239004))) (Kd.R_lt (qR HO_239005))) (Kd.R_lt (qR HO258))) (below_size (qB HB)))
            replace HO_239004 := am_ (Kd.R_elder' (qR HO_239004) (Kd.R_base ho0) hb)
            replace HO_239005 := am_ (Kd.R_elder' (qR HO_239005) (Kd.R_base ho0) hb)
            replace HO258 := am_ (Kd.R_elder' (qR HO258) (Kd.R_base ho0) hb)
            replace BK224 := am_ (blk_below (qK BK224) hb)
            replace BK225 := am_ (blk_below (qK BK225) hb)
            replace BK238 := am_ (blk_below (qK BK238) hb)
            replace BK246 := am_ (blk_below (qK BK246) hb)
            replace HB := am_ (below_step (qB HB) hb)
            (try clear hb ho0)
            obtain ⟨Ao88, co88, eo88⟩ := Kd.R_slice HO262.out
            (first | subst eo88 | (injection eo88 with f1_ f2_ f3_; have f4_ := f1_.symm; have f5_ := f3_.symm; clear f1_ f2_ f3_; subst f4_; subst f5_))
            refine hK.out _ _ ⟨HS0_, HS1_, HS2_, HS3_, HS4_, HS5_⟩ (fun hHeld => ?_)
            clear hK K
            refine norm_ (a' := ?_) ?_ ?_
            rotate_left
            ·
             show Act.put _ (some 65) _ = _
             simp only [Act.put, List.setIfInBounds_toArray, List.set_cons_zero, List.set_cons_succ, i64_w, i32_w]
             rfl
            refine last_ (i := 8) (N := some 66) #[true, true, true, true, true, true, true, true, true, false] rfl rfl (one_of HT_.out (by kernel_rfl)) (by decide) (fun K hK => ?_)
            refine Kd.R_append_rows_step (Kd.int .u8) (w0 := w) w.heap.size (by rfl) (.tmp 61) (.tmp 65) 22 5 (.int .u8 0) 1 rfl Try.underlying22 info5 rfl (by decide) (by omega) v257 t256 t260 _ _ _ (fun k_ => some k_ ≠ (.slice Ao13 t230.length co13 : Value).ownBlock ∧ some k_ ≠ (.slice Ao14 t233.length co14 : Value).ownBlock ∧ some k_ ≠ (.slice Ao88 t260.length co88 : Value).ownBlock) (fun _ => False) rfl rfl ?aO ?aR (fun _ _ h => h) (fun _ h => h.elim) ?aF ?aB ?aS ?aL ?_
            (case aR => exact qC ((Kd.R_reads' HO262.out).2.2))
            (case aB => exact (qB HB))
            (case aF => exact (fun k_ hk => ⟨Kd.fresh' (Kd.R_lt (qR HO_239004)) k_ hk, Kd.fresh' (Kd.R_lt (qR HO_239005)) k_ hk, Kd.fresh' (Kd.R_lt (qR HO262)) k_ hk⟩))
            (case aO => exact (tR (Kd.R_mono HO258.out (fun _ hk => ⟨hk.1.1.2, ⟨hk.1.2, hk.2⟩⟩))))
            (case aS => exact (below_size (qB HB)))
            (case aL => have := LMc81.out; omega)
            intro v264 w87 ho hb hg hat
            rw [← Ny263.out] at ho
            replace HO_8 := am_ (Kd.R_over' (qR HO_8) (Kd.R_typed (qR HO258)) (by decide) hg)
            replace HO_239004 := am_ (Kd.R_after (ok := (fun k_ => some k_ ≠ (.slice Ao14 t233.length co14 : Value).ownBlock ∧ some k_ ≠ (.slice Ao88 t260.length co88 : Value).ownBlock)) (tR (Kd.R_mono HO_239004.out (fun _ hk => ⟨⟨hk.1.1, hk.2⟩, hk.1.2⟩))) hg hat)
            replace HO_239005 := am_ (Kd.R_after (ok := (fun k_ => some k_ ≠ (.slice Ao13 t230.length co13 : Value).ownBlock ∧ some k_ ≠ (.slice Ao88 t260.length co88 : Value).ownBlock)) (tR (Kd.R_mono HO_239005.out (fun _ hk => ⟨⟨hk.1.1, hk.2⟩, hk.1.2⟩))) hg hat)
            replace BK224 := am_ (blk_grown (qK BK224) hg (Kd.R_ne HO258.out BK224.out (by decide)))
            replace BK225 := am_ (blk_grown (qK BK225) hg (Kd.R_ne HO258.out BK225.out (by decide)))
            replace BK238 := am_ (blk_grown (qK BK238) hg (Kd.R_ne HO258.out BK238.out (by decide)))
            replace BK246 := am_ (blk_grown (qK BK246) hg (Kd.R_ne HO258.out BK246.out (by decide)))
            replace HO262 := am_ (Kd.R_after (ok := (fun k_ => some k_ ≠ (.slice Ao13 t230.length co13 : Value).ownBlock ∧ some k_ ≠ (.slice Ao14 t233.length co14 : Value).ownBlock)) (tR (Kd.R_mono HO262.out (fun _ hk => ⟨⟨hk.1.1.2, hk.1.2⟩, hk.2⟩))) hg hat)
            replace HB := am_ (hb)
            have HO265 := am_ (ho)
            clear HO258
            clear ho hb hg hat
            refine hK.out _ _ ?_
            clear hK K
            refine norm_ (a' := ?_) ?_ ?_
            rotate_left
            ·
             show Act.put _ (some 66) _ = _
             simp only [Act.put, List.setIfInBounds_toArray, List.set_cons_zero, List.set_cons_succ, i64_w, i32_w]
             rfl
            refine pure_ (i := 9) (N := some 9) (v := ?_) (a' := ?_) #[true, true, true, true, true, true, true, true, true, true] rfl rfl (any_of HT_.out (by kernel_rfl)) (fun _ _ _ h => h) (Or.inl ⟨by rfl, ?_⟩) ?_ ?_
            rotate_left
            ·
             intro w'
             go_simp
             with_reducible rfl
            rotate_left
            ·
             simp only [Act.put, List.setIfInBounds_toArray, List.set_cons_zero, List.set_cons_succ, i64_w, i32_w]
             rfl
            refine done_ (done_of HT_.out (by kernel_rfl)) ?_
            obtain ⟨Ao89, co89, eo89⟩ := Kd.R_slice HO265.out
            subst eo89
            have hnb90 := NB224_225.out
            have hnc90 := NB225_224.out
            have hnb91 := NB224_238.out
            have hnc91 := NB238_224.out
            have hnb92 := NB224_246.out
            have hnc92 := NB246_224.out
            obtain ⟨hcz93_0, hcz93_1, hcz93_2, hcz93_3, hcz93_4, hcz93_5, hcz93_6, hcz93_7⟩ := cz8 BK224.out
            obtain ⟨hfz93_0, hfz93_1, hfz93_2, hfz93_3, hfz93_4, hfz93_5, hfz93_6, hfz93_7⟩ := fz8 BK224.out
            go_upto_if 73 with (fail)
            have H := HC82.out
            clear HC82
            by_cases c94 : (y263.length : Int) > (wrap64 (240 - (l0_4.length : Int)))
            ·
             rw [if_pos c94] at H
             have c94b0 : decide ((wrap64 (240 - (l0_4.length : Int))) < (y263.length : Int)) = true := decide_eq_true c94
             clear c94
             (first | rw [c94b0] | (simp only [i64_w, i32_w]; rw [c94b0]) | skip)
             replace H := Option.bind_eq_some_iff.mp H
             obtain ⟨⟨t266, t267, t268, t269, t270, t273, t276, t277⟩, A950, H⟩ := H
             replace H : (some (t266, t267, t268, t269, t270, t273, t276, t277, false)) = some (r1, r2, r3, r4, r5, r6, r7, r8, r9) := H
             have A95 := Aside0.mk A950
             clear A950
             simp only [Option.some.injEq, Prod.mk.injEq] at H
             obtain ⟨rfl, rfl, rfl, rfl, rfl, rfl, rfl, rfl, rfl⟩ := H
             have hnb96 := NB224_225.out
             have hnc96 := NB225_224.out
             have hnb97 := NB224_238.out
             have hnc97 := NB238_224.out
             have hnb98 := NB224_246.out
             have hnc98 := NB246_224.out
             obtain ⟨hcz99_0, hcz99_1, hcz99_2, hcz99_3, hcz99_4, hcz99_5, hcz99_6, hcz99_7⟩ := cz8 BK224.out
             obtain ⟨hfz99_0, hfz99_1, hfz99_2, hfz99_3, hfz99_4, hfz99_5, hfz99_6, hfz99_7⟩ := fz8 BK224.out
             go_wp2_with (first | ((with_reducible refine gate_callee (f := 65) rfl ?_); refine goesL_ (some 75) rfl rfl Try.func65 (by kernel_rfl) rfl #[.agg #[.int .i64 a0_0, .int .i64 a0_1, .int .i64 a0_2, .bool a0_3, .slice A0_4 l0_4.length c0_4, .slice A0_5 l0_5.length c0_5, .int .i64 a0_6, .int .i64 a0_7]] rfl (by (try simp only [List.map_toArray, List.map_cons, List.map_nil]); first | done | rfl | (simp only [List.length_drop, List.length_take]; rfl)) ?_; (with_reducible refine (spec_l8Copy.calls a0_0 a0_1 a0_2 a0_3 _ _ l0_4 _ _ l0_5 a0_6 a0_7 t266 t267 t268 t269 t270 t273 t276 t277 _ ?side1 ?side2 ?side3 ?side4 A95.out).mono ?_); (case side1 => exact qC (Kd.C_below HR0_4.out HB.out)); (case side2 => exact HC0_4.out); (case side3 => exact qC (Kd.C_below HR0_5.out HB.out)); (case side4 => exact HC0_5.out); rintro e w100 ⟨v271, v274, rfl, ho0, ho1, hb⟩; refine ⟨_, rfl, ?_⟩; replace HO_8 := am_ (Kd.R_below (qR HO_8) hb); have HO272 := am_ (Kd.R_lower (Kd.R_new' (Kd.R_new' (Kd.R_new' (Kd.R_new' ho0 (Kd.R_lt (qR HO_239004))) (Kd.R_lt (qR HO_239005))) (Kd.R_lt (qR HO262))) (Kd.R_lt (qR HO265))) (below_size (qB HB))); have HO275 := am_ (Kd.R_lower (Kd.R_new' (Kd.R_new' (Kd.R_new' (Kd.R_new' ho1 (Kd.R_lt (qR HO_239004))) (Kd.R_lt (qR HO_239005))) (Kd.R_lt (qR HO262))) (Kd.R_lt (qR HO265))) (below_size (qB HB))); replace HO_239004 := am_ (Kd.R_mono (Kd.R_told (Kd.R_told (Kd.R_old (qR HO_239004) hb) (Kd.R_base ho0)) (Kd.R_base ho1)) (fun _ h_ => h_.1)); replace HO_239005 := am_ (Kd.R_mono (Kd.R_told (Kd.R_told (Kd.R_old (qR HO_239005) hb) (Kd.R_base ho0)) (Kd.R_base ho1)) (fun _ h_ => h_.1)); replace HO262 := am_ (Kd.R_mono (Kd.R_told (Kd.R_told (Kd.R_old (qR HO262) hb) (Kd.R_base ho0)) (Kd.R_base ho1)) (fun _ h_ => h_.1)); replace HO265 := am_ (Kd.R_mono (Kd.R_told (Kd.R_told (Kd.R_old (qR HO265) hb) (Kd.R_base ho0)) (Kd.R_base ho1)) (fun _ h_ => h_.1)); replace BK224 := am_ (blk_below (qK BK224) hb); replace BK225 := am_ (blk_below (qK BK225) hb); replace BK238 := am_ (blk_below (qK BK238) hb); replace BK246 := am_ (blk_below (qK BK246) hb); replace HB := am_ (below_step (qB HB) hb); (try clear hb); (try clear hb2); (try clear hk); (try clear hi); (try clear ho0); (try clear ho1); have hnb101 := NB225_238.out; have hnc101 := NB238_225.out; have hnb102 := NB225_246.out; have hnc102 := NB246_225.out; obtain ⟨hcz103_0, hcz103_1, hcz103_2, hcz103_3, hcz103_4, hcz103_5, hcz103_6, hcz103_7⟩ := cz8 BK225.out; obtain ⟨hfz103_0, hfz103_1, hfz103_2, hfz103_3, hfz103_4, hfz103_5, hfz103_6, hfz103_7⟩ := fz8 BK225.out; obtain ⟨Ao104, co104, eo104⟩ := Kd.R_slice HO272.out; subst eo104; obtain ⟨Ao105, co105, eo105⟩ := Kd.R_slice HO275.out; subst eo105))
             refine bodyPost_ret (results_ct rfl _ _ gb225 29 #[.int .i64 t266, .int .i64 t267, .int .i64 t268, .bool t269, .slice Ao104 t270.length co104, .slice Ao105 t273.length co105, .int .i64 t276, .int .i64 t277] (0, 0) _ rfl (by (with_reducible repeat (first | refine blk_drewN ?_ _ | refine blk_drew ?_ | refine blk_alloc ?_ _)); refine blk_put (cs := #[.int .i64 t266, .int .i64 t267, .int .i64 t268, .bool t269, .slice Ao104 t270.length co104, .slice Ao105 t273.length co105, .int .i64 t276, .int .i64 0]) ?_ 7 _ rfl; (with_reducible repeat (first | refine blk_drewN ?_ _ | refine blk_drew ?_ | refine blk_alloc ?_ _)); refine blk_put (cs := #[.int .i64 t266, .int .i64 t267, .int .i64 t268, .bool t269, .slice Ao104 t270.length co104, .slice Ao105 t273.length co105, .int .i64 0, .int .i64 0]) ?_ 6 _ rfl; (with_reducible repeat (first | refine blk_drewN ?_ _ | refine blk_drew ?_ | refine blk_alloc ?_ _)); refine blk_put (cs := #[.int .i64 t266, .int .i64 t267, .int .i64 t268, .bool t269, .slice Ao104 t270.length co104, .slice none 0 0, .int .i64 0, .int .i64 0]) ?_ 5 _ rfl; (with_reducible repeat (first | refine blk_drewN ?_ _ | refine blk_drew ?_ | refine blk_alloc ?_ _)); refine blk_put (cs := #[.int .i64 t266, .int .i64 t267, .int .i64 t268, .bool t269, .slice none 0 0, .slice none 0 0, .int .i64 0, .int .i64 0]) ?_ 4 _ rfl; (with_reducible repeat (first | refine blk_drewN ?_ _ | refine blk_drew ?_ | refine blk_alloc ?_ _)); refine blk_put (cs := #[.int .i64 t266, .int .i64 t267, .int .i64 t268, .bool false, .slice none 0 0, .slice none 0 0, .int .i64 0, .int .i64 0]) ?_ 3 _ rfl; (with_reducible repeat (first | refine blk_drewN ?_ _ | refine blk_drew ?_ | refine blk_alloc ?_ _)); refine blk_put (cs := #[.int .i64 t266, .int .i64 t267, .int .i64 0, .bool false, .slice none 0 0, .slice none 0 0, .int .i64 0, .int .i64 0]) ?_ 2 _ rfl; (with_reducible repeat (first | refine blk_drewN ?_ _ | refine blk_drew ?_ | refine blk_alloc ?_ _)); refine blk_put (cs := #[.int .i64 t266, .int .i64 0, .int .i64 0, .bool false, .slice none 0 0, .slice none 0 0, .int .i64 0, .int .i64 0]) ?_ 1 _ rfl; (with_reducible repeat (first | refine blk_drewN ?_ _ | refine blk_drew ?_ | refine blk_alloc ?_ _)); refine blk_put (cs := #[.int .i64 0, .int .i64 0, .int .i64 0, .bool false, .slice none 0 0, .slice none 0 0, .int .i64 0, .int .i64 0]) ?_ 0 _ rfl; (with_reducible repeat (first | refine blk_drewN ?_ _ | refine blk_drew ?_ | refine blk_alloc ?_ _)); exact BK225.out) Try.underlying29 rfl (by kernel_rfl)) rfl ?_
             exact ⟨_, _, by first | rfl | (simp [errW_none, errW_some] <;> rfl) | (simp [*, errW_none, errW_some] <;> rfl), by (with_reducible repeat (first | apply Kd.R_alloc | apply Kd.R_drewN | apply Kd.R_drew)); exact Kd.R_mono (Go.Proofs.YtahfemlfdpbkkaaV.R_far8 (g := gb225) (Kd.R_types HO272.out BK225.out (by decide)) (fun _ hk => hk.2)) (fun _ hk => hk.1.1.1.1.1), by (with_reducible repeat (first | apply Kd.R_alloc | apply Kd.R_drewN | apply Kd.R_drew)); exact Kd.R_mono (Go.Proofs.YtahfemlfdpbkkaaV.R_far8 (g := gb225) (Kd.R_types HO275.out BK225.out (by decide)) (fun _ hk => hk.2)) (fun _ hk => hk.1.1.1.1.1), qB HB⟩
            ·
             rw [if_neg c94] at H
             have c94b0 : decide ((wrap64 (240 - (l0_4.length : Int))) < (y263.length : Int)) = false := decide_eq_false c94
             clear c94
             (first | rw [c94b0] | (simp only [i64_w, i32_w]; rw [c94b0]) | skip)
             by_cases c106 : t230.length + y263.length < 140737488355328
             ·
              rw [if_pos c106] at H
              have LMc106 := Aside0.mk c106
              clear c106
              obtain ⟨y278, hy278⟩ : ∃ y_ : List Int, y_ = (t230 ++ y263) := ⟨_, rfl⟩
              replace H : (some (t226, t227, t228, t229, y278, t233, x239006_52, wrap64 (a0_7 + t244), true)) = some (r1, r2, r3, r4, r5, r6, r7, r8, r9) := by first | (rw [hy278]; with_reducible exact H) | (have H2_ := (Option.bind_some _ _).symm.trans H; rw [hy278]; with_reducible exact H2_) | (have H2_ := (Option.bind_some _ _).symm.trans H; with_reducible exact H2_) | with_reducible exact H | (rw [hy278]; exact H) | exact H
              have Ny278 := Aside0.mk hy278
              clear hy278
              simp only [Option.some.injEq, Prod.mk.injEq] at H
              obtain ⟨rfl, rfl, rfl, rfl, rfl, rfl, rfl, rfl, rfl⟩ := H
              have hnb107 := NB238_224.out
              have hnc107 := NB224_238.out
              have hnb108 := NB238_225.out
              have hnc108 := NB225_238.out
              have hnb109 := NB238_246.out
              have hnc109 := NB246_238.out
              obtain ⟨hcz110_0, hcz110_1, hcz110_2, hcz110_3, hcz110_4, hcz110_5, hcz110_6, hcz110_7⟩ := cz8 BK238.out
              obtain ⟨hfz110_0, hfz110_1, hfz110_2, hfz110_3, hfz110_4, hfz110_5, hfz110_6, hfz110_7⟩ := fz8 BK238.out
              go_wp2_with (first | ((with_reducible refine gate_builtin (b := .append) (xs := #[.tmp 77, .tmp 78]) rfl ?_); at_builtin; refine Kd.R_append_rows (Kd.int .u8) (w0 := w) w.heap.size rfl (.tmp 77) (.tmp 78) 22 5 (.int .u8 0) 1 rfl Try.underlying22 info5 rfl (by decide) (by omega) (.slice Ao13 t230.length co13) t230 y263 _ _ _ (fun k_ => some k_ ≠ (.slice Ao14 t233.length co14 : Value).ownBlock ∧ some k_ ≠ (.slice Ao88 t260.length co88 : Value).ownBlock ∧ some k_ ≠ (.slice Ao89 y263.length co89 : Value).ownBlock) (fun _ => False) rfl rfl ?aO ?aR (fun _ _ h => h) (fun _ h => h.elim) ?aF ?aB ?aS ?aL ?_; (case aR => exact qC ((Kd.R_reads' HO265.out).2.2)); (case aB => exact (qB HB)); (case aF => exact (fun k_ hk => ⟨Kd.fresh' (Kd.R_lt (qR HO_239005)) k_ hk, Kd.fresh' (Kd.R_lt (qR HO262)) k_ hk, Kd.fresh' (Kd.R_lt (qR HO265)) k_ hk⟩)); (case aO => exact (tR (Kd.R_mono HO_239004.out (fun _ hk => ⟨hk.1.1, ⟨hk.1.2, hk.2⟩⟩)))); (case aS => exact (below_size (qB HB))); (case aL => have := LMc106.out; omega); intro v279 w111 ho hb hg hat; rw [← Ny278.out] at ho; replace HO_8 := am_ (Kd.R_over' (qR HO_8) (Kd.R_typed (qR HO_239004)) (by decide) hg); replace HO_239005 := am_ (Kd.R_after (ok := (fun k_ => some k_ ≠ (.slice Ao88 t260.length co88 : Value).ownBlock ∧ some k_ ≠ (.slice Ao89 y263.length co89 : Value).ownBlock)) (tR (Kd.R_mono HO_239005.out (fun _ hk => ⟨⟨hk.1.2, hk.2⟩, hk.1.1⟩))) hg hat); replace BK224 := am_ (blk_grown (qK BK224) hg (Kd.R_ne HO_239004.out BK224.out (by decide))); replace BK225 := am_ (blk_grown (qK BK225) hg (Kd.R_ne HO_239004.out BK225.out (by decide))); replace BK238 := am_ (blk_grown (qK BK238) hg (Kd.R_ne HO_239004.out BK238.out (by decide))); replace BK246 := am_ (blk_grown (qK BK246) hg (Kd.R_ne HO_239004.out BK246.out (by decide))); replace HO262 := am_ (Kd.R_after (ok := (fun k_ => some k_ ≠ (.slice Ao14 t233.length co14 : Value).ownBlock ∧ some k_ ≠ (.slice Ao89 y263.length co89 : Value).ownBlock)) (tR (Kd.R_mono HO262.out (fun _ hk => ⟨⟨hk.1.2, hk.2⟩, hk.1.1⟩))) hg hat); replace HO265 := am_ (Kd.R_after (ok := (fun k_ => some k_ ≠ (.slice Ao14 t233.length co14 : Value).ownBlock ∧ some k_ ≠ (.slice Ao88 t260.length co88 : Value).ownBlock)) (tR (Kd.R_mono HO265.out (fun _ hk => ⟨⟨hk.2.1, hk.2.2⟩, hk.1⟩))) hg hat); replace HB := am_ (hb); have HO280 := am_ (ho); clear HO_239004; clear ho hb hg hat; obtain ⟨Ao112, co112, eo112⟩ := Kd.R_slice HO280.out; subst eo112; obtain ⟨hcz113_0, hcz113_1, hcz113_2, hcz113_3, hcz113_4, hcz113_5, hcz113_6, hcz113_7⟩ := cz8 BK238.out; obtain ⟨hfz113_0, hfz113_1, hfz113_2, hfz113_3, hfz113_4, hfz113_5, hfz113_6, hfz113_7⟩ := fz8 BK238.out; have hnb114 := NB224_225.out; have hnc114 := NB225_224.out; have hnb115 := NB224_246.out; have hnc115 := NB246_224.out; obtain ⟨hcz116_0, hcz116_1, hcz116_2, hcz116_3, hcz116_4, hcz116_5, hcz116_6, hcz116_7⟩ := cz8 BK224.out; obtain ⟨hfz116_0, hfz116_1, hfz116_2, hfz116_3, hfz116_4, hfz116_5, hfz116_6, hfz116_7⟩ := fz8 BK224.out; have hnb117 := NB225_246.out; have hnc117 := NB246_225.out; obtain ⟨hcz118_0, hcz118_1, hcz118_2, hcz118_3, hcz118_4, hcz118_5, hcz118_6, hcz118_7⟩ := cz8 BK225.out; obtain ⟨hfz118_0, hfz118_1, hfz118_2, hfz118_3, hfz118_4, hfz118_5, hfz118_6, hfz118_7⟩ := fz8 BK225.out))
              refine bodyPost_ret (results_ct rfl _ _ gb225 29 #[.int .i64 t226, .int .i64 t227, .int .i64 t228, .bool t229, .slice Ao112 y278.length co112, .slice Ao14 t233.length co14, .int .i64 x239006_52, .int .i64 (wrap64 (a0_7 + t244))] (0, 0) _ rfl (by (with_reducible repeat (first | refine blk_drewN ?_ _ | refine blk_drew ?_ | refine blk_alloc ?_ _)); refine blk_put (cs := #[.int .i64 t226, .int .i64 t227, .int .i64 t228, .bool t229, .slice Ao112 y278.length co112, .slice Ao14 t233.length co14, .int .i64 x239006_52, .int .i64 0]) ?_ 7 _ rfl; (with_reducible repeat (first | refine blk_drewN ?_ _ | refine blk_drew ?_ | refine blk_alloc ?_ _)); refine blk_put (cs := #[.int .i64 t226, .int .i64 t227, .int .i64 t228, .bool t229, .slice Ao112 y278.length co112, .slice Ao14 t233.length co14, .int .i64 0, .int .i64 0]) ?_ 6 _ rfl; (with_reducible repeat (first | refine blk_drewN ?_ _ | refine blk_drew ?_ | refine blk_alloc ?_ _)); refine blk_put (cs := #[.int .i64 t226, .int .i64 t227, .int .i64 t228, .bool t229, .slice Ao112 y278.length co112, .slice none 0 0, .int .i64 0, .int .i64 0]) ?_ 5 _ rfl; (with_reducible repeat (first | refine blk_drewN ?_ _ | refine blk_drew ?_ | refine blk_alloc ?_ _)); refine blk_put (cs := #[.int .i64 t226, .int .i64 t227, .int .i64 t228, .bool t229, .slice none 0 0, .slice none 0 0, .int .i64 0, .int .i64 0]) ?_ 4 _ rfl; (with_reducible repeat (first | refine blk_drewN ?_ _ | refine blk_drew ?_ | refine blk_alloc ?_ _)); refine blk_put (cs := #[.int .i64 t226, .int .i64 t227, .int .i64 t228, .bool false, .slice none 0 0, .slice none 0 0, .int .i64 0, .int .i64 0]) ?_ 3 _ rfl; (with_reducible repeat (first | refine blk_drewN ?_ _ | refine blk_drew ?_ | refine blk_alloc ?_ _)); refine blk_put (cs := #[.int .i64 t226, .int .i64 t227, .int .i64 0, .bool false, .slice none 0 0, .slice none 0 0, .int .i64 0, .int .i64 0]) ?_ 2 _ rfl; (with_reducible repeat (first | refine blk_drewN ?_ _ | refine blk_drew ?_ | refine blk_alloc ?_ _)); refine blk_put (cs := #[.int .i64 t226, .int .i64 0, .int .i64 0, .bool false, .slice none 0 0, .slice none 0 0, .int .i64 0, .int .i64 0]) ?_ 1 _ rfl; (with_reducible repeat (first | refine blk_drewN ?_ _ | refine blk_drew ?_ | refine blk_alloc ?_ _)); refine blk_put (cs := #[.int .i64 0, .int .i64 0, .int .i64 0, .bool false, .slice none 0 0, .slice none 0 0, .int .i64 0, .int .i64 0]) ?_ 0 _ rfl; (with_reducible repeat (first | refine blk_drewN ?_ _ | refine blk_drew ?_ | refine blk_alloc ?_ _)); refine blk_far ?_ NB225_238.out _; (with_reducible repeat (first | refine blk_drewN ?_ _ | refine blk_drew ?_ | refine blk_alloc ?_ _)); refine blk_far ?_ NB225_238.out _; (with_reducible repeat (first | refine blk_drewN ?_ _ | refine blk_drew ?_ | refine blk_alloc ?_ _)); exact BK225.out) Try.underlying29 rfl (by kernel_rfl)) rfl ?_
              exact ⟨_, _, by first | rfl | (simp [errW_none, errW_some] <;> rfl) | (simp [*, errW_none, errW_some] <;> rfl), by (with_reducible repeat (first | apply Kd.R_alloc | apply Kd.R_drewN | apply Kd.R_drew)); exact Kd.R_mono (Go.Proofs.YtahfemlfdpbkkaaV.R_far8 (g := gb225) (Go.Proofs.YtahfemlfdpbkkaaV.R_far2 (g := gb238) (Kd.R_types (Kd.R_types HO280.out BK238.out (by decide)) BK225.out (by decide)) (fun _ hk => hk.1.2)) (fun _ hk => hk.2)) (fun _ hk => hk.1.1.1), by (with_reducible repeat (first | apply Kd.R_alloc | apply Kd.R_drewN | apply Kd.R_drew)); exact Kd.R_mono (Go.Proofs.YtahfemlfdpbkkaaV.R_far8 (g := gb225) (Go.Proofs.YtahfemlfdpbkkaaV.R_far2 (g := gb238) (Kd.R_types (Kd.R_types HO_239005.out BK238.out (by decide)) BK225.out (by decide)) (fun _ hk => hk.1.2)) (fun _ hk => hk.2)) (fun _ hk => hk.1.1.2), qB HB⟩
             ·
              rw [if_neg c106] at H
              exact absurd H (by simp)
           ·
            rw [if_neg c81] at H
            exact absurd H (by simp)
          ·
           rw [if_neg c79] at H
           exact absurd H (by simp)
         ·
          rw [if_neg c77] at H
          exact absurd H (by simp)
      ·
       rw [if_neg c52] at H
       have c52b0 : (t245 == 0) = false := beq_eq_false_iff_ne.mpr c52
       have c52b1 : (t245 != 0) = true := bne_iff_ne.mpr c52
       (first | rw [c52b0] | (simp only [i64_w, i32_w]; rw [c52b0]) | skip)
       simp only [Option.some.injEq, Prod.mk.injEq] at H
       obtain ⟨rfl, rfl, rfl, rfl, rfl, rfl, rfl, rfl, rfl⟩ := H
       have hnb119 := NB238_224.out
       have hnc119 := NB224_238.out
       have hnb120 := NB238_225.out
       have hnc120 := NB225_238.out
       have hnb121 := NB238_246.out
       have hnc121 := NB246_238.out
       obtain ⟨hcz122_0, hcz122_1, hcz122_2, hcz122_3, hcz122_4, hcz122_5, hcz122_6, hcz122_7⟩ := cz8 BK238.out
       obtain ⟨hfz122_0, hfz122_1, hfz122_2, hfz122_3, hfz122_4, hfz122_5, hfz122_6, hfz122_7⟩ := fz8 BK238.out
       have hnb123 := NB225_224.out
       have hnc123 := NB224_225.out
       have hnb124 := NB225_246.out
       have hnc124 := NB246_225.out
       obtain ⟨hcz125_0, hcz125_1, hcz125_2, hcz125_3, hcz125_4, hcz125_5, hcz125_6, hcz125_7⟩ := cz8 BK225.out
       obtain ⟨hfz125_0, hfz125_1, hfz125_2, hfz125_3, hfz125_4, hfz125_5, hfz125_6, hfz125_7⟩ := fz8 BK225.out
       go_wp2
       refine bodyPost_ret (results_ct rfl _ _ gb225 29 #[.int .i64 t226, .int .i64 t227, .int .i64 t228, .bool t229, .slice Ao13 t230.length co13, .slice Ao14 t233.length co14, .int .i64 t236, .int .i64 t237] (0, 0) _ rfl (by (with_reducible repeat (first | refine blk_drewN ?_ _ | refine blk_drew ?_ | refine blk_alloc ?_ _)); refine blk_put (cs := #[.int .i64 t226, .int .i64 t227, .int .i64 t228, .bool t229, .slice Ao13 t230.length co13, .slice Ao14 t233.length co14, .int .i64 t236, .int .i64 0]) ?_ 7 _ rfl; (with_reducible repeat (first | refine blk_drewN ?_ _ | refine blk_drew ?_ | refine blk_alloc ?_ _)); refine blk_put (cs := #[.int .i64 t226, .int .i64 t227, .int .i64 t228, .bool t229, .slice Ao13 t230.length co13, .slice Ao14 t233.length co14, .int .i64 0, .int .i64 0]) ?_ 6 _ rfl; (with_reducible repeat (first | refine blk_drewN ?_ _ | refine blk_drew ?_ | refine blk_alloc ?_ _)); refine blk_put (cs := #[.int .i64 t226, .int .i64 t227, .int .i64 t228, .bool t229, .slice Ao13 t230.length co13, .slice none 0 0, .int .i64 0, .int .i64 0]) ?_ 5 _ rfl; (with_reducible repeat (first | refine blk_drewN ?_ _ | refine blk_drew ?_ | refine blk_alloc ?_ _)); refine blk_put (cs := #[.int .i64 t226, .int .i64 t227, .int .i64 t228, .bool t229, .slice none 0 0, .slice none 0 0, .int .i64 0, .int .i64 0]) ?_ 4 _ rfl; (with_reducible repeat (first | refine blk_drewN ?_ _ | refine blk_drew ?_ | refine blk_alloc ?_ _)); refine blk_put (cs := #[.int .i64 t226, .int .i64 t227, .int .i64 t228, .bool false, .slice none 0 0, .slice none 0 0, .int .i64 0, .int .i64 0]) ?_ 3 _ rfl; (with_reducible repeat (first | refine blk_drewN ?_ _ | refine blk_drew ?_ | refine blk_alloc ?_ _)); refine blk_put (cs := #[.int .i64 t226, .int .i64 t227, .int .i64 0, .bool false, .slice none 0 0, .slice none 0 0, .int .i64 0, .int .i64 0]) ?_ 2 _ rfl; (with_reducible repeat (first | refine blk_drewN ?_ _ | refine blk_drew ?_ | refine blk_alloc ?_ _)); refine blk_put (cs := #[.int .i64 t226, .int .i64 0, .int .i64 0, .bool false, .slice none 0 0, .slice none 0 0, .int .i64 0, .int .i64 0]) ?_ 1 _ rfl; (with_reducible repeat (first | refine blk_drewN ?_ _ | refine blk_drew ?_ | refine blk_alloc ?_ _)); refine blk_put (cs := #[.int .i64 0, .int .i64 0, .int .i64 0, .bool false, .slice none 0 0, .slice none 0 0, .int .i64 0, .int .i64 0]) ?_ 0 _ rfl; (with_reducible repeat (first | refine blk_drewN ?_ _ | refine blk_drew ?_ | refine blk_alloc ?_ _)); refine blk_far ?_ NB225_246.out _; (with_reducible repeat (first | refine blk_drewN ?_ _ | refine blk_drew ?_ | refine blk_alloc ?_ _)); refine blk_far ?_ NB225_246.out _; (with_reducible repeat (first | refine blk_drewN ?_ _ | refine blk_drew ?_ | refine blk_alloc ?_ _)); refine blk_far ?_ NB225_246.out _; (with_reducible repeat (first | refine blk_drewN ?_ _ | refine blk_drew ?_ | refine blk_alloc ?_ _)); exact BK225.out) Try.underlying29 rfl (by kernel_rfl)) rfl ?_
       exact ⟨_, _, by first | rfl | (simp [errW_none, errW_some] <;> rfl) | (simp [*, errW_none, errW_some] <;> rfl), by (with_reducible repeat (first | apply Kd.R_alloc | apply Kd.R_drewN | apply Kd.R_drew)); exact Kd.R_mono (Go.Proofs.YtahfemlfdpbkkaaV.R_far8 (g := gb225) (Go.Proofs.YtahfemlfdpbkkaaV.R_far3 (g := gb246) (Kd.R_types (Kd.R_types HO_239004.out BK246.out (by decide)) BK225.out (by decide)) (fun _ hk => hk.1.2)) (fun _ hk => hk.2)) (fun _ hk => hk.1.1), by (with_reducible repeat (first | apply Kd.R_alloc | apply Kd.R_drewN | apply Kd.R_drew)); exact Kd.R_mono (Go.Proofs.YtahfemlfdpbkkaaV.R_far8 (g := gb225) (Go.Proofs.YtahfemlfdpbkkaaV.R_far3 (g := gb246) (Kd.R_types (Kd.R_types HO_239005.out BK246.out (by decide)) BK225.out (by decide)) (fun _ hk => hk.1.2)) (fun _ hk => hk.2)) (fun _ hk => hk.1.1), qB HB⟩
     ·
      rw [if_neg c39] at H
      exact absurd H (by simp)
    ·
     rw [if_neg c38] at H
     exact absurd H (by simp)

end Go.Proofs.Ytahfemlfdpbkkaa.PFnExactAnswer
