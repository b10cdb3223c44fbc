-- Written by a program of this session (myprint.py, over the kit's print): contracts of FnFar
import Derived.Test.YtaimfkfpglhijaaPFnFarx0
import Derived.Test.YtaimfkfpglhijaaPFnFarx8
import Derived.Test.YtaimfkfpglhijaaPFnFarx9
import Derived.Test.YtaimfkfpglhijaaPFnFarx10
import Derived.Test.YtaimfkfpglhijaaPFnFarx11
namespace Go.Proofs.Ytaimfkfpglhijaa.PFnFar
open Go.RowKit Go.Proofs.YtaimfkfpglhijaaW.PrintWords Go.Proofs.YtaimfkfpglhijaaW.PrintLast Go.Proofs.YtaimfkfpglhijaaW.PrintMore Go.Proofs.YtaimfkfpglhijaaV
attribute [local go_sem] max2_int min2_int max_two min_two max_three min_three max_four min_four   -- for this text's walks alone
set_option linter.unusedVariables false
set_option linter.unusedSimpArgs false

/-! ### impl_Answer: function 25 -/
mutual
def impl_Answer.j0 : Nat → Bool → Int → Int → Int → Bool → List Int → List Int → Int → Int → Int → Int → Int → Bool → List Int → List Int → Int → Int → Option (Int × Int × Int × Bool × List Int × List Int × Int × Int × Bool)
 | 0, _, _, _, _, _, _, _, _, _, _, _, _, _, _, _, _, _ => none
 | k + 1, x24, x491000, x491001, x491002, x491003, x491004, x491005, x491006, x491007, x505000, x505001, x505002, x505003, x505004, x505005, x505006, x505007 => if x24 = true then (some (x505000, x505001, x505002, x505003, x505004, x505005, x505006, x505007, false)) else (if 0 ≤ x491007 then (if x491007 ≤ (x491005.length : Int) then ((impl_GetFrame.f k (x491005.drop (x491007 : Int).toNat)).bind fun bt507 => (if bt507.2.2.2.2 = 0 then (if bt507.1 = 2 then ((impl_AnswerTo.f k x491006 bt507.2.1).bind fun t516 => ((impl_WordOf.f bt507.2.1).bind fun t519 => ((impl_NextSt.f k x491006 t519).bind fun t520 => (impl_Answer.j1 k bt507.2.2.2.1 t516 x491000 x491001 x491002 x491003 x491004 x491005 x491006 x491007 x505000 x505001 x505002 x505003 x505004 x505005 t520 x505007)))) else (impl_Answer.j1 k bt507.2.2.2.1 (([(⟨6, (⟨#[102, 111, 114, 109]⟩ : ByteArray), 0⟩ : S47), (⟨5, (⟨#[]⟩ : ByteArray), x491006⟩ : S47)] : List (S47))) x491000 x491001 x491002 x491003 x491004 x491005 x491006 x491007 x505000 x505001 x505002 x505003 x505004 x505005 x505006 x505007)) else (some (x505000, x505001, x505002, x505003, x505004, x505005, x505006, x505007, false)))) else (none)) else (none))
def impl_Answer.j1 : Nat → Int → List (S47) → Int → Int → Int → Bool → List Int → List Int → Int → Int → Int → Int → Int → Bool → List Int → List Int → Int → Int → Option (Int × Int × Int × Bool × List Int × List Int × Int × Int × Bool)
 | 0, _, _, _, _, _, _, _, _, _, _, _, _, _, _, _, _, _, _ => none
 | k + 1, x6, x8, x491000, x491001, x491002, x491003, x491004, x491005, x491006, x491007, x505000, x505001, x505002, x505003, x505004, x505005, x505006, x505007 => impl_Answer.l0 k x6 x8 (x8.length : Int) 0 x491000 x491001 x491002 x491003 x491004 x491005 x491006 x491007 x505000 x505001 x505002 x505003 x505004 x505005 x505006 x505007
def impl_Answer.l0 : Nat → Int → List (S47) → Int → Int → Int → Int → Int → Bool → List Int → List Int → Int → Int → Int → Int → Int → Bool → List Int → List Int → Int → Int → Option (Int × Int × Int × Bool × List Int × List Int × Int × Int × Bool)
 | 0, _, _, _, _, _, _, _, _, _, _, _, _, _, _, _, _, _, _, _, _ => none
 | k + 1, x6, x59, x60, x61, x491000, x491001, x491002, x491003, x491004, x491005, x491006, x491007, x505000, x505001, x505002, x505003, x505004, x505005, x505006, x505007 => if x61 < x60 then (if 0 ≤ x61 then (if x61 < (x59.length : Int) then ((impl_PutFrame.f k ((rd_T47 x59 x61).f0) ((rd_T47 x59 x61).f1) ((rd_T47 x59 x61).f2)).bind fun t523 => (if x505004.length + t523.length < 140737488355328 then (impl_Answer.l0 k x6 x59 x60 (wrap64 (x61 + 1)) x491000 x491001 x491002 x491003 x491004 x491005 x491006 x491007 x505000 x505001 x505002 x505003 (x505004 ++ t523) x505005 x505006 x505007) else (none))) else (none)) else (none)) else (if (x505004.length : Int) > 240 then ((impl_sockCopy.f x491000 x491001 x491002 x491003 x491004 x491005 x491006 x491007).bind fun bt529 => (some (bt529.1, bt529.2.1, bt529.2.2.1, bt529.2.2.2.1, bt529.2.2.2.2.1, bt529.2.2.2.2.2.1, bt529.2.2.2.2.2.2.1, bt529.2.2.2.2.2.2.2, false))) else (some (x505000, x505001, x505002, x505003, x505004, x505005, x505006, wrap64 (x505007 + x6), true)))
end
def impl_Answer.f (k : Nat) (a0_0 : Int) (a0_1 : Int) (a0_2 : Int) (a0_3 : Bool) (l0_4 : List Int) (l0_5 : List Int) (a0_6 : Int) (a0_7 : Int) : Option (Int × Int × Int × Bool × List Int × List Int × Int × Int × Bool) := (impl_sockCopy.f a0_0 a0_1 a0_2 a0_3 l0_4 l0_5 a0_6 a0_7).bind fun bt492 => ((impl_SockOk.f k a0_0 a0_1 a0_2 a0_3 l0_4 l0_5 a0_6 a0_7).bind fun t505 => (if t505 = true then (if a0_1 = 2 then (impl_Answer.j0 k a0_3 a0_0 a0_1 a0_2 a0_3 l0_4 l0_5 a0_6 a0_7 bt492.1 bt492.2.1 bt492.2.2.1 bt492.2.2.2.1 bt492.2.2.2.2.1 bt492.2.2.2.2.2.1 bt492.2.2.2.2.2.2.1 bt492.2.2.2.2.2.2.2) else (impl_Answer.j0 k true a0_0 a0_1 a0_2 a0_3 l0_4 l0_5 a0_6 a0_7 bt492.1 bt492.2.1 bt492.2.2.1 bt492.2.2.2.1 bt492.2.2.2.2.1 bt492.2.2.2.2.2.1 bt492.2.2.2.2.2.2.1 bt492.2.2.2.2.2.2.2)) else (impl_Answer.j0 k true a0_0 a0_1 a0_2 a0_3 l0_4 l0_5 a0_6 a0_7 bt492.1 bt492.2.1 bt492.2.2.1 bt492.2.2.2.1 bt492.2.2.2.2.1 bt492.2.2.2.2.2.1 bt492.2.2.2.2.2.2.1 bt492.2.2.2.2.2.2.2)))
theorem impl_Answer.mono_l : ∀ k, (∀ y0 y1 y2 y3 y4 y5 y6 y7 y8 y9 y10 y11 y12 y13 y14 y15 y16, LeO (impl_Answer.j0 k y0 y1 y2 y3 y4 y5 y6 y7 y8 y9 y10 y11 y12 y13 y14 y15 y16) (impl_Answer.j0 (k + 1) y0 y1 y2 y3 y4 y5 y6 y7 y8 y9 y10 y11 y12 y13 y14 y15 y16)) ∧ (∀ y0 y1 y2 y3 y4 y5 y6 y7 y8 y9 y10 y11 y12 y13 y14 y15 y16 y17, LeO (impl_Answer.j1 k y0 y1 y2 y3 y4 y5 y6 y7 y8 y9 y10 y11 y12 y13 y14 y15 y16 y17) (impl_Answer.j1 (k + 1) y0 y1 y2 y3 y4 y5 y6 y7 y8 y9 y10 y11 y12 y13 y14 y15 y16 y17)) ∧ (∀ y0 y1 y2 y3 y4 y5 y6 y7 y8 y9 y10 y11 y12 y13 y14 y15 y16 y17 y18 y19, LeO (impl_Answer.l0 k y0 y1 y2 y3 y4 y5 y6 y7 y8 y9 y10 y11 y12 y13 y14 y15 y16 y17 y18 y19) (impl_Answer.l0 (k + 1) y0 y1 y2 y3 y4 y5 y6 y7 y8 y9 y10 y11 y12 y13 y14 y15 y16 y17 y18 y19))
 | 0 => ⟨fun _ _ _ _ _ _ _ _ _ _ _ _ _ _ _ _ _ r h => by simp [impl_Answer.j0] at h, fun _ _ _ _ _ _ _ _ _ _ _ _ _ _ _ _ _ _ r h => by simp [impl_Answer.j1] at h, fun _ _ _ _ _ _ _ _ _ _ _ _ _ _ _ _ _ _ _ _ r h => by simp [impl_Answer.l0] at h⟩
 | k + 1 => by
  obtain ⟨ih0, ih1, ih2⟩ := impl_Answer.mono_l k
  refine ⟨?_, ?_, ?_⟩
  ·
   intro y0 y1 y2 y3 y4 y5 y6 y7 y8 y9 y10 y11 y12 y13 y14 y15 y16
   unfold impl_Answer.j0
   repeat' first
   | (with_reducible exact ih0 _ _ _ _ _ _ _ _ _ _ _ _ _ _ _ _ _)
   | (with_reducible exact ih1 _ _ _ _ _ _ _ _ _ _ _ _ _ _ _ _ _ _)
   | (with_reducible exact ih2 _ _ _ _ _ _ _ _ _ _ _ _ _ _ _ _ _ _ _ _)
   | (with_reducible exact impl_AnswerTo.mono _ _ _)
   | (with_reducible exact impl_GetFrame.mono _ _)
   | (with_reducible exact impl_NextSt.mono _ _ _)
   | (with_reducible exact impl_PutFrame.mono _ _ _ _)
   | (with_reducible exact impl_SockOk.mono _ _ _ _ _ _ _ _ _)
   | (with_reducible exact LeO.refl _)
   | (with_reducible exact LeO.none _)
   | (with_reducible refine LeO.ite ?_ ?_)
   | (with_reducible refine LeO.bind ?_ (fun _ => ?_))
   | exact ih0 _ _ _ _ _ _ _ _ _ _ _ _ _ _ _ _ _
   | exact ih1 _ _ _ _ _ _ _ _ _ _ _ _ _ _ _ _ _ _
   | exact ih2 _ _ _ _ _ _ _ _ _ _ _ _ _ _ _ _ _ _ _ _
   | exact impl_AnswerTo.mono _ _ _
   | exact impl_GetFrame.mono _ _
   | exact impl_NextSt.mono _ _ _
   | exact impl_PutFrame.mono _ _ _ _
   | exact impl_SockOk.mono _ _ _ _ _ _ _ _ _
   | exact LeO.none _
   | refine LeO.ite ?_ ?_
   | refine LeO.bind ?_ (fun _ => ?_)
  ·
   intro y0 y1 y2 y3 y4 y5 y6 y7 y8 y9 y10 y11 y12 y13 y14 y15 y16 y17
   unfold impl_Answer.j1
   repeat' first
   | (with_reducible exact ih0 _ _ _ _ _ _ _ _ _ _ _ _ _ _ _ _ _)
   | (with_reducible exact ih1 _ _ _ _ _ _ _ _ _ _ _ _ _ _ _ _ _ _)
   | (with_reducible exact ih2 _ _ _ _ _ _ _ _ _ _ _ _ _ _ _ _ _ _ _ _)
   | (with_reducible exact impl_AnswerTo.mono _ _ _)
   | (with_reducible exact impl_GetFrame.mono _ _)
   | (with_reducible exact impl_NextSt.mono _ _ _)
   | (with_reducible exact impl_PutFrame.mono _ _ _ _)
   | (with_reducible exact impl_SockOk.mono _ _ _ _ _ _ _ _ _)
   | (with_reducible exact LeO.refl _)
   | (with_reducible exact LeO.none _)
   | (with_reducible refine LeO.ite ?_ ?_)
   | (with_reducible refine LeO.bind ?_ (fun _ => ?_))
   | exact ih0 _ _ _ _ _ _ _ _ _ _ _ _ _ _ _ _ _
   | exact ih1 _ _ _ _ _ _ _ _ _ _ _ _ _ _ _ _ _ _
   | exact ih2 _ _ _ _ _ _ _ _ _ _ _ _ _ _ _ _ _ _ _ _
   | exact impl_AnswerTo.mono _ _ _
   | exact impl_GetFrame.mono _ _
   | exact impl_NextSt.mono _ _ _
   | exact impl_PutFrame.mono _ _ _ _
   | exact impl_SockOk.mono _ _ _ _ _ _ _ _ _
   | exact LeO.none _
   | refine LeO.ite ?_ ?_
   | refine LeO.bind ?_ (fun _ => ?_)
  ·
   intro y0 y1 y2 y3 y4 y5 y6 y7 y8 y9 y10 y11 y12 y13 y14 y15 y16 y17 y18 y19
   unfold impl_Answer.l0
   repeat' first
   | (with_reducible exact ih0 _ _ _ _ _ _ _ _ _ _ _ _ _ _ _ _ _)
   | (with_reducible exact ih1 _ _ _ _ _ _ _ _ _ _ _ _ _ _ _ _ _ _)
   | (with_reducible exact ih2 _ _ _ _ _ _ _ _ _ _ _ _ _ _ _ _ _ _ _ _)
   | (with_reducible exact impl_AnswerTo.mono _ _ _)
   | (with_reducible exact impl_GetFrame.mono _ _)
   | (with_reducible exact impl_NextSt.mono _ _ _)
   | (with_reducible exact impl_PutFrame.mono _ _ _ _)
   | (with_reducible exact impl_SockOk.mono _ _ _ _ _ _ _ _ _)
   | (with_reducible exact LeO.refl _)
   | (with_reducible exact LeO.none _)
   | (with_reducible refine LeO.ite ?_ ?_)
   | (with_reducible refine LeO.bind ?_ (fun _ => ?_))
   | exact ih0 _ _ _ _ _ _ _ _ _ _ _ _ _ _ _ _ _
   | exact ih1 _ _ _ _ _ _ _ _ _ _ _ _ _ _ _ _ _ _
   | exact ih2 _ _ _ _ _ _ _ _ _ _ _ _ _ _ _ _ _ _ _ _
   | exact impl_AnswerTo.mono _ _ _
   | exact impl_GetFrame.mono _ _
   | exact impl_NextSt.mono _ _ _
   | exact impl_PutFrame.mono _ _ _ _
   | exact impl_SockOk.mono _ _ _ _ _ _ _ _ _
   | exact LeO.none _
   | refine LeO.ite ?_ ?_
   | refine LeO.bind ?_ (fun _ => ?_)
theorem impl_Answer.mono : ∀ a0 a1 a2 a3 a4 a5 a6 a7 k, LeO (impl_Answer.f k a0 a1 a2 a3 a4 a5 a6 a7) (impl_Answer.f (k + 1) a0 a1 a2 a3 a4 a5 a6 a7) := by
 intro a0 a1 a2 a3 a4 a5 a6 a7 k
 obtain ⟨ih0, ih1, ih2⟩ := impl_Answer.mono_l k
 unfold impl_Answer.f
 repeat' first
   | (with_reducible exact ih0 _ _ _ _ _ _ _ _ _ _ _ _ _ _ _ _ _)
   | (with_reducible exact ih1 _ _ _ _ _ _ _ _ _ _ _ _ _ _ _ _ _ _)
   | (with_reducible exact ih2 _ _ _ _ _ _ _ _ _ _ _ _ _ _ _ _ _ _ _ _)
   | (with_reducible exact impl_AnswerTo.mono _ _ _)
   | (with_reducible exact impl_GetFrame.mono _ _)
   | (with_reducible exact impl_NextSt.mono _ _ _)
   | (with_reducible exact impl_PutFrame.mono _ _ _ _)
   | (with_reducible exact impl_SockOk.mono _ _ _ _ _ _ _ _ _)
   | (with_reducible exact LeO.refl _)
   | (with_reducible exact LeO.none _)
   | (with_reducible refine LeO.ite ?_ ?_)
   | (with_reducible refine LeO.bind ?_ (fun _ => ?_))
   | exact ih0 _ _ _ _ _ _ _ _ _ _ _ _ _ _ _ _ _
   | exact ih1 _ _ _ _ _ _ _ _ _ _ _ _ _ _ _ _ _ _
   | exact ih2 _ _ _ _ _ _ _ _ _ _ _ _ _ _ _ _ _ _ _ _
   | exact impl_AnswerTo.mono _ _ _
   | exact impl_GetFrame.mono _ _
   | exact impl_NextSt.mono _ _ _
   | exact impl_PutFrame.mono _ _ _ _
   | exact impl_SockOk.mono _ _ _ _ _ _ _ _ _
   | exact LeO.none _
   | refine LeO.ite ?_ ?_
   | refine LeO.bind ?_ (fun _ => ?_)
def impl_Answer.T10 : Bool × List (List Nat × List Nat) := (true, [([], []), ([0], [0]), ([], []), ([2], [2]), ([3], [3]), ([1, 4, 4], [1, 4]), ([0, 1, 2, 3, 4, 5], []), ([6, 5, 5, 0, 1, 2, 3, 4, 5], [5, 6])])
def impl_Answer.B10 : List Nat := [0, 1, 0, 4, 12, 31, 63, 127]
theorem impl_Answer.tab10 : rtab .any (opsOf Try.f25 10) = impl_Answer.T10 := by kernel_rfl
theorem impl_Answer.bits10 : waitsOk impl_Answer.T10.2 impl_Answer.B10 = true := by kernel_rfl
set_option maxHeartbeats 8000000 in
set_option maxRecDepth 100000 in
theorem impl_Answer.calls (k : Nat) (a0_0 : Int) (a0_1 : Int) (a0_2 : Int) (a0_3 : Bool) (A0_4 : Option Addr) (c0_4 : Nat) (l0_4 : List Int) (A0_5 : Option Addr) (c0_5 : Nat) (l0_5 : List Int) (a0_6 : Int) (a0_7 : Int) (r1 : Int) (r2 : Int) (r3 : Int) (r4 : Bool) (r5 : List Int) (r6 : List Int) (r7 : Int) (r8 : Int) (r9 : Bool) (w : World) (hr0_4 : Kd.C (Kd.int .u8) w A0_4 l0_4.length l0_4) (hc0_4 : l0_4.length ≤ c0_4) (hr0_5 : Kd.C (Kd.int .u8) w A0_5 l0_5.length l0_5) (hc0_5 : l0_5.length ≤ c0_5) (h : impl_Answer.f k a0_0 a0_1 a0_2 a0_3 l0_4 l0_5 a0_6 a0_7 = some (r1, r2, r3, r4, r5, r6, r7, r8, r9)) :
  Calls Try.prog 25 #[.agg #[.int .i64 a0_0, .int .i64 a0_1, .int .i64 a0_2, .bool a0_3, .slice A0_4 l0_4.length c0_4, .slice A0_5 l0_5.length c0_5, .int .i64 a0_6, .int .i64 a0_7]] w fun e w' => ∃ v4_ v5_ : Value, e = .returned (.tuple #[.agg #[.int .i64 r1, .int .i64 r2, .int .i64 r3, .bool r4, v4_, v5_, .int .i64 r7, .int .i64 r8], .bool r9]) ∧ Kd.R (Kd.int .u8) 5 w' w.heap.size (fun k_ => some k_ ≠ (v5_ : Value).ownBlock) v4_ r5 ∧ Kd.R (Kd.int .u8) 5 w' w.heap.size (fun k_ => some k_ ≠ (v4_ : Value).ownBlock) v5_ r6 ∧ Below w.heap.size w w' := by
 have hu41 := Try.underlying41
 have hu47 := Try.underlying47
 have HR0_4 := Aside0.mk hr0_4
 have HC0_4 := Aside0.mk hc0_4
 clear hr0_4 hc0_4
 have HR0_5 := Aside0.mk hr0_5
 have HC0_5 := Aside0.mk hc0_5
 clear hr0_5 hc0_5
 have HB := Aside0.mk (Below.refl w.heap.size w)
 have H : ((impl_sockCopy.f a0_0 a0_1 a0_2 a0_3 l0_4 l0_5 a0_6 a0_7).bind fun bt492 => ((impl_SockOk.f k a0_0 a0_1 a0_2 a0_3 l0_4 l0_5 a0_6 a0_7).bind fun t505 => (if t505 = true then (if a0_1 = 2 then (impl_Answer.j0 k a0_3 a0_0 a0_1 a0_2 a0_3 l0_4 l0_5 a0_6 a0_7 bt492.1 bt492.2.1 bt492.2.2.1 bt492.2.2.2.1 bt492.2.2.2.2.1 bt492.2.2.2.2.2.1 bt492.2.2.2.2.2.2.1 bt492.2.2.2.2.2.2.2) else (impl_Answer.j0 k true a0_0 a0_1 a0_2 a0_3 l0_4 l0_5 a0_6 a0_7 bt492.1 bt492.2.1 bt492.2.2.1 bt492.2.2.2.1 bt492.2.2.2.2.1 bt492.2.2.2.2.2.1 bt492.2.2.2.2.2.2.1 bt492.2.2.2.2.2.2.2)) else (impl_Answer.j0 k true a0_0 a0_1 a0_2 a0_3 l0_4 l0_5 a0_6 a0_7 bt492.1 bt492.2.1 bt492.2.2.1 bt492.2.2.2.1 bt492.2.2.2.2.1 bt492.2.2.2.2.2.1 bt492.2.2.2.2.2.2.1 bt492.2.2.2.2.2.2.2)))) = some (r1, r2, r3, r4, r5, r6, r7, r8, r9) := h
 clear h
 obtain ⟨⟨t492, t493, t494, t495, t496, t499, t502, t503⟩, A2, H⟩ := bd_ H
 (try dsimp only at H)
 have HC3 := Aside0.mk H
 clear H
 go_enter Try.func25, Try.ntmps25
 go_upto_region 2 with (first | ((with_reducible refine gate_dst (N := 1) rfl ?_); refine box_event ?hg (N := 1) ?hd (cs := #[.int .i64 a0_0, .int .i64 a0_1, .int .i64 a0_2, .bool a0_3, .slice A0_4 l0_4.length c0_4, .slice A0_5 l0_5.length c0_5, .int .i64 a0_6, .int .i64 a0_7]) (t := 41) ?hr ?_; (case hd => rfl); (case hg => rfl); (case hr => first | (go_simp; done) | (go_simp; rfl)); intro gb490 hg w4 hbox hb; have BK490 := am_ (hbox); have GW490 := am_ ((gG_ hg (qB HB))); have IGW490 := gI_ GW490; have GE490 := am_ ((gG_ hg (qB HB))); have IGE490 := gI_ GE490; replace HB := am_ (below_step (qB HB) hb); clear hb hbox hg) | ((with_reducible refine gate_dst (N := 2) rfl ?_); refine box_event ?hg (N := 2) ?hd (cs := #[.int .i64 0, .int .i64 0, .int .i64 0, .bool false, .slice none 0 0, .slice none 0 0, .int .i64 0, .int .i64 0]) (t := 41) ?hr ?_; (case hd => rfl); (case hg => rfl); (case hr => first | (go_simp; done) | (go_simp; rfl)); intro gb491 hg w5 hbox hb; have BK491 := am_ (hbox); have GW491 := am_ ((gG_ hg (qB HB))); have IGW491 := gI_ GW491; have GE491 := am_ ((gG_ hg (qB HB))); have IGE491 := gI_ GE491; replace HB := am_ (below_step (qB HB) hb); have NB490_491 := am_ ((gN_ hg (qK BK490))); have NB491_490 := am_ ((gM_ hg (qK BK490))); replace BK490 := am_ (blk_below (qK BK490) hb); clear hb hbox hg; have hnb6 := NB490_491.out; have hnc6 := NB491_490.out; obtain ⟨z7_0, z7_1, z7_2, z7_3, z7_4, z7_5, z7_6, z7_7⟩ := cz8 BK490.out; obtain ⟨f7_0, f7_1, f7_2, f7_3, f7_4, f7_5, f7_6, f7_7⟩ := fz8 BK490.out) | ((with_reducible refine gate_callee (f := 128) rfl ?_); refine goesL_ (some 12) rfl rfl Try.func128 (by kernel_rfl) rfl #[.agg #[.int .i64 a0_0, .int .i64 a0_1, .int .i64 a0_2, .bool a0_3, .slice A0_4 l0_4.length c0_4, .slice A0_5 l0_5.length c0_5, .int .i64 a0_6, .int .i64 a0_7]] rfl la_ ?_; (with_reducible refine (impl_sockCopy.calls a0_0 a0_1 a0_2 a0_3 _ _ l0_4 _ _ l0_5 a0_6 a0_7 t492 t493 t494 t495 t496 t499 t502 t503 _ ?side1 ?side2 ?side3 ?side4 A2.out).mono ?_); (case side1 => exact qC (Kd.C_below HR0_4.out HB.out)); (case side2 => exact HC0_4.out); (case side3 => exact qC (Kd.C_below HR0_5.out HB.out)); (case side4 => exact HC0_5.out); rintro e w8 ⟨v497, v500, rfl, ho0, ho1, hb⟩; refine ⟨_, rfl, ?_⟩; have HO498 := am_ (Kd.R_lower ho0 (below_size (qB HB))); have HO501 := am_ (Kd.R_lower ho1 (below_size (qB HB))); replace BK490 := am_ (blk_below (qK BK490) hb); replace BK491 := am_ (blk_below (qK BK491) hb); replace HB := am_ (below_step (qB HB) hb); (try clear hb); (try clear hb2); (try clear hk); (try clear hi); (try clear ho0); (try clear ho1)) | ((with_reducible refine gate_dst (N := 4) rfl ?_); refine box_event ?hg (N := 4) ?hd (cs := #[.int .i64 0, .int .i64 0, .int .i64 0, .bool false, .slice none 0 0, .slice none 0 0, .int .i64 0, .int .i64 0]) (t := 41) ?hr ?_; (case hd => rfl); (case hg => rfl); (case hr => first | (go_simp; done) | (go_simp; rfl)); intro gb504 hg w9 hbox hb; replace HO498 := am_ (Kd.R_below (qR HO498) hb); replace HO501 := am_ (Kd.R_below (qR HO501) hb); have BK504 := am_ (hbox); have GW504 := am_ ((gG_ hg (qB HB))); have IGW504 := gI_ GW504; have GE504 := am_ ((gG_ hg (qB HB))); have IGE504 := gI_ GE504; replace HB := am_ (below_step (qB HB) hb); have NB490_504 := am_ ((gN_ hg (qK BK490))); have NB504_490 := am_ ((gM_ hg (qK BK490))); replace BK490 := am_ (blk_below (qK BK490) hb); have NB491_504 := am_ ((gN_ hg (qK BK491))); have NB504_491 := am_ ((gM_ hg (qK BK491))); replace BK491 := am_ (blk_below (qK BK491) hb); clear hb hbox hg; have hnb10 := NB504_490.out; have hnc10 := NB490_504.out; have hnb11 := NB504_491.out; have hnc11 := NB491_504.out; obtain ⟨z12_0, z12_1, z12_2, z12_3, z12_4, z12_5, z12_6, z12_7⟩ := cz8 BK504.out; obtain ⟨f12_0, f12_1, f12_2, f12_3, f12_4, f12_5, f12_6, f12_7⟩ := fz8 BK504.out; obtain ⟨Ao13, co13, eo13⟩ := Kd.R_slice HO498.out; subst eo13; obtain ⟨Ao14, co14, eo14⟩ := Kd.R_slice HO501.out; subst eo14))
 (try simp only [Act.put, List.setIfInBounds_toArray, List.set_cons_zero, List.set_cons_succ])
 go_cut [24] (fun v24 wc => ∃ (kq : Nat) (x24_2 : Bool), v24 = .bool x24_2 ∧ Aside0 (impl_Answer.j0 kq x24_2 a0_0 a0_1 a0_2 a0_3 l0_4 l0_5 a0_6 a0_7 t492 t493 t494 t495 t496 t499 t502 t503 = some (r1, r2, r3, r4, r5, r6, r7, r8, r9)) ∧ Aside0 (kq ≤ k) ∧ Aside0 (Kd.R (Kd.int .u8) 5 wc w.heap.size (fun k_ => some k_ ≠ ((.slice Ao14 t499.length co14) : Value).ownBlock) (.slice Ao13 t496.length co13) t496) ∧ Aside0 (Kd.R (Kd.int .u8) 5 wc w.heap.size (fun k_ => some k_ ≠ ((.slice Ao13 t496.length co13) : Value).ownBlock) (.slice Ao14 t499.length co14) t499) ∧ Aside0 (wc.heap[gb490]? = some (.cells #[.int .i64 a0_0, .int .i64 a0_1, .int .i64 a0_2, .bool a0_3, (.slice A0_4 l0_4.length c0_4), (.slice A0_5 l0_5.length c0_5), .int .i64 a0_6, .int .i64 a0_7] 41 (0, 0))) ∧ Aside0 (wc.heap[gb491]? = some (.cells #[.int .i64 0, .int .i64 0, .int .i64 0, .bool false, (.slice none 0 0), (.slice none 0 0), .int .i64 0, .int .i64 0] 41 (0, 0))) ∧ Aside0 (wc.heap[gb504]? = some (.cells #[.int .i64 t492, .int .i64 t493, .int .i64 t494, .bool t495, (.slice Ao13 t496.length co13), (.slice Ao14 t499.length co14), .int .i64 t502, .int .i64 t503] 41 (0, 0))) ∧ Aside0 (Below w.heap.size w wc))
 case first =>
  have H := HC3.out
  clear HC3
  obtain ⟨t505, A15, H⟩ := bd_ H
  by_cases c16 : t505 = true
  ·
   subst c16
   rw [if_pos rfl] at H
   by_cases c17 : a0_1 = 2
   ·
    rw [if_pos c17] at H
    have c17b0 : (a0_1 == 2) = true := beq_iff_eq.mpr c17
    have c17b1 : (a0_1 != 2) = false := bne_eq_false_iff_eq.mpr c17
    clear c17
    (first | rw [c17b0] | rw [c17b1] | (simp only [i64_w, i32_w]; rw [c17b0]) | skip)
    have H' := Aside0.mk H
    clear H
    have hnb18 := NB490_491.out
    have hnc18 := NB491_490.out
    have hnb19 := NB490_504.out
    have hnc19 := NB504_490.out
    obtain ⟨z20_0, z20_1, z20_2, z20_3, z20_4, z20_5, z20_6, z20_7⟩ := cz8 BK490.out
    obtain ⟨f20_0, f20_1, f20_2, f20_3, f20_4, f20_5, f20_6, f20_7⟩ := fz8 BK490.out
    go_wp2_with (first | ((with_reducible refine gate_callee (f := 29) rfl ?_); refine goesL_ (some 14) rfl rfl Try.func29 (by kernel_rfl) rfl #[.agg #[.int .i64 a0_0, .int .i64 a0_1, .int .i64 a0_2, .bool a0_3, .slice A0_4 l0_4.length c0_4, .slice A0_5 l0_5.length c0_5, .int .i64 a0_6, .int .i64 a0_7]] rfl la_ ?_; (with_reducible refine (impl_SockOk.calls k a0_0 a0_1 a0_2 a0_3 _ _ l0_4 _ _ l0_5 a0_6 a0_7 true _ ?side1 ?side2 ?side3 ?side4 A15.out).mono ?_); (case side1 => exact Kd.C_below HR0_4.out (qB HB)); (case side2 => exact HC0_4.out); (case side3 => exact Kd.C_below HR0_5.out (qB HB)); (case side4 => exact HC0_5.out); rintro e w21 ⟨rfl, hb⟩; refine ⟨_, rfl, ?_⟩; replace HO498 := am_ (Kd.R_below (by (with_reducible repeat (first | apply Kd.R_alloc | apply Kd.R_drewN | apply Kd.R_drew)); exact (Kd.R_mono (Go.Proofs.YtaimfkfpglhijaaV.R_far8 (g := gb504) (Kd.R_types HO498.out BK504.out (by decide)) (fun _ hk => hk.2)) (fun _ h_ => h_.1))) hb); replace HO501 := am_ (Kd.R_below (by (with_reducible repeat (first | apply Kd.R_alloc | apply Kd.R_drewN | apply Kd.R_drew)); exact (Kd.R_mono (Go.Proofs.YtaimfkfpglhijaaV.R_far8 (g := gb504) (Kd.R_types HO501.out BK504.out (by decide)) (fun _ hk => hk.2)) (fun _ h_ => h_.1))) hb); replace BK490 := am_ (blk_below (g := gb490) (o := .cells #[.int .i64 a0_0, .int .i64 a0_1, .int .i64 a0_2, .bool a0_3, .slice A0_4 l0_4.length c0_4, .slice A0_5 l0_5.length c0_5, .int .i64 a0_6, .int .i64 a0_7] 41 (0, 0)) (by (with_reducible repeat (first | refine blk_drewN ?_ _ | refine blk_drew ?_ | refine blk_alloc ?_ _)); refine Go.Proofs.YtaimfkfpglhijaaV.blk_far8 ?_ NB490_504.out; exact qK BK490) hb); replace BK491 := am_ (blk_below (g := gb491) (o := .cells #[.int .i64 0, .int .i64 0, .int .i64 0, .bool false, .slice none 0 0, .slice none 0 0, .int .i64 0, .int .i64 0] 41 (0, 0)) (by (with_reducible repeat (first | refine blk_drewN ?_ _ | refine blk_drew ?_ | refine blk_alloc ?_ _)); refine Go.Proofs.YtaimfkfpglhijaaV.blk_far8 ?_ NB491_504.out; exact qK BK491) hb); replace BK504 := am_ (blk_below (g := gb504) (o := .cells #[.int .i64 t492, .int .i64 t493, .int .i64 t494, .bool t495, .slice Ao13 t496.length co13, .slice Ao14 t499.length co14, .int .i64 t502, .int .i64 t503] 41 (0, 0)) (by (with_reducible repeat (first | refine blk_drewN ?_ _ | refine blk_drew ?_ | refine blk_alloc ?_ _)); refine Go.Proofs.YtaimfkfpglhijaaV.blk_all8 (show _ = some (Go.Obj.cells #[.int .i64 0, .int .i64 0, .int .i64 0, .bool false, .slice none 0 0, .slice none 0 0, .int .i64 0, .int .i64 0] _ (0, 0)) from ?_); exact qK BK504) hb); replace HB := am_ (below_step (qB HB) hb); (try clear hb); (try clear hb2); (try clear hk); (try clear hi); obtain ⟨z22_0, z22_1, z22_2, z22_3, z22_4, z22_5, z22_6, z22_7⟩ := cz8 BK490.out; obtain ⟨f22_0, f22_1, f22_2, f22_3, f22_4, f22_5, f22_6, f22_7⟩ := fz8 BK490.out))
    go_meet
    case rel => exact ⟨_, (a0_3), eqq_, H', ⟨by first | omega | exact Nat.le_refl _⟩, ⟨qR HO498⟩, ⟨qR HO501⟩, ⟨qK BK490⟩, ⟨qK BK491⟩, ⟨qK BK504⟩, ⟨qB HB⟩⟩
   ·
    rw [if_neg c17] at H
    have c17b0 : (a0_1 == 2) = false := beq_eq_false_iff_ne.mpr c17
    have c17b1 : (a0_1 != 2) = true := bne_iff_ne.mpr c17
    (first | rw [c17b0] | rw [c17b1] | (simp only [i64_w, i32_w]; rw [c17b0]) | skip)
    have H' := Aside0.mk H
    clear H
    have hnb23 := NB490_491.out
    have hnc23 := NB491_490.out
    have hnb24 := NB490_504.out
    have hnc24 := NB504_490.out
    obtain ⟨z25_0, z25_1, z25_2, z25_3, z25_4, z25_5, z25_6, z25_7⟩ := cz8 BK490.out
    obtain ⟨f25_0, f25_1, f25_2, f25_3, f25_4, f25_5, f25_6, f25_7⟩ := fz8 BK490.out
    go_wp2_with (first | ((with_reducible refine gate_callee (f := 29) rfl ?_); refine goesL_ (some 14) rfl rfl Try.func29 (by kernel_rfl) rfl #[.agg #[.int .i64 a0_0, .int .i64 a0_1, .int .i64 a0_2, .bool a0_3, .slice A0_4 l0_4.length c0_4, .slice A0_5 l0_5.length c0_5, .int .i64 a0_6, .int .i64 a0_7]] rfl la_ ?_; (with_reducible refine (impl_SockOk.calls k a0_0 a0_1 a0_2 a0_3 _ _ l0_4 _ _ l0_5 a0_6 a0_7 true _ ?side1 ?side2 ?side3 ?side4 A15.out).mono ?_); (case side1 => exact Kd.C_below HR0_4.out (qB HB)); (case side2 => exact HC0_4.out); (case side3 => exact Kd.C_below HR0_5.out (qB HB)); (case side4 => exact HC0_5.out); rintro e w26 ⟨rfl, hb⟩; refine ⟨_, rfl, ?_⟩; replace HO498 := am_ (Kd.R_below (by (with_reducible repeat (first | apply Kd.R_alloc | apply Kd.R_drewN | apply Kd.R_drew)); exact (Kd.R_mono (Go.Proofs.YtaimfkfpglhijaaV.R_far8 (g := gb504) (Kd.R_types HO498.out BK504.out (by decide)) (fun _ hk => hk.2)) (fun _ h_ => h_.1))) hb); replace HO501 := am_ (Kd.R_below (by (with_reducible repeat (first | apply Kd.R_alloc | apply Kd.R_drewN | apply Kd.R_drew)); exact (Kd.R_mono (Go.Proofs.YtaimfkfpglhijaaV.R_far8 (g := gb504) (Kd.R_types HO501.out BK504.out (by decide)) (fun _ hk => hk.2)) (fun _ h_ => h_.1))) hb); replace BK490 := am_ (blk_below (g := gb490) (o := .cells #[.int .i64 a0_0, .int .i64 a0_1, .int .i64 a0_2, .bool a0_3, .slice A0_4 l0_4.length c0_4, .slice A0_5 l0_5.length c0_5, .int .i64 a0_6, .int .i64 a0_7] 41 (0, 0)) (by (with_reducible repeat (first | refine blk_drewN ?_ _ | refine blk_drew ?_ | refine blk_alloc ?_ _)); refine Go.Proofs.YtaimfkfpglhijaaV.blk_far8 ?_ NB490_504.out; exact qK BK490) hb); replace BK491 := am_ (blk_below (g := gb491) (o := .cells #[.int .i64 0, .int .i64 0, .int .i64 0, .bool false, .slice none 0 0, .slice none 0 0, .int .i64 0, .int .i64 0] 41 (0, 0)) (by (with_reducible repeat (first | refine blk_drewN ?_ _ | refine blk_drew ?_ | refine blk_alloc ?_ _)); refine Go.Proofs.YtaimfkfpglhijaaV.blk_far8 ?_ NB491_504.out; exact qK BK491) hb); replace BK504 := am_ (blk_below (g := gb504) (o := .cells #[.int .i64 t492, .int .i64 t493, .int .i64 t494, .bool t495, .slice Ao13 t496.length co13, .slice Ao14 t499.length co14, .int .i64 t502, .int .i64 t503] 41 (0, 0)) (by (with_reducible repeat (first | refine blk_drewN ?_ _ | refine blk_drew ?_ | refine blk_alloc ?_ _)); refine Go.Proofs.YtaimfkfpglhijaaV.blk_all8 (show _ = some (Go.Obj.cells #[.int .i64 0, .int .i64 0, .int .i64 0, .bool false, .slice none 0 0, .slice none 0 0, .int .i64 0, .int .i64 0] _ (0, 0)) from ?_); exact qK BK504) hb); replace HB := am_ (below_step (qB HB) hb); (try clear hb); (try clear hb2); (try clear hk); (try clear hi); obtain ⟨z27_0, z27_1, z27_2, z27_3, z27_4, z27_5, z27_6, z27_7⟩ := cz8 BK490.out; obtain ⟨f27_0, f27_1, f27_2, f27_3, f27_4, f27_5, f27_6, f27_7⟩ := fz8 BK490.out))
    go_meet
    case rel => exact ⟨_, (true), eqq_, H', ⟨by first | omega | exact Nat.le_refl _⟩, ⟨qR HO498⟩, ⟨qR HO501⟩, ⟨qK BK490⟩, ⟨qK BK491⟩, ⟨qK BK504⟩, ⟨qB HB⟩⟩
  ·
   replace c16 := Bool.eq_false_iff.mpr c16
   subst c16
   rw [if_neg (show ¬ (false = true) by decide)] at H
   have H' := Aside0.mk H
   clear H
   have hnb28 := NB490_491.out
   have hnc28 := NB491_490.out
   have hnb29 := NB490_504.out
   have hnc29 := NB504_490.out
   obtain ⟨z30_0, z30_1, z30_2, z30_3, z30_4, z30_5, z30_6, z30_7⟩ := cz8 BK490.out
   obtain ⟨f30_0, f30_1, f30_2, f30_3, f30_4, f30_5, f30_6, f30_7⟩ := fz8 BK490.out
   go_wp2_with (first | ((with_reducible refine gate_callee (f := 29) rfl ?_); refine goesL_ (some 14) rfl rfl Try.func29 (by kernel_rfl) rfl #[.agg #[.int .i64 a0_0, .int .i64 a0_1, .int .i64 a0_2, .bool a0_3, .slice A0_4 l0_4.length c0_4, .slice A0_5 l0_5.length c0_5, .int .i64 a0_6, .int .i64 a0_7]] rfl la_ ?_; (with_reducible refine (impl_SockOk.calls k a0_0 a0_1 a0_2 a0_3 _ _ l0_4 _ _ l0_5 a0_6 a0_7 false _ ?side1 ?side2 ?side3 ?side4 A15.out).mono ?_); (case side1 => exact Kd.C_below HR0_4.out (qB HB)); (case side2 => exact HC0_4.out); (case side3 => exact Kd.C_below HR0_5.out (qB HB)); (case side4 => exact HC0_5.out); rintro e w31 ⟨rfl, hb⟩; refine ⟨_, rfl, ?_⟩; replace HO498 := am_ (Kd.R_below (by (with_reducible repeat (first | apply Kd.R_alloc | apply Kd.R_drewN | apply Kd.R_drew)); exact (Kd.R_mono (Go.Proofs.YtaimfkfpglhijaaV.R_far8 (g := gb504) (Kd.R_types HO498.out BK504.out (by decide)) (fun _ hk => hk.2)) (fun _ h_ => h_.1))) hb); replace HO501 := am_ (Kd.R_below (by (with_reducible repeat (first | apply Kd.R_alloc | apply Kd.R_drewN | apply Kd.R_drew)); exact (Kd.R_mono (Go.Proofs.YtaimfkfpglhijaaV.R_far8 (g := gb504) (Kd.R_types HO501.out BK504.out (by decide)) (fun _ hk => hk.2)) (fun _ h_ => h_.1))) hb); replace BK490 := am_ (blk_below (g := gb490) (o := .cells #[.int .i64 a0_0, .int .i64 a0_1, .int .i64 a0_2, .bool a0_3, .slice A0_4 l0_4.length c0_4, .slice A0_5 l0_5.length c0_5, .int .i64 a0_6, .int .i64 a0_7] 41 (0, 0)) (by (with_reducible repeat (first | refine blk_drewN ?_ _ | refine blk_drew ?_ | refine blk_alloc ?_ _)); refine Go.Proofs.YtaimfkfpglhijaaV.blk_far8 ?_ NB490_504.out; exact qK BK490) hb); replace BK491 := am_ (blk_below (g := gb491) (o := .cells #[.int .i64 0, .int .i64 0, .int .i64 0, .bool false, .slice none 0 0, .slice none 0 0, .int .i64 0, .int .i64 0] 41 (0, 0)) (by (with_reducible repeat (first | refine blk_drewN ?_ _ | refine blk_drew ?_ | refine blk_alloc ?_ _)); refine Go.Proofs.YtaimfkfpglhijaaV.blk_far8 ?_ NB491_504.out; exact qK BK491) hb); replace BK504 := am_ (blk_below (g := gb504) (o := .cells #[.int .i64 t492, .int .i64 t493, .int .i64 t494, .bool t495, .slice Ao13 t496.length co13, .slice Ao14 t499.length co14, .int .i64 t502, .int .i64 t503] 41 (0, 0)) (by (with_reducible repeat (first | refine blk_drewN ?_ _ | refine blk_drew ?_ | refine blk_alloc ?_ _)); refine Go.Proofs.YtaimfkfpglhijaaV.blk_all8 (show _ = some (Go.Obj.cells #[.int .i64 0, .int .i64 0, .int .i64 0, .bool false, .slice none 0 0, .slice none 0 0, .int .i64 0, .int .i64 0] _ (0, 0)) from ?_); exact qK BK504) hb); replace HB := am_ (below_step (qB HB) hb); (try clear hb); (try clear hb2); (try clear hk); (try clear hi)))
   go_meet
   case rel => exact ⟨_, (true), eqq_, H', ⟨by first | omega | exact Nat.le_refl _⟩, ⟨qR HO498⟩, ⟨qR HO501⟩, ⟨qK BK490⟩, ⟨qK BK491⟩, ⟨qK BK504⟩, ⟨qB HB⟩⟩
 case rest =>
  clear HC3
  try clear c1
  try clear c2
  try clear p2
  try clear c6
  try clear c10
  try clear c11
  try clear c12
  try clear c16
  try clear c17
  try clear c17b0
  try clear c17b1
  try clear c18
  try clear c19
  try clear c23
  try clear c24
  try clear c25
  try clear c28
  try clear c29
  (try clear z12_0 z12_1 z12_2 z12_3 z12_4 z12_5 z12_6 z12_7)
  (try clear z20_0 z20_1 z20_2 z20_3 z20_4 z20_5 z20_6 z20_7)
  (try clear z22_0 z22_1 z22_2 z22_3 z22_4 z22_5 z22_6 z22_7)
  (try clear z25_0 z25_1 z25_2 z25_3 z25_4 z25_5 z25_6 z25_7)
  (try clear z27_0 z27_1 z27_2 z27_3 z27_4 z27_5 z27_6 z27_7)
  (try clear z30_0 z30_1 z30_2 z30_3 z30_4 z30_5 z30_6 z30_7)
  (try clear z7_0 z7_1 z7_2 z7_3 z7_4 z7_5 z7_6 z7_7)
  (try clear f12_0 f12_1 f12_2 f12_3 f12_4 f12_5 f12_6 f12_7)
  (try clear f20_0 f20_1 f20_2 f20_3 f20_4 f20_5 f20_6 f20_7)
  (try clear f22_0 f22_1 f22_2 f22_3 f22_4 f22_5 f22_6 f22_7)
  (try clear f25_0 f25_1 f25_2 f25_3 f25_4 f25_5 f25_6 f25_7)
  (try clear f27_0 f27_1 f27_2 f27_3 f27_4 f27_5 f27_6 f27_7)
  (try clear f30_0 f30_1 f30_2 f30_3 f30_4 f30_5 f30_6 f30_7)
  (try clear f7_0 f7_1 f7_2 f7_3 f7_4 f7_5 f7_6 f7_7)
  obtain ⟨kq, x24_2, rfl, HA, HJ2, HO_505004, HO_505005, BK490, BK491, BK504, HB⟩ := hcut
  cases kq with
  | zero => exact absurd HA.out (by simp [impl_Answer.j0])
  | succ kj2 =>
   have H := HA.out
   clear HA
   simp only [impl_Answer.j0] at H
   by_cases c32 : x24_2 = true
   ·
    subst c32
    rw [if_pos rfl] at H
    simp only [Option.some.injEq, Prod.mk.injEq] at H
    obtain ⟨rfl, rfl, rfl, rfl, rfl, rfl, rfl, rfl, rfl⟩ := H
    have hnb33 := NB504_490.out
    have hnc33 := NB490_504.out
    have hnb34 := NB504_491.out
    have hnc34 := NB491_504.out
    obtain ⟨z35_0, z35_1, z35_2, z35_3, z35_4, z35_5, z35_6, z35_7⟩ := cz8 BK504.out
    obtain ⟨f35_0, f35_1, f35_2, f35_3, f35_4, f35_5, f35_6, f35_7⟩ := fz8 BK504.out
    have hnb36 := NB491_490.out
    have hnc36 := NB490_491.out
    obtain ⟨z37_0, z37_1, z37_2, z37_3, z37_4, z37_5, z37_6, z37_7⟩ := cz8 BK491.out
    obtain ⟨f37_0, f37_1, f37_2, f37_3, f37_4, f37_5, f37_6, f37_7⟩ := fz8 BK491.out
    go_wp2
    refine bodyPost_ret (results_ct rfl _ _ gb491 41 #[.int .i64 t492, .int .i64 t493, .int .i64 t494, .bool t495, .slice Ao13 t496.length co13, .slice Ao14 t499.length co14, .int .i64 t502, .int .i64 t503] (0, 0) _ rfl (by refine blk_all8 (show _ = some (Go.Obj.cells #[.int .i64 0, .int .i64 0, .int .i64 0, .bool false, .slice none 0 0, .slice none 0 0, .int .i64 0, .int .i64 0] _ (0, 0)) from ?_); exact qK BK491) Try.underlying41 rfl (by kernel_rfl)) rfl ?_
    exact ⟨_, _, er_, by (with_reducible repeat (first | apply Kd.R_alloc | apply Kd.R_drewN | apply Kd.R_drew)); exact Kd.R_mono (Go.Proofs.YtaimfkfpglhijaaV.R_far8 (g := gb491) (Kd.R_types HO_505004.out BK491.out (by decide)) (fun _ hk => hk.2)) (fun _ hk => hk.1), by (with_reducible repeat (first | apply Kd.R_alloc | apply Kd.R_drewN | apply Kd.R_drew)); exact Kd.R_mono (Go.Proofs.YtaimfkfpglhijaaV.R_far8 (g := gb491) (Kd.R_types HO_505005.out BK491.out (by decide)) (fun _ hk => hk.2)) (fun _ hk => hk.1), qB HB⟩
   ·
    replace c32 := Bool.eq_false_iff.mpr c32
    subst c32
    rw [if_neg (show ¬ (false = true) by decide)] at H
    by_cases c38 : 0 ≤ a0_7
    case neg => exact nn_ c38 H
    rw [if_pos c38] at H
    have c38b0 := eq_true c38
    have c38b1 : decide (0 ≤ a0_7) = true := decide_eq_true c38
    clear c38
    by_cases c39 : a0_7 ≤ (l0_5.length : Int)
    case neg => exact nn_ c39 H
    rw [if_pos c39] at H
    have c39b0 := eq_true c39
    have c39b1 : decide (a0_7 ≤ (l0_5.length : Int)) = true := decide_eq_true c39
    clear c39
    obtain ⟨⟨t507, t508, t509, t510, t511⟩, A40, H⟩ := bd_ H
    (try dsimp only at H)
    have HC41 := Aside0.mk H
    clear H
    have hnb42 := NB490_491.out
    have hnc42 := NB491_490.out
    have hnb43 := NB490_504.out
    have hnc43 := NB504_490.out
    obtain ⟨z44_0, z44_1, z44_2, z44_3, z44_4, z44_5, z44_6, z44_7⟩ := cz8 BK490.out
    obtain ⟨f44_0, f44_1, f44_2, f44_3, f44_4, f44_5, f44_6, f44_7⟩ := fz8 BK490.out
    obtain ⟨i045, hi045, _, hsz45, _⟩ := info_parts info5
    obtain ⟨A45, hcut45, hA45, hC45⟩ := print_drop_of (P := Try.prog) (Value.int .u8) 0 22 5 .i64 Try.underlying22 hi045 hsz45 A0_5 c0_5 l0_5 a0_7 od_ od_ HC0_5.out
    have HR506 := Aside0.mk (Kd.C_of_reads (h1 := fun _ => rfl) (hA45 _ (Kd.reads_of_C HR0_5.out)))
    have HC506 := Aside0.mk hC45
    clear hA45 hC45 hi045 hsz45
    go_upto_if 37 with (first | ((with_reducible refine gate_callee (f := 28) rfl ?_); refine goesL_ (some 32) rfl rfl Try.func28 (by kernel_rfl) rfl #[.slice A45 (l0_5.drop (a0_7 : Int).toNat).length (c0_5 - a0_7.toNat)] rfl (by (try simp only [List.map_toArray, List.map_cons, List.map_nil]); first | done | (rw [show (l0_5.drop (a0_7 : Int).toNat).length = (l0_5.length - a0_7.toNat) from List.length_drop] <;> rfl) | rfl | (simp only [List.length_drop, List.length_take]; rfl)) ?_; (with_reducible refine (impl_GetFrame.calls kj2 _ _ (l0_5.drop (a0_7 : Int).toNat) t507 t508 t509 t510 t511 _ ?side1 ?side2 A40.out).mono ?_); (case side1 => exact qC (Kd.C_below HR506.out HB.out)); (case side2 => exact HC506.out); rintro e w46 ⟨rfl, hb⟩; refine ⟨_, rfl, ?_⟩; replace HO_505004 := am_ (Kd.R_below (qR HO_505004) hb); replace HO_505005 := am_ (Kd.R_below (qR HO_505005) hb); replace BK490 := am_ (blk_below (qK BK490) hb); replace BK491 := am_ (blk_below (qK BK491) hb); replace BK504 := am_ (blk_below (qK BK504) hb); replace HB := am_ (below_step (qB HB) hb); (try clear hb); (try clear hb2); (try clear hk); (try clear hi)) | ((with_reducible refine gate_dst (N := 5) rfl ?_); refine box_event ?hg (N := 5) ?hd (cs := #[.int .i64 0, .string (⟨#[]⟩ : ByteArray), .int .i64 0]) (t := 47) ?hr ?_; (case hd => rfl); (case hg => rfl); (case hr => first | (go_simp; done) | (go_simp; rfl)); intro gb512 hg w47 hbox hb; replace HO_505004 := am_ (Kd.R_below (qR HO_505004) hb); replace HO_505005 := am_ (Kd.R_below (qR HO_505005) hb); have BK512 := am_ (hbox); have GW512 := am_ ((gG_ hg (qB HB))); have IGW512 := gI_ GW512; have GE512 := am_ ((gG_ hg (qB HB))); have IGE512 := gI_ GE512; replace HB := am_ (below_step (qB HB) hb); have NB490_512 := am_ ((gN_ hg (qK BK490))); have NB512_490 := am_ ((gM_ hg (qK BK490))); replace BK490 := am_ (blk_below (qK BK490) hb); have NB491_512 := am_ ((gN_ hg (qK BK491))); have NB512_491 := am_ ((gM_ hg (qK BK491))); replace BK491 := am_ (blk_below (qK BK491) hb); have NB504_512 := am_ ((gN_ hg (qK BK504))); have NB512_504 := am_ ((gM_ hg (qK BK504))); replace BK504 := am_ (blk_below (qK BK504) hb); clear hb hbox hg; have hnb48 := NB512_490.out; have hnc48 := NB490_512.out; have hnb49 := NB512_491.out; have hnc49 := NB491_512.out; have hnb50 := NB512_504.out; have hnc50 := NB504_512.out; obtain ⟨z51_0, z51_1, z51_2⟩ := cz3 BK512.out; obtain ⟨f51_0, f51_1, f51_2⟩ := fz3 BK512.out))
    (try simp only [Act.put, List.setIfInBounds_toArray, List.set_cons_zero, List.set_cons_succ])
    have H := HC41.out
    clear HC41
    by_cases c52 : t511 = 0
    ·
     rw [if_pos c52] at H
     have c52b0 : (t511 == 0) = true := beq_iff_eq.mpr c52
     have c52b1 : (t511 != 0) = false := bne_eq_false_iff_eq.mpr c52
     clear c52
     (first | rw [c52b0] | rw [c52b1] | (simp only [i64_w, i32_w]; rw [c52b0]) | skip)
     obtain ⟨y513, hy513⟩ : ∃ y_ : List (S47), y_ = (([(⟨6, (⟨#[102, 111, 114, 109]⟩ : ByteArray), 0⟩ : S47), (⟨5, (⟨#[]⟩ : ByteArray), a0_6⟩ : S47)] : List (S47))) := ⟨_, rfl⟩
     rw [← hy513] at H
     have Ny513 := Aside0.mk hy513
     clear hy513
     have HC53 := Aside0.mk H
     clear H
     have hnb54 := NB490_491.out
     have hnc54 := NB491_490.out
     have hnb55 := NB490_504.out
     have hnc55 := NB504_490.out
     have hnb56 := NB490_512.out
     have hnc56 := NB512_490.out
     obtain ⟨z57_0, z57_1, z57_2, z57_3, z57_4, z57_5, z57_6, z57_7⟩ := cz8 BK490.out
     obtain ⟨f57_0, f57_1, f57_2, f57_3, f57_4, f57_5, f57_6, f57_7⟩ := fz8 BK490.out
     go_upto_if 46 with (first | ((with_reducible refine gate_dst (N := 43) rfl ?_); refine Kd.R_lit k47 _ 47 ?hg (N := 43) ?hd (xs := ([(⟨6, (⟨#[102, 111, 114, 109]⟩ : ByteArray), 0⟩ : S47), (⟨5, (⟨#[]⟩ : ByteArray), a0_6⟩ : S47)] : List (S47))) (inner := [.int .i64 6, .string (⟨#[102, 111, 114, 109]⟩ : ByteArray), .int .i64 0, .int .i64 5, .string (⟨#[]⟩ : ByteArray), .int .i64 a0_6]) (ok := fun _ => True) (okp := fun _ => True) ?hr ?hp (fun _ hk => hk) trivial (Below.refl _ _) (Nat.le_refl _) (by simp) ?_; (case hd => rfl); (case hg => rfl); (case hr => first | (go_simp; done) | (go_simp; rfl)); (case hp => exact (Reps.c3 (show Kd.M k47 _ _ _ (⟨6, (⟨#[102, 111, 114, 109]⟩ : ByteArray), 0⟩ : S47) [.int .i64 6, .string (⟨#[102, 111, 114, 109]⟩ : ByteArray), .int .i64 0] from (k47_mkM _ _ _ (⟨6, (⟨#[102, 111, 114, 109]⟩ : ByteArray), 0⟩ : S47) )) (Reps.c3 (show Kd.M k47 _ _ _ (⟨5, (⟨#[]⟩ : ByteArray), a0_6⟩ : S47) [.int .i64 5, .string (⟨#[]⟩ : ByteArray), .int .i64 a0_6] from (k47_mkM _ _ _ (⟨5, (⟨#[]⟩ : ByteArray), a0_6⟩ : S47) )) (Reps.none _ _)))); intro v514 w58 ho59 hb hg_ hnew_; clear hg_ hnew_; (first | rw [← Ny513.out] at ho59 | (simp only [Int.reduceToNat] at ho59; rw [← Ny513.out] at ho59)); replace HO_505004 := am_ (Kd.R_below (by (with_reducible repeat (first | apply Kd.R_alloc | apply Kd.R_drewN | apply Kd.R_drew)); exact (Kd.R_mono (Go.Proofs.YtaimfkfpglhijaaV.R_far3 (g := gb512) (Kd.R_types HO_505004.out BK512.out (by decide)) (fun _ hk => hk.2)) (fun _ h_ => h_.1))) hb); replace HO_505005 := am_ (Kd.R_below (by (with_reducible repeat (first | apply Kd.R_alloc | apply Kd.R_drewN | apply Kd.R_drew)); exact (Kd.R_mono (Go.Proofs.YtaimfkfpglhijaaV.R_far3 (g := gb512) (Kd.R_types HO_505005.out BK512.out (by decide)) (fun _ hk => hk.2)) (fun _ h_ => h_.1))) hb); have HO515 := am_ (Kd.R_lower (Kd.R_newB ho59 (g := gb512) (o := .cells #[.int .i64 t507, .string t508, .int .i64 t509] 47 (0, 0)) (by (with_reducible repeat (first | refine blk_drewN ?_ _ | refine blk_drew ?_ | refine blk_alloc ?_ _)); refine Go.Proofs.YtaimfkfpglhijaaV.blk_all3 (show _ = some (Go.Obj.cells #[.int .i64 0, .string (⟨#[]⟩ : ByteArray), .int .i64 0] _ (0, 0)) from ?_); exact qK BK512)) (below_size (qB HB))); replace BK490 := am_ (blk_below (g := gb490) (o := .cells #[.int .i64 a0_0, .int .i64 a0_1, .int .i64 a0_2, .bool a0_3, .slice A0_4 l0_4.length c0_4, .slice A0_5 l0_5.length c0_5, .int .i64 a0_6, .int .i64 a0_7] 41 (0, 0)) (by (with_reducible repeat (first | refine blk_drewN ?_ _ | refine blk_drew ?_ | refine blk_alloc ?_ _)); refine Go.Proofs.YtaimfkfpglhijaaV.blk_far3 ?_ NB490_512.out; exact qK BK490) hb); replace BK491 := am_ (blk_below (g := gb491) (o := .cells #[.int .i64 0, .int .i64 0, .int .i64 0, .bool false, .slice none 0 0, .slice none 0 0, .int .i64 0, .int .i64 0] 41 (0, 0)) (by (with_reducible repeat (first | refine blk_drewN ?_ _ | refine blk_drew ?_ | refine blk_alloc ?_ _)); refine Go.Proofs.YtaimfkfpglhijaaV.blk_far3 ?_ NB491_512.out; exact qK BK491) hb); replace BK504 := am_ (blk_below (g := gb504) (o := .cells #[.int .i64 t492, .int .i64 t493, .int .i64 t494, .bool t495, .slice Ao13 t496.length co13, .slice Ao14 t499.length co14, .int .i64 t502, .int .i64 t503] 41 (0, 0)) (by (with_reducible repeat (first | refine blk_drewN ?_ _ | refine blk_drew ?_ | refine blk_alloc ?_ _)); refine Go.Proofs.YtaimfkfpglhijaaV.blk_far3 ?_ NB504_512.out; exact qK BK504) hb); replace BK512 := am_ (blk_below (g := gb512) (o := .cells #[.int .i64 t507, .string t508, .int .i64 t509] 47 (0, 0)) (by (with_reducible repeat (first | refine blk_drewN ?_ _ | refine blk_drew ?_ | refine blk_alloc ?_ _)); refine Go.Proofs.YtaimfkfpglhijaaV.blk_all3 (show _ = some (Go.Obj.cells #[.int .i64 0, .string (⟨#[]⟩ : ByteArray), .int .i64 0] _ (0, 0)) from ?_); exact qK BK512) hb); replace HB := am_ (below_step (qB HB) hb); clear hb ho59; have hnb60 := NB512_491.out; have hnc60 := NB491_512.out; have hnb61 := NB512_504.out; have hnc61 := NB504_512.out; obtain ⟨z62_0, z62_1, z62_2⟩ := cz3 BK512.out; obtain ⟨f62_0, f62_1, f62_2⟩ := fz3 BK512.out))
     (try simp only [Act.put, List.setIfInBounds_toArray, List.set_cons_zero, List.set_cons_succ])
     go_cut [8] (fun v8 wc => ∃ (kq : Nat) (x8_52 : List (S47)) (x505006_52 : Int), Aside0 (impl_Answer.j1 kq t510 x8_52 a0_0 a0_1 a0_2 a0_3 l0_4 l0_5 a0_6 a0_7 t492 t493 t494 t495 t496 t499 x505006_52 t503 = some (r1, r2, r3, r4, r5, r6, r7, r8, r9)) ∧ Aside0 (kq ≤ kj2) ∧ Aside0 (Kd.R k47 47 wc w.heap.size (fun k_ => k_ ≠ gb512) v8 x8_52) ∧ Aside0 (Kd.R (Kd.int .u8) 5 wc w.heap.size (fun k_ => some k_ ≠ ((.slice Ao14 t499.length co14) : Value).ownBlock) (.slice Ao13 t496.length co13) t496) ∧ Aside0 (Kd.R (Kd.int .u8) 5 wc w.heap.size (fun k_ => some k_ ≠ ((.slice Ao13 t496.length co13) : Value).ownBlock) (.slice Ao14 t499.length co14) t499) ∧ Aside0 (wc.heap[gb490]? = some (.cells #[.int .i64 a0_0, .int .i64 a0_1, .int .i64 a0_2, .bool a0_3, (.slice A0_4 l0_4.length c0_4), (.slice A0_5 l0_5.length c0_5), .int .i64 a0_6, .int .i64 a0_7] 41 (0, 0))) ∧ Aside0 (wc.heap[gb491]? = some (.cells #[.int .i64 0, .int .i64 0, .int .i64 0, .bool false, (.slice none 0 0), (.slice none 0 0), .int .i64 0, .int .i64 0] 41 (0, 0))) ∧ Aside0 (wc.heap[gb504]? = some (.cells #[.int .i64 t492, .int .i64 t493, .int .i64 t494, .bool t495, (.slice Ao13 t496.length co13), (.slice Ao14 t499.length co14), .int .i64 x505006_52, .int .i64 t503] 41 (0, 0))) ∧ Aside0 (wc.heap[gb512]? = some (.cells #[.int .i64 t507, .string t508, .int .i64 t509] 47 (0, 0))) ∧ Aside0 (Below w.heap.size w wc))
     case first =>
      have H := HC53.out
      clear HC53
      by_cases c63 : t507 = 2
      ·
       rw [if_pos c63] at H
       have c63b0 : (t507 == 2) = true := beq_iff_eq.mpr c63
       have c63b1 : (t507 != 2) = false := bne_eq_false_iff_eq.mpr c63
       clear c63
       (first | rw [c63b0] | rw [c63b1] | (simp only [i64_w, i32_w]; rw [c63b0]) | skip)
       obtain ⟨t516, A64, H⟩ := bd_ H
       obtain ⟨t519, A65, H⟩ := bd_ H
       obtain ⟨t520, A66, H⟩ := bd_ H
       have H' := Aside0.mk H
       clear H
       have hnb67 := NB490_491.out
       have hnc67 := NB491_490.out
       have hnb68 := NB490_504.out
       have hnc68 := NB504_490.out
       have hnb69 := NB490_512.out
       have hnc69 := NB512_490.out
       obtain ⟨z70_0, z70_1, z70_2, z70_3, z70_4, z70_5, z70_6, z70_7⟩ := cz8 BK490.out
       obtain ⟨f70_0, f70_1, f70_2, f70_3, f70_4, f70_5, f70_6, f70_7⟩ := fz8 BK490.out
       have hnb71 := NB512_491.out
       have hnc71 := NB491_512.out
       have hnb72 := NB512_504.out
       have hnc72 := NB504_512.out
       obtain ⟨z73_0, z73_1, z73_2⟩ := cz3 BK512.out
       obtain ⟨f73_0, f73_1, f73_2⟩ := fz3 BK512.out
       try go_wp2_with (first | ((with_reducible refine gate_callee (f := 129) rfl ?_); refine goesL_ (some 51) rfl rfl Try.func129 (by kernel_rfl) rfl #[.int .i64 a0_6, .string t508] rfl la_ ?_; (with_reducible refine (impl_AnswerTo.calls kj2 a0_6 t508 t516 _ A64.out).mono ?_); rintro e w74 ⟨v517, rfl, ho0, hb⟩; refine ⟨_, rfl, ?_⟩; replace HO_505004 := am_ (Kd.R_below (qR HO_505004) hb); replace HO_505005 := am_ (Kd.R_below (qR HO_505005) hb); have HO518 := am_ (Kd.R_lower (Kd.R_newB (Kd.R_new' ho0 (Kd.R_lt (qR HO515))) (qK BK512)) (below_size (qB HB))); replace HO515 := am_ (eR HO515 ho0 hb); replace BK490 := am_ (blk_below (qK BK490) hb); replace BK491 := am_ (blk_below (qK BK491) hb); replace BK504 := am_ (blk_below (qK BK504) hb); replace BK512 := am_ (blk_below (qK BK512) hb); replace HB := am_ (below_step (qB HB) hb); (try clear hb); (try clear hb2); (try clear hk); (try clear hi); (try clear ho0)))
       replace HO_505004 := am_ (Kd.R_drew HO_505004.out)
       replace HO_505005 := am_ (Kd.R_drew HO_505005.out)
       replace HO515 := am_ (Kd.R_drew HO515.out)
       replace HO518 := am_ (Kd.R_drew HO518.out)
       replace BK490 := am_ (blk_drew BK490.out)
       replace BK491 := am_ (blk_drew BK491.out)
       replace BK504 := am_ (blk_drew BK504.out)
       replace BK512 := am_ (blk_drew BK512.out)
       replace HB := am_ (below_drew1 HB.out)
       refine start_ (n := 8) (S := fun w' => w'.cell? ⟨gb490, 0, none⟩ = some (.int .i64 a0_0) ∧ w'.cell? ⟨gb490, 1, none⟩ = some (.int .i64 a0_1) ∧ w'.cell? ⟨gb490, 2, none⟩ = some (.int .i64 a0_2) ∧ w'.cell? ⟨gb490, 3, none⟩ = some (.bool a0_3) ∧ w'.cell? ⟨gb490, 4, none⟩ = some (.slice A0_4 l0_4.length c0_4) ∧ w'.cell? ⟨gb490, 5, none⟩ = some (.slice A0_5 l0_5.length c0_5) ∧ w'.cell? ⟨gb490, 6, none⟩ = some (.int .i64 a0_6) ∧ w'.cell? ⟨gb490, 7, none⟩ = some (.int .i64 a0_7) ∧ w'.cell? ⟨gb512, 0, none⟩ = some (.int .i64 t507) ∧ w'.cell? ⟨gb512, 1, none⟩ = some (.string t508) ∧ w'.cell? ⟨gb512, 2, none⟩ = some (.int .i64 t509)) (ds := []) #[oo,oo,oo,oo,oo,oo,oo,oo] (by kernel_rfl) rfl rfl (cw8 BK490.out (cz3 BK512.out)) (fun hHeld => ?_); refine with_tabW impl_Answer.tab10 impl_Answer.bits10 (fun HT_ HW_ => ?_)
       generalize w74.drew = w75 at HO_505004 HO_505005 HO515 HO518 BK490 BK491 BK504 BK512 HB hHeld ⊢
       refine pz_ (i := 0) (N := some 52) HT_ #[ii,oo,oo,oo,oo,oo,oo,oo] rfl rfl ?_
       refine pz_ (i := 2) (N := some 54) HT_ #[ii,oo,ii,oo,oo,oo,oo,oo] rfl rfl ?_
       refine take_ (i := 1) (N := some 53) (v := ?_) (a' := ?_) #[ii,ii,ii,oo,oo,oo,oo,oo] rfl rfl (take_ofW HT_.out HW_.out (by kernel_rfl)) (fun _ _ _ h => h) (Or.inl ⟨by rfl, ?_⟩) hHeld ?_ ?_
       rotate_left
       ·
        rintro w' ⟨s0, s1, s2, s3, s4, s5, s6, s7, s8, s9, s10⟩
        go_simp
        with_reducible rfl
       rotate_left
       ·
        exact ap_
       refine take_ (i := 3) (N := some 55) (v := ?_) (a' := ?_) #[ii,ii,ii,ii,oo,oo,oo,oo] rfl rfl (take_ofW HT_.out HW_.out (by kernel_rfl)) (fun _ _ _ h => h) (Or.inl ⟨by rfl, ?_⟩) hHeld ?_ ?_
       rotate_left
       ·
        rintro w' ⟨s0, s1, s2, s3, s4, s5, s6, s7, s8, s9, s10⟩
        go_simp
        with_reducible rfl
       rotate_left
       ·
        exact ap_
       refine one_ (i := 4) (N := some 56) #[ii,ii,ii,ii,ii,oo,oo,oo] rfl rfl (one_of HT_.out (by kernel_rfl)) (by decide) (fun K hK => ?_)
       refine goes_ Try.func32 (by kernel_rfl) rfl #[.string t508] (by rfl) rfl rfl la_ ?_
       with_reducible refine (impl_WordOf.calls t508 t519 _ A65.out).mono ?_
       rintro e w' ⟨rfl, ⟨nd, rfl⟩⟩
       refine ⟨_, rfl, ?_⟩
       refine hK.out _ _ (cw8 BK490.out (cz3 BK512.out)) (fun hHeld => ?_)
       clear hK K
       refine norm_ (a' := ?_) ?_ ?_
       rotate_left
       ·
        show Act.put _ (some 56) _ = _
        exact ap_
       refine one_ (i := 5) (N := some 57) #[ii,ii,ii,ii,ii,ii,oo,oo] rfl rfl (one_of HT_.out (by kernel_rfl)) (by decide) (fun K hK => ?_)
       refine goes_ Try.func31 (by kernel_rfl) rfl #[.int .i64 a0_6, .int .i64 t519] (by rfl) rfl rfl la_ ?_
       with_reducible refine (impl_NextSt.calls kj2 a0_6 t519 t520 _ A66.out).mono ?_
       rintro e w' ⟨rfl, ⟨nd, rfl⟩⟩
       refine ⟨_, rfl, ?_⟩
       refine hK.out _ _ (cw8 BK490.out (cz3 BK512.out)) (fun hHeld => ?_)
       clear hK K
       refine norm_ (a' := ?_) ?_ ?_
       rotate_left
       ·
        show Act.put _ (some 57) _ = _
        exact ap_
       refine pz_ (i := 6) (N := some 58) HT_ #[ii,ii,ii,ii,ii,ii,ii,oo] rfl rfl ?_
       refine one_ (i := 7) (N := none) #[ii,ii,ii,ii,ii,ii,ii,ii] rfl rfl (one_of HT_.out (by kernel_rfl)) (by decide) (fun K hK => ?_)
       have hs76 : w75.cell? ⟨gb504, 6, none⟩ = some (.int .i64 t502) := (blk_cell BK504.out 6).trans rfl
       have hfs76 := blk_frozen BK504.out 6
       have hns76_0 := NB490_504.out
       have hns76_1 := NB491_504.out
       have hns76_3 := NB512_504.out
       have hms76_0 := NB504_490.out
       have hms76_1 := NB504_491.out
       have hms76_3 := NB504_512.out
       refine skip_ (w1 := ?_) (by rfl) rfl ?_ ?_
       rotate_left
       ·
        go_simp
        rfl
       refine hK.out _ _ ⟨((cell_far (p := ⟨gb504, _, none⟩) NB490_504.out _).trans (hHeld.1)), ((cell_far (p := ⟨gb504, _, none⟩) NB490_504.out _).trans (hHeld.2.1)), ((cell_far (p := ⟨gb504, _, none⟩) NB490_504.out _).trans (hHeld.2.2.1)), ((cell_far (p := ⟨gb504, _, none⟩) NB490_504.out _).trans (hHeld.2.2.2.1)), ((cell_far (p := ⟨gb504, _, none⟩) NB490_504.out _).trans (hHeld.2.2.2.2.1)), ((cell_far (p := ⟨gb504, _, none⟩) NB490_504.out _).trans (hHeld.2.2.2.2.2.1)), ((cell_far (p := ⟨gb504, _, none⟩) NB490_504.out _).trans (hHeld.2.2.2.2.2.2.1)), ((cell_far (p := ⟨gb504, _, none⟩) NB490_504.out _).trans (hHeld.2.2.2.2.2.2.2.1)), ((cell_far (p := ⟨gb504, _, none⟩) NB512_504.out _).trans (hHeld.2.2.2.2.2.2.2.2.1)), ((cell_far (p := ⟨gb504, _, none⟩) NB512_504.out _).trans (hHeld.2.2.2.2.2.2.2.2.2.1)), ((cell_far (p := ⟨gb504, _, none⟩) NB512_504.out _).trans (hHeld.2.2.2.2.2.2.2.2.2.2))⟩ (fun hHeld => ?_)
       clear hK K
       refine done_ (done_of HT_.out (by kernel_rfl)) ?_
       try go_wp2
       go_meet
       case rel => exact ⟨_, (t516), (t520), H', ⟨by have := HJ2.out; first | omega | exact Nat.le_refl _⟩, ⟨by (with_reducible repeat (first | apply Kd.R_alloc | apply Kd.R_drewN | apply Kd.R_drew)); exact Kd.R_mono (Kd.R_far (p := ⟨gb504, 6, none⟩) (Kd.R_types HO518.out BK504.out (by decide)) (fun _ hk => hk.2) (.int .i64 t520)) (fun _ hk => hk.1.2)⟩, ⟨by (with_reducible repeat (first | apply Kd.R_alloc | apply Kd.R_drewN | apply Kd.R_drew)); exact Kd.R_mono (Kd.R_far (p := ⟨gb504, 6, none⟩) (Kd.R_types HO_505004.out BK504.out (by decide)) (fun _ hk => hk.2) (.int .i64 t520)) (fun _ hk => hk.1)⟩, ⟨by (with_reducible repeat (first | apply Kd.R_alloc | apply Kd.R_drewN | apply Kd.R_drew)); exact Kd.R_mono (Kd.R_far (p := ⟨gb504, 6, none⟩) (Kd.R_types HO_505005.out BK504.out (by decide)) (fun _ hk => hk.2) (.int .i64 t520)) (fun _ hk => hk.1)⟩, ⟨by (with_reducible repeat (first | refine blk_drewN ?_ _ | refine blk_drew ?_ | refine blk_alloc ?_ _)); refine blk_far ?_ NB490_504.out _; exact qK BK490⟩, ⟨by (with_reducible repeat (first | refine blk_drewN ?_ _ | refine blk_drew ?_ | refine blk_alloc ?_ _)); refine blk_far ?_ NB491_504.out _; exact qK BK491⟩, ⟨by (with_reducible repeat (first | refine blk_drewN ?_ _ | refine blk_drew ?_ | refine blk_alloc ?_ _)); refine blk_put (cs := #[.int .i64 t492, .int .i64 t493, .int .i64 t494, .bool t495, .slice Ao13 t496.length co13, .slice Ao14 t499.length co14, .int .i64 t502, .int .i64 t503]) ?_ 6 _ rfl; exact qK BK504⟩, ⟨by (with_reducible repeat (first | refine blk_drewN ?_ _ | refine blk_drew ?_ | refine blk_alloc ?_ _)); refine blk_far ?_ NB512_504.out _; exact qK BK512⟩, ⟨qB HB⟩⟩
      ·
       rw [if_neg c63] at H
       have c63b0 : (t507 == 2) = false := beq_eq_false_iff_ne.mpr c63
       have c63b1 : (t507 != 2) = true := bne_iff_ne.mpr c63
       (first | rw [c63b0] | rw [c63b1] | (simp only [i64_w, i32_w]; rw [c63b0]) | skip)
       have H' := Aside0.mk H
       clear H
       go_wp2
       go_meet
       case rel => exact ⟨_, (y513), (t502), H', ⟨by have := HJ2.out; first | omega | exact Nat.le_refl _⟩, ⟨by (with_reducible repeat (first | apply Kd.R_alloc | apply Kd.R_drewN | apply Kd.R_drew)); exact Kd.R_mono HO515.out (fun _ hk => hk.2)⟩, ⟨qR HO_505004⟩, ⟨qR HO_505005⟩, ⟨qK BK490⟩, ⟨qK BK491⟩, ⟨qK BK504⟩, ⟨qK BK512⟩, ⟨qB HB⟩⟩
     case rest =>
      clear HC53
      try clear c1
      try clear c2
      try clear p2
      try clear c3
      try clear c4
      try clear c5
      try clear c6
      try clear c7
      try clear c10
      try clear c11
      try clear c12
      try clear c16
      try clear c17
      try clear c17b0
      try clear c17b1
      try clear c18
      try clear c19
      try clear c23
      try clear c24
      try clear c25
      try clear c28
      try clear c29
      try clear c31
      try clear c32
      try clear c33
      try clear c34
      try clear c36
      try clear c38
      try clear c38b0
      try clear c38b1
      try clear c39
      try clear c39b0
      try clear c39b1
      try clear c42
      try clear c43
      try clear c48
      try clear c49
      try clear c50
      try clear c52
      try clear c52b0
      try clear c52b1
      try clear c54
      try clear c55
      try clear c56
      try clear c60
      try clear c61
      try clear c63
      try clear c63b0
      try clear c63b1
      try clear c67
      try clear c68
      try clear c69
      try clear c71
      try clear c72
      (try clear z12_0 z12_1 z12_2 z12_3 z12_4 z12_5 z12_6 z12_7)
      (try clear z20_0 z20_1 z20_2 z20_3 z20_4 z20_5 z20_6 z20_7)
      (try clear z22_0 z22_1 z22_2 z22_3 z22_4 z22_5 z22_6 z22_7)
      (try clear z25_0 z25_1 z25_2 z25_3 z25_4 z25_5 z25_6 z25_7)
      (try clear z27_0 z27_1 z27_2 z27_3 z27_4 z27_5 z27_6 z27_7)
      (try clear z30_0 z30_1 z30_2 z30_3 z30_4 z30_5 z30_6 z30_7)
      (try clear z35_0 z35_1 z35_2 z35_3 z35_4 z35_5 z35_6 z35_7)
      (try clear z37_0 z37_1 z37_2 z37_3 z37_4 z37_5 z37_6 z37_7)
      (try clear z44_0 z44_1 z44_2 z44_3 z44_4 z44_5 z44_6 z44_7)
      (try clear z51_0 z51_1 z51_2)
      (try clear z57_0 z57_1 z57_2 z57_3 z57_4 z57_5 z57_6 z57_7)
      (try clear z62_0 z62_1 z62_2)
      (try clear z70_0 z70_1 z70_2 z70_3 z70_4 z70_5 z70_6 z70_7)
      (try clear z73_0 z73_1 z73_2)
      (try clear z7_0 z7_1 z7_2 z7_3 z7_4 z7_5 z7_6 z7_7)
      (try clear f12_0 f12_1 f12_2 f12_3 f12_4 f12_5 f12_6 f12_7)
      (try clear f20_0 f20_1 f20_2 f20_3 f20_4 f20_5 f20_6 f20_7)
      (try clear f22_0 f22_1 f22_2 f22_3 f22_4 f22_5 f22_6 f22_7)
      (try clear f25_0 f25_1 f25_2 f25_3 f25_4 f25_5 f25_6 f25_7)
      (try clear f27_0 f27_1 f27_2 f27_3 f27_4 f27_5 f27_6 f27_7)
      (try clear f30_0 f30_1 f30_2 f30_3 f30_4 f30_5 f30_6 f30_7)
      (try clear f35_0 f35_1 f35_2 f35_3 f35_4 f35_5 f35_6 f35_7)
      (try clear f37_0 f37_1 f37_2 f37_3 f37_4 f37_5 f37_6 f37_7)
      (try clear f44_0 f44_1 f44_2 f44_3 f44_4 f44_5 f44_6 f44_7)
      (try clear f51_0 f51_1 f51_2)
      (try clear f57_0 f57_1 f57_2 f57_3 f57_4 f57_5 f57_6 f57_7)
      (try clear f62_0 f62_1 f62_2)
      (try clear f70_0 f70_1 f70_2 f70_3 f70_4 f70_5 f70_6 f70_7)
      (try clear f73_0 f73_1 f73_2)
      (try clear f7_0 f7_1 f7_2 f7_3 f7_4 f7_5 f7_6 f7_7)
      try clear p2
      obtain ⟨kq, x8_52, x505006_52, HA, HJ52, HO_8, HO_505004, HO_505005, BK490, BK491, BK504, BK512, HB⟩ := hcut
      cases kq with
      | zero => exact absurd HA.out (by simp [impl_Answer.j1])
      | succ kj52 =>
       have H := HA.out
       clear HA
       simp only [impl_Answer.j1] at H
       have H' := Aside0.mk H
       clear H
       obtain ⟨Ao77, co77, eo77⟩ := Kd.R_slice HO_8.out
       subst eo77
       go_wp2
       go_loopg [61] kj52 (fun kq v61 w' => ∃ (x61_3 : Int) (x505004_3 : List Int) (u505004 : Value), v61 = .int .i64 x61_3 ∧ Aside0 (impl_Answer.l0 kq t510 x8_52 (x8_52.length : Int) x61_3 a0_0 a0_1 a0_2 a0_3 l0_4 l0_5 a0_6 a0_7 t492 t493 t494 t495 x505004_3 t499 x505006_52 t503 = some (r1, r2, r3, r4, r5, r6, r7, r8, r9)) ∧ Aside0 (kq ≤ kj52) ∧ Aside0 (Kd.R k47 47 w' w.heap.size (fun k_ => k_ ≠ gb512) (.slice Ao77 x8_52.length co77) x8_52) ∧ Aside0 (Kd.R (Kd.int .u8) 5 w' w.heap.size (fun k_ => some k_ ≠ ((.slice Ao14 t499.length co14) : Value).ownBlock) u505004 x505004_3) ∧ Aside0 (Kd.R (Kd.int .u8) 5 w' w.heap.size (fun k_ => some k_ ≠ (u505004 : Value).ownBlock) (.slice Ao14 t499.length co14) t499) ∧ Aside0 (w'.heap[gb490]? = some (.cells #[.int .i64 a0_0, .int .i64 a0_1, .int .i64 a0_2, .bool a0_3, (.slice A0_4 l0_4.length c0_4), (.slice A0_5 l0_5.length c0_5), .int .i64 a0_6, .int .i64 a0_7] 41 (0, 0))) ∧ Aside0 (w'.heap[gb491]? = some (.cells #[.int .i64 0, .int .i64 0, .int .i64 0, .bool false, (.slice none 0 0), (.slice none 0 0), .int .i64 0, .int .i64 0] 41 (0, 0))) ∧ Aside0 (w'.heap[gb504]? = some (.cells #[.int .i64 t492, .int .i64 t493, .int .i64 t494, .bool t495, u505004, (.slice Ao14 t499.length co14), .int .i64 x505006_52, .int .i64 t503] 41 (0, 0))) ∧ Aside0 (w'.heap[gb512]? = some (.cells #[.int .i64 t507, .string t508, .int .i64 t509] 47 (0, 0))) ∧ Aside0 (Below w.heap.size w w'))
       case atStart => exact ⟨(0), (t496), (.slice Ao13 t496.length co13), eqq_, H', ⟨Nat.le_refl _⟩, ⟨qR HO_8⟩, ⟨qR HO_505004⟩, ⟨qR HO_505005⟩, ⟨qK BK490⟩, ⟨qK BK491⟩, ⟨qK BK504⟩, ⟨qK BK512⟩, ⟨qB HB⟩⟩
       case round =>
        clear H'
        try clear c1
        try clear c2
        try clear p2
        try clear c3
        try clear c4
        try clear c5
        try clear c6
        try clear c7
        try clear c10
        try clear c11
        try clear c12
        try clear c16
        try clear c17
        try clear c17b0
        try clear c17b1
        try clear c18
        try clear c19
        try clear c23
        try clear c24
        try clear c25
        try clear c28
        try clear c29
        try clear c31
        try clear c32
        try clear c33
        try clear c34
        try clear c36
        try clear c38
        try clear c38b0
        try clear c38b1
        try clear c39
        try clear c39b0
        try clear c39b1
        try clear c42
        try clear c43
        try clear c48
        try clear c49
        try clear c50
        try clear c52
        try clear c52b0
        try clear c52b1
        try clear c54
        try clear c55
        try clear c56
        try clear c60
        try clear c61
        try clear c63
        try clear c63b0
        try clear c63b1
        try clear c67
        try clear c68
        try clear c69
        try clear c71
        try clear c72
        (try clear z12_0 z12_1 z12_2 z12_3 z12_4 z12_5 z12_6 z12_7)
        (try clear z20_0 z20_1 z20_2 z20_3 z20_4 z20_5 z20_6 z20_7)
        (try clear z22_0 z22_1 z22_2 z22_3 z22_4 z22_5 z22_6 z22_7)
        (try clear z25_0 z25_1 z25_2 z25_3 z25_4 z25_5 z25_6 z25_7)
        (try clear z27_0 z27_1 z27_2 z27_3 z27_4 z27_5 z27_6 z27_7)
        (try clear z30_0 z30_1 z30_2 z30_3 z30_4 z30_5 z30_6 z30_7)
        (try clear z35_0 z35_1 z35_2 z35_3 z35_4 z35_5 z35_6 z35_7)
        (try clear z37_0 z37_1 z37_2 z37_3 z37_4 z37_5 z37_6 z37_7)
        (try clear z44_0 z44_1 z44_2 z44_3 z44_4 z44_5 z44_6 z44_7)
        (try clear z51_0 z51_1 z51_2)
        (try clear z57_0 z57_1 z57_2 z57_3 z57_4 z57_5 z57_6 z57_7)
        (try clear z62_0 z62_1 z62_2)
        (try clear z70_0 z70_1 z70_2 z70_3 z70_4 z70_5 z70_6 z70_7)
        (try clear z73_0 z73_1 z73_2)
        (try clear z7_0 z7_1 z7_2 z7_3 z7_4 z7_5 z7_6 z7_7)
        (try clear f12_0 f12_1 f12_2 f12_3 f12_4 f12_5 f12_6 f12_7)
        (try clear f20_0 f20_1 f20_2 f20_3 f20_4 f20_5 f20_6 f20_7)
        (try clear f22_0 f22_1 f22_2 f22_3 f22_4 f22_5 f22_6 f22_7)
        (try clear f25_0 f25_1 f25_2 f25_3 f25_4 f25_5 f25_6 f25_7)
        (try clear f27_0 f27_1 f27_2 f27_3 f27_4 f27_5 f27_6 f27_7)
        (try clear f30_0 f30_1 f30_2 f30_3 f30_4 f30_5 f30_6 f30_7)
        (try clear f35_0 f35_1 f35_2 f35_3 f35_4 f35_5 f35_6 f35_7)
        (try clear f37_0 f37_1 f37_2 f37_3 f37_4 f37_5 f37_6 f37_7)
        (try clear f44_0 f44_1 f44_2 f44_3 f44_4 f44_5 f44_6 f44_7)
        (try clear f51_0 f51_1 f51_2)
        (try clear f57_0 f57_1 f57_2 f57_3 f57_4 f57_5 f57_6 f57_7)
        (try clear f62_0 f62_1 f62_2)
        (try clear f70_0 f70_1 f70_2 f70_3 f70_4 f70_5 f70_6 f70_7)
        (try clear f73_0 f73_1 f73_2)
        (try clear f7_0 f7_1 f7_2 f7_3 f7_4 f7_5 f7_6 f7_7)
        try clear p2
        obtain ⟨x61_3, x505004_3, u505004, rfl, HA, HK3, HO_59, HO_505004, HO_505005, BK490, BK491, BK504, BK512, HB⟩ := hrel
        cases gk with
        | zero => exact absurd HA.out (by simp [impl_Answer.l0])
        | succ k3 =>
         have H := HA.out
         clear HA
         simp only [impl_Answer.l0] at H
         by_cases c78 : x61_3 < (x8_52.length : Int)
         ·
          rw [if_pos c78] at H
          have c78b0 : decide (x61_3 < (x8_52.length : Int)) = true := decide_eq_true c78
          clear c78
          by_cases c79 : 0 ≤ x61_3
          case neg => exact nn_ c79 H
          rw [if_pos c79] at H
          have c79b0 : decide (0 ≤ x61_3) = true := decide_eq_true c79
          clear c79
          by_cases c80 : x61_3 < (x8_52.length : Int)
          case neg => exact nn_ c80 H
          rw [if_pos c80] at H
          have c80b0 : decide (x61_3 < (x8_52.length : Int)) = true := decide_eq_true c80
          clear c80
          obtain ⟨t523, A81, H⟩ := bd_ H
          by_cases c82 : x505004_3.length + t523.length < 140737488355328
          case neg => exact nn_ c82 H
          rw [if_pos c82] at H
          have LMc82 := Aside0.mk c82
          clear c82
          obtain ⟨y526, hy526⟩ : ∃ y_ : List Int, y_ = (x505004_3 ++ t523) := ⟨_, rfl⟩
          rw [← hy526] at H
          have Ny526 := Aside0.mk hy526
          clear hy526
          have H' := Aside0.mk H
          clear H
          have p521 : 0 ≤ (x61_3 : Int) := od_
          have q521 : x61_3 < (x8_52.length : Int) := od_
          obtain ⟨ad521, e521, hx521_0, hx521_1, hx521_2⟩ := at_T47 (Kd.R_reads' HO_59.out).2.2 x61_3 p521 q521
          cases e521
          replace p521 := eq_true p521
          replace q521 := eq_true q521
          try go_wp2_with (first | ((with_reducible refine gate_dst (N := 10) rfl ?_); refine box_event ?hg (N := 10) ?hd (cs := #[.int .i64 0, .string (⟨#[]⟩ : ByteArray), .int .i64 0]) (t := 47) ?hr ?_; (case hd => rfl); (case hg => rfl); (case hr => first | (go_simp; done) | (go_simp; rfl)); intro gb522 hg w83 hbox hb; replace HO_59 := am_ (Kd.R_below (Kd.R_elderB (qR HO_59) gb522 (Nat.le_of_eq hg.symm)) hb); replace HO_505004 := am_ (Kd.R_below (qR HO_505004) hb); replace HO_505005 := am_ (Kd.R_below (qR HO_505005) hb); have BK522 := am_ (hbox); have GW522 := am_ ((gG_ hg (qB HB))); have IGW522 := gI_ GW522; have GE522 := am_ ((gG_ hg (qB HB))); have IGE522 := gI_ GE522; replace HB := am_ (below_step (qB HB) hb); have NB490_522 := am_ ((gN_ hg (qK BK490))); have NB522_490 := am_ ((gM_ hg (qK BK490))); replace BK490 := am_ (blk_below (qK BK490) hb); have NB491_522 := am_ ((gN_ hg (qK BK491))); have NB522_491 := am_ ((gM_ hg (qK BK491))); replace BK491 := am_ (blk_below (qK BK491) hb); have NB504_522 := am_ ((gN_ hg (qK BK504))); have NB522_504 := am_ ((gM_ hg (qK BK504))); replace BK504 := am_ (blk_below (qK BK504) hb); have NB512_522 := am_ ((gN_ hg (qK BK512))); have NB522_512 := am_ ((gM_ hg (qK BK512))); replace BK512 := am_ (blk_below (qK BK512) hb); clear hb hbox hg; have hnb84 := NB522_490.out; have hnc84 := NB490_522.out; have hnb85 := NB522_491.out; have hnc85 := NB491_522.out; have hnb86 := NB522_504.out; have hnc86 := NB504_522.out; have hnb87 := NB522_512.out; have hnc87 := NB512_522.out; obtain ⟨z88_0, z88_1, z88_2⟩ := cz3 BK522.out; obtain ⟨f88_0, f88_1, f88_2⟩ := fz3 BK522.out))
          have n0_ : Aside0 (Kd.R k47 47 (((w83.setCell ⟨gb522, 0, none⟩ (.int .i64 ((rd_T47 x8_52 x61_3).f0))).setCell ⟨gb522, 1, none⟩ (.string ((rd_T47 x8_52 x61_3).f1))).setCell ⟨gb522, 2, none⟩ (.int .i64 ((rd_T47 x8_52 x61_3).f2))) w.heap.size (fun k_ => k_ ≠ gb512 ∧ k_ ≠ gb522) (.slice (some ad521) x8_52.length co77) x8_52) := ⟨by (with_reducible repeat (first | apply Kd.R_alloc | apply Kd.R_drewN | apply Kd.R_drew)); exact Kd.R_mono (Go.Proofs.YtaimfkfpglhijaaV.R_far3 (g := gb522) (Kd.R_mono HO_59.out (fun k_ hk => (⟨hk, hk.2⟩ : _ ∧ k_ ≠ gb522))) (fun _ hk => hk.2)) (fun _ hk => ⟨hk.1.1, hk.1.2⟩)⟩
          have n1_ : Aside0 (Kd.R (Kd.int .u8) 5 (((w83.setCell ⟨gb522, 0, none⟩ (.int .i64 ((rd_T47 x8_52 x61_3).f0))).setCell ⟨gb522, 1, none⟩ (.string ((rd_T47 x8_52 x61_3).f1))).setCell ⟨gb522, 2, none⟩ (.int .i64 ((rd_T47 x8_52 x61_3).f2))) w.heap.size (fun k_ => some k_ ≠ (.slice Ao14 t499.length co14 : Value).ownBlock) u505004 x505004_3) := ⟨by (with_reducible repeat (first | apply Kd.R_alloc | apply Kd.R_drewN | apply Kd.R_drew)); exact Kd.R_mono (Go.Proofs.YtaimfkfpglhijaaV.R_far3 (g := gb522) (Kd.R_types HO_505004.out BK522.out (by decide)) (fun _ hk => hk.2)) (fun _ hk => hk.1)⟩
          have n2_ : Aside0 (Kd.R (Kd.int .u8) 5 (((w83.setCell ⟨gb522, 0, none⟩ (.int .i64 ((rd_T47 x8_52 x61_3).f0))).setCell ⟨gb522, 1, none⟩ (.string ((rd_T47 x8_52 x61_3).f1))).setCell ⟨gb522, 2, none⟩ (.int .i64 ((rd_T47 x8_52 x61_3).f2))) w.heap.size (fun k_ => some k_ ≠ (u505004 : Value).ownBlock) (.slice Ao14 t499.length co14) t499) := ⟨by (with_reducible repeat (first | apply Kd.R_alloc | apply Kd.R_drewN | apply Kd.R_drew)); exact Kd.R_mono (Go.Proofs.YtaimfkfpglhijaaV.R_far3 (g := gb522) (Kd.R_types HO_505005.out BK522.out (by decide)) (fun _ hk => hk.2)) (fun _ hk => hk.1)⟩
          have n3_ : Aside0 ((((w83.setCell ⟨gb522, 0, none⟩ (.int .i64 ((rd_T47 x8_52 x61_3).f0))).setCell ⟨gb522, 1, none⟩ (.string ((rd_T47 x8_52 x61_3).f1))).setCell ⟨gb522, 2, none⟩ (.int .i64 ((rd_T47 x8_52 x61_3).f2))).heap[gb490]? = some (.cells #[.int .i64 a0_0, .int .i64 a0_1, .int .i64 a0_2, .bool a0_3, .slice A0_4 l0_4.length c0_4, .slice A0_5 l0_5.length c0_5, .int .i64 a0_6, .int .i64 a0_7] 41 (0, 0))) := ⟨by (with_reducible repeat (first | refine blk_drewN ?_ _ | refine blk_drew ?_ | refine blk_alloc ?_ _)); refine Go.Proofs.YtaimfkfpglhijaaV.blk_far3 ?_ NB490_522.out; exact qK BK490⟩
          have n4_ : Aside0 ((((w83.setCell ⟨gb522, 0, none⟩ (.int .i64 ((rd_T47 x8_52 x61_3).f0))).setCell ⟨gb522, 1, none⟩ (.string ((rd_T47 x8_52 x61_3).f1))).setCell ⟨gb522, 2, none⟩ (.int .i64 ((rd_T47 x8_52 x61_3).f2))).heap[gb491]? = some (.cells #[.int .i64 0, .int .i64 0, .int .i64 0, .bool false, .slice none 0 0, .slice none 0 0, .int .i64 0, .int .i64 0] 41 (0, 0))) := ⟨by (with_reducible repeat (first | refine blk_drewN ?_ _ | refine blk_drew ?_ | refine blk_alloc ?_ _)); refine Go.Proofs.YtaimfkfpglhijaaV.blk_far3 ?_ NB491_522.out; exact qK BK491⟩
          have n5_ : Aside0 ((((w83.setCell ⟨gb522, 0, none⟩ (.int .i64 ((rd_T47 x8_52 x61_3).f0))).setCell ⟨gb522, 1, none⟩ (.string ((rd_T47 x8_52 x61_3).f1))).setCell ⟨gb522, 2, none⟩ (.int .i64 ((rd_T47 x8_52 x61_3).f2))).heap[gb504]? = some (.cells #[.int .i64 t492, .int .i64 t493, .int .i64 t494, .bool t495, u505004, .slice Ao14 t499.length co14, .int .i64 x505006_52, .int .i64 t503] 41 (0, 0))) := ⟨by (with_reducible repeat (first | refine blk_drewN ?_ _ | refine blk_drew ?_ | refine blk_alloc ?_ _)); refine Go.Proofs.YtaimfkfpglhijaaV.blk_far3 ?_ NB504_522.out; exact qK BK504⟩
          have n6_ : Aside0 ((((w83.setCell ⟨gb522, 0, none⟩ (.int .i64 ((rd_T47 x8_52 x61_3).f0))).setCell ⟨gb522, 1, none⟩ (.string ((rd_T47 x8_52 x61_3).f1))).setCell ⟨gb522, 2, none⟩ (.int .i64 ((rd_T47 x8_52 x61_3).f2))).heap[gb512]? = some (.cells #[.int .i64 t507, .string t508, .int .i64 t509] 47 (0, 0))) := ⟨by (with_reducible repeat (first | refine blk_drewN ?_ _ | refine blk_drew ?_ | refine blk_alloc ?_ _)); refine Go.Proofs.YtaimfkfpglhijaaV.blk_far3 ?_ NB512_522.out; exact qK BK512⟩
          have n7_ : Aside0 ((((w83.setCell ⟨gb522, 0, none⟩ (.int .i64 ((rd_T47 x8_52 x61_3).f0))).setCell ⟨gb522, 1, none⟩ (.string ((rd_T47 x8_52 x61_3).f1))).setCell ⟨gb522, 2, none⟩ (.int .i64 ((rd_T47 x8_52 x61_3).f2))).heap[gb522]? = some (.cells #[.int .i64 ((rd_T47 x8_52 x61_3).f0), .string ((rd_T47 x8_52 x61_3).f1), .int .i64 ((rd_T47 x8_52 x61_3).f2)] 47 (0, 0))) := ⟨by (with_reducible repeat (first | refine blk_drewN ?_ _ | refine blk_drew ?_ | refine blk_alloc ?_ _)); refine Go.Proofs.YtaimfkfpglhijaaV.blk_all3 (show _ = some (Go.Obj.cells #[.int .i64 0, .string (⟨#[]⟩ : ByteArray), .int .i64 0] _ (0, 0)) from ?_); exact qK BK522⟩
          have n8_ : Aside0 (Below w.heap.size w (((w83.setCell ⟨gb522, 0, none⟩ (.int .i64 ((rd_T47 x8_52 x61_3).f0))).setCell ⟨gb522, 1, none⟩ (.string ((rd_T47 x8_52 x61_3).f1))).setCell ⟨gb522, 2, none⟩ (.int .i64 ((rd_T47 x8_52 x61_3).f2)))) := ⟨qB HB⟩
          (try clear HO_59)
          (try clear HO_505004)
          (try clear HO_505005)
          (try clear BK490)
          (try clear BK491)
          (try clear BK504)
          (try clear BK512)
          (try clear BK522)
          (try clear HB)
          generalize (((w83.setCell ⟨gb522, 0, none⟩ (.int .i64 ((rd_T47 x8_52 x61_3).f0))).setCell ⟨gb522, 1, none⟩ (.string ((rd_T47 x8_52 x61_3).f1))).setCell ⟨gb522, 2, none⟩ (.int .i64 ((rd_T47 x8_52 x61_3).f2))) = w89 at n0_ n1_ n2_ n3_ n4_ n5_ n6_ n7_ n8_ ⊢
          have HO_59 := n0_
          have HO_505004 := n1_
          have HO_505005 := n2_
          have BK490 := n3_
          have BK491 := n4_
          have BK504 := n5_
          have BK512 := n6_
          have BK522 := n7_
          have HB := n8_
          clear n0_ n1_ n2_ n3_ n4_ n5_ n6_ n7_ n8_
          replace HO_59 := am_ (Kd.R_drew HO_59.out)
          replace HO_505004 := am_ (Kd.R_drew HO_505004.out)
          replace HO_505005 := am_ (Kd.R_drew HO_505005.out)
          replace BK490 := am_ (blk_drew BK490.out)
          replace BK491 := am_ (blk_drew BK491.out)
          replace BK504 := am_ (blk_drew BK504.out)
          replace BK512 := am_ (blk_drew BK512.out)
          replace BK522 := am_ (blk_drew BK522.out)
          replace HB := am_ (below_drew1 HB.out)
          refine start_ (n := 7) (S := fun w' => w'.cell? ⟨gb504, 0, none⟩ = some (.int .i64 t492) ∧ w'.cell? ⟨gb504, 1, none⟩ = some (.int .i64 t493) ∧ w'.cell? ⟨gb504, 2, none⟩ = some (.int .i64 t494) ∧ w'.cell? ⟨gb504, 3, none⟩ = some (.bool t495) ∧ w'.cell? ⟨gb504, 4, none⟩ = some (u505004) ∧ w'.cell? ⟨gb504, 5, none⟩ = some (.slice Ao14 t499.length co14) ∧ w'.cell? ⟨gb504, 6, none⟩ = some (.int .i64 x505006_52) ∧ w'.cell? ⟨gb504, 7, none⟩ = some (.int .i64 t503) ∧ w'.cell? ⟨gb522, 0, none⟩ = some (.int .i64 ((rd_T47 x8_52 x61_3).f0)) ∧ w'.cell? ⟨gb522, 1, none⟩ = some (.string ((rd_T47 x8_52 x61_3).f1)) ∧ w'.cell? ⟨gb522, 2, none⟩ = some (.int .i64 ((rd_T47 x8_52 x61_3).f2))) (ds := [6]) #[oo,oo,oo,oo,oo,oo,oo] (by kernel_rfl) rfl rfl (cw8 BK504.out (cz3 BK522.out)) (fun hHeld => ?_)
          generalize w89.drew = w90 at HO_59 HO_505004 HO_505005 BK490 BK491 BK504 BK512 BK522 HB hHeld ⊢
          refine pure_ (i := 0) (N := some 65) (v := ?_) (a' := ?_) #[ii,oo,oo,oo,oo,oo,oo] rfl rfl (by kernel_rfl) (fun _ _ _ h => h) (Or.inl ⟨by rfl, ?_⟩) ?_ ?_
          rotate_left
          ·
           intro w'
           go_simp
           with_reducible rfl
          rotate_left
          ·
           exact ap_
          refine take_ (i := 1) (N := some 66) (v := ?_) (a' := ?_) #[ii,ii,oo,oo,oo,oo,oo] rfl rfl (by kernel_rfl) (fun _ _ _ h => h) (Or.inl ⟨by rfl, ?_⟩) hHeld ?_ ?_
          rotate_left
          ·
           rintro w' ⟨s0, s1, s2, s3, s4, s5, s6, s7, s8, s9, s10⟩
           go_simp
           with_reducible rfl
          rotate_left
          ·
           exact ap_
          refine take_ (i := 2) (N := some 67) (v := ?_) (a' := ?_) #[ii,ii,ii,oo,oo,oo,oo] rfl rfl (by kernel_rfl) (fun _ _ _ h => h) (Or.inl ⟨by rfl, ?_⟩) hHeld ?_ ?_
          rotate_left
          ·
           rintro w' ⟨s0, s1, s2, s3, s4, s5, s6, s7, s8, s9, s10⟩
           go_simp
           with_reducible rfl
          rotate_left
          ·
           exact ap_
          refine one_ (i := 3) (N := some 68) #[ii,ii,ii,ii,oo,oo,oo] rfl rfl (by kernel_rfl) (by decide) (fun K hK => ?_)
          refine goes_ Try.func47 (by kernel_rfl) rfl #[.agg #[.int .i64 ((rd_T47 x8_52 x61_3).f0), .string ((rd_T47 x8_52 x61_3).f1), .int .i64 ((rd_T47 x8_52 x61_3).f2)]] (by rfl) rfl rfl la_ ?_
          with_reducible refine (impl_PutFrame.calls k3 ((rd_T47 x8_52 x61_3).f0) ((rd_T47 x8_52 x61_3).f1) ((rd_T47 x8_52 x61_3).f2) t523 _ A81.out).mono ?_
          rintro e w91 ⟨v524, rfl, ho0, hb⟩
          refine ⟨_, rfl, ?_⟩
          replace HO_59 := am_ (Kd.R_below (qR HO_59) hb)
          have HO525 := am_ (Kd.R_lower (Kd.R_new' (Kd.R_new' ho0 (Kd.R_lt (qR HO_505004))) (Kd.R_lt (qR HO_505005))) (below_size (qB HB)))
          replace HO_505004 := am_ (eR HO_505004 ho0 hb)
          replace HO_505005 := am_ (eR HO_505005 ho0 hb)
          replace BK490 := am_ (blk_below (qK BK490) hb)
          replace BK491 := am_ (blk_below (qK BK491) hb)
          replace BK504 := am_ (blk_below (qK BK504) hb)
          replace BK512 := am_ (blk_below (qK BK512) hb)
          replace BK522 := am_ (blk_below (qK BK522) hb)
          replace HB := am_ (below_step (qB HB) hb)
          (try clear hb ho0)
          obtain ⟨Ao93, co93, eo93⟩ := Kd.R_slice HO525.out
          (first | subst eo93 | (injection eo93 with f1_ f2_ f3_; have f4_ := f1_.symm; have f5_ := f3_.symm; clear f1_ f2_ f3_; subst f4_; subst f5_))
          refine hK.out _ _ (cw8 BK504.out (cz3 BK522.out)) (fun hHeld => ?_)
          clear hK K
          refine norm_ (a' := ?_) ?_ ?_
          rotate_left
          ·
           show Act.put _ (some 68) _ = _
           exact ap_
          refine one_ (i := 4) (N := some 69) #[ii,ii,ii,ii,ii,oo,oo] rfl rfl (by kernel_rfl) (by decide) (fun K hK => ?_)
          refine Kd.R_append_rows_step (Kd.int .u8) (w0 := w) w.heap.size (by rfl) (.tmp 66) (.tmp 68) 22 5 (.int .u8 0) 1 rfl Try.underlying22 info5 rfl (by decide) (by omega) u505004 x505004_3 t523 _ _ _ (fun k_ => some k_ ≠ (.slice Ao14 t499.length co14 : Value).ownBlock ∧ some k_ ≠ (.slice Ao93 t523.length co93 : Value).ownBlock) (fun _ => False) rfl rfl ?aO ?aR (fun _ _ h => h) (fun _ h => h.elim) ?aF ?aB ?aS ?aL ?_
          (case aR => exact qC ((Kd.R_reads' HO525.out).2.2))
          (case aB => exact (qB HB))
          (case aF => exact (fun k_ hk => ⟨Kd.fresh' (Kd.R_lt (qR HO_505005)) k_ hk, Kd.fresh' (Kd.R_lt (qR HO525)) k_ hk⟩))
          (case aO => exact (qR HO_505004))
          (case aS => exact (below_size (qB HB)))
          (case aL => have := LMc82.out; omega)
          intro v527 w92 ho hb hg hat
          rw [← Ny526.out] at ho
          replace HO_59 := am_ (Kd.R_over' (qR HO_59) (Kd.R_typed (qR HO_505004)) (by decide) hg)
          replace HO_505005 := am_ (Kd.R_after (ok := (fun k_ => some k_ ≠ (.slice Ao93 t523.length co93 : Value).ownBlock)) (tR (Kd.R_mono HO_505005.out (fun _ hk => ⟨hk.2, hk.1⟩))) hg hat)
          replace BK490 := am_ (blk_grown (qK BK490) hg (Kd.R_ne HO_505004.out BK490.out (by decide)))
          replace BK491 := am_ (blk_grown (qK BK491) hg (Kd.R_ne HO_505004.out BK491.out (by decide)))
          replace BK504 := am_ (blk_grown (qK BK504) hg (Kd.R_ne HO_505004.out BK504.out (by decide)))
          replace BK512 := am_ (blk_grown (qK BK512) hg (Kd.R_ne HO_505004.out BK512.out (by decide)))
          replace BK522 := am_ (blk_grown (qK BK522) hg (Kd.R_ne HO_505004.out BK522.out (by decide)))
          replace HO525 := am_ (Kd.R_after (ok := (fun k_ => some k_ ≠ (.slice Ao14 t499.length co14 : Value).ownBlock)) (tR (Kd.R_mono HO525.out (fun _ hk => ⟨hk.2, hk.1.2⟩))) hg hat)
          replace HB := am_ (hb)
          have HO528 := am_ (ho)
          clear HO_505004
          clear ho hb hg hat
          obtain ⟨Ao94, co94, eo94⟩ := Kd.R_slice HO528.out
          (first | subst eo94 | (injection eo94 with f1_ f2_ f3_; have f4_ := f1_.symm; have f5_ := f3_.symm; clear f1_ f2_ f3_; subst f4_; subst f5_))
          refine hK.out _ _ (cw8 BK504.out (cz3 BK522.out)) (fun hHeld => ?_)
          clear hK K
          refine norm_ (a' := ?_) ?_ ?_
          rotate_left
          ·
           show Act.put _ (some 69) _ = _
           exact ap_
          refine pure_ (i := 5) (N := some 70) (v := ?_) (a' := ?_) #[ii,ii,ii,ii,ii,ii,oo] rfl rfl (by kernel_rfl) (fun _ _ _ h => h) (Or.inl ⟨by rfl, ?_⟩) ?_ ?_
          rotate_left
          ·
           intro w'
           go_simp
           with_reducible rfl
          rotate_left
          ·
           exact ap_
          refine last_ (i := 6) (N := none) #[ii,ii,ii,ii,ii,ii,ii] rfl rfl (by kernel_rfl) (by decide) (fun K hK => ?_)
          have hs95 : w92.cell? ⟨gb504, 4, none⟩ = some (u505004) := (blk_cell BK504.out 4).trans rfl
          have hfs95 := blk_frozen BK504.out 4
          have hns95_0 := NB490_504.out
          have hns95_1 := NB491_504.out
          have hns95_3 := NB512_504.out
          have hns95_4 := NB522_504.out
          have hms95_0 := NB504_490.out
          have hms95_1 := NB504_491.out
          have hms95_3 := NB504_512.out
          have hms95_4 := NB504_522.out
          refine skip_ (w1 := ?_) (by rfl) rfl ?_ ?_
          rotate_left
          ·
           go_simp
           rfl
          refine hK.out _ _ ?_
          clear hK K
          refine done_ (by kernel_rfl) ?_
          try go_wp2
          go_roundg k3
          case measure => have := HJ2.out; have := HJ52.out; have := HK3.out; omega
          case rel => exact ⟨(wrap64 (x61_3 + 1)), (y526), (.slice Ao94 y526.length co94), eqq_, H', ⟨by have := HJ2.out; have := HJ52.out; have := HK3.out; omega⟩, ⟨by (with_reducible repeat (first | apply Kd.R_alloc | apply Kd.R_drewN | apply Kd.R_drew)); exact Kd.R_mono (Kd.R_far (p := ⟨gb504, 4, none⟩) (Kd.R_types HO_59.out BK504.out (by decide)) (fun _ hk => hk.2) (.slice Ao94 y526.length co94)) (fun _ hk => hk.1.1)⟩, ⟨by (with_reducible repeat (first | apply Kd.R_alloc | apply Kd.R_drewN | apply Kd.R_drew)); exact Kd.R_mono (Kd.R_far (p := ⟨gb504, 4, none⟩) (Kd.R_types HO528.out BK504.out (by decide)) (fun _ hk => hk.2) (.slice Ao94 y526.length co94)) (fun _ hk => hk.1.1)⟩, ⟨by (with_reducible repeat (first | apply Kd.R_alloc | apply Kd.R_drewN | apply Kd.R_drew)); exact Kd.R_mono (Kd.R_far (p := ⟨gb504, 4, none⟩) (Kd.R_types HO_505005.out BK504.out (by decide)) (fun _ hk => hk.2) (.slice Ao94 y526.length co94)) (fun _ hk => hk.1.2)⟩, ⟨by (with_reducible repeat (first | refine blk_drewN ?_ _ | refine blk_drew ?_ | refine blk_alloc ?_ _)); refine blk_far ?_ NB490_504.out _; exact qK BK490⟩, ⟨by (with_reducible repeat (first | refine blk_drewN ?_ _ | refine blk_drew ?_ | refine blk_alloc ?_ _)); refine blk_far ?_ NB491_504.out _; exact qK BK491⟩, ⟨by (with_reducible repeat (first | refine blk_drewN ?_ _ | refine blk_drew ?_ | refine blk_alloc ?_ _)); refine blk_put (cs := #[.int .i64 t492, .int .i64 t493, .int .i64 t494, .bool t495, u505004, .slice Ao14 t499.length co14, .int .i64 x505006_52, .int .i64 t503]) ?_ 4 _ rfl; exact qK BK504⟩, ⟨by (with_reducible repeat (first | refine blk_drewN ?_ _ | refine blk_drew ?_ | refine blk_alloc ?_ _)); refine blk_far ?_ NB512_504.out _; exact qK BK512⟩, ⟨qB HB⟩⟩
         ·
          rw [if_neg c78] at H
          have c78b0 : decide (x61_3 < (x8_52.length : Int)) = false := decide_eq_false c78
          clear c78
          by_cases c96 : (x505004_3.length : Int) > 240
          ·
           rw [if_pos c96] at H
           have c96b0 : decide (240 < (x505004_3.length : Int)) = true := decide_eq_true c96
           have c96b1 : decide (240 < x505004_3.length) = true := decide_eq_true (by omega)
           clear c96
           obtain ⟨⟨t529, t530, t531, t532, t533, t536, t539, t540⟩, A97, H⟩ := bd_ H
           (try dsimp only at H)
           simp only [Option.some.injEq, Prod.mk.injEq] at H
           obtain ⟨rfl, rfl, rfl, rfl, rfl, rfl, rfl, rfl, rfl⟩ := H
           have hnb98 := NB504_490.out
           have hnc98 := NB490_504.out
           have hnb99 := NB504_491.out
           have hnc99 := NB491_504.out
           have hnb100 := NB504_512.out
           have hnc100 := NB512_504.out
           obtain ⟨z101_0, z101_1, z101_2, z101_3, z101_4, z101_5, z101_6, z101_7⟩ := cz8 BK504.out
           obtain ⟨f101_0, f101_1, f101_2, f101_3, f101_4, f101_5, f101_6, f101_7⟩ := fz8 BK504.out
           obtain ⟨Ao102, co102, eo102⟩ := Kd.R_slice HO_505004.out
           subst eo102
           have hnb103 := NB490_491.out
           have hnc103 := NB491_490.out
           have hnb104 := NB490_512.out
           have hnc104 := NB512_490.out
           obtain ⟨z105_0, z105_1, z105_2, z105_3, z105_4, z105_5, z105_6, z105_7⟩ := cz8 BK490.out
           obtain ⟨f105_0, f105_1, f105_2, f105_3, f105_4, f105_5, f105_6, f105_7⟩ := fz8 BK490.out
           go_wp2_with (first | ((with_reducible refine gate_callee (f := 128) rfl ?_); refine goesL_ (some 77) rfl rfl Try.func128 (by kernel_rfl) rfl #[.agg #[.int .i64 a0_0, .int .i64 a0_1, .int .i64 a0_2, .bool a0_3, .slice A0_4 l0_4.length c0_4, .slice A0_5 l0_5.length c0_5, .int .i64 a0_6, .int .i64 a0_7]] rfl la_ ?_; (with_reducible refine (impl_sockCopy.calls a0_0 a0_1 a0_2 a0_3 _ _ l0_4 _ _ l0_5 a0_6 a0_7 t529 t530 t531 t532 t533 t536 t539 t540 _ ?side1 ?side2 ?side3 ?side4 A97.out).mono ?_); (case side1 => exact qC (Kd.C_below HR0_4.out HB.out)); (case side2 => exact HC0_4.out); (case side3 => exact qC (Kd.C_below HR0_5.out HB.out)); (case side4 => exact HC0_5.out); rintro e w106 ⟨v534, v537, rfl, ho0, ho1, hb⟩; refine ⟨_, rfl, ?_⟩; replace HO_59 := am_ (Kd.R_below (qR HO_59) hb); have HO535 := am_ (Kd.R_lower (Kd.R_new' (Kd.R_new' ho0 (Kd.R_lt (qR HO_505004))) (Kd.R_lt (qR HO_505005))) (below_size (qB HB))); have HO538 := am_ (Kd.R_lower (Kd.R_new' (Kd.R_new' ho1 (Kd.R_lt (qR HO_505004))) (Kd.R_lt (qR HO_505005))) (below_size (qB HB))); replace HO_505004 := am_ (Kd.R_mono (Kd.R_told (Kd.R_told (Kd.R_old (qR HO_505004) hb) (Kd.R_base ho0)) (Kd.R_base ho1)) (fun _ h_ => h_.1)); replace HO_505005 := am_ (Kd.R_mono (Kd.R_told (Kd.R_told (Kd.R_old (qR HO_505005) hb) (Kd.R_base ho0)) (Kd.R_base ho1)) (fun _ h_ => h_.1)); replace BK490 := am_ (blk_below (qK BK490) hb); replace BK491 := am_ (blk_below (qK BK491) hb); replace BK504 := am_ (blk_below (qK BK504) hb); replace BK512 := am_ (blk_below (qK BK512) hb); replace HB := am_ (below_step (qB HB) hb); (try clear hb); (try clear hb2); (try clear hk); (try clear hi); (try clear ho0); (try clear ho1); have hnb107 := NB491_512.out; have hnc107 := NB512_491.out; obtain ⟨z108_0, z108_1, z108_2, z108_3, z108_4, z108_5, z108_6, z108_7⟩ := cz8 BK491.out; obtain ⟨f108_0, f108_1, f108_2, f108_3, f108_4, f108_5, f108_6, f108_7⟩ := fz8 BK491.out; obtain ⟨Ao109, co109, eo109⟩ := Kd.R_slice HO535.out; subst eo109; obtain ⟨Ao110, co110, eo110⟩ := Kd.R_slice HO538.out; subst eo110))
           refine bodyPost_ret (results_ct rfl _ _ gb491 41 #[.int .i64 t529, .int .i64 t530, .int .i64 t531, .bool t532, .slice Ao109 t533.length co109, .slice Ao110 t536.length co110, .int .i64 t539, .int .i64 t540] (0, 0) _ rfl (by refine blk_all8 (show _ = some (Go.Obj.cells #[.int .i64 0, .int .i64 0, .int .i64 0, .bool false, .slice none 0 0, .slice none 0 0, .int .i64 0, .int .i64 0] _ (0, 0)) from ?_); exact qK BK491) Try.underlying41 rfl (by kernel_rfl)) rfl ?_
           exact ⟨_, _, er_, by (with_reducible repeat (first | apply Kd.R_alloc | apply Kd.R_drewN | apply Kd.R_drew)); exact Kd.R_mono (Go.Proofs.YtaimfkfpglhijaaV.R_far8 (g := gb491) (Kd.R_types HO535.out BK491.out (by decide)) (fun _ hk => hk.2)) (fun _ hk => hk.1.1.1), by (with_reducible repeat (first | apply Kd.R_alloc | apply Kd.R_drewN | apply Kd.R_drew)); exact Kd.R_mono (Go.Proofs.YtaimfkfpglhijaaV.R_far8 (g := gb491) (Kd.R_types HO538.out BK491.out (by decide)) (fun _ hk => hk.2)) (fun _ hk => hk.1.1.1), qB HB⟩
          ·
           rw [if_neg c96] at H
           have c96b0 : decide (240 < (x505004_3.length : Int)) = false := decide_eq_false c96
           have c96b1 : decide (240 < x505004_3.length) = false := decide_eq_false (by omega)
           clear c96
           simp only [Option.some.injEq, Prod.mk.injEq] at H
           obtain ⟨rfl, rfl, rfl, rfl, rfl, rfl, rfl, rfl, rfl⟩ := H
           have hnb111 := NB504_490.out
           have hnc111 := NB490_504.out
           have hnb112 := NB504_491.out
           have hnc112 := NB491_504.out
           have hnb113 := NB504_512.out
           have hnc113 := NB512_504.out
           obtain ⟨z114_0, z114_1, z114_2, z114_3, z114_4, z114_5, z114_6, z114_7⟩ := cz8 BK504.out
           obtain ⟨f114_0, f114_1, f114_2, f114_3, f114_4, f114_5, f114_6, f114_7⟩ := fz8 BK504.out
           obtain ⟨Ao115, co115, eo115⟩ := Kd.R_slice HO_505004.out
           subst eo115
           have hnb116 := NB491_490.out
           have hnc116 := NB490_491.out
           have hnb117 := NB491_512.out
           have hnc117 := NB512_491.out
           obtain ⟨z118_0, z118_1, z118_2, z118_3, z118_4, z118_5, z118_6, z118_7⟩ := cz8 BK491.out
           obtain ⟨f118_0, f118_1, f118_2, f118_3, f118_4, f118_5, f118_6, f118_7⟩ := fz8 BK491.out
           go_wp2
           refine bodyPost_ret (results_ct rfl _ _ gb491 41 #[.int .i64 t492, .int .i64 t493, .int .i64 t494, .bool t495, .slice Ao115 x505004_3.length co115, .slice Ao14 t499.length co14, .int .i64 x505006_52, .int .i64 (wrap64 (t503 + t510))] (0, 0) _ rfl (by refine blk_all8 (show _ = some (Go.Obj.cells #[.int .i64 0, .int .i64 0, .int .i64 0, .bool false, .slice none 0 0, .slice none 0 0, .int .i64 0, .int .i64 0] _ (0, 0)) from ?_); refine blk_far ?_ NB491_504.out _; exact qK BK491) Try.underlying41 rfl (by kernel_rfl)) rfl ?_
           exact ⟨_, _, er_, by (with_reducible repeat (first | apply Kd.R_alloc | apply Kd.R_drewN | apply Kd.R_drew)); exact Kd.R_mono (Go.Proofs.YtaimfkfpglhijaaV.R_far8 (g := gb491) (Kd.R_far (p := ⟨gb504, 7, none⟩) (Kd.R_types (Kd.R_types HO_505004.out BK504.out (by decide)) BK491.out (by decide)) (fun _ hk => hk.1.2) (.int .i64 (wrap64 (t503 + t510)))) (fun _ hk => hk.2)) (fun _ hk => hk.1.1), by (with_reducible repeat (first | apply Kd.R_alloc | apply Kd.R_drewN | apply Kd.R_drew)); exact Kd.R_mono (Go.Proofs.YtaimfkfpglhijaaV.R_far8 (g := gb491) (Kd.R_far (p := ⟨gb504, 7, none⟩) (Kd.R_types (Kd.R_types HO_505005.out BK504.out (by decide)) BK491.out (by decide)) (fun _ hk => hk.1.2) (.int .i64 (wrap64 (t503 + t510)))) (fun _ hk => hk.2)) (fun _ hk => hk.1.1), qB HB⟩
    ·
     rw [if_neg c52] at H
     have c52b0 : (t511 == 0) = false := beq_eq_false_iff_ne.mpr c52
     have c52b1 : (t511 != 0) = true := bne_iff_ne.mpr c52
     (first | rw [c52b0] | rw [c52b1] | (simp only [i64_w, i32_w]; rw [c52b0]) | skip)
     simp only [Option.some.injEq, Prod.mk.injEq] at H
     obtain ⟨rfl, rfl, rfl, rfl, rfl, rfl, rfl, rfl, rfl⟩ := H
     have hnb119 := NB504_490.out
     have hnc119 := NB490_504.out
     have hnb120 := NB504_491.out
     have hnc120 := NB491_504.out
     have hnb121 := NB504_512.out
     have hnc121 := NB512_504.out
     obtain ⟨z122_0, z122_1, z122_2, z122_3, z122_4, z122_5, z122_6, z122_7⟩ := cz8 BK504.out
     obtain ⟨f122_0, f122_1, f122_2, f122_3, f122_4, f122_5, f122_6, f122_7⟩ := fz8 BK504.out
     have hnb123 := NB491_490.out
     have hnc123 := NB490_491.out
     have hnb124 := NB491_512.out
     have hnc124 := NB512_491.out
     obtain ⟨z125_0, z125_1, z125_2, z125_3, z125_4, z125_5, z125_6, z125_7⟩ := cz8 BK491.out
     obtain ⟨f125_0, f125_1, f125_2, f125_3, f125_4, f125_5, f125_6, f125_7⟩ := fz8 BK491.out
     go_wp2
     refine bodyPost_ret (results_ct rfl _ _ gb491 41 #[.int .i64 t492, .int .i64 t493, .int .i64 t494, .bool t495, .slice Ao13 t496.length co13, .slice Ao14 t499.length co14, .int .i64 t502, .int .i64 t503] (0, 0) _ rfl (by refine blk_all8 (show _ = some (Go.Obj.cells #[.int .i64 0, .int .i64 0, .int .i64 0, .bool false, .slice none 0 0, .slice none 0 0, .int .i64 0, .int .i64 0] _ (0, 0)) from ?_); refine blk_far ?_ NB491_512.out _; refine blk_far ?_ NB491_512.out _; refine blk_far ?_ NB491_512.out _; exact qK BK491) Try.underlying41 rfl (by kernel_rfl)) rfl ?_
     exact ⟨_, _, er_, by (with_reducible repeat (first | apply Kd.R_alloc | apply Kd.R_drewN | apply Kd.R_drew)); exact Kd.R_mono (Go.Proofs.YtaimfkfpglhijaaV.R_far8 (g := gb491) (Go.Proofs.YtaimfkfpglhijaaV.R_far3 (g := gb512) (Kd.R_types (Kd.R_types HO_505004.out BK512.out (by decide)) BK491.out (by decide)) (fun _ hk => hk.1.2)) (fun _ hk => hk.2)) (fun _ hk => hk.1.1), by (with_reducible repeat (first | apply Kd.R_alloc | apply Kd.R_drewN | apply Kd.R_drew)); exact Kd.R_mono (Go.Proofs.YtaimfkfpglhijaaV.R_far8 (g := gb491) (Go.Proofs.YtaimfkfpglhijaaV.R_far3 (g := gb512) (Kd.R_types (Kd.R_types HO_505005.out BK512.out (by decide)) BK491.out (by decide)) (fun _ hk => hk.1.2)) (fun _ hk => hk.2)) (fun _ hk => hk.1.1), qB HB⟩
end Go.Proofs.Ytaimfkfpglhijaa.PFnFar
