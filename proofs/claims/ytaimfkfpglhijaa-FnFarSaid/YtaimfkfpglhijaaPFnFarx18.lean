-- Written by a program of this session (myprint.py, over the kit's print): contracts of FnFar
import Derived.Test.YtaimfkfpglhijaaPFnFarx0
import Derived.Test.YtaimfkfpglhijaaPFnFarx2
import Derived.Test.YtaimfkfpglhijaaPFnFarx6
import Derived.Test.YtaimfkfpglhijaaPFnFarx8
import Derived.Test.YtaimfkfpglhijaaPFnFarx9
import Derived.Test.YtaimfkfpglhijaaPFnFarx12
import Derived.Test.YtaimfkfpglhijaaPFnFarx16
import Derived.Test.YtaimfkfpglhijaaPFnFarx17
namespace Go.Proofs.Ytaimfkfpglhijaa.PFnFar
open Go.RowKit Go.Proofs.YtaimfkfpglhijaaW.PrintWords Go.Proofs.YtaimfkfpglhijaaW.PrintLast Go.Proofs.YtaimfkfpglhijaaW.PrintMore Go.Proofs.YtaimfkfpglhijaaV
attribute [local go_sem] max2_int min2_int max_two min_two max_three min_three max_four min_four   -- for this text's walks alone
set_option linter.unusedVariables false
set_option linter.unusedSimpArgs false

/-! ### laws_FnFar: function 4 -/
mutual
def laws_FnFar.j0 : Nat → Bool → Bool → Int → Int → Int → Bool → List Int → List Int → Int → Int → Int → Int → Int → Bool → List Int → List Int → Int → Int → Option (Bool)
 | 0, _, _, _, _, _, _, _, _, _, _, _, _, _, _, _, _, _, _ => none
 | k + 1, x5, x35, x691000, x691001, x691002, x691003, x691004, x691005, x691006, x691007, x705000, x705001, x705002, x705003, x705004, x705005, x705006, x705007 => if x35 = true then (some false) else (if x5 = true then (if 0 ≤ x691007 then (if x691007 ≤ (x691005.length : Int) then ((impl_GetFrame.f k (x691005.drop (x691007 : Int).toNat)).bind fun bt725 => (if bt725.2.2.2.2 = 0 then (if x705007 = (wrap64 (x691007 + bt725.2.2.2.1)) then ((impl_SockOk.f k x705000 x705001 x705002 x705003 x705004 x705005 x705006 x705007).bind fun t731 => (if t731 = true then ((laws_same.f x705005 x691005).bind fun t732 => (laws_FnFar.j1 k (!t732) x691000 x691001 x691002 x691003 x691004 x691005 x691006 x691007 x705000 x705001 x705002 x705003 x705004 x705005 x705006 x705007 bt725.1 bt725.2.1 bt725.2.2.1)) else (laws_FnFar.j1 k true x691000 x691001 x691002 x691003 x691004 x691005 x691006 x691007 x705000 x705001 x705002 x705003 x705004 x705005 x705006 x705007 bt725.1 bt725.2.1 bt725.2.2.1))) else (laws_FnFar.j1 k true x691000 x691001 x691002 x691003 x691004 x691005 x691006 x691007 x705000 x705001 x705002 x705003 x705004 x705005 x705006 x705007 bt725.1 bt725.2.1 bt725.2.2.1)) else (laws_FnFar.j1 k true x691000 x691001 x691002 x691003 x691004 x691005 x691006 x691007 x705000 x705001 x705002 x705003 x705004 x705005 x705006 x705007 bt725.1 bt725.2.1 bt725.2.2.1))) else (none)) else (none)) else ((laws_sameSock.f x705000 x705001 x705002 x705003 x705004 x705005 x705006 x705007 x691000 x691001 x691002 x691003 x691004 x691005 x691006 x691007).bind fun t720 => (some t720)))
def laws_FnFar.j1 : Nat → Bool → Int → Int → Int → Bool → List Int → List Int → Int → Int → Int → Int → Int → Bool → List Int → List Int → Int → Int → Int → ByteArray → Int → Option (Bool)
 | 0, _, _, _, _, _, _, _, _, _, _, _, _, _, _, _, _, _, _, _, _ => none
 | k + 1, x74, x691000, x691001, x691002, x691003, x691004, x691005, x691006, x691007, x705000, x705001, x705002, x705003, x705004, x705005, x705006, x705007, x731000, x731001, x731002 => if x74 = true then (some false) else (if 0 ≤ (x691004.length : Int) then (if (x691004.length : Int) ≤ (x705004.length : Int) then ((impl_Frames.f k (x705004.drop ((x691004.length : Int) : Int).toNat)).bind fun bt737 => (if bt737.2 = 0 then (if (bt737.1.length : Int) = 2 then (if 1 < (bt737.1.length : Int) then (if ((rd_T47 bt737.1 1).f0) = 5 then (laws_FnFar.j2 k (((rd_T47 bt737.1 1).f2) != x705006) x691000 x691001 x691002 x691003 x691004 x691005 x691006 x691007 x705000 x705001 x705002 x705003 x705004 x705005 x705006 x705007 x731000 x731001 x731002) else (laws_FnFar.j2 k true x691000 x691001 x691002 x691003 x691004 x691005 x691006 x691007 x705000 x705001 x705002 x705003 x705004 x705005 x705006 x705007 x731000 x731001 x731002)) else (none)) else (laws_FnFar.j2 k true x691000 x691001 x691002 x691003 x691004 x691005 x691006 x691007 x705000 x705001 x705002 x705003 x705004 x705005 x705006 x705007 x731000 x731001 x731002)) else (laws_FnFar.j2 k true x691000 x691001 x691002 x691003 x691004 x691005 x691006 x691007 x705000 x705001 x705002 x705003 x705004 x705005 x705006 x705007 x731000 x731001 x731002))) else (none)) else (none))
def laws_FnFar.j2 : Nat → Bool → Int → Int → Int → Bool → List Int → List Int → Int → Int → Int → Int → Int → Bool → List Int → List Int → Int → Int → Int → ByteArray → Int → Option (Bool)
 | 0, _, _, _, _, _, _, _, _, _, _, _, _, _, _, _, _, _, _, _, _ => none
 | k + 1, x107, x691000, x691001, x691002, x691003, x691004, x691005, x691006, x691007, x705000, x705001, x705002, x705003, x705004, x705005, x705006, x705007, x731000, x731001, x731002 => if x107 = true then (some false) else (if x731000 = 2 then ((impl_WordOf.f x731001).bind fun t743 => ((impl_NextSt.f k x691006 t743).bind fun t744 => (some (x705006 == t744)))) else (if x705006 = x691006 then (some true) else (some false)))
end
def laws_FnFar.f (k : Nat) (l0 : List Int) : Option (Bool) := (laws_big.f l0).bind fun t677 => (if t677 = true then (some true) else ((spec_DrawAnswer.f k l0).bind fun bt678 => ((impl_Answer.f k bt678.1 bt678.2.1 bt678.2.2.1 bt678.2.2.2.1 bt678.2.2.2.2.1 bt678.2.2.2.2.2.1 bt678.2.2.2.2.2.2.1 bt678.2.2.2.2.2.2.2).bind fun bt691 => ((spec_Answer.f k bt678.1 bt678.2.1 bt678.2.2.1 bt678.2.2.2.1 bt678.2.2.2.2.1 bt678.2.2.2.2.2.1 bt678.2.2.2.2.2.2.1 bt678.2.2.2.2.2.2.2).bind fun bt705 => (if (bt691.2.2.2.2.2.2.2.2 != bt705.2.2.2.2.2.2.2.2) = true then (laws_FnFar.j0 k bt691.2.2.2.2.2.2.2.2 true bt678.1 bt678.2.1 bt678.2.2.1 bt678.2.2.2.1 bt678.2.2.2.2.1 bt678.2.2.2.2.2.1 bt678.2.2.2.2.2.2.1 bt678.2.2.2.2.2.2.2 bt691.1 bt691.2.1 bt691.2.2.1 bt691.2.2.2.1 bt691.2.2.2.2.1 bt691.2.2.2.2.2.1 bt691.2.2.2.2.2.2.1 bt691.2.2.2.2.2.2.2.1) else ((laws_sameSock.f bt691.1 bt691.2.1 bt691.2.2.1 bt691.2.2.2.1 bt691.2.2.2.2.1 bt691.2.2.2.2.2.1 bt691.2.2.2.2.2.2.1 bt691.2.2.2.2.2.2.2.1 bt705.1 bt705.2.1 bt705.2.2.1 bt705.2.2.2.1 bt705.2.2.2.2.1 bt705.2.2.2.2.2.1 bt705.2.2.2.2.2.2.1 bt705.2.2.2.2.2.2.2.1).bind fun t719 => (laws_FnFar.j0 k bt691.2.2.2.2.2.2.2.2 (!t719) bt678.1 bt678.2.1 bt678.2.2.1 bt678.2.2.2.1 bt678.2.2.2.2.1 bt678.2.2.2.2.2.1 bt678.2.2.2.2.2.2.1 bt678.2.2.2.2.2.2.2 bt691.1 bt691.2.1 bt691.2.2.1 bt691.2.2.2.1 bt691.2.2.2.2.1 bt691.2.2.2.2.2.1 bt691.2.2.2.2.2.2.1 bt691.2.2.2.2.2.2.2.1)))))))
theorem laws_FnFar.mono_l : ∀ k, (∀ y0 y1 y2 y3 y4 y5 y6 y7 y8 y9 y10 y11 y12 y13 y14 y15 y16 y17, LeO (laws_FnFar.j0 k y0 y1 y2 y3 y4 y5 y6 y7 y8 y9 y10 y11 y12 y13 y14 y15 y16 y17) (laws_FnFar.j0 (k + 1) y0 y1 y2 y3 y4 y5 y6 y7 y8 y9 y10 y11 y12 y13 y14 y15 y16 y17)) ∧ (∀ y0 y1 y2 y3 y4 y5 y6 y7 y8 y9 y10 y11 y12 y13 y14 y15 y16 y17 y18 y19, LeO (laws_FnFar.j1 k y0 y1 y2 y3 y4 y5 y6 y7 y8 y9 y10 y11 y12 y13 y14 y15 y16 y17 y18 y19) (laws_FnFar.j1 (k + 1) y0 y1 y2 y3 y4 y5 y6 y7 y8 y9 y10 y11 y12 y13 y14 y15 y16 y17 y18 y19)) ∧ (∀ y0 y1 y2 y3 y4 y5 y6 y7 y8 y9 y10 y11 y12 y13 y14 y15 y16 y17 y18 y19, LeO (laws_FnFar.j2 k y0 y1 y2 y3 y4 y5 y6 y7 y8 y9 y10 y11 y12 y13 y14 y15 y16 y17 y18 y19) (laws_FnFar.j2 (k + 1) y0 y1 y2 y3 y4 y5 y6 y7 y8 y9 y10 y11 y12 y13 y14 y15 y16 y17 y18 y19))
 | 0 => ⟨fun _ _ _ _ _ _ _ _ _ _ _ _ _ _ _ _ _ _ r h => by simp [laws_FnFar.j0] at h, fun _ _ _ _ _ _ _ _ _ _ _ _ _ _ _ _ _ _ _ _ r h => by simp [laws_FnFar.j1] at h, fun _ _ _ _ _ _ _ _ _ _ _ _ _ _ _ _ _ _ _ _ r h => by simp [laws_FnFar.j2] at h⟩
 | k + 1 => by
  obtain ⟨ih0, ih1, ih2⟩ := laws_FnFar.mono_l k
  refine ⟨?_, ?_, ?_⟩
  ·
   intro y0 y1 y2 y3 y4 y5 y6 y7 y8 y9 y10 y11 y12 y13 y14 y15 y16 y17
   unfold laws_FnFar.j0
   repeat' first
   | (with_reducible exact ih0 _ _ _ _ _ _ _ _ _ _ _ _ _ _ _ _ _ _)
   | (with_reducible exact ih1 _ _ _ _ _ _ _ _ _ _ _ _ _ _ _ _ _ _ _ _)
   | (with_reducible exact ih2 _ _ _ _ _ _ _ _ _ _ _ _ _ _ _ _ _ _ _ _)
   | (with_reducible exact impl_Answer.mono _ _ _ _ _ _ _ _ _)
   | (with_reducible exact impl_Frames.mono _ _)
   | (with_reducible exact impl_GetFrame.mono _ _)
   | (with_reducible exact impl_NextSt.mono _ _ _)
   | (with_reducible exact impl_SockOk.mono _ _ _ _ _ _ _ _ _)
   | (with_reducible exact spec_Answer.mono _ _ _ _ _ _ _ _ _)
   | (with_reducible exact spec_DrawAnswer.mono _ _)
   | (with_reducible exact LeO.refl _)
   | (with_reducible exact LeO.none _)
   | (with_reducible refine LeO.ite ?_ ?_)
   | (with_reducible refine LeO.bind ?_ (fun _ => ?_))
   | exact ih0 _ _ _ _ _ _ _ _ _ _ _ _ _ _ _ _ _ _
   | exact ih1 _ _ _ _ _ _ _ _ _ _ _ _ _ _ _ _ _ _ _ _
   | exact ih2 _ _ _ _ _ _ _ _ _ _ _ _ _ _ _ _ _ _ _ _
   | exact impl_Answer.mono _ _ _ _ _ _ _ _ _
   | exact impl_Frames.mono _ _
   | exact impl_GetFrame.mono _ _
   | exact impl_NextSt.mono _ _ _
   | exact impl_SockOk.mono _ _ _ _ _ _ _ _ _
   | exact spec_Answer.mono _ _ _ _ _ _ _ _ _
   | exact spec_DrawAnswer.mono _ _
   | exact LeO.none _
   | refine LeO.ite ?_ ?_
   | refine LeO.bind ?_ (fun _ => ?_)
  ·
   intro y0 y1 y2 y3 y4 y5 y6 y7 y8 y9 y10 y11 y12 y13 y14 y15 y16 y17 y18 y19
   unfold laws_FnFar.j1
   repeat' first
   | (with_reducible exact ih0 _ _ _ _ _ _ _ _ _ _ _ _ _ _ _ _ _ _)
   | (with_reducible exact ih1 _ _ _ _ _ _ _ _ _ _ _ _ _ _ _ _ _ _ _ _)
   | (with_reducible exact ih2 _ _ _ _ _ _ _ _ _ _ _ _ _ _ _ _ _ _ _ _)
   | (with_reducible exact impl_Answer.mono _ _ _ _ _ _ _ _ _)
   | (with_reducible exact impl_Frames.mono _ _)
   | (with_reducible exact impl_GetFrame.mono _ _)
   | (with_reducible exact impl_NextSt.mono _ _ _)
   | (with_reducible exact impl_SockOk.mono _ _ _ _ _ _ _ _ _)
   | (with_reducible exact spec_Answer.mono _ _ _ _ _ _ _ _ _)
   | (with_reducible exact spec_DrawAnswer.mono _ _)
   | (with_reducible exact LeO.refl _)
   | (with_reducible exact LeO.none _)
   | (with_reducible refine LeO.ite ?_ ?_)
   | (with_reducible refine LeO.bind ?_ (fun _ => ?_))
   | exact ih0 _ _ _ _ _ _ _ _ _ _ _ _ _ _ _ _ _ _
   | exact ih1 _ _ _ _ _ _ _ _ _ _ _ _ _ _ _ _ _ _ _ _
   | exact ih2 _ _ _ _ _ _ _ _ _ _ _ _ _ _ _ _ _ _ _ _
   | exact impl_Answer.mono _ _ _ _ _ _ _ _ _
   | exact impl_Frames.mono _ _
   | exact impl_GetFrame.mono _ _
   | exact impl_NextSt.mono _ _ _
   | exact impl_SockOk.mono _ _ _ _ _ _ _ _ _
   | exact spec_Answer.mono _ _ _ _ _ _ _ _ _
   | exact spec_DrawAnswer.mono _ _
   | exact LeO.none _
   | refine LeO.ite ?_ ?_
   | refine LeO.bind ?_ (fun _ => ?_)
  ·
   intro y0 y1 y2 y3 y4 y5 y6 y7 y8 y9 y10 y11 y12 y13 y14 y15 y16 y17 y18 y19
   unfold laws_FnFar.j2
   repeat' first
   | (with_reducible exact ih0 _ _ _ _ _ _ _ _ _ _ _ _ _ _ _ _ _ _)
   | (with_reducible exact ih1 _ _ _ _ _ _ _ _ _ _ _ _ _ _ _ _ _ _ _ _)
   | (with_reducible exact ih2 _ _ _ _ _ _ _ _ _ _ _ _ _ _ _ _ _ _ _ _)
   | (with_reducible exact impl_Answer.mono _ _ _ _ _ _ _ _ _)
   | (with_reducible exact impl_Frames.mono _ _)
   | (with_reducible exact impl_GetFrame.mono _ _)
   | (with_reducible exact impl_NextSt.mono _ _ _)
   | (with_reducible exact impl_SockOk.mono _ _ _ _ _ _ _ _ _)
   | (with_reducible exact spec_Answer.mono _ _ _ _ _ _ _ _ _)
   | (with_reducible exact spec_DrawAnswer.mono _ _)
   | (with_reducible exact LeO.refl _)
   | (with_reducible exact LeO.none _)
   | (with_reducible refine LeO.ite ?_ ?_)
   | (with_reducible refine LeO.bind ?_ (fun _ => ?_))
   | exact ih0 _ _ _ _ _ _ _ _ _ _ _ _ _ _ _ _ _ _
   | exact ih1 _ _ _ _ _ _ _ _ _ _ _ _ _ _ _ _ _ _ _ _
   | exact ih2 _ _ _ _ _ _ _ _ _ _ _ _ _ _ _ _ _ _ _ _
   | exact impl_Answer.mono _ _ _ _ _ _ _ _ _
   | exact impl_Frames.mono _ _
   | exact impl_GetFrame.mono _ _
   | exact impl_NextSt.mono _ _ _
   | exact impl_SockOk.mono _ _ _ _ _ _ _ _ _
   | exact spec_Answer.mono _ _ _ _ _ _ _ _ _
   | exact spec_DrawAnswer.mono _ _
   | exact LeO.none _
   | refine LeO.ite ?_ ?_
   | refine LeO.bind ?_ (fun _ => ?_)
theorem laws_FnFar.mono : ∀ a0 k, LeO (laws_FnFar.f k a0) (laws_FnFar.f (k + 1) a0) := by
 intro a0 k
 obtain ⟨ih0, ih1, ih2⟩ := laws_FnFar.mono_l k
 unfold laws_FnFar.f
 repeat' first
   | (with_reducible exact ih0 _ _ _ _ _ _ _ _ _ _ _ _ _ _ _ _ _ _)
   | (with_reducible exact ih1 _ _ _ _ _ _ _ _ _ _ _ _ _ _ _ _ _ _ _ _)
   | (with_reducible exact ih2 _ _ _ _ _ _ _ _ _ _ _ _ _ _ _ _ _ _ _ _)
   | (with_reducible exact impl_Answer.mono _ _ _ _ _ _ _ _ _)
   | (with_reducible exact impl_Frames.mono _ _)
   | (with_reducible exact impl_GetFrame.mono _ _)
   | (with_reducible exact impl_NextSt.mono _ _ _)
   | (with_reducible exact impl_SockOk.mono _ _ _ _ _ _ _ _ _)
   | (with_reducible exact spec_Answer.mono _ _ _ _ _ _ _ _ _)
   | (with_reducible exact spec_DrawAnswer.mono _ _)
   | (with_reducible exact LeO.refl _)
   | (with_reducible exact LeO.none _)
   | (with_reducible refine LeO.ite ?_ ?_)
   | (with_reducible refine LeO.bind ?_ (fun _ => ?_))
   | exact ih0 _ _ _ _ _ _ _ _ _ _ _ _ _ _ _ _ _ _
   | exact ih1 _ _ _ _ _ _ _ _ _ _ _ _ _ _ _ _ _ _ _ _
   | exact ih2 _ _ _ _ _ _ _ _ _ _ _ _ _ _ _ _ _ _ _ _
   | exact impl_Answer.mono _ _ _ _ _ _ _ _ _
   | exact impl_Frames.mono _ _
   | exact impl_GetFrame.mono _ _
   | exact impl_NextSt.mono _ _ _
   | exact impl_SockOk.mono _ _ _ _ _ _ _ _ _
   | exact spec_Answer.mono _ _ _ _ _ _ _ _ _
   | exact spec_DrawAnswer.mono _ _
   | exact LeO.none _
   | refine LeO.ite ?_ ?_
   | refine LeO.bind ?_ (fun _ => ?_)
set_option maxHeartbeats 8000000 in
set_option maxRecDepth 100000 in
theorem laws_FnFar.calls (k : Nat) (A0 : Option Addr) (c0 : Nat) (l0 : List Int) (r : Bool) (w : World) (hr0 : Kd.C (Kd.int .u8) w A0 l0.length l0) (hc0 : l0.length ≤ c0) (hr_ : Aside0 (r = true)) (h : laws_FnFar.f k l0 = some r) :
  Calls Try.prog 4 #[.slice A0 l0.length c0] w fun e w' => e = .returned (.bool r) ∧ Below w.heap.size w w' := by
 have hu41 := Try.underlying41
 have hu47 := Try.underlying47
 have HR0 := Aside0.mk hr0
 have HC0 := Aside0.mk hc0
 clear hr0 hc0
 have HB := Aside0.mk (Below.refl w.heap.size w)
 have H : ((laws_big.f l0).bind fun t677 => (if t677 = true then (some true) else ((spec_DrawAnswer.f k l0).bind fun bt678 => ((impl_Answer.f k bt678.1 bt678.2.1 bt678.2.2.1 bt678.2.2.2.1 bt678.2.2.2.2.1 bt678.2.2.2.2.2.1 bt678.2.2.2.2.2.2.1 bt678.2.2.2.2.2.2.2).bind fun bt691 => ((spec_Answer.f k bt678.1 bt678.2.1 bt678.2.2.1 bt678.2.2.2.1 bt678.2.2.2.2.1 bt678.2.2.2.2.2.1 bt678.2.2.2.2.2.2.1 bt678.2.2.2.2.2.2.2).bind fun bt705 => (if (bt691.2.2.2.2.2.2.2.2 != bt705.2.2.2.2.2.2.2.2) = true then (laws_FnFar.j0 k bt691.2.2.2.2.2.2.2.2 true bt678.1 bt678.2.1 bt678.2.2.1 bt678.2.2.2.1 bt678.2.2.2.2.1 bt678.2.2.2.2.2.1 bt678.2.2.2.2.2.2.1 bt678.2.2.2.2.2.2.2 bt691.1 bt691.2.1 bt691.2.2.1 bt691.2.2.2.1 bt691.2.2.2.2.1 bt691.2.2.2.2.2.1 bt691.2.2.2.2.2.2.1 bt691.2.2.2.2.2.2.2.1) else ((laws_sameSock.f bt691.1 bt691.2.1 bt691.2.2.1 bt691.2.2.2.1 bt691.2.2.2.2.1 bt691.2.2.2.2.2.1 bt691.2.2.2.2.2.2.1 bt691.2.2.2.2.2.2.2.1 bt705.1 bt705.2.1 bt705.2.2.1 bt705.2.2.2.1 bt705.2.2.2.2.1 bt705.2.2.2.2.2.1 bt705.2.2.2.2.2.2.1 bt705.2.2.2.2.2.2.2.1).bind fun t719 => (laws_FnFar.j0 k bt691.2.2.2.2.2.2.2.2 (!t719) bt678.1 bt678.2.1 bt678.2.2.1 bt678.2.2.2.1 bt678.2.2.2.2.1 bt678.2.2.2.2.2.1 bt678.2.2.2.2.2.2.1 bt678.2.2.2.2.2.2.2 bt691.1 bt691.2.1 bt691.2.2.1 bt691.2.2.2.1 bt691.2.2.2.2.1 bt691.2.2.2.2.2.1 bt691.2.2.2.2.2.2.1 bt691.2.2.2.2.2.2.2.1)))))))) = some r := h
 clear h
 obtain ⟨t677, A2, H⟩ := bd_ H
 have HC3 := Aside0.mk H
 clear H
 go_enter Try.func4, Try.ntmps4
 go_upto_if 14 with (first | (go_at_call 10; (with_reducible refine (laws_big.calls _ _ l0 t677 _ ?side1 ?side2 A2.out).mono ?_); (case side1 => exact qC (HR0.out)); (case side2 => exact HC0.out); rintro e w' ⟨rfl, ⟨nd, rfl⟩⟩; (try first | exact ⟨rfl, _, World.drewN_drewN _ _ _⟩ | exact ⟨rfl, _, Eq.trans (World.drewN_drewN _ _ _) (congrArg (World.drewN _) (Nat.add_assoc _ _ _))⟩)))
 repeat (go_quiet (first | (go_at_call 10; (with_reducible refine (laws_big.calls _ _ l0 t677 _ ?side1 ?side2 A2.out).mono ?_); (case side1 => exact qC (HR0.out)); (case side2 => exact HC0.out); rintro e w' ⟨rfl, ⟨nd, rfl⟩⟩; (try first | exact ⟨rfl, _, World.drewN_drewN _ _ _⟩ | exact ⟨rfl, _, Eq.trans (World.drewN_drewN _ _ _) (congrArg (World.drewN _) (Nat.add_assoc _ _ _))⟩))); go_upto_if 14 with (first | (go_at_call 10; (with_reducible refine (laws_big.calls _ _ l0 t677 _ ?side1 ?side2 A2.out).mono ?_); (case side1 => exact qC (HR0.out)); (case side2 => exact HC0.out); rintro e w' ⟨rfl, ⟨nd, rfl⟩⟩; (try first | exact ⟨rfl, _, World.drewN_drewN _ _ _⟩ | exact ⟨rfl, _, Eq.trans (World.drewN_drewN _ _ _) (congrArg (World.drewN _) (Nat.add_assoc _ _ _))⟩))))
 (try simp only [Act.put, List.setIfInBounds_toArray, List.set_cons_zero, List.set_cons_succ])
 have H := HC3.out
 clear HC3
 by_cases c4 : t677 = true
 ·
  subst c4
  rw [if_pos rfl] at H
  obtain rfl := Option.some.inj H
  go_wp2
  repeat (go_quiet (fail); try go_wp2)
  go_ret
  exact ⟨er_, qB HB⟩
 ·
  replace c4 := Bool.eq_false_iff.mpr c4
  subst c4
  rw [if_neg (show ¬ (false = true) by decide)] at H
  obtain ⟨⟨t678, t679, t680, t681, t682, t685, t688, t689⟩, A5, H⟩ := bd_ H
  (try dsimp only at H)
  obtain ⟨⟨t691, t692, t693, t694, t695, t698, t701, t702, t703⟩, A6, H⟩ := bd_ H
  (try dsimp only at H)
  obtain ⟨⟨t705, t706, t707, t708, t709, t712, t715, t716, t717⟩, A7, H⟩ := bd_ H
  (try dsimp only at H)
  have HC8 := Aside0.mk H
  clear H
  go_upto_region 6 with (first | (go_at_call 24; (with_reducible refine (spec_DrawAnswer.calls k _ _ l0 t678 t679 t680 t681 t682 t685 t688 t689 _ ?side1 ?side2 A5.out).mono ?_); (case side1 => exact qC (Kd.C_below HR0.out HB.out)); (case side2 => exact HC0.out); rintro e w9 ⟨v683, v686, rfl, ho0, ho1, hb⟩; have HO684 := am_ (Kd.R_lower ho0 (below_size (qB HB))); have HO687 := am_ (Kd.R_lower ho1 (below_size (qB HB))); replace HB := am_ (below_step (qB HB) hb); (try clear hb); (try clear hb2); (try clear hk); (try clear hi); (try clear ho0); (try clear ho1)) | ((with_reducible refine gate_dst (N := 3) rfl ?_); (try (refine gate_guard (by rfl) ?_; dsimp only)); refine box_event ?hg (N := 3) ?hd (cs := #[.int .i64 0, .int .i64 0, .int .i64 0, .bool false, .slice none 0 0, .slice none 0 0, .int .i64 0, .int .i64 0]) (t := 41) ?hr ?_; (case hd => rfl); (case hg => rfl); (case hr => first | (go_simp; done) | (go_simp; rfl)); intro gb690 hg w10 hbox hb; replace HO684 := am_ (Kd.R_below (qR HO684) hb); replace HO687 := am_ (Kd.R_below (qR HO687) hb); have BK690 := am_ (hbox); have GW690 := am_ ((gG_ hg (qB HB))); have IGW690 := gI_ GW690; have GE690 := am_ ((gG_ hg (qB HB))); have IGE690 := gI_ GE690; replace HB := am_ (below_step (qB HB) hb); clear hb hbox hg; obtain ⟨z11_0, z11_1, z11_2, z11_3, z11_4, z11_5, z11_6, z11_7⟩ := cz8 BK690.out; obtain ⟨f11_0, f11_1, f11_2, f11_3, f11_4, f11_5, f11_6, f11_7⟩ := fz8 BK690.out; obtain ⟨Ao12, co12, eo12⟩ := Kd.R_slice HO684.out; subst eo12; obtain ⟨Ao13, co13, eo13⟩ := Kd.R_slice HO687.out; subst eo13) | (go_at_call 25; (with_reducible refine (impl_Answer.calls k t678 t679 t680 t681 _ _ t682 _ _ t685 t688 t689 t691 t692 t693 t694 t695 t698 t701 t702 t703 _ ?side1 ?side2 ?side3 ?side4 A6.out).mono ?_); (case side1 => refine (Kd.R_reads' (e := 5) (base := w.heap.size) (ok := fun k_ => some k_ ≠ (.slice Ao13 t685.length co13 : Value).ownBlock) (n := t682.length) (c := co12) ?_).2.2; exact (by (with_reducible repeat (first | apply Kd.R_alloc | apply Kd.R_drewN | apply Kd.R_drew)); exact (Kd.R_mono (Go.Proofs.YtaimfkfpglhijaaV.R_far8 (g := gb690) (Kd.R_types HO684.out BK690.out (by decide)) (fun _ hk => hk.2)) (fun _ h_ => h_.1)))); (case side2 => exact (Kd.R_reads' HO684.out).2.1); (case side3 => refine (Kd.R_reads' (e := 5) (base := w.heap.size) (ok := fun k_ => some k_ ≠ (.slice Ao12 t682.length co12 : Value).ownBlock) (n := t685.length) (c := co13) ?_).2.2; exact (by (with_reducible repeat (first | apply Kd.R_alloc | apply Kd.R_drewN | apply Kd.R_drew)); exact (Kd.R_mono (Go.Proofs.YtaimfkfpglhijaaV.R_far8 (g := gb690) (Kd.R_types HO687.out BK690.out (by decide)) (fun _ hk => hk.2)) (fun _ h_ => h_.1)))); (case side4 => exact (Kd.R_reads' HO687.out).2.1); rintro e w14 ⟨v696, v699, rfl, ho0, ho1, hb⟩; have HO697 := am_ (Kd.R_lower (Kd.R_new' (Kd.R_new' ho0 (Kd.R_lt (by (with_reducible repeat (first | apply Kd.R_alloc | apply Kd.R_drewN | apply Kd.R_drew)); exact (Kd.R_mono (Go.Proofs.YtaimfkfpglhijaaV.R_far8 (g := gb690) (Kd.R_types HO684.out BK690.out (by decide)) (fun _ hk => hk.2)) (fun _ h_ => h_.1))))) (Kd.R_lt (by (with_reducible repeat (first | apply Kd.R_alloc | apply Kd.R_drewN | apply Kd.R_drew)); exact (Kd.R_mono (Go.Proofs.YtaimfkfpglhijaaV.R_far8 (g := gb690) (Kd.R_types HO687.out BK690.out (by decide)) (fun _ hk => hk.2)) (fun _ h_ => h_.1))))) (below_size (qB HB))); have HO700 := am_ (Kd.R_lower (Kd.R_new' (Kd.R_new' ho1 (Kd.R_lt (by (with_reducible repeat (first | apply Kd.R_alloc | apply Kd.R_drewN | apply Kd.R_drew)); exact (Kd.R_mono (Go.Proofs.YtaimfkfpglhijaaV.R_far8 (g := gb690) (Kd.R_types HO684.out BK690.out (by decide)) (fun _ hk => hk.2)) (fun _ h_ => h_.1))))) (Kd.R_lt (by (with_reducible repeat (first | apply Kd.R_alloc | apply Kd.R_drewN | apply Kd.R_drew)); exact (Kd.R_mono (Go.Proofs.YtaimfkfpglhijaaV.R_far8 (g := gb690) (Kd.R_types HO687.out BK690.out (by decide)) (fun _ hk => hk.2)) (fun _ h_ => h_.1))))) (below_size (qB HB))); replace HO684 := am_ (Kd.R_mono (Kd.R_told (Kd.R_told (Kd.R_old (by (with_reducible repeat (first | apply Kd.R_alloc | apply Kd.R_drewN | apply Kd.R_drew)); exact (Kd.R_mono (Go.Proofs.YtaimfkfpglhijaaV.R_far8 (g := gb690) (Kd.R_types HO684.out BK690.out (by decide)) (fun _ hk => hk.2)) (fun _ h_ => h_.1))) hb) (Kd.R_base ho0)) (Kd.R_base ho1)) (fun _ h_ => h_.1)); replace HO687 := am_ (Kd.R_mono (Kd.R_told (Kd.R_told (Kd.R_old (by (with_reducible repeat (first | apply Kd.R_alloc | apply Kd.R_drewN | apply Kd.R_drew)); exact (Kd.R_mono (Go.Proofs.YtaimfkfpglhijaaV.R_far8 (g := gb690) (Kd.R_types HO687.out BK690.out (by decide)) (fun _ hk => hk.2)) (fun _ h_ => h_.1))) hb) (Kd.R_base ho0)) (Kd.R_base ho1)) (fun _ h_ => h_.1)); replace BK690 := am_ (blk_below (g := gb690) (o := .cells #[.int .i64 t678, .int .i64 t679, .int .i64 t680, .bool t681, .slice Ao12 t682.length co12, .slice Ao13 t685.length co13, .int .i64 t688, .int .i64 t689] 41 (0, 0)) (by (with_reducible repeat (first | refine blk_drewN ?_ _ | refine blk_drew ?_ | refine blk_alloc ?_ _)); refine Go.Proofs.YtaimfkfpglhijaaV.blk_all8 (show _ = some (Go.Obj.cells #[.int .i64 0, .int .i64 0, .int .i64 0, .bool false, .slice none 0 0, .slice none 0 0, .int .i64 0, .int .i64 0] _ (0, 0)) from ?_); exact qK BK690) hb); replace HB := am_ (below_step (qB HB) hb); (try clear hb); (try clear hb2); (try clear hk); (try clear hi); (try clear ho0); (try clear ho1)) | ((with_reducible refine gate_dst (N := 4) rfl ?_); (try (refine gate_guard (by rfl) ?_; dsimp only)); refine box_event ?hg (N := 4) ?hd (cs := #[.int .i64 0, .int .i64 0, .int .i64 0, .bool false, .slice none 0 0, .slice none 0 0, .int .i64 0, .int .i64 0]) (t := 41) ?hr ?_; (case hd => rfl); (case hg => rfl); (case hr => first | (go_simp; done) | (go_simp; rfl)); intro gb704 hg w15 hbox hb; replace HO684 := am_ (Kd.R_below (qR HO684) hb); replace HO687 := am_ (Kd.R_below (qR HO687) hb); replace HO697 := am_ (Kd.R_below (qR HO697) hb); replace HO700 := am_ (Kd.R_below (qR HO700) hb); have BK704 := am_ (hbox); have GW704 := am_ ((gG_ hg (qB HB))); have IGW704 := gI_ GW704; have GE704 := am_ ((gG_ hg (qB HB))); have IGE704 := gI_ GE704; replace HB := am_ (below_step (qB HB) hb); have NB690_704 := am_ ((gN_ hg (qK BK690))); have NB704_690 := am_ ((gM_ hg (qK BK690))); replace BK690 := am_ (blk_below (qK BK690) hb); clear hb hbox hg; have hnb16 := NB704_690.out; have hnc16 := NB690_704.out; obtain ⟨z17_0, z17_1, z17_2, z17_3, z17_4, z17_5, z17_6, z17_7⟩ := cz8 BK704.out; obtain ⟨f17_0, f17_1, f17_2, f17_3, f17_4, f17_5, f17_6, f17_7⟩ := fz8 BK704.out; obtain ⟨Ao18, co18, eo18⟩ := Kd.R_slice HO697.out; subst eo18; obtain ⟨Ao19, co19, eo19⟩ := Kd.R_slice HO700.out; subst eo19; obtain ⟨z20_0, z20_1, z20_2, z20_3, z20_4, z20_5, z20_6, z20_7⟩ := cz8 BK690.out; obtain ⟨f20_0, f20_1, f20_2, f20_3, f20_4, f20_5, f20_6, f20_7⟩ := fz8 BK690.out) | (go_at_call 26; (with_reducible refine (spec_Answer.calls k t678 t679 t680 t681 _ _ t682 _ _ t685 t688 t689 t705 t706 t707 t708 t709 t712 t715 t716 t717 _ ?side1 ?side2 ?side3 ?side4 A7.out).mono ?_); (case side1 => refine (Kd.R_reads' (e := 5) (base := w.heap.size) (ok := fun k_ => ((some k_ ≠ (.slice Ao13 t685.length co13 : Value).ownBlock ∧ some k_ ≠ (.slice Ao18 t695.length co18 : Value).ownBlock) ∧ some k_ ≠ (.slice Ao19 t698.length co19 : Value).ownBlock)) (n := t682.length) (c := co12) ?_).2.2; exact (by (with_reducible repeat (first | apply Kd.R_alloc | apply Kd.R_drewN | apply Kd.R_drew)); exact (Kd.R_mono (Go.Proofs.YtaimfkfpglhijaaV.R_far8 (g := gb704) (Kd.R_types HO684.out BK704.out (by decide)) (fun _ hk => hk.2)) (fun _ h_ => h_.1)))); (case side2 => exact (Kd.R_reads' HO684.out).2.1); (case side3 => refine (Kd.R_reads' (e := 5) (base := w.heap.size) (ok := fun k_ => ((some k_ ≠ (.slice Ao12 t682.length co12 : Value).ownBlock ∧ some k_ ≠ (.slice Ao18 t695.length co18 : Value).ownBlock) ∧ some k_ ≠ (.slice Ao19 t698.length co19 : Value).ownBlock)) (n := t685.length) (c := co13) ?_).2.2; exact (by (with_reducible repeat (first | apply Kd.R_alloc | apply Kd.R_drewN | apply Kd.R_drew)); exact (Kd.R_mono (Go.Proofs.YtaimfkfpglhijaaV.R_far8 (g := gb704) (Kd.R_types HO687.out BK704.out (by decide)) (fun _ hk => hk.2)) (fun _ h_ => h_.1)))); (case side4 => exact (Kd.R_reads' HO687.out).2.1); rintro e w21 ⟨v710, v713, rfl, ho0, ho1, hb⟩; have HO711 := am_ (Kd.R_lower (Kd.R_new' (Kd.R_new' (Kd.R_new' (Kd.R_new' ho0 (Kd.R_lt (by (with_reducible repeat (first | apply Kd.R_alloc | apply Kd.R_drewN | apply Kd.R_drew)); exact (Kd.R_mono (Go.Proofs.YtaimfkfpglhijaaV.R_far8 (g := gb704) (Kd.R_types HO684.out BK704.out (by decide)) (fun _ hk => hk.2)) (fun _ h_ => h_.1))))) (Kd.R_lt (by (with_reducible repeat (first | apply Kd.R_alloc | apply Kd.R_drewN | apply Kd.R_drew)); exact (Kd.R_mono (Go.Proofs.YtaimfkfpglhijaaV.R_far8 (g := gb704) (Kd.R_types HO687.out BK704.out (by decide)) (fun _ hk => hk.2)) (fun _ h_ => h_.1))))) (Kd.R_lt (by (with_reducible repeat (first | apply Kd.R_alloc | apply Kd.R_drewN | apply Kd.R_drew)); exact (Kd.R_mono (Go.Proofs.YtaimfkfpglhijaaV.R_far8 (g := gb704) (Kd.R_types HO697.out BK704.out (by decide)) (fun _ hk => hk.2)) (fun _ h_ => h_.1))))) (Kd.R_lt (by (with_reducible repeat (first | apply Kd.R_alloc | apply Kd.R_drewN | apply Kd.R_drew)); exact (Kd.R_mono (Go.Proofs.YtaimfkfpglhijaaV.R_far8 (g := gb704) (Kd.R_types HO700.out BK704.out (by decide)) (fun _ hk => hk.2)) (fun _ h_ => h_.1))))) (below_size (qB HB))); have HO714 := am_ (Kd.R_lower (Kd.R_new' (Kd.R_new' (Kd.R_new' (Kd.R_new' ho1 (Kd.R_lt (by (with_reducible repeat (first | apply Kd.R_alloc | apply Kd.R_drewN | apply Kd.R_drew)); exact (Kd.R_mono (Go.Proofs.YtaimfkfpglhijaaV.R_far8 (g := gb704) (Kd.R_types HO684.out BK704.out (by decide)) (fun _ hk => hk.2)) (fun _ h_ => h_.1))))) (Kd.R_lt (by (with_reducible repeat (first | apply Kd.R_alloc | apply Kd.R_drewN | apply Kd.R_drew)); exact (Kd.R_mono (Go.Proofs.YtaimfkfpglhijaaV.R_far8 (g := gb704) (Kd.R_types HO687.out BK704.out (by decide)) (fun _ hk => hk.2)) (fun _ h_ => h_.1))))) (Kd.R_lt (by (with_reducible repeat (first | apply Kd.R_alloc | apply Kd.R_drewN | apply Kd.R_drew)); exact (Kd.R_mono (Go.Proofs.YtaimfkfpglhijaaV.R_far8 (g := gb704) (Kd.R_types HO697.out BK704.out (by decide)) (fun _ hk => hk.2)) (fun _ h_ => h_.1))))) (Kd.R_lt (by (with_reducible repeat (first | apply Kd.R_alloc | apply Kd.R_drewN | apply Kd.R_drew)); exact (Kd.R_mono (Go.Proofs.YtaimfkfpglhijaaV.R_far8 (g := gb704) (Kd.R_types HO700.out BK704.out (by decide)) (fun _ hk => hk.2)) (fun _ h_ => h_.1))))) (below_size (qB HB))); replace HO684 := am_ (Kd.R_mono (Kd.R_told (Kd.R_told (Kd.R_old (by (with_reducible repeat (first | apply Kd.R_alloc | apply Kd.R_drewN | apply Kd.R_drew)); exact (Kd.R_mono (Go.Proofs.YtaimfkfpglhijaaV.R_far8 (g := gb704) (Kd.R_types HO684.out BK704.out (by decide)) (fun _ hk => hk.2)) (fun _ h_ => h_.1))) hb) (Kd.R_base ho0)) (Kd.R_base ho1)) (fun _ h_ => h_.1)); replace HO687 := am_ (Kd.R_mono (Kd.R_told (Kd.R_told (Kd.R_old (by (with_reducible repeat (first | apply Kd.R_alloc | apply Kd.R_drewN | apply Kd.R_drew)); exact (Kd.R_mono (Go.Proofs.YtaimfkfpglhijaaV.R_far8 (g := gb704) (Kd.R_types HO687.out BK704.out (by decide)) (fun _ hk => hk.2)) (fun _ h_ => h_.1))) hb) (Kd.R_base ho0)) (Kd.R_base ho1)) (fun _ h_ => h_.1)); replace HO697 := am_ (Kd.R_mono (Kd.R_told (Kd.R_told (Kd.R_old (by (with_reducible repeat (first | apply Kd.R_alloc | apply Kd.R_drewN | apply Kd.R_drew)); exact (Kd.R_mono (Go.Proofs.YtaimfkfpglhijaaV.R_far8 (g := gb704) (Kd.R_types HO697.out BK704.out (by decide)) (fun _ hk => hk.2)) (fun _ h_ => h_.1))) hb) (Kd.R_base ho0)) (Kd.R_base ho1)) (fun _ h_ => h_.1)); replace HO700 := am_ (Kd.R_mono (Kd.R_told (Kd.R_told (Kd.R_old (by (with_reducible repeat (first | apply Kd.R_alloc | apply Kd.R_drewN | apply Kd.R_drew)); exact (Kd.R_mono (Go.Proofs.YtaimfkfpglhijaaV.R_far8 (g := gb704) (Kd.R_types HO700.out BK704.out (by decide)) (fun _ hk => hk.2)) (fun _ h_ => h_.1))) hb) (Kd.R_base ho0)) (Kd.R_base ho1)) (fun _ h_ => h_.1)); replace BK690 := am_ (blk_below (g := gb690) (o := .cells #[.int .i64 t678, .int .i64 t679, .int .i64 t680, .bool t681, .slice Ao12 t682.length co12, .slice Ao13 t685.length co13, .int .i64 t688, .int .i64 t689] 41 (0, 0)) (by (with_reducible repeat (first | refine blk_drewN ?_ _ | refine blk_drew ?_ | refine blk_alloc ?_ _)); refine Go.Proofs.YtaimfkfpglhijaaV.blk_far8 ?_ NB690_704.out; exact qK BK690) hb); replace BK704 := am_ (blk_below (g := gb704) (o := .cells #[.int .i64 t691, .int .i64 t692, .int .i64 t693, .bool t694, .slice Ao18 t695.length co18, .slice Ao19 t698.length co19, .int .i64 t701, .int .i64 t702] 41 (0, 0)) (by (with_reducible repeat (first | refine blk_drewN ?_ _ | refine blk_drew ?_ | refine blk_alloc ?_ _)); refine Go.Proofs.YtaimfkfpglhijaaV.blk_all8 (show _ = some (Go.Obj.cells #[.int .i64 0, .int .i64 0, .int .i64 0, .bool false, .slice none 0 0, .slice none 0 0, .int .i64 0, .int .i64 0] _ (0, 0)) from ?_); exact qK BK704) hb); replace HB := am_ (below_step (qB HB) hb); (try clear hb); (try clear hb2); (try clear hk); (try clear hi); (try clear ho0); (try clear ho1)) | ((with_reducible refine gate_dst (N := 6) rfl ?_); (try (refine gate_guard (by rfl) ?_; dsimp only)); refine box_event ?hg (N := 6) ?hd (cs := #[.int .i64 0, .int .i64 0, .int .i64 0, .bool false, .slice none 0 0, .slice none 0 0, .int .i64 0, .int .i64 0]) (t := 41) ?hr ?_; (case hd => rfl); (case hg => rfl); (case hr => first | (go_simp; done) | (go_simp; rfl)); intro gb718 hg w22 hbox hb; replace HO684 := am_ (Kd.R_below (qR HO684) hb); replace HO687 := am_ (Kd.R_below (qR HO687) hb); replace HO697 := am_ (Kd.R_below (qR HO697) hb); replace HO700 := am_ (Kd.R_below (qR HO700) hb); replace HO711 := am_ (Kd.R_below (qR HO711) hb); replace HO714 := am_ (Kd.R_below (qR HO714) hb); have BK718 := am_ (hbox); have GW718 := am_ ((gG_ hg (qB HB))); have IGW718 := gI_ GW718; have GE718 := am_ ((gG_ hg (qB HB))); have IGE718 := gI_ GE718; replace HB := am_ (below_step (qB HB) hb); have NB690_718 := am_ ((gN_ hg (qK BK690))); have NB718_690 := am_ ((gM_ hg (qK BK690))); replace BK690 := am_ (blk_below (qK BK690) hb); have NB704_718 := am_ ((gN_ hg (qK BK704))); have NB718_704 := am_ ((gM_ hg (qK BK704))); replace BK704 := am_ (blk_below (qK BK704) hb); clear hb hbox hg; have hnb23 := NB718_690.out; have hnc23 := NB690_718.out; have hnb24 := NB718_704.out; have hnc24 := NB704_718.out; obtain ⟨z25_0, z25_1, z25_2, z25_3, z25_4, z25_5, z25_6, z25_7⟩ := cz8 BK718.out; obtain ⟨f25_0, f25_1, f25_2, f25_3, f25_4, f25_5, f25_6, f25_7⟩ := fz8 BK718.out; obtain ⟨Ao26, co26, eo26⟩ := Kd.R_slice HO711.out; subst eo26; obtain ⟨Ao27, co27, eo27⟩ := Kd.R_slice HO714.out; subst eo27))
  repeat (go_quiet (first | (go_at_call 24; (with_reducible refine (spec_DrawAnswer.calls k _ _ l0 t678 t679 t680 t681 t682 t685 t688 t689 _ ?side1 ?side2 A5.out).mono ?_); (case side1 => exact qC (Kd.C_below HR0.out HB.out)); (case side2 => exact HC0.out); rintro e w9 ⟨v683, v686, rfl, ho0, ho1, hb⟩; have HO684 := am_ (Kd.R_lower ho0 (below_size (qB HB))); have HO687 := am_ (Kd.R_lower ho1 (below_size (qB HB))); replace HB := am_ (below_step (qB HB) hb); (try clear hb); (try clear hb2); (try clear hk); (try clear hi); (try clear ho0); (try clear ho1)) | ((with_reducible refine gate_dst (N := 3) rfl ?_); (try (refine gate_guard (by rfl) ?_; dsimp only)); refine box_event ?hg (N := 3) ?hd (cs := #[.int .i64 0, .int .i64 0, .int .i64 0, .bool false, .slice none 0 0, .slice none 0 0, .int .i64 0, .int .i64 0]) (t := 41) ?hr ?_; (case hd => rfl); (case hg => rfl); (case hr => first | (go_simp; done) | (go_simp; rfl)); intro gb690 hg w10 hbox hb; replace HO684 := am_ (Kd.R_below (qR HO684) hb); replace HO687 := am_ (Kd.R_below (qR HO687) hb); have BK690 := am_ (hbox); have GW690 := am_ ((gG_ hg (qB HB))); have IGW690 := gI_ GW690; have GE690 := am_ ((gG_ hg (qB HB))); have IGE690 := gI_ GE690; replace HB := am_ (below_step (qB HB) hb); clear hb hbox hg; obtain ⟨z11_0, z11_1, z11_2, z11_3, z11_4, z11_5, z11_6, z11_7⟩ := cz8 BK690.out; obtain ⟨f11_0, f11_1, f11_2, f11_3, f11_4, f11_5, f11_6, f11_7⟩ := fz8 BK690.out; obtain ⟨Ao12, co12, eo12⟩ := Kd.R_slice HO684.out; subst eo12; obtain ⟨Ao13, co13, eo13⟩ := Kd.R_slice HO687.out; subst eo13) | (go_at_call 25; (with_reducible refine (impl_Answer.calls k t678 t679 t680 t681 _ _ t682 _ _ t685 t688 t689 t691 t692 t693 t694 t695 t698 t701 t702 t703 _ ?side1 ?side2 ?side3 ?side4 A6.out).mono ?_); (case side1 => refine (Kd.R_reads' (e := 5) (base := w.heap.size) (ok := fun k_ => some k_ ≠ (.slice Ao13 t685.length co13 : Value).ownBlock) (n := t682.length) (c := co12) ?_).2.2; exact (by (with_reducible repeat (first | apply Kd.R_alloc | apply Kd.R_drewN | apply Kd.R_drew)); exact (Kd.R_mono (Go.Proofs.YtaimfkfpglhijaaV.R_far8 (g := gb690) (Kd.R_types HO684.out BK690.out (by decide)) (fun _ hk => hk.2)) (fun _ h_ => h_.1)))); (case side2 => exact (Kd.R_reads' HO684.out).2.1); (case side3 => refine (Kd.R_reads' (e := 5) (base := w.heap.size) (ok := fun k_ => some k_ ≠ (.slice Ao12 t682.length co12 : Value).ownBlock) (n := t685.length) (c := co13) ?_).2.2; exact (by (with_reducible repeat (first | apply Kd.R_alloc | apply Kd.R_drewN | apply Kd.R_drew)); exact (Kd.R_mono (Go.Proofs.YtaimfkfpglhijaaV.R_far8 (g := gb690) (Kd.R_types HO687.out BK690.out (by decide)) (fun _ hk => hk.2)) (fun _ h_ => h_.1)))); (case side4 => exact (Kd.R_reads' HO687.out).2.1); rintro e w14 ⟨v696, v699, rfl, ho0, ho1, hb⟩; have HO697 := am_ (Kd.R_lower (Kd.R_new' (Kd.R_new' ho0 (Kd.R_lt (by (with_reducible repeat (first | apply Kd.R_alloc | apply Kd.R_drewN | apply Kd.R_drew)); exact (Kd.R_mono (Go.Proofs.YtaimfkfpglhijaaV.R_far8 (g := gb690) (Kd.R_types HO684.out BK690.out (by decide)) (fun _ hk => hk.2)) (fun _ h_ => h_.1))))) (Kd.R_lt (by (with_reducible repeat (first | apply Kd.R_alloc | apply Kd.R_drewN | apply Kd.R_drew)); exact (Kd.R_mono (Go.Proofs.YtaimfkfpglhijaaV.R_far8 (g := gb690) (Kd.R_types HO687.out BK690.out (by decide)) (fun _ hk => hk.2)) (fun _ h_ => h_.1))))) (below_size (qB HB))); have HO700 := am_ (Kd.R_lower (Kd.R_new' (Kd.R_new' ho1 (Kd.R_lt (by (with_reducible repeat (first | apply Kd.R_alloc | apply Kd.R_drewN | apply Kd.R_drew)); exact (Kd.R_mono (Go.Proofs.YtaimfkfpglhijaaV.R_far8 (g := gb690) (Kd.R_types HO684.out BK690.out (by decide)) (fun _ hk => hk.2)) (fun _ h_ => h_.1))))) (Kd.R_lt (by (with_reducible repeat (first | apply Kd.R_alloc | apply Kd.R_drewN | apply Kd.R_drew)); exact (Kd.R_mono (Go.Proofs.YtaimfkfpglhijaaV.R_far8 (g := gb690) (Kd.R_types HO687.out BK690.out (by decide)) (fun _ hk => hk.2)) (fun _ h_ => h_.1))))) (below_size (qB HB))); replace HO684 := am_ (Kd.R_mono (Kd.R_told (Kd.R_told (Kd.R_old (by (with_reducible repeat (first | apply Kd.R_alloc | apply Kd.R_drewN | apply Kd.R_drew)); exact (Kd.R_mono (Go.Proofs.YtaimfkfpglhijaaV.R_far8 (g := gb690) (Kd.R_types HO684.out BK690.out (by decide)) (fun _ hk => hk.2)) (fun _ h_ => h_.1))) hb) (Kd.R_base ho0)) (Kd.R_base ho1)) (fun _ h_ => h_.1)); replace HO687 := am_ (Kd.R_mono (Kd.R_told (Kd.R_told (Kd.R_old (by (with_reducible repeat (first | apply Kd.R_alloc | apply Kd.R_drewN | apply Kd.R_drew)); exact (Kd.R_mono (Go.Proofs.YtaimfkfpglhijaaV.R_far8 (g := gb690) (Kd.R_types HO687.out BK690.out (by decide)) (fun _ hk => hk.2)) (fun _ h_ => h_.1))) hb) (Kd.R_base ho0)) (Kd.R_base ho1)) (fun _ h_ => h_.1)); replace BK690 := am_ (blk_below (g := gb690) (o := .cells #[.int .i64 t678, .int .i64 t679, .int .i64 t680, .bool t681, .slice Ao12 t682.length co12, .slice Ao13 t685.length co13, .int .i64 t688, .int .i64 t689] 41 (0, 0)) (by (with_reducible repeat (first | refine blk_drewN ?_ _ | refine blk_drew ?_ | refine blk_alloc ?_ _)); refine Go.Proofs.YtaimfkfpglhijaaV.blk_all8 (show _ = some (Go.Obj.cells #[.int .i64 0, .int .i64 0, .int .i64 0, .bool false, .slice none 0 0, .slice none 0 0, .int .i64 0, .int .i64 0] _ (0, 0)) from ?_); exact qK BK690) hb); replace HB := am_ (below_step (qB HB) hb); (try clear hb); (try clear hb2); (try clear hk); (try clear hi); (try clear ho0); (try clear ho1)) | ((with_reducible refine gate_dst (N := 4) rfl ?_); (try (refine gate_guard (by rfl) ?_; dsimp only)); refine box_event ?hg (N := 4) ?hd (cs := #[.int .i64 0, .int .i64 0, .int .i64 0, .bool false, .slice none 0 0, .slice none 0 0, .int .i64 0, .int .i64 0]) (t := 41) ?hr ?_; (case hd => rfl); (case hg => rfl); (case hr => first | (go_simp; done) | (go_simp; rfl)); intro gb704 hg w15 hbox hb; replace HO684 := am_ (Kd.R_below (qR HO684) hb); replace HO687 := am_ (Kd.R_below (qR HO687) hb); replace HO697 := am_ (Kd.R_below (qR HO697) hb); replace HO700 := am_ (Kd.R_below (qR HO700) hb); have BK704 := am_ (hbox); have GW704 := am_ ((gG_ hg (qB HB))); have IGW704 := gI_ GW704; have GE704 := am_ ((gG_ hg (qB HB))); have IGE704 := gI_ GE704; replace HB := am_ (below_step (qB HB) hb); have NB690_704 := am_ ((gN_ hg (qK BK690))); have NB704_690 := am_ ((gM_ hg (qK BK690))); replace BK690 := am_ (blk_below (qK BK690) hb); clear hb hbox hg; have hnb16 := NB704_690.out; have hnc16 := NB690_704.out; obtain ⟨z17_0, z17_1, z17_2, z17_3, z17_4, z17_5, z17_6, z17_7⟩ := cz8 BK704.out; obtain ⟨f17_0, f17_1, f17_2, f17_3, f17_4, f17_5, f17_6, f17_7⟩ := fz8 BK704.out; obtain ⟨Ao18, co18, eo18⟩ := Kd.R_slice HO697.out; subst eo18; obtain ⟨Ao19, co19, eo19⟩ := Kd.R_slice HO700.out; subst eo19; obtain ⟨z20_0, z20_1, z20_2, z20_3, z20_4, z20_5, z20_6, z20_7⟩ := cz8 BK690.out; obtain ⟨f20_0, f20_1, f20_2, f20_3, f20_4, f20_5, f20_6, f20_7⟩ := fz8 BK690.out) | (go_at_call 26; (with_reducible refine (spec_Answer.calls k t678 t679 t680 t681 _ _ t682 _ _ t685 t688 t689 t705 t706 t707 t708 t709 t712 t715 t716 t717 _ ?side1 ?side2 ?side3 ?side4 A7.out).mono ?_); (case side1 => refine (Kd.R_reads' (e := 5) (base := w.heap.size) (ok := fun k_ => ((some k_ ≠ (.slice Ao13 t685.length co13 : Value).ownBlock ∧ some k_ ≠ (.slice Ao18 t695.length co18 : Value).ownBlock) ∧ some k_ ≠ (.slice Ao19 t698.length co19 : Value).ownBlock)) (n := t682.length) (c := co12) ?_).2.2; exact (by (with_reducible repeat (first | apply Kd.R_alloc | apply Kd.R_drewN | apply Kd.R_drew)); exact (Kd.R_mono (Go.Proofs.YtaimfkfpglhijaaV.R_far8 (g := gb704) (Kd.R_types HO684.out BK704.out (by decide)) (fun _ hk => hk.2)) (fun _ h_ => h_.1)))); (case side2 => exact (Kd.R_reads' HO684.out).2.1); (case side3 => refine (Kd.R_reads' (e := 5) (base := w.heap.size) (ok := fun k_ => ((some k_ ≠ (.slice Ao12 t682.length co12 : Value).ownBlock ∧ some k_ ≠ (.slice Ao18 t695.length co18 : Value).ownBlock) ∧ some k_ ≠ (.slice Ao19 t698.length co19 : Value).ownBlock)) (n := t685.length) (c := co13) ?_).2.2; exact (by (with_reducible repeat (first | apply Kd.R_alloc | apply Kd.R_drewN | apply Kd.R_drew)); exact (Kd.R_mono (Go.Proofs.YtaimfkfpglhijaaV.R_far8 (g := gb704) (Kd.R_types HO687.out BK704.out (by decide)) (fun _ hk => hk.2)) (fun _ h_ => h_.1)))); (case side4 => exact (Kd.R_reads' HO687.out).2.1); rintro e w21 ⟨v710, v713, rfl, ho0, ho1, hb⟩; have HO711 := am_ (Kd.R_lower (Kd.R_new' (Kd.R_new' (Kd.R_new' (Kd.R_new' ho0 (Kd.R_lt (by (with_reducible repeat (first | apply Kd.R_alloc | apply Kd.R_drewN | apply Kd.R_drew)); exact (Kd.R_mono (Go.Proofs.YtaimfkfpglhijaaV.R_far8 (g := gb704) (Kd.R_types HO684.out BK704.out (by decide)) (fun _ hk => hk.2)) (fun _ h_ => h_.1))))) (Kd.R_lt (by (with_reducible repeat (first | apply Kd.R_alloc | apply Kd.R_drewN | apply Kd.R_drew)); exact (Kd.R_mono (Go.Proofs.YtaimfkfpglhijaaV.R_far8 (g := gb704) (Kd.R_types HO687.out BK704.out (by decide)) (fun _ hk => hk.2)) (fun _ h_ => h_.1))))) (Kd.R_lt (by (with_reducible repeat (first | apply Kd.R_alloc | apply Kd.R_drewN | apply Kd.R_drew)); exact (Kd.R_mono (Go.Proofs.YtaimfkfpglhijaaV.R_far8 (g := gb704) (Kd.R_types HO697.out BK704.out (by decide)) (fun _ hk => hk.2)) (fun _ h_ => h_.1))))) (Kd.R_lt (by (with_reducible repeat (first | apply Kd.R_alloc | apply Kd.R_drewN | apply Kd.R_drew)); exact (Kd.R_mono (Go.Proofs.YtaimfkfpglhijaaV.R_far8 (g := gb704) (Kd.R_types HO700.out BK704.out (by decide)) (fun _ hk => hk.2)) (fun _ h_ => h_.1))))) (below_size (qB HB))); have HO714 := am_ (Kd.R_lower (Kd.R_new' (Kd.R_new' (Kd.R_new' (Kd.R_new' ho1 (Kd.R_lt (by (with_reducible repeat (first | apply Kd.R_alloc | apply Kd.R_drewN | apply Kd.R_drew)); exact (Kd.R_mono (Go.Proofs.YtaimfkfpglhijaaV.R_far8 (g := gb704) (Kd.R_types HO684.out BK704.out (by decide)) (fun _ hk => hk.2)) (fun _ h_ => h_.1))))) (Kd.R_lt (by (with_reducible repeat (first | apply Kd.R_alloc | apply Kd.R_drewN | apply Kd.R_drew)); exact (Kd.R_mono (Go.Proofs.YtaimfkfpglhijaaV.R_far8 (g := gb704) (Kd.R_types HO687.out BK704.out (by decide)) (fun _ hk => hk.2)) (fun _ h_ => h_.1))))) (Kd.R_lt (by (with_reducible repeat (first | apply Kd.R_alloc | apply Kd.R_drewN | apply Kd.R_drew)); exact (Kd.R_mono (Go.Proofs.YtaimfkfpglhijaaV.R_far8 (g := gb704) (Kd.R_types HO697.out BK704.out (by decide)) (fun _ hk => hk.2)) (fun _ h_ => h_.1))))) (Kd.R_lt (by (with_reducible repeat (first | apply Kd.R_alloc | apply Kd.R_drewN | apply Kd.R_drew)); exact (Kd.R_mono (Go.Proofs.YtaimfkfpglhijaaV.R_far8 (g := gb704) (Kd.R_types HO700.out BK704.out (by decide)) (fun _ hk => hk.2)) (fun _ h_ => h_.1))))) (below_size (qB HB))); replace HO684 := am_ (Kd.R_mono (Kd.R_told (Kd.R_told (Kd.R_old (by (with_reducible repeat (first | apply Kd.R_alloc | apply Kd.R_drewN | apply Kd.R_drew)); exact (Kd.R_mono (Go.Proofs.YtaimfkfpglhijaaV.R_far8 (g := gb704) (Kd.R_types HO684.out BK704.out (by decide)) (fun _ hk => hk.2)) (fun _ h_ => h_.1))) hb) (Kd.R_base ho0)) (Kd.R_base ho1)) (fun _ h_ => h_.1)); replace HO687 := am_ (Kd.R_mono (Kd.R_told (Kd.R_told (Kd.R_old (by (with_reducible repeat (first | apply Kd.R_alloc | apply Kd.R_drewN | apply Kd.R_drew)); exact (Kd.R_mono (Go.Proofs.YtaimfkfpglhijaaV.R_far8 (g := gb704) (Kd.R_types HO687.out BK704.out (by decide)) (fun _ hk => hk.2)) (fun _ h_ => h_.1))) hb) (Kd.R_base ho0)) (Kd.R_base ho1)) (fun _ h_ => h_.1)); replace HO697 := am_ (Kd.R_mono (Kd.R_told (Kd.R_told (Kd.R_old (by (with_reducible repeat (first | apply Kd.R_alloc | apply Kd.R_drewN | apply Kd.R_drew)); exact (Kd.R_mono (Go.Proofs.YtaimfkfpglhijaaV.R_far8 (g := gb704) (Kd.R_types HO697.out BK704.out (by decide)) (fun _ hk => hk.2)) (fun _ h_ => h_.1))) hb) (Kd.R_base ho0)) (Kd.R_base ho1)) (fun _ h_ => h_.1)); replace HO700 := am_ (Kd.R_mono (Kd.R_told (Kd.R_told (Kd.R_old (by (with_reducible repeat (first | apply Kd.R_alloc | apply Kd.R_drewN | apply Kd.R_drew)); exact (Kd.R_mono (Go.Proofs.YtaimfkfpglhijaaV.R_far8 (g := gb704) (Kd.R_types HO700.out BK704.out (by decide)) (fun _ hk => hk.2)) (fun _ h_ => h_.1))) hb) (Kd.R_base ho0)) (Kd.R_base ho1)) (fun _ h_ => h_.1)); replace BK690 := am_ (blk_below (g := gb690) (o := .cells #[.int .i64 t678, .int .i64 t679, .int .i64 t680, .bool t681, .slice Ao12 t682.length co12, .slice Ao13 t685.length co13, .int .i64 t688, .int .i64 t689] 41 (0, 0)) (by (with_reducible repeat (first | refine blk_drewN ?_ _ | refine blk_drew ?_ | refine blk_alloc ?_ _)); refine Go.Proofs.YtaimfkfpglhijaaV.blk_far8 ?_ NB690_704.out; exact qK BK690) hb); replace BK704 := am_ (blk_below (g := gb704) (o := .cells #[.int .i64 t691, .int .i64 t692, .int .i64 t693, .bool t694, .slice Ao18 t695.length co18, .slice Ao19 t698.length co19, .int .i64 t701, .int .i64 t702] 41 (0, 0)) (by (with_reducible repeat (first | refine blk_drewN ?_ _ | refine blk_drew ?_ | refine blk_alloc ?_ _)); refine Go.Proofs.YtaimfkfpglhijaaV.blk_all8 (show _ = some (Go.Obj.cells #[.int .i64 0, .int .i64 0, .int .i64 0, .bool false, .slice none 0 0, .slice none 0 0, .int .i64 0, .int .i64 0] _ (0, 0)) from ?_); exact qK BK704) hb); replace HB := am_ (below_step (qB HB) hb); (try clear hb); (try clear hb2); (try clear hk); (try clear hi); (try clear ho0); (try clear ho1)) | ((with_reducible refine gate_dst (N := 6) rfl ?_); (try (refine gate_guard (by rfl) ?_; dsimp only)); refine box_event ?hg (N := 6) ?hd (cs := #[.int .i64 0, .int .i64 0, .int .i64 0, .bool false, .slice none 0 0, .slice none 0 0, .int .i64 0, .int .i64 0]) (t := 41) ?hr ?_; (case hd => rfl); (case hg => rfl); (case hr => first | (go_simp; done) | (go_simp; rfl)); intro gb718 hg w22 hbox hb; replace HO684 := am_ (Kd.R_below (qR HO684) hb); replace HO687 := am_ (Kd.R_below (qR HO687) hb); replace HO697 := am_ (Kd.R_below (qR HO697) hb); replace HO700 := am_ (Kd.R_below (qR HO700) hb); replace HO711 := am_ (Kd.R_below (qR HO711) hb); replace HO714 := am_ (Kd.R_below (qR HO714) hb); have BK718 := am_ (hbox); have GW718 := am_ ((gG_ hg (qB HB))); have IGW718 := gI_ GW718; have GE718 := am_ ((gG_ hg (qB HB))); have IGE718 := gI_ GE718; replace HB := am_ (below_step (qB HB) hb); have NB690_718 := am_ ((gN_ hg (qK BK690))); have NB718_690 := am_ ((gM_ hg (qK BK690))); replace BK690 := am_ (blk_below (qK BK690) hb); have NB704_718 := am_ ((gN_ hg (qK BK704))); have NB718_704 := am_ ((gM_ hg (qK BK704))); replace BK704 := am_ (blk_below (qK BK704) hb); clear hb hbox hg; have hnb23 := NB718_690.out; have hnc23 := NB690_718.out; have hnb24 := NB718_704.out; have hnc24 := NB704_718.out; obtain ⟨z25_0, z25_1, z25_2, z25_3, z25_4, z25_5, z25_6, z25_7⟩ := cz8 BK718.out; obtain ⟨f25_0, f25_1, f25_2, f25_3, f25_4, f25_5, f25_6, f25_7⟩ := fz8 BK718.out; obtain ⟨Ao26, co26, eo26⟩ := Kd.R_slice HO711.out; subst eo26; obtain ⟨Ao27, co27, eo27⟩ := Kd.R_slice HO714.out; subst eo27)); go_upto_region 6 with (first | (go_at_call 24; (with_reducible refine (spec_DrawAnswer.calls k _ _ l0 t678 t679 t680 t681 t682 t685 t688 t689 _ ?side1 ?side2 A5.out).mono ?_); (case side1 => exact qC (Kd.C_below HR0.out HB.out)); (case side2 => exact HC0.out); rintro e w9 ⟨v683, v686, rfl, ho0, ho1, hb⟩; have HO684 := am_ (Kd.R_lower ho0 (below_size (qB HB))); have HO687 := am_ (Kd.R_lower ho1 (below_size (qB HB))); replace HB := am_ (below_step (qB HB) hb); (try clear hb); (try clear hb2); (try clear hk); (try clear hi); (try clear ho0); (try clear ho1)) | ((with_reducible refine gate_dst (N := 3) rfl ?_); (try (refine gate_guard (by rfl) ?_; dsimp only)); refine box_event ?hg (N := 3) ?hd (cs := #[.int .i64 0, .int .i64 0, .int .i64 0, .bool false, .slice none 0 0, .slice none 0 0, .int .i64 0, .int .i64 0]) (t := 41) ?hr ?_; (case hd => rfl); (case hg => rfl); (case hr => first | (go_simp; done) | (go_simp; rfl)); intro gb690 hg w10 hbox hb; replace HO684 := am_ (Kd.R_below (qR HO684) hb); replace HO687 := am_ (Kd.R_below (qR HO687) hb); have BK690 := am_ (hbox); have GW690 := am_ ((gG_ hg (qB HB))); have IGW690 := gI_ GW690; have GE690 := am_ ((gG_ hg (qB HB))); have IGE690 := gI_ GE690; replace HB := am_ (below_step (qB HB) hb); clear hb hbox hg; obtain ⟨z11_0, z11_1, z11_2, z11_3, z11_4, z11_5, z11_6, z11_7⟩ := cz8 BK690.out; obtain ⟨f11_0, f11_1, f11_2, f11_3, f11_4, f11_5, f11_6, f11_7⟩ := fz8 BK690.out; obtain ⟨Ao12, co12, eo12⟩ := Kd.R_slice HO684.out; subst eo12; obtain ⟨Ao13, co13, eo13⟩ := Kd.R_slice HO687.out; subst eo13) | (go_at_call 25; (with_reducible refine (impl_Answer.calls k t678 t679 t680 t681 _ _ t682 _ _ t685 t688 t689 t691 t692 t693 t694 t695 t698 t701 t702 t703 _ ?side1 ?side2 ?side3 ?side4 A6.out).mono ?_); (case side1 => refine (Kd.R_reads' (e := 5) (base := w.heap.size) (ok := fun k_ => some k_ ≠ (.slice Ao13 t685.length co13 : Value).ownBlock) (n := t682.length) (c := co12) ?_).2.2; exact (by (with_reducible repeat (first | apply Kd.R_alloc | apply Kd.R_drewN | apply Kd.R_drew)); exact (Kd.R_mono (Go.Proofs.YtaimfkfpglhijaaV.R_far8 (g := gb690) (Kd.R_types HO684.out BK690.out (by decide)) (fun _ hk => hk.2)) (fun _ h_ => h_.1)))); (case side2 => exact (Kd.R_reads' HO684.out).2.1); (case side3 => refine (Kd.R_reads' (e := 5) (base := w.heap.size) (ok := fun k_ => some k_ ≠ (.slice Ao12 t682.length co12 : Value).ownBlock) (n := t685.length) (c := co13) ?_).2.2; exact (by (with_reducible repeat (first | apply Kd.R_alloc | apply Kd.R_drewN | apply Kd.R_drew)); exact (Kd.R_mono (Go.Proofs.YtaimfkfpglhijaaV.R_far8 (g := gb690) (Kd.R_types HO687.out BK690.out (by decide)) (fun _ hk => hk.2)) (fun _ h_ => h_.1)))); (case side4 => exact (Kd.R_reads' HO687.out).2.1); rintro e w14 ⟨v696, v699, rfl, ho0, ho1, hb⟩; have HO697 := am_ (Kd.R_lower (Kd.R_new' (Kd.R_new' ho0 (Kd.R_lt (by (with_reducible repeat (first | apply Kd.R_alloc | apply Kd.R_drewN | apply Kd.R_drew)); exact (Kd.R_mono (Go.Proofs.YtaimfkfpglhijaaV.R_far8 (g := gb690) (Kd.R_types HO684.out BK690.out (by decide)) (fun _ hk => hk.2)) (fun _ h_ => h_.1))))) (Kd.R_lt (by (with_reducible repeat (first | apply Kd.R_alloc | apply Kd.R_drewN | apply Kd.R_drew)); exact (Kd.R_mono (Go.Proofs.YtaimfkfpglhijaaV.R_far8 (g := gb690) (Kd.R_types HO687.out BK690.out (by decide)) (fun _ hk => hk.2)) (fun _ h_ => h_.1))))) (below_size (qB HB))); have HO700 := am_ (Kd.R_lower (Kd.R_new' (Kd.R_new' ho1 (Kd.R_lt (by (with_reducible repeat (first | apply Kd.R_alloc | apply Kd.R_drewN | apply Kd.R_drew)); exact (Kd.R_mono (Go.Proofs.YtaimfkfpglhijaaV.R_far8 (g := gb690) (Kd.R_types HO684.out BK690.out (by decide)) (fun _ hk => hk.2)) (fun _ h_ => h_.1))))) (Kd.R_lt (by (with_reducible repeat (first | apply Kd.R_alloc | apply Kd.R_drewN | apply Kd.R_drew)); exact (Kd.R_mono (Go.Proofs.YtaimfkfpglhijaaV.R_far8 (g := gb690) (Kd.R_types HO687.out BK690.out (by decide)) (fun _ hk => hk.2)) (fun _ h_ => h_.1))))) (below_size (qB HB))); replace HO684 := am_ (Kd.R_mono (Kd.R_told (Kd.R_told (Kd.R_old (by (with_reducible repeat (first | apply Kd.R_alloc | apply Kd.R_drewN | apply Kd.R_drew)); exact (Kd.R_mono (Go.Proofs.YtaimfkfpglhijaaV.R_far8 (g := gb690) (Kd.R_types HO684.out BK690.out (by decide)) (fun _ hk => hk.2)) (fun _ h_ => h_.1))) hb) (Kd.R_base ho0)) (Kd.R_base ho1)) (fun _ h_ => h_.1)); replace HO687 := am_ (Kd.R_mono (Kd.R_told (Kd.R_told (Kd.R_old (by (with_reducible repeat (first | apply Kd.R_alloc | apply Kd.R_drewN | apply Kd.R_drew)); exact (Kd.R_mono (Go.Proofs.YtaimfkfpglhijaaV.R_far8 (g := gb690) (Kd.R_types HO687.out BK690.out (by decide)) (fun _ hk => hk.2)) (fun _ h_ => h_.1))) hb) (Kd.R_base ho0)) (Kd.R_base ho1)) (fun _ h_ => h_.1)); replace BK690 := am_ (blk_below (g := gb690) (o := .cells #[.int .i64 t678, .int .i64 t679, .int .i64 t680, .bool t681, .slice Ao12 t682.length co12, .slice Ao13 t685.length co13, .int .i64 t688, .int .i64 t689] 41 (0, 0)) (by (with_reducible repeat (first | refine blk_drewN ?_ _ | refine blk_drew ?_ | refine blk_alloc ?_ _)); refine Go.Proofs.YtaimfkfpglhijaaV.blk_all8 (show _ = some (Go.Obj.cells #[.int .i64 0, .int .i64 0, .int .i64 0, .bool false, .slice none 0 0, .slice none 0 0, .int .i64 0, .int .i64 0] _ (0, 0)) from ?_); exact qK BK690) hb); replace HB := am_ (below_step (qB HB) hb); (try clear hb); (try clear hb2); (try clear hk); (try clear hi); (try clear ho0); (try clear ho1)) | ((with_reducible refine gate_dst (N := 4) rfl ?_); (try (refine gate_guard (by rfl) ?_; dsimp only)); refine box_event ?hg (N := 4) ?hd (cs := #[.int .i64 0, .int .i64 0, .int .i64 0, .bool false, .slice none 0 0, .slice none 0 0, .int .i64 0, .int .i64 0]) (t := 41) ?hr ?_; (case hd => rfl); (case hg => rfl); (case hr => first | (go_simp; done) | (go_simp; rfl)); intro gb704 hg w15 hbox hb; replace HO684 := am_ (Kd.R_below (qR HO684) hb); replace HO687 := am_ (Kd.R_below (qR HO687) hb); replace HO697 := am_ (Kd.R_below (qR HO697) hb); replace HO700 := am_ (Kd.R_below (qR HO700) hb); have BK704 := am_ (hbox); have GW704 := am_ ((gG_ hg (qB HB))); have IGW704 := gI_ GW704; have GE704 := am_ ((gG_ hg (qB HB))); have IGE704 := gI_ GE704; replace HB := am_ (below_step (qB HB) hb); have NB690_704 := am_ ((gN_ hg (qK BK690))); have NB704_690 := am_ ((gM_ hg (qK BK690))); replace BK690 := am_ (blk_below (qK BK690) hb); clear hb hbox hg; have hnb16 := NB704_690.out; have hnc16 := NB690_704.out; obtain ⟨z17_0, z17_1, z17_2, z17_3, z17_4, z17_5, z17_6, z17_7⟩ := cz8 BK704.out; obtain ⟨f17_0, f17_1, f17_2, f17_3, f17_4, f17_5, f17_6, f17_7⟩ := fz8 BK704.out; obtain ⟨Ao18, co18, eo18⟩ := Kd.R_slice HO697.out; subst eo18; obtain ⟨Ao19, co19, eo19⟩ := Kd.R_slice HO700.out; subst eo19; obtain ⟨z20_0, z20_1, z20_2, z20_3, z20_4, z20_5, z20_6, z20_7⟩ := cz8 BK690.out; obtain ⟨f20_0, f20_1, f20_2, f20_3, f20_4, f20_5, f20_6, f20_7⟩ := fz8 BK690.out) | (go_at_call 26; (with_reducible refine (spec_Answer.calls k t678 t679 t680 t681 _ _ t682 _ _ t685 t688 t689 t705 t706 t707 t708 t709 t712 t715 t716 t717 _ ?side1 ?side2 ?side3 ?side4 A7.out).mono ?_); (case side1 => refine (Kd.R_reads' (e := 5) (base := w.heap.size) (ok := fun k_ => ((some k_ ≠ (.slice Ao13 t685.length co13 : Value).ownBlock ∧ some k_ ≠ (.slice Ao18 t695.length co18 : Value).ownBlock) ∧ some k_ ≠ (.slice Ao19 t698.length co19 : Value).ownBlock)) (n := t682.length) (c := co12) ?_).2.2; exact (by (with_reducible repeat (first | apply Kd.R_alloc | apply Kd.R_drewN | apply Kd.R_drew)); exact (Kd.R_mono (Go.Proofs.YtaimfkfpglhijaaV.R_far8 (g := gb704) (Kd.R_types HO684.out BK704.out (by decide)) (fun _ hk => hk.2)) (fun _ h_ => h_.1)))); (case side2 => exact (Kd.R_reads' HO684.out).2.1); (case side3 => refine (Kd.R_reads' (e := 5) (base := w.heap.size) (ok := fun k_ => ((some k_ ≠ (.slice Ao12 t682.length co12 : Value).ownBlock ∧ some k_ ≠ (.slice Ao18 t695.length co18 : Value).ownBlock) ∧ some k_ ≠ (.slice Ao19 t698.length co19 : Value).ownBlock)) (n := t685.length) (c := co13) ?_).2.2; exact (by (with_reducible repeat (first | apply Kd.R_alloc | apply Kd.R_drewN | apply Kd.R_drew)); exact (Kd.R_mono (Go.Proofs.YtaimfkfpglhijaaV.R_far8 (g := gb704) (Kd.R_types HO687.out BK704.out (by decide)) (fun _ hk => hk.2)) (fun _ h_ => h_.1)))); (case side4 => exact (Kd.R_reads' HO687.out).2.1); rintro e w21 ⟨v710, v713, rfl, ho0, ho1, hb⟩; have HO711 := am_ (Kd.R_lower (Kd.R_new' (Kd.R_new' (Kd.R_new' (Kd.R_new' ho0 (Kd.R_lt (by (with_reducible repeat (first | apply Kd.R_alloc | apply Kd.R_drewN | apply Kd.R_drew)); exact (Kd.R_mono (Go.Proofs.YtaimfkfpglhijaaV.R_far8 (g := gb704) (Kd.R_types HO684.out BK704.out (by decide)) (fun _ hk => hk.2)) (fun _ h_ => h_.1))))) (Kd.R_lt (by (with_reducible repeat (first | apply Kd.R_alloc | apply Kd.R_drewN | apply Kd.R_drew)); exact (Kd.R_mono (Go.Proofs.YtaimfkfpglhijaaV.R_far8 (g := gb704) (Kd.R_types HO687.out BK704.out (by decide)) (fun _ hk => hk.2)) (fun _ h_ => h_.1))))) (Kd.R_lt (by (with_reducible repeat (first | apply Kd.R_alloc | apply Kd.R_drewN | apply Kd.R_drew)); exact (Kd.R_mono (Go.Proofs.YtaimfkfpglhijaaV.R_far8 (g := gb704) (Kd.R_types HO697.out BK704.out (by decide)) (fun _ hk => hk.2)) (fun _ h_ => h_.1))))) (Kd.R_lt (by (with_reducible repeat (first | apply Kd.R_alloc | apply Kd.R_drewN | apply Kd.R_drew)); exact (Kd.R_mono (Go.Proofs.YtaimfkfpglhijaaV.R_far8 (g := gb704) (Kd.R_types HO700.out BK704.out (by decide)) (fun _ hk => hk.2)) (fun _ h_ => h_.1))))) (below_size (qB HB))); have HO714 := am_ (Kd.R_lower (Kd.R_new' (Kd.R_new' (Kd.R_new' (Kd.R_new' ho1 (Kd.R_lt (by (with_reducible repeat (first | apply Kd.R_alloc | apply Kd.R_drewN | apply Kd.R_drew)); exact (Kd.R_mono (Go.Proofs.YtaimfkfpglhijaaV.R_far8 (g := gb704) (Kd.R_types HO684.out BK704.out (by decide)) (fun _ hk => hk.2)) (fun _ h_ => h_.1))))) (Kd.R_lt (by (with_reducible repeat (first | apply Kd.R_alloc | apply Kd.R_drewN | apply Kd.R_drew)); exact (Kd.R_mono (Go.Proofs.YtaimfkfpglhijaaV.R_far8 (g := gb704) (Kd.R_types HO687.out BK704.out (by decide)) (fun _ hk => hk.2)) (fun _ h_ => h_.1))))) (Kd.R_lt (by (with_reducible repeat (first | apply Kd.R_alloc | apply Kd.R_drewN | apply Kd.R_drew)); exact (Kd.R_mono (Go.Proofs.YtaimfkfpglhijaaV.R_far8 (g := gb704) (Kd.R_types HO697.out BK704.out (by decide)) (fun _ hk => hk.2)) (fun _ h_ => h_.1))))) (Kd.R_lt (by (with_reducible repeat (first | apply Kd.R_alloc | apply Kd.R_drewN | apply Kd.R_drew)); exact (Kd.R_mono (Go.Proofs.YtaimfkfpglhijaaV.R_far8 (g := gb704) (Kd.R_types HO700.out BK704.out (by decide)) (fun _ hk => hk.2)) (fun _ h_ => h_.1))))) (below_size (qB HB))); replace HO684 := am_ (Kd.R_mono (Kd.R_told (Kd.R_told (Kd.R_old (by (with_reducible repeat (first | apply Kd.R_alloc | apply Kd.R_drewN | apply Kd.R_drew)); exact (Kd.R_mono (Go.Proofs.YtaimfkfpglhijaaV.R_far8 (g := gb704) (Kd.R_types HO684.out BK704.out (by decide)) (fun _ hk => hk.2)) (fun _ h_ => h_.1))) hb) (Kd.R_base ho0)) (Kd.R_base ho1)) (fun _ h_ => h_.1)); replace HO687 := am_ (Kd.R_mono (Kd.R_told (Kd.R_told (Kd.R_old (by (with_reducible repeat (first | apply Kd.R_alloc | apply Kd.R_drewN | apply Kd.R_drew)); exact (Kd.R_mono (Go.Proofs.YtaimfkfpglhijaaV.R_far8 (g := gb704) (Kd.R_types HO687.out BK704.out (by decide)) (fun _ hk => hk.2)) (fun _ h_ => h_.1))) hb) (Kd.R_base ho0)) (Kd.R_base ho1)) (fun _ h_ => h_.1)); replace HO697 := am_ (Kd.R_mono (Kd.R_told (Kd.R_told (Kd.R_old (by (with_reducible repeat (first | apply Kd.R_alloc | apply Kd.R_drewN | apply Kd.R_drew)); exact (Kd.R_mono (Go.Proofs.YtaimfkfpglhijaaV.R_far8 (g := gb704) (Kd.R_types HO697.out BK704.out (by decide)) (fun _ hk => hk.2)) (fun _ h_ => h_.1))) hb) (Kd.R_base ho0)) (Kd.R_base ho1)) (fun _ h_ => h_.1)); replace HO700 := am_ (Kd.R_mono (Kd.R_told (Kd.R_told (Kd.R_old (by (with_reducible repeat (first | apply Kd.R_alloc | apply Kd.R_drewN | apply Kd.R_drew)); exact (Kd.R_mono (Go.Proofs.YtaimfkfpglhijaaV.R_far8 (g := gb704) (Kd.R_types HO700.out BK704.out (by decide)) (fun _ hk => hk.2)) (fun _ h_ => h_.1))) hb) (Kd.R_base ho0)) (Kd.R_base ho1)) (fun _ h_ => h_.1)); replace BK690 := am_ (blk_below (g := gb690) (o := .cells #[.int .i64 t678, .int .i64 t679, .int .i64 t680, .bool t681, .slice Ao12 t682.length co12, .slice Ao13 t685.length co13, .int .i64 t688, .int .i64 t689] 41 (0, 0)) (by (with_reducible repeat (first | refine blk_drewN ?_ _ | refine blk_drew ?_ | refine blk_alloc ?_ _)); refine Go.Proofs.YtaimfkfpglhijaaV.blk_far8 ?_ NB690_704.out; exact qK BK690) hb); replace BK704 := am_ (blk_below (g := gb704) (o := .cells #[.int .i64 t691, .int .i64 t692, .int .i64 t693, .bool t694, .slice Ao18 t695.length co18, .slice Ao19 t698.length co19, .int .i64 t701, .int .i64 t702] 41 (0, 0)) (by (with_reducible repeat (first | refine blk_drewN ?_ _ | refine blk_drew ?_ | refine blk_alloc ?_ _)); refine Go.Proofs.YtaimfkfpglhijaaV.blk_all8 (show _ = some (Go.Obj.cells #[.int .i64 0, .int .i64 0, .int .i64 0, .bool false, .slice none 0 0, .slice none 0 0, .int .i64 0, .int .i64 0] _ (0, 0)) from ?_); exact qK BK704) hb); replace HB := am_ (below_step (qB HB) hb); (try clear hb); (try clear hb2); (try clear hk); (try clear hi); (try clear ho0); (try clear ho1)) | ((with_reducible refine gate_dst (N := 6) rfl ?_); (try (refine gate_guard (by rfl) ?_; dsimp only)); refine box_event ?hg (N := 6) ?hd (cs := #[.int .i64 0, .int .i64 0, .int .i64 0, .bool false, .slice none 0 0, .slice none 0 0, .int .i64 0, .int .i64 0]) (t := 41) ?hr ?_; (case hd => rfl); (case hg => rfl); (case hr => first | (go_simp; done) | (go_simp; rfl)); intro gb718 hg w22 hbox hb; replace HO684 := am_ (Kd.R_below (qR HO684) hb); replace HO687 := am_ (Kd.R_below (qR HO687) hb); replace HO697 := am_ (Kd.R_below (qR HO697) hb); replace HO700 := am_ (Kd.R_below (qR HO700) hb); replace HO711 := am_ (Kd.R_below (qR HO711) hb); replace HO714 := am_ (Kd.R_below (qR HO714) hb); have BK718 := am_ (hbox); have GW718 := am_ ((gG_ hg (qB HB))); have IGW718 := gI_ GW718; have GE718 := am_ ((gG_ hg (qB HB))); have IGE718 := gI_ GE718; replace HB := am_ (below_step (qB HB) hb); have NB690_718 := am_ ((gN_ hg (qK BK690))); have NB718_690 := am_ ((gM_ hg (qK BK690))); replace BK690 := am_ (blk_below (qK BK690) hb); have NB704_718 := am_ ((gN_ hg (qK BK704))); have NB718_704 := am_ ((gM_ hg (qK BK704))); replace BK704 := am_ (blk_below (qK BK704) hb); clear hb hbox hg; have hnb23 := NB718_690.out; have hnc23 := NB690_718.out; have hnb24 := NB718_704.out; have hnc24 := NB704_718.out; obtain ⟨z25_0, z25_1, z25_2, z25_3, z25_4, z25_5, z25_6, z25_7⟩ := cz8 BK718.out; obtain ⟨f25_0, f25_1, f25_2, f25_3, f25_4, f25_5, f25_6, f25_7⟩ := fz8 BK718.out; obtain ⟨Ao26, co26, eo26⟩ := Kd.R_slice HO711.out; subst eo26; obtain ⟨Ao27, co27, eo27⟩ := Kd.R_slice HO714.out; subst eo27)))
  (try simp only [Act.put, List.setIfInBounds_toArray, List.set_cons_zero, List.set_cons_succ])
  go_cut [35] (fun v35 wc => ∃ (kq : Nat) (x35_7 : Bool), v35 = .bool x35_7 ∧ Aside0 (laws_FnFar.j0 kq t703 x35_7 t678 t679 t680 t681 t682 t685 t688 t689 t691 t692 t693 t694 t695 t698 t701 t702 = some r) ∧ Aside0 (kq ≤ k) ∧ Aside0 (Kd.R (Kd.int .u8) 5 wc w.heap.size (fun k_ => some k_ ≠ ((.slice Ao13 t685.length co13) : Value).ownBlock ∧ some k_ ≠ ((.slice Ao18 t695.length co18) : Value).ownBlock ∧ some k_ ≠ ((.slice Ao19 t698.length co19) : Value).ownBlock ∧ some k_ ≠ ((.slice Ao26 t709.length co26) : Value).ownBlock ∧ some k_ ≠ ((.slice Ao27 t712.length co27) : Value).ownBlock) (.slice Ao12 t682.length co12) t682) ∧ Aside0 (Kd.R (Kd.int .u8) 5 wc w.heap.size (fun k_ => some k_ ≠ ((.slice Ao12 t682.length co12) : Value).ownBlock ∧ some k_ ≠ ((.slice Ao18 t695.length co18) : Value).ownBlock ∧ some k_ ≠ ((.slice Ao19 t698.length co19) : Value).ownBlock ∧ some k_ ≠ ((.slice Ao26 t709.length co26) : Value).ownBlock ∧ some k_ ≠ ((.slice Ao27 t712.length co27) : Value).ownBlock) (.slice Ao13 t685.length co13) t685) ∧ Aside0 (Kd.R (Kd.int .u8) 5 wc w.heap.size (fun k_ => some k_ ≠ ((.slice Ao12 t682.length co12) : Value).ownBlock ∧ some k_ ≠ ((.slice Ao13 t685.length co13) : Value).ownBlock ∧ some k_ ≠ ((.slice Ao19 t698.length co19) : Value).ownBlock ∧ some k_ ≠ ((.slice Ao26 t709.length co26) : Value).ownBlock ∧ some k_ ≠ ((.slice Ao27 t712.length co27) : Value).ownBlock) (.slice Ao18 t695.length co18) t695) ∧ Aside0 (Kd.R (Kd.int .u8) 5 wc w.heap.size (fun k_ => some k_ ≠ ((.slice Ao12 t682.length co12) : Value).ownBlock ∧ some k_ ≠ ((.slice Ao13 t685.length co13) : Value).ownBlock ∧ some k_ ≠ ((.slice Ao18 t695.length co18) : Value).ownBlock ∧ some k_ ≠ ((.slice Ao26 t709.length co26) : Value).ownBlock ∧ some k_ ≠ ((.slice Ao27 t712.length co27) : Value).ownBlock) (.slice Ao19 t698.length co19) t698) ∧ Aside0 (Kd.R (Kd.int .u8) 5 wc w.heap.size (fun k_ => some k_ ≠ ((.slice Ao12 t682.length co12) : Value).ownBlock ∧ some k_ ≠ ((.slice Ao13 t685.length co13) : Value).ownBlock ∧ some k_ ≠ ((.slice Ao18 t695.length co18) : Value).ownBlock ∧ some k_ ≠ ((.slice Ao19 t698.length co19) : Value).ownBlock ∧ some k_ ≠ ((.slice Ao27 t712.length co27) : Value).ownBlock) (.slice Ao26 t709.length co26) t709) ∧ Aside0 (Kd.R (Kd.int .u8) 5 wc w.heap.size (fun k_ => some k_ ≠ ((.slice Ao12 t682.length co12) : Value).ownBlock ∧ some k_ ≠ ((.slice Ao13 t685.length co13) : Value).ownBlock ∧ some k_ ≠ ((.slice Ao18 t695.length co18) : Value).ownBlock ∧ some k_ ≠ ((.slice Ao19 t698.length co19) : Value).ownBlock ∧ some k_ ≠ ((.slice Ao26 t709.length co26) : Value).ownBlock) (.slice Ao27 t712.length co27) t712) ∧ Aside0 (wc.heap[gb690]? = some (.cells #[.int .i64 t678, .int .i64 t679, .int .i64 t680, .bool t681, (.slice Ao12 t682.length co12), (.slice Ao13 t685.length co13), .int .i64 t688, .int .i64 t689] 41 (0, 0))) ∧ Aside0 (wc.heap[gb704]? = some (.cells #[.int .i64 t691, .int .i64 t692, .int .i64 t693, .bool t694, (.slice Ao18 t695.length co18), (.slice Ao19 t698.length co19), .int .i64 t701, .int .i64 t702] 41 (0, 0))) ∧ Aside0 (wc.heap[gb718]? = some (.cells #[.int .i64 t705, .int .i64 t706, .int .i64 t707, .bool t708, (.slice Ao26 t709.length co26), (.slice Ao27 t712.length co27), .int .i64 t715, .int .i64 t716] 41 (0, 0))) ∧ Aside0 (Below w.heap.size w wc))
  case first =>
   have H := HC8.out
   clear HC8
   by_cases c28 : (t703 != t717) = true
   ·
    rw [if_pos c28] at H
    have c28b0 : (t703 != t717) = true := c28
    (try (have c28b1 : decide (t703 = t717) = false := by simpa using c28))
    (try (have c28b2 : (t703 == t717) = false := by simpa using c28))
    (try (have c28b3 : ¬ (t703 = t717) := by simpa using c28))
    clear c28
    (first | rw [c28b0] | rw [c28b1] | rw [c28b2] | rw [c28b3] | (simp only [i64_w, i32_w]; rw [c28b0]) | skip)
    have H' := Aside0.mk H
    clear H
    go_wp2
    repeat (go_quiet (fail); try go_wp2)
    go_meet
    case rel => exact ⟨_, (true), eqq_, H', ⟨by first | omega | exact Nat.le_refl _⟩, ⟨by (with_reducible repeat (first | apply Kd.R_alloc | apply Kd.R_drewN | apply Kd.R_drew)); exact Kd.R_mono (Go.Proofs.YtaimfkfpglhijaaV.R_far8 (g := gb718) (Kd.R_types HO684.out BK718.out (by decide)) (fun _ hk => hk.2)) (fun _ hk => ⟨hk.1.1.1.1.1, ⟨hk.1.1.1.1.2, ⟨hk.1.1.1.2, ⟨hk.1.1.2, hk.1.2⟩⟩⟩⟩)⟩, ⟨by (with_reducible repeat (first | apply Kd.R_alloc | apply Kd.R_drewN | apply Kd.R_drew)); exact Kd.R_mono (Go.Proofs.YtaimfkfpglhijaaV.R_far8 (g := gb718) (Kd.R_types HO687.out BK718.out (by decide)) (fun _ hk => hk.2)) (fun _ hk => ⟨hk.1.1.1.1.1, ⟨hk.1.1.1.1.2, ⟨hk.1.1.1.2, ⟨hk.1.1.2, hk.1.2⟩⟩⟩⟩)⟩, ⟨by (with_reducible repeat (first | apply Kd.R_alloc | apply Kd.R_drewN | apply Kd.R_drew)); exact Kd.R_mono (Go.Proofs.YtaimfkfpglhijaaV.R_far8 (g := gb718) (Kd.R_types HO697.out BK718.out (by decide)) (fun _ hk => hk.2)) (fun _ hk => ⟨hk.1.1.1.1.2, ⟨hk.1.1.1.2, ⟨hk.1.1.1.1.1, ⟨hk.1.1.2, hk.1.2⟩⟩⟩⟩)⟩, ⟨by (with_reducible repeat (first | apply Kd.R_alloc | apply Kd.R_drewN | apply Kd.R_drew)); exact Kd.R_mono (Go.Proofs.YtaimfkfpglhijaaV.R_far8 (g := gb718) (Kd.R_types HO700.out BK718.out (by decide)) (fun _ hk => hk.2)) (fun _ hk => ⟨hk.1.1.1.1.2, ⟨hk.1.1.1.2, ⟨hk.1.1.1.1.1, ⟨hk.1.1.2, hk.1.2⟩⟩⟩⟩)⟩, ⟨by (with_reducible repeat (first | apply Kd.R_alloc | apply Kd.R_drewN | apply Kd.R_drew)); exact Kd.R_mono (Go.Proofs.YtaimfkfpglhijaaV.R_far8 (g := gb718) (Kd.R_types HO711.out BK718.out (by decide)) (fun _ hk => hk.2)) (fun _ hk => ⟨hk.1.1.1.1.2, ⟨hk.1.1.1.2, ⟨hk.1.1.2, ⟨hk.1.2, hk.1.1.1.1.1⟩⟩⟩⟩)⟩, ⟨by (with_reducible repeat (first | apply Kd.R_alloc | apply Kd.R_drewN | apply Kd.R_drew)); exact Kd.R_mono (Go.Proofs.YtaimfkfpglhijaaV.R_far8 (g := gb718) (Kd.R_types HO714.out BK718.out (by decide)) (fun _ hk => hk.2)) (fun _ hk => ⟨hk.1.1.1.1.2, ⟨hk.1.1.1.2, ⟨hk.1.1.2, ⟨hk.1.2, hk.1.1.1.1.1⟩⟩⟩⟩)⟩, ⟨by (with_reducible repeat (first | refine blk_drewN ?_ _ | refine blk_drew ?_ | refine blk_alloc ?_ _)); refine Go.Proofs.YtaimfkfpglhijaaV.blk_far8 ?_ NB690_718.out; exact qK BK690⟩, ⟨by (with_reducible repeat (first | refine blk_drewN ?_ _ | refine blk_drew ?_ | refine blk_alloc ?_ _)); refine Go.Proofs.YtaimfkfpglhijaaV.blk_far8 ?_ NB704_718.out; exact qK BK704⟩, ⟨by (with_reducible repeat (first | refine blk_drewN ?_ _ | refine blk_drew ?_ | refine blk_alloc ?_ _)); refine Go.Proofs.YtaimfkfpglhijaaV.blk_all8 (show _ = some (Go.Obj.cells #[.int .i64 0, .int .i64 0, .int .i64 0, .bool false, .slice none 0 0, .slice none 0 0, .int .i64 0, .int .i64 0] _ (0, 0)) from ?_); exact qK BK718⟩, ⟨qB HB⟩⟩
   ·
    rw [if_neg c28] at H
    have c28b0 : (t703 != t717) = false := by simpa using c28
    (try (have c28b1 : decide (t703 = t717) = true := by simpa using c28))
    (try (have c28b2 : (t703 == t717) = true := by simpa using c28))
    clear c28
    (first | rw [c28b0] | rw [c28b1] | rw [c28b2] | (simp only [i64_w, i32_w]; rw [c28b0]) | skip)
    obtain ⟨t719, A29, H⟩ := bd_ H
    have H' := Aside0.mk H
    clear H
    have hnb30 := NB704_690.out
    have hnc30 := NB690_704.out
    have hnb31 := NB704_718.out
    have hnc31 := NB718_704.out
    obtain ⟨z32_0, z32_1, z32_2, z32_3, z32_4, z32_5, z32_6, z32_7⟩ := cz8 BK704.out
    obtain ⟨f32_0, f32_1, f32_2, f32_3, f32_4, f32_5, f32_6, f32_7⟩ := fz8 BK704.out
    have hnb33 := NB718_690.out
    have hnc33 := NB690_718.out
    obtain ⟨z34_0, z34_1, z34_2, z34_3, z34_4, z34_5, z34_6, z34_7⟩ := cz8 BK718.out
    obtain ⟨f34_0, f34_1, f34_2, f34_3, f34_4, f34_5, f34_6, f34_7⟩ := fz8 BK718.out
    go_wp2_with (first | (go_at_call 27; (with_reducible refine (laws_sameSock.calls t691 t692 t693 t694 _ _ t695 _ _ t698 t701 t702 t705 t706 t707 t708 _ _ t709 _ _ t712 t715 t716 t719 _ ?side1 ?side2 ?side3 ?side4 ?side5 ?side6 ?side7 ?side8 A29.out).mono ?_); (case side1 => refine (Kd.R_reads' (e := 5) (base := w.heap.size) (ok := fun k_ => ((((some k_ ≠ (.slice Ao19 t698.length co19 : Value).ownBlock ∧ some k_ ≠ (.slice Ao12 t682.length co12 : Value).ownBlock) ∧ some k_ ≠ (.slice Ao13 t685.length co13 : Value).ownBlock) ∧ some k_ ≠ (.slice Ao26 t709.length co26 : Value).ownBlock) ∧ some k_ ≠ (.slice Ao27 t712.length co27 : Value).ownBlock)) (n := t695.length) (c := co18) ?_).2.2; exact (by (with_reducible repeat (first | apply Kd.R_alloc | apply Kd.R_drewN | apply Kd.R_drew)); exact (Kd.R_mono (Go.Proofs.YtaimfkfpglhijaaV.R_far8 (g := gb718) (Kd.R_types HO697.out BK718.out (by decide)) (fun _ hk => hk.2)) (fun _ h_ => h_.1)))); (case side2 => exact (Kd.R_reads' HO697.out).2.1); (case side3 => refine (Kd.R_reads' (e := 5) (base := w.heap.size) (ok := fun k_ => ((((some k_ ≠ (.slice Ao18 t695.length co18 : Value).ownBlock ∧ some k_ ≠ (.slice Ao12 t682.length co12 : Value).ownBlock) ∧ some k_ ≠ (.slice Ao13 t685.length co13 : Value).ownBlock) ∧ some k_ ≠ (.slice Ao26 t709.length co26 : Value).ownBlock) ∧ some k_ ≠ (.slice Ao27 t712.length co27 : Value).ownBlock)) (n := t698.length) (c := co19) ?_).2.2; exact (by (with_reducible repeat (first | apply Kd.R_alloc | apply Kd.R_drewN | apply Kd.R_drew)); exact (Kd.R_mono (Go.Proofs.YtaimfkfpglhijaaV.R_far8 (g := gb718) (Kd.R_types HO700.out BK718.out (by decide)) (fun _ hk => hk.2)) (fun _ h_ => h_.1)))); (case side4 => exact (Kd.R_reads' HO700.out).2.1); (case side5 => refine (Kd.R_reads' (e := 5) (base := w.heap.size) (ok := fun k_ => ((((some k_ ≠ (.slice Ao27 t712.length co27 : Value).ownBlock ∧ some k_ ≠ (.slice Ao12 t682.length co12 : Value).ownBlock) ∧ some k_ ≠ (.slice Ao13 t685.length co13 : Value).ownBlock) ∧ some k_ ≠ (.slice Ao18 t695.length co18 : Value).ownBlock) ∧ some k_ ≠ (.slice Ao19 t698.length co19 : Value).ownBlock)) (n := t709.length) (c := co26) ?_).2.2; exact (by (with_reducible repeat (first | apply Kd.R_alloc | apply Kd.R_drewN | apply Kd.R_drew)); exact (Kd.R_mono (Go.Proofs.YtaimfkfpglhijaaV.R_far8 (g := gb718) (Kd.R_types HO711.out BK718.out (by decide)) (fun _ hk => hk.2)) (fun _ h_ => h_.1)))); (case side6 => exact (Kd.R_reads' HO711.out).2.1); (case side7 => refine (Kd.R_reads' (e := 5) (base := w.heap.size) (ok := fun k_ => ((((some k_ ≠ (.slice Ao26 t709.length co26 : Value).ownBlock ∧ some k_ ≠ (.slice Ao12 t682.length co12 : Value).ownBlock) ∧ some k_ ≠ (.slice Ao13 t685.length co13 : Value).ownBlock) ∧ some k_ ≠ (.slice Ao18 t695.length co18 : Value).ownBlock) ∧ some k_ ≠ (.slice Ao19 t698.length co19 : Value).ownBlock)) (n := t712.length) (c := co27) ?_).2.2; exact (by (with_reducible repeat (first | apply Kd.R_alloc | apply Kd.R_drewN | apply Kd.R_drew)); exact (Kd.R_mono (Go.Proofs.YtaimfkfpglhijaaV.R_far8 (g := gb718) (Kd.R_types HO714.out BK718.out (by decide)) (fun _ hk => hk.2)) (fun _ h_ => h_.1)))); (case side8 => exact (Kd.R_reads' HO714.out).2.1); rintro e w35 ⟨rfl, hb⟩; replace HO684 := am_ (Kd.R_below (by (with_reducible repeat (first | apply Kd.R_alloc | apply Kd.R_drewN | apply Kd.R_drew)); exact (Kd.R_mono (Go.Proofs.YtaimfkfpglhijaaV.R_far8 (g := gb718) (Kd.R_types HO684.out BK718.out (by decide)) (fun _ hk => hk.2)) (fun _ h_ => h_.1))) hb); replace HO687 := am_ (Kd.R_below (by (with_reducible repeat (first | apply Kd.R_alloc | apply Kd.R_drewN | apply Kd.R_drew)); exact (Kd.R_mono (Go.Proofs.YtaimfkfpglhijaaV.R_far8 (g := gb718) (Kd.R_types HO687.out BK718.out (by decide)) (fun _ hk => hk.2)) (fun _ h_ => h_.1))) hb); replace HO697 := am_ (Kd.R_below (by (with_reducible repeat (first | apply Kd.R_alloc | apply Kd.R_drewN | apply Kd.R_drew)); exact (Kd.R_mono (Go.Proofs.YtaimfkfpglhijaaV.R_far8 (g := gb718) (Kd.R_types HO697.out BK718.out (by decide)) (fun _ hk => hk.2)) (fun _ h_ => h_.1))) hb); replace HO700 := am_ (Kd.R_below (by (with_reducible repeat (first | apply Kd.R_alloc | apply Kd.R_drewN | apply Kd.R_drew)); exact (Kd.R_mono (Go.Proofs.YtaimfkfpglhijaaV.R_far8 (g := gb718) (Kd.R_types HO700.out BK718.out (by decide)) (fun _ hk => hk.2)) (fun _ h_ => h_.1))) hb); replace HO711 := am_ (Kd.R_below (by (with_reducible repeat (first | apply Kd.R_alloc | apply Kd.R_drewN | apply Kd.R_drew)); exact (Kd.R_mono (Go.Proofs.YtaimfkfpglhijaaV.R_far8 (g := gb718) (Kd.R_types HO711.out BK718.out (by decide)) (fun _ hk => hk.2)) (fun _ h_ => h_.1))) hb); replace HO714 := am_ (Kd.R_below (by (with_reducible repeat (first | apply Kd.R_alloc | apply Kd.R_drewN | apply Kd.R_drew)); exact (Kd.R_mono (Go.Proofs.YtaimfkfpglhijaaV.R_far8 (g := gb718) (Kd.R_types HO714.out BK718.out (by decide)) (fun _ hk => hk.2)) (fun _ h_ => h_.1))) hb); replace BK690 := am_ (blk_below (g := gb690) (o := .cells #[.int .i64 t678, .int .i64 t679, .int .i64 t680, .bool t681, .slice Ao12 t682.length co12, .slice Ao13 t685.length co13, .int .i64 t688, .int .i64 t689] 41 (0, 0)) (by (with_reducible repeat (first | refine blk_drewN ?_ _ | refine blk_drew ?_ | refine blk_alloc ?_ _)); refine Go.Proofs.YtaimfkfpglhijaaV.blk_far8 ?_ NB690_718.out; exact qK BK690) hb); replace BK704 := am_ (blk_below (g := gb704) (o := .cells #[.int .i64 t691, .int .i64 t692, .int .i64 t693, .bool t694, .slice Ao18 t695.length co18, .slice Ao19 t698.length co19, .int .i64 t701, .int .i64 t702] 41 (0, 0)) (by (with_reducible repeat (first | refine blk_drewN ?_ _ | refine blk_drew ?_ | refine blk_alloc ?_ _)); refine Go.Proofs.YtaimfkfpglhijaaV.blk_far8 ?_ NB704_718.out; exact qK BK704) hb); replace BK718 := am_ (blk_below (g := gb718) (o := .cells #[.int .i64 t705, .int .i64 t706, .int .i64 t707, .bool t708, .slice Ao26 t709.length co26, .slice Ao27 t712.length co27, .int .i64 t715, .int .i64 t716] 41 (0, 0)) (by (with_reducible repeat (first | refine blk_drewN ?_ _ | refine blk_drew ?_ | refine blk_alloc ?_ _)); refine Go.Proofs.YtaimfkfpglhijaaV.blk_all8 (show _ = some (Go.Obj.cells #[.int .i64 0, .int .i64 0, .int .i64 0, .bool false, .slice none 0 0, .slice none 0 0, .int .i64 0, .int .i64 0] _ (0, 0)) from ?_); exact qK BK718) hb); replace HB := am_ (below_step (qB HB) hb); (try clear hb); (try clear hb2); (try clear hk); (try clear hi)))
    repeat (go_quiet (first | (go_at_call 27; (with_reducible refine (laws_sameSock.calls t691 t692 t693 t694 _ _ t695 _ _ t698 t701 t702 t705 t706 t707 t708 _ _ t709 _ _ t712 t715 t716 t719 _ ?side1 ?side2 ?side3 ?side4 ?side5 ?side6 ?side7 ?side8 A29.out).mono ?_); (case side1 => refine (Kd.R_reads' (e := 5) (base := w.heap.size) (ok := fun k_ => ((((some k_ ≠ (.slice Ao19 t698.length co19 : Value).ownBlock ∧ some k_ ≠ (.slice Ao12 t682.length co12 : Value).ownBlock) ∧ some k_ ≠ (.slice Ao13 t685.length co13 : Value).ownBlock) ∧ some k_ ≠ (.slice Ao26 t709.length co26 : Value).ownBlock) ∧ some k_ ≠ (.slice Ao27 t712.length co27 : Value).ownBlock)) (n := t695.length) (c := co18) ?_).2.2; exact (by (with_reducible repeat (first | apply Kd.R_alloc | apply Kd.R_drewN | apply Kd.R_drew)); exact (Kd.R_mono (Go.Proofs.YtaimfkfpglhijaaV.R_far8 (g := gb718) (Kd.R_types HO697.out BK718.out (by decide)) (fun _ hk => hk.2)) (fun _ h_ => h_.1)))); (case side2 => exact (Kd.R_reads' HO697.out).2.1); (case side3 => refine (Kd.R_reads' (e := 5) (base := w.heap.size) (ok := fun k_ => ((((some k_ ≠ (.slice Ao18 t695.length co18 : Value).ownBlock ∧ some k_ ≠ (.slice Ao12 t682.length co12 : Value).ownBlock) ∧ some k_ ≠ (.slice Ao13 t685.length co13 : Value).ownBlock) ∧ some k_ ≠ (.slice Ao26 t709.length co26 : Value).ownBlock) ∧ some k_ ≠ (.slice Ao27 t712.length co27 : Value).ownBlock)) (n := t698.length) (c := co19) ?_).2.2; exact (by (with_reducible repeat (first | apply Kd.R_alloc | apply Kd.R_drewN | apply Kd.R_drew)); exact (Kd.R_mono (Go.Proofs.YtaimfkfpglhijaaV.R_far8 (g := gb718) (Kd.R_types HO700.out BK718.out (by decide)) (fun _ hk => hk.2)) (fun _ h_ => h_.1)))); (case side4 => exact (Kd.R_reads' HO700.out).2.1); (case side5 => refine (Kd.R_reads' (e := 5) (base := w.heap.size) (ok := fun k_ => ((((some k_ ≠ (.slice Ao27 t712.length co27 : Value).ownBlock ∧ some k_ ≠ (.slice Ao12 t682.length co12 : Value).ownBlock) ∧ some k_ ≠ (.slice Ao13 t685.length co13 : Value).ownBlock) ∧ some k_ ≠ (.slice Ao18 t695.length co18 : Value).ownBlock) ∧ some k_ ≠ (.slice Ao19 t698.length co19 : Value).ownBlock)) (n := t709.length) (c := co26) ?_).2.2; exact (by (with_reducible repeat (first | apply Kd.R_alloc | apply Kd.R_drewN | apply Kd.R_drew)); exact (Kd.R_mono (Go.Proofs.YtaimfkfpglhijaaV.R_far8 (g := gb718) (Kd.R_types HO711.out BK718.out (by decide)) (fun _ hk => hk.2)) (fun _ h_ => h_.1)))); (case side6 => exact (Kd.R_reads' HO711.out).2.1); (case side7 => refine (Kd.R_reads' (e := 5) (base := w.heap.size) (ok := fun k_ => ((((some k_ ≠ (.slice Ao26 t709.length co26 : Value).ownBlock ∧ some k_ ≠ (.slice Ao12 t682.length co12 : Value).ownBlock) ∧ some k_ ≠ (.slice Ao13 t685.length co13 : Value).ownBlock) ∧ some k_ ≠ (.slice Ao18 t695.length co18 : Value).ownBlock) ∧ some k_ ≠ (.slice Ao19 t698.length co19 : Value).ownBlock)) (n := t712.length) (c := co27) ?_).2.2; exact (by (with_reducible repeat (first | apply Kd.R_alloc | apply Kd.R_drewN | apply Kd.R_drew)); exact (Kd.R_mono (Go.Proofs.YtaimfkfpglhijaaV.R_far8 (g := gb718) (Kd.R_types HO714.out BK718.out (by decide)) (fun _ hk => hk.2)) (fun _ h_ => h_.1)))); (case side8 => exact (Kd.R_reads' HO714.out).2.1); rintro e w35 ⟨rfl, hb⟩; replace HO684 := am_ (Kd.R_below (by (with_reducible repeat (first | apply Kd.R_alloc | apply Kd.R_drewN | apply Kd.R_drew)); exact (Kd.R_mono (Go.Proofs.YtaimfkfpglhijaaV.R_far8 (g := gb718) (Kd.R_types HO684.out BK718.out (by decide)) (fun _ hk => hk.2)) (fun _ h_ => h_.1))) hb); replace HO687 := am_ (Kd.R_below (by (with_reducible repeat (first | apply Kd.R_alloc | apply Kd.R_drewN | apply Kd.R_drew)); exact (Kd.R_mono (Go.Proofs.YtaimfkfpglhijaaV.R_far8 (g := gb718) (Kd.R_types HO687.out BK718.out (by decide)) (fun _ hk => hk.2)) (fun _ h_ => h_.1))) hb); replace HO697 := am_ (Kd.R_below (by (with_reducible repeat (first | apply Kd.R_alloc | apply Kd.R_drewN | apply Kd.R_drew)); exact (Kd.R_mono (Go.Proofs.YtaimfkfpglhijaaV.R_far8 (g := gb718) (Kd.R_types HO697.out BK718.out (by decide)) (fun _ hk => hk.2)) (fun _ h_ => h_.1))) hb); replace HO700 := am_ (Kd.R_below (by (with_reducible repeat (first | apply Kd.R_alloc | apply Kd.R_drewN | apply Kd.R_drew)); exact (Kd.R_mono (Go.Proofs.YtaimfkfpglhijaaV.R_far8 (g := gb718) (Kd.R_types HO700.out BK718.out (by decide)) (fun _ hk => hk.2)) (fun _ h_ => h_.1))) hb); replace HO711 := am_ (Kd.R_below (by (with_reducible repeat (first | apply Kd.R_alloc | apply Kd.R_drewN | apply Kd.R_drew)); exact (Kd.R_mono (Go.Proofs.YtaimfkfpglhijaaV.R_far8 (g := gb718) (Kd.R_types HO711.out BK718.out (by decide)) (fun _ hk => hk.2)) (fun _ h_ => h_.1))) hb); replace HO714 := am_ (Kd.R_below (by (with_reducible repeat (first | apply Kd.R_alloc | apply Kd.R_drewN | apply Kd.R_drew)); exact (Kd.R_mono (Go.Proofs.YtaimfkfpglhijaaV.R_far8 (g := gb718) (Kd.R_types HO714.out BK718.out (by decide)) (fun _ hk => hk.2)) (fun _ h_ => h_.1))) hb); replace BK690 := am_ (blk_below (g := gb690) (o := .cells #[.int .i64 t678, .int .i64 t679, .int .i64 t680, .bool t681, .slice Ao12 t682.length co12, .slice Ao13 t685.length co13, .int .i64 t688, .int .i64 t689] 41 (0, 0)) (by (with_reducible repeat (first | refine blk_drewN ?_ _ | refine blk_drew ?_ | refine blk_alloc ?_ _)); refine Go.Proofs.YtaimfkfpglhijaaV.blk_far8 ?_ NB690_718.out; exact qK BK690) hb); replace BK704 := am_ (blk_below (g := gb704) (o := .cells #[.int .i64 t691, .int .i64 t692, .int .i64 t693, .bool t694, .slice Ao18 t695.length co18, .slice Ao19 t698.length co19, .int .i64 t701, .int .i64 t702] 41 (0, 0)) (by (with_reducible repeat (first | refine blk_drewN ?_ _ | refine blk_drew ?_ | refine blk_alloc ?_ _)); refine Go.Proofs.YtaimfkfpglhijaaV.blk_far8 ?_ NB704_718.out; exact qK BK704) hb); replace BK718 := am_ (blk_below (g := gb718) (o := .cells #[.int .i64 t705, .int .i64 t706, .int .i64 t707, .bool t708, .slice Ao26 t709.length co26, .slice Ao27 t712.length co27, .int .i64 t715, .int .i64 t716] 41 (0, 0)) (by (with_reducible repeat (first | refine blk_drewN ?_ _ | refine blk_drew ?_ | refine blk_alloc ?_ _)); refine Go.Proofs.YtaimfkfpglhijaaV.blk_all8 (show _ = some (Go.Obj.cells #[.int .i64 0, .int .i64 0, .int .i64 0, .bool false, .slice none 0 0, .slice none 0 0, .int .i64 0, .int .i64 0] _ (0, 0)) from ?_); exact qK BK718) hb); replace HB := am_ (below_step (qB HB) hb); (try clear hb); (try clear hb2); (try clear hk); (try clear hi))); try go_wp2_with (first | (go_at_call 27; (with_reducible refine (laws_sameSock.calls t691 t692 t693 t694 _ _ t695 _ _ t698 t701 t702 t705 t706 t707 t708 _ _ t709 _ _ t712 t715 t716 t719 _ ?side1 ?side2 ?side3 ?side4 ?side5 ?side6 ?side7 ?side8 A29.out).mono ?_); (case side1 => refine (Kd.R_reads' (e := 5) (base := w.heap.size) (ok := fun k_ => ((((some k_ ≠ (.slice Ao19 t698.length co19 : Value).ownBlock ∧ some k_ ≠ (.slice Ao12 t682.length co12 : Value).ownBlock) ∧ some k_ ≠ (.slice Ao13 t685.length co13 : Value).ownBlock) ∧ some k_ ≠ (.slice Ao26 t709.length co26 : Value).ownBlock) ∧ some k_ ≠ (.slice Ao27 t712.length co27 : Value).ownBlock)) (n := t695.length) (c := co18) ?_).2.2; exact (by (with_reducible repeat (first | apply Kd.R_alloc | apply Kd.R_drewN | apply Kd.R_drew)); exact (Kd.R_mono (Go.Proofs.YtaimfkfpglhijaaV.R_far8 (g := gb718) (Kd.R_types HO697.out BK718.out (by decide)) (fun _ hk => hk.2)) (fun _ h_ => h_.1)))); (case side2 => exact (Kd.R_reads' HO697.out).2.1); (case side3 => refine (Kd.R_reads' (e := 5) (base := w.heap.size) (ok := fun k_ => ((((some k_ ≠ (.slice Ao18 t695.length co18 : Value).ownBlock ∧ some k_ ≠ (.slice Ao12 t682.length co12 : Value).ownBlock) ∧ some k_ ≠ (.slice Ao13 t685.length co13 : Value).ownBlock) ∧ some k_ ≠ (.slice Ao26 t709.length co26 : Value).ownBlock) ∧ some k_ ≠ (.slice Ao27 t712.length co27 : Value).ownBlock)) (n := t698.length) (c := co19) ?_).2.2; exact (by (with_reducible repeat (first | apply Kd.R_alloc | apply Kd.R_drewN | apply Kd.R_drew)); exact (Kd.R_mono (Go.Proofs.YtaimfkfpglhijaaV.R_far8 (g := gb718) (Kd.R_types HO700.out BK718.out (by decide)) (fun _ hk => hk.2)) (fun _ h_ => h_.1)))); (case side4 => exact (Kd.R_reads' HO700.out).2.1); (case side5 => refine (Kd.R_reads' (e := 5) (base := w.heap.size) (ok := fun k_ => ((((some k_ ≠ (.slice Ao27 t712.length co27 : Value).ownBlock ∧ some k_ ≠ (.slice Ao12 t682.length co12 : Value).ownBlock) ∧ some k_ ≠ (.slice Ao13 t685.length co13 : Value).ownBlock) ∧ some k_ ≠ (.slice Ao18 t695.length co18 : Value).ownBlock) ∧ some k_ ≠ (.slice Ao19 t698.length co19 : Value).ownBlock)) (n := t709.length) (c := co26) ?_).2.2; exact (by (with_reducible repeat (first | apply Kd.R_alloc | apply Kd.R_drewN | apply Kd.R_drew)); exact (Kd.R_mono (Go.Proofs.YtaimfkfpglhijaaV.R_far8 (g := gb718) (Kd.R_types HO711.out BK718.out (by decide)) (fun _ hk => hk.2)) (fun _ h_ => h_.1)))); (case side6 => exact (Kd.R_reads' HO711.out).2.1); (case side7 => refine (Kd.R_reads' (e := 5) (base := w.heap.size) (ok := fun k_ => ((((some k_ ≠ (.slice Ao26 t709.length co26 : Value).ownBlock ∧ some k_ ≠ (.slice Ao12 t682.length co12 : Value).ownBlock) ∧ some k_ ≠ (.slice Ao13 t685.length co13 : Value).ownBlock) ∧ some k_ ≠ (.slice Ao18 t695.length co18 : Value).ownBlock) ∧ some k_ ≠ (.slice Ao19 t698.length co19 : Value).ownBlock)) (n := t712.length) (c := co27) ?_).2.2; exact (by (with_reducible repeat (first | apply Kd.R_alloc | apply Kd.R_drewN | apply Kd.R_drew)); exact (Kd.R_mono (Go.Proofs.YtaimfkfpglhijaaV.R_far8 (g := gb718) (Kd.R_types HO714.out BK718.out (by decide)) (fun _ hk => hk.2)) (fun _ h_ => h_.1)))); (case side8 => exact (Kd.R_reads' HO714.out).2.1); rintro e w35 ⟨rfl, hb⟩; replace HO684 := am_ (Kd.R_below (by (with_reducible repeat (first | apply Kd.R_alloc | apply Kd.R_drewN | apply Kd.R_drew)); exact (Kd.R_mono (Go.Proofs.YtaimfkfpglhijaaV.R_far8 (g := gb718) (Kd.R_types HO684.out BK718.out (by decide)) (fun _ hk => hk.2)) (fun _ h_ => h_.1))) hb); replace HO687 := am_ (Kd.R_below (by (with_reducible repeat (first | apply Kd.R_alloc | apply Kd.R_drewN | apply Kd.R_drew)); exact (Kd.R_mono (Go.Proofs.YtaimfkfpglhijaaV.R_far8 (g := gb718) (Kd.R_types HO687.out BK718.out (by decide)) (fun _ hk => hk.2)) (fun _ h_ => h_.1))) hb); replace HO697 := am_ (Kd.R_below (by (with_reducible repeat (first | apply Kd.R_alloc | apply Kd.R_drewN | apply Kd.R_drew)); exact (Kd.R_mono (Go.Proofs.YtaimfkfpglhijaaV.R_far8 (g := gb718) (Kd.R_types HO697.out BK718.out (by decide)) (fun _ hk => hk.2)) (fun _ h_ => h_.1))) hb); replace HO700 := am_ (Kd.R_below (by (with_reducible repeat (first | apply Kd.R_alloc | apply Kd.R_drewN | apply Kd.R_drew)); exact (Kd.R_mono (Go.Proofs.YtaimfkfpglhijaaV.R_far8 (g := gb718) (Kd.R_types HO700.out BK718.out (by decide)) (fun _ hk => hk.2)) (fun _ h_ => h_.1))) hb); replace HO711 := am_ (Kd.R_below (by (with_reducible repeat (first | apply Kd.R_alloc | apply Kd.R_drewN | apply Kd.R_drew)); exact (Kd.R_mono (Go.Proofs.YtaimfkfpglhijaaV.R_far8 (g := gb718) (Kd.R_types HO711.out BK718.out (by decide)) (fun _ hk => hk.2)) (fun _ h_ => h_.1))) hb); replace HO714 := am_ (Kd.R_below (by (with_reducible repeat (first | apply Kd.R_alloc | apply Kd.R_drewN | apply Kd.R_drew)); exact (Kd.R_mono (Go.Proofs.YtaimfkfpglhijaaV.R_far8 (g := gb718) (Kd.R_types HO714.out BK718.out (by decide)) (fun _ hk => hk.2)) (fun _ h_ => h_.1))) hb); replace BK690 := am_ (blk_below (g := gb690) (o := .cells #[.int .i64 t678, .int .i64 t679, .int .i64 t680, .bool t681, .slice Ao12 t682.length co12, .slice Ao13 t685.length co13, .int .i64 t688, .int .i64 t689] 41 (0, 0)) (by (with_reducible repeat (first | refine blk_drewN ?_ _ | refine blk_drew ?_ | refine blk_alloc ?_ _)); refine Go.Proofs.YtaimfkfpglhijaaV.blk_far8 ?_ NB690_718.out; exact qK BK690) hb); replace BK704 := am_ (blk_below (g := gb704) (o := .cells #[.int .i64 t691, .int .i64 t692, .int .i64 t693, .bool t694, .slice Ao18 t695.length co18, .slice Ao19 t698.length co19, .int .i64 t701, .int .i64 t702] 41 (0, 0)) (by (with_reducible repeat (first | refine blk_drewN ?_ _ | refine blk_drew ?_ | refine blk_alloc ?_ _)); refine Go.Proofs.YtaimfkfpglhijaaV.blk_far8 ?_ NB704_718.out; exact qK BK704) hb); replace BK718 := am_ (blk_below (g := gb718) (o := .cells #[.int .i64 t705, .int .i64 t706, .int .i64 t707, .bool t708, .slice Ao26 t709.length co26, .slice Ao27 t712.length co27, .int .i64 t715, .int .i64 t716] 41 (0, 0)) (by (with_reducible repeat (first | refine blk_drewN ?_ _ | refine blk_drew ?_ | refine blk_alloc ?_ _)); refine Go.Proofs.YtaimfkfpglhijaaV.blk_all8 (show _ = some (Go.Obj.cells #[.int .i64 0, .int .i64 0, .int .i64 0, .bool false, .slice none 0 0, .slice none 0 0, .int .i64 0, .int .i64 0] _ (0, 0)) from ?_); exact qK BK718) hb); replace HB := am_ (below_step (qB HB) hb); (try clear hb); (try clear hb2); (try clear hk); (try clear hi))))
    go_meet
    case rel => exact ⟨_, (!t719), eqq_, H', ⟨by first | omega | exact Nat.le_refl _⟩, ⟨by (with_reducible repeat (first | apply Kd.R_alloc | apply Kd.R_drewN | apply Kd.R_drew)); exact Kd.R_mono HO684.out (fun _ hk => ⟨hk.1.1.1.1, ⟨hk.1.1.1.2, ⟨hk.1.1.2, ⟨hk.1.2, hk.2⟩⟩⟩⟩)⟩, ⟨by (with_reducible repeat (first | apply Kd.R_alloc | apply Kd.R_drewN | apply Kd.R_drew)); exact Kd.R_mono HO687.out (fun _ hk => ⟨hk.1.1.1.1, ⟨hk.1.1.1.2, ⟨hk.1.1.2, ⟨hk.1.2, hk.2⟩⟩⟩⟩)⟩, ⟨by (with_reducible repeat (first | apply Kd.R_alloc | apply Kd.R_drewN | apply Kd.R_drew)); exact Kd.R_mono HO697.out (fun _ hk => ⟨hk.1.1.1.2, ⟨hk.1.1.2, ⟨hk.1.1.1.1, ⟨hk.1.2, hk.2⟩⟩⟩⟩)⟩, ⟨by (with_reducible repeat (first | apply Kd.R_alloc | apply Kd.R_drewN | apply Kd.R_drew)); exact Kd.R_mono HO700.out (fun _ hk => ⟨hk.1.1.1.2, ⟨hk.1.1.2, ⟨hk.1.1.1.1, ⟨hk.1.2, hk.2⟩⟩⟩⟩)⟩, ⟨by (with_reducible repeat (first | apply Kd.R_alloc | apply Kd.R_drewN | apply Kd.R_drew)); exact Kd.R_mono HO711.out (fun _ hk => ⟨hk.1.1.1.2, ⟨hk.1.1.2, ⟨hk.1.2, ⟨hk.2, hk.1.1.1.1⟩⟩⟩⟩)⟩, ⟨by (with_reducible repeat (first | apply Kd.R_alloc | apply Kd.R_drewN | apply Kd.R_drew)); exact Kd.R_mono HO714.out (fun _ hk => ⟨hk.1.1.1.2, ⟨hk.1.1.2, ⟨hk.1.2, ⟨hk.2, hk.1.1.1.1⟩⟩⟩⟩)⟩, ⟨qK BK690⟩, ⟨qK BK704⟩, ⟨qK BK718⟩, ⟨qB HB⟩⟩
  case rest =>
   clear HC8
   try clear c1
   try clear c2
   try clear p2
   try clear c3
   try clear c4
   try clear c16
   try clear c23
   try clear c24
   try clear c28
   try clear c28b0
   try clear c28b1
   try clear c28b2
   try clear c30
   try clear c31
   try clear c33
   (try clear z11_0 z11_1 z11_2 z11_3 z11_4 z11_5 z11_6 z11_7)
   (try clear z17_0 z17_1 z17_2 z17_3 z17_4 z17_5 z17_6 z17_7)
   (try clear z20_0 z20_1 z20_2 z20_3 z20_4 z20_5 z20_6 z20_7)
   (try clear z25_0 z25_1 z25_2 z25_3 z25_4 z25_5 z25_6 z25_7)
   (try clear z32_0 z32_1 z32_2 z32_3 z32_4 z32_5 z32_6 z32_7)
   (try clear z34_0 z34_1 z34_2 z34_3 z34_4 z34_5 z34_6 z34_7)
   (try clear f11_0 f11_1 f11_2 f11_3 f11_4 f11_5 f11_6 f11_7)
   (try clear f17_0 f17_1 f17_2 f17_3 f17_4 f17_5 f17_6 f17_7)
   (try clear f20_0 f20_1 f20_2 f20_3 f20_4 f20_5 f20_6 f20_7)
   (try clear f25_0 f25_1 f25_2 f25_3 f25_4 f25_5 f25_6 f25_7)
   (try clear f32_0 f32_1 f32_2 f32_3 f32_4 f32_5 f32_6 f32_7)
   (try clear f34_0 f34_1 f34_2 f34_3 f34_4 f34_5 f34_6 f34_7)
   obtain ⟨kq, x35_7, rfl, HA, HJ7, HO_691004, HO_691005, HO_705004, HO_705005, HO_719004, HO_719005, BK690, BK704, BK718, HB⟩ := hcut
   cases kq with
   | zero => exact absurd HA.out (by simp [laws_FnFar.j0])
   | succ kj7 =>
    have H := HA.out
    clear HA
    simp only [laws_FnFar.j0] at H
    by_cases c36 : x35_7 = true
    ·
     subst c36
     rw [if_pos rfl] at H
     exact absurd (hr_.out ▸ H) (by simp)
    ·
     replace c36 := Bool.eq_false_iff.mpr c36
     subst c36
     rw [if_neg (show ¬ (false = true) by decide)] at H
     by_cases c37 : t703 = true
     ·
      subst c37
      rw [if_pos rfl] at H
      by_cases c38 : 0 ≤ t689
      case neg => exact nn_ c38 H
      rw [if_pos c38] at H
      have c38b0 := eq_true c38
      have c38b1 : decide (0 ≤ t689) = true := decide_eq_true c38
      clear c38
      by_cases c39 : t689 ≤ (t685.length : Int)
      case neg => exact nn_ c39 H
      rw [if_pos c39] at H
      have c39b0 := eq_true c39
      have c39b1 : decide (t689 ≤ (t685.length : Int)) = true := decide_eq_true c39
      clear c39
      obtain ⟨y721, hy721⟩ : ∃ y_ : List Int, y_ = (t685.drop (t689 : Int).toNat) := ⟨_, rfl⟩
      rw [← hy721] at H
      have Ny721 := Aside0.mk hy721
      clear hy721
      obtain ⟨⟨t725, t726, t727, t728, t729⟩, A40, H⟩ := bd_ H
      (try dsimp only at H)
      have HC41 := Aside0.mk H
      clear H
      have hnb42 := NB690_704.out
      have hnc42 := NB704_690.out
      have hnb43 := NB690_718.out
      have hnc43 := NB718_690.out
      obtain ⟨z44_0, z44_1, z44_2, z44_3, z44_4, z44_5, z44_6, z44_7⟩ := cz8 BK690.out
      obtain ⟨f44_0, f44_1, f44_2, f44_3, f44_4, f44_5, f44_6, f44_7⟩ := fz8 BK690.out
      have q45 : (t689 : Int) ≤ ((t685.length : Int) : Int) := od_
      obtain ⟨i045, hi045, _, hsz45, _⟩ := info_parts info5
      have hroom45 : t685.length ≤ co13 := (Kd.R_reads' HO_691005.out).2.1
      have hC45 : Kd.C (Kd.int .u8) _ Ao13 t685.length t685 := (Kd.R_reads' HO_691005.out).2.2
      have q045 : (0 : Int) ≤ (t689 : Int) := od_
      have hcut45 := cut_from (P := Try.prog) 22 5 .i64 Try.underlying22 hi045 1 hsz45 Ao13 t685.length co13 t689 q045 q45
      have hr45 := Kd.C_drop (m := (t689 : Int).toNat) (c := co13) hC45 (by omega) hroom45
      obtain ⟨A45, hA45⟩ : ∃ A1, A1 = (if co13 = (t689 : Int).toNat then Ao13 else (Ao13 : Option Addr).map (·.add ((t689 : Int).toNat * 1))) := ⟨_, rfl⟩
      obtain ⟨c45, hc45⟩ : ∃ c1, c1 = co13 - (t689 : Int).toNat := ⟨_, rfl⟩
      have hy45 : y721.length = t685.length - (t689 : Int).toNat := (by rw [Ny721.out, List.length_drop] <;> omega)
      rw [show (t685).drop (t689 : Int).toNat = y721 from Ny721.out.symm] at hr45
      replace hr45 : Kd.C (Kd.int .u8) _ A45 y721.length y721 := (by rw [hA45]; exact hr45)
      rw [← hy45, ← hA45, ← hc45] at hcut45
      have HR724 := Aside0.mk hr45
      have HC724 := Aside0.mk (show y721.length ≤ c45 from by rw [hy45, hc45]; exact Nat.sub_le_sub_right hroom45 _)
      clear hr45 hC45 hroom45 hi045 hsz45 hc45
      have KY45 := Aside0.mk hy45
      have KA45 := Aside0.mk hA45
      clear hy45 hA45
      have KL45 := Aside0.mk (show (t689 : Int).toNat ≤ t685.length from by omega)
      replace q45 := eq_true q45
      go_upto_region 11 with (first | (go_at_call 28; (with_reducible refine (impl_GetFrame.calls kj7 _ _ y721 t725 t726 t727 t728 t729 _ ?side1 ?side2 A40.out).mono ?_); (case side1 => repeat (first | exact (by repeat (first | (with_reducible exact HR724.out) | (with_reducible refine Kd.C_alloc ?_ _) | (with_reducible refine Kd.C_drewN ?_ _) | (with_reducible refine Kd.C_drew ?_) | exact HR724.out)) | (with_reducible refine Kd.C_alloc ?_ _) | (with_reducible refine Kd.C_drewN ?_ _) | (with_reducible refine Kd.C_drew ?_))); (case side2 => exact HC724.out); rintro e w46 ⟨rfl, hb⟩; replace HO_691004 := am_ (Kd.R_below (qR HO_691004) hb); replace HO_691005 := am_ (Kd.R_below (qR HO_691005) hb); replace HO_705004 := am_ (Kd.R_below (qR HO_705004) hb); replace HO_705005 := am_ (Kd.R_below (qR HO_705005) hb); replace HO_719004 := am_ (Kd.R_below (qR HO_719004) hb); replace HO_719005 := am_ (Kd.R_below (qR HO_719005) hb); replace BK690 := am_ (blk_below (qK BK690) hb); replace BK704 := am_ (blk_below (qK BK704) hb); replace BK718 := am_ (blk_below (qK BK718) hb); replace HR724 := am_ (Kd.C_below (by repeat (first | (with_reducible exact HR724.out) | (with_reducible refine Kd.C_alloc ?_ _) | (with_reducible refine Kd.C_drewN ?_ _) | (with_reducible refine Kd.C_drew ?_) | exact HR724.out)) hb); replace HB := am_ (below_step (qB HB) hb); (try clear hb); (try clear hb2); (try clear hk); (try clear hi)) | ((with_reducible refine gate_dst (N := 8) rfl ?_); (try (refine gate_guard (by rfl) ?_; dsimp only)); refine box_event ?hg (N := 8) ?hd (cs := #[.int .i64 0, .string (⟨#[]⟩ : ByteArray), .int .i64 0]) (t := 47) ?hr ?_; (case hd => rfl); (case hg => rfl); (case hr => first | (go_simp; done) | (go_simp; rfl)); intro gb730 hg w47 hbox hb; replace HO_691004 := am_ (Kd.R_below (qR HO_691004) hb); replace HO_691005 := am_ (Kd.R_below (qR HO_691005) hb); replace HO_705004 := am_ (Kd.R_below (qR HO_705004) hb); replace HO_705005 := am_ (Kd.R_below (qR HO_705005) hb); replace HO_719004 := am_ (Kd.R_below (qR HO_719004) hb); replace HO_719005 := am_ (Kd.R_below (qR HO_719005) hb); replace HR724 := am_ (Kd.C_below (by repeat (first | (with_reducible exact HR724.out) | (with_reducible refine Kd.C_alloc ?_ _) | (with_reducible refine Kd.C_drewN ?_ _) | (with_reducible refine Kd.C_drew ?_) | exact HR724.out)) hb); have BK730 := am_ (hbox); have GW730 := am_ ((gG_ hg (qB HB))); have IGW730 := gI_ GW730; have GE730 := am_ ((gG_ hg (qB HB))); have IGE730 := gI_ GE730; replace HB := am_ (below_step (qB HB) hb); have NB690_730 := am_ ((gN_ hg (qK BK690))); have NB730_690 := am_ ((gM_ hg (qK BK690))); replace BK690 := am_ (blk_below (qK BK690) hb); have NB704_730 := am_ ((gN_ hg (qK BK704))); have NB730_704 := am_ ((gM_ hg (qK BK704))); replace BK704 := am_ (blk_below (qK BK704) hb); have NB718_730 := am_ ((gN_ hg (qK BK718))); have NB730_718 := am_ ((gM_ hg (qK BK718))); replace BK718 := am_ (blk_below (qK BK718) hb); clear hb hbox hg; have hnb48 := NB730_690.out; have hnc48 := NB690_730.out; have hnb49 := NB730_704.out; have hnc49 := NB704_730.out; have hnb50 := NB730_718.out; have hnc50 := NB718_730.out; obtain ⟨z51_0, z51_1, z51_2⟩ := cz3 BK730.out; obtain ⟨f51_0, f51_1, f51_2⟩ := fz3 BK730.out))
      repeat (go_quiet (first | (go_at_call 28; (with_reducible refine (impl_GetFrame.calls kj7 _ _ y721 t725 t726 t727 t728 t729 _ ?side1 ?side2 A40.out).mono ?_); (case side1 => repeat (first | exact (by repeat (first | (with_reducible exact HR724.out) | (with_reducible refine Kd.C_alloc ?_ _) | (with_reducible refine Kd.C_drewN ?_ _) | (with_reducible refine Kd.C_drew ?_) | exact HR724.out)) | (with_reducible refine Kd.C_alloc ?_ _) | (with_reducible refine Kd.C_drewN ?_ _) | (with_reducible refine Kd.C_drew ?_))); (case side2 => exact HC724.out); rintro e w46 ⟨rfl, hb⟩; replace HO_691004 := am_ (Kd.R_below (qR HO_691004) hb); replace HO_691005 := am_ (Kd.R_below (qR HO_691005) hb); replace HO_705004 := am_ (Kd.R_below (qR HO_705004) hb); replace HO_705005 := am_ (Kd.R_below (qR HO_705005) hb); replace HO_719004 := am_ (Kd.R_below (qR HO_719004) hb); replace HO_719005 := am_ (Kd.R_below (qR HO_719005) hb); replace BK690 := am_ (blk_below (qK BK690) hb); replace BK704 := am_ (blk_below (qK BK704) hb); replace BK718 := am_ (blk_below (qK BK718) hb); replace HR724 := am_ (Kd.C_below (by repeat (first | (with_reducible exact HR724.out) | (with_reducible refine Kd.C_alloc ?_ _) | (with_reducible refine Kd.C_drewN ?_ _) | (with_reducible refine Kd.C_drew ?_) | exact HR724.out)) hb); replace HB := am_ (below_step (qB HB) hb); (try clear hb); (try clear hb2); (try clear hk); (try clear hi)) | ((with_reducible refine gate_dst (N := 8) rfl ?_); (try (refine gate_guard (by rfl) ?_; dsimp only)); refine box_event ?hg (N := 8) ?hd (cs := #[.int .i64 0, .string (⟨#[]⟩ : ByteArray), .int .i64 0]) (t := 47) ?hr ?_; (case hd => rfl); (case hg => rfl); (case hr => first | (go_simp; done) | (go_simp; rfl)); intro gb730 hg w47 hbox hb; replace HO_691004 := am_ (Kd.R_below (qR HO_691004) hb); replace HO_691005 := am_ (Kd.R_below (qR HO_691005) hb); replace HO_705004 := am_ (Kd.R_below (qR HO_705004) hb); replace HO_705005 := am_ (Kd.R_below (qR HO_705005) hb); replace HO_719004 := am_ (Kd.R_below (qR HO_719004) hb); replace HO_719005 := am_ (Kd.R_below (qR HO_719005) hb); replace HR724 := am_ (Kd.C_below (by repeat (first | (with_reducible exact HR724.out) | (with_reducible refine Kd.C_alloc ?_ _) | (with_reducible refine Kd.C_drewN ?_ _) | (with_reducible refine Kd.C_drew ?_) | exact HR724.out)) hb); have BK730 := am_ (hbox); have GW730 := am_ ((gG_ hg (qB HB))); have IGW730 := gI_ GW730; have GE730 := am_ ((gG_ hg (qB HB))); have IGE730 := gI_ GE730; replace HB := am_ (below_step (qB HB) hb); have NB690_730 := am_ ((gN_ hg (qK BK690))); have NB730_690 := am_ ((gM_ hg (qK BK690))); replace BK690 := am_ (blk_below (qK BK690) hb); have NB704_730 := am_ ((gN_ hg (qK BK704))); have NB730_704 := am_ ((gM_ hg (qK BK704))); replace BK704 := am_ (blk_below (qK BK704) hb); have NB718_730 := am_ ((gN_ hg (qK BK718))); have NB730_718 := am_ ((gM_ hg (qK BK718))); replace BK718 := am_ (blk_below (qK BK718) hb); clear hb hbox hg; have hnb48 := NB730_690.out; have hnc48 := NB690_730.out; have hnb49 := NB730_704.out; have hnc49 := NB704_730.out; have hnb50 := NB730_718.out; have hnc50 := NB718_730.out; obtain ⟨z51_0, z51_1, z51_2⟩ := cz3 BK730.out; obtain ⟨f51_0, f51_1, f51_2⟩ := fz3 BK730.out)); go_upto_region 11 with (first | (go_at_call 28; (with_reducible refine (impl_GetFrame.calls kj7 _ _ y721 t725 t726 t727 t728 t729 _ ?side1 ?side2 A40.out).mono ?_); (case side1 => repeat (first | exact (by repeat (first | (with_reducible exact HR724.out) | (with_reducible refine Kd.C_alloc ?_ _) | (with_reducible refine Kd.C_drewN ?_ _) | (with_reducible refine Kd.C_drew ?_) | exact HR724.out)) | (with_reducible refine Kd.C_alloc ?_ _) | (with_reducible refine Kd.C_drewN ?_ _) | (with_reducible refine Kd.C_drew ?_))); (case side2 => exact HC724.out); rintro e w46 ⟨rfl, hb⟩; replace HO_691004 := am_ (Kd.R_below (qR HO_691004) hb); replace HO_691005 := am_ (Kd.R_below (qR HO_691005) hb); replace HO_705004 := am_ (Kd.R_below (qR HO_705004) hb); replace HO_705005 := am_ (Kd.R_below (qR HO_705005) hb); replace HO_719004 := am_ (Kd.R_below (qR HO_719004) hb); replace HO_719005 := am_ (Kd.R_below (qR HO_719005) hb); replace BK690 := am_ (blk_below (qK BK690) hb); replace BK704 := am_ (blk_below (qK BK704) hb); replace BK718 := am_ (blk_below (qK BK718) hb); replace HR724 := am_ (Kd.C_below (by repeat (first | (with_reducible exact HR724.out) | (with_reducible refine Kd.C_alloc ?_ _) | (with_reducible refine Kd.C_drewN ?_ _) | (with_reducible refine Kd.C_drew ?_) | exact HR724.out)) hb); replace HB := am_ (below_step (qB HB) hb); (try clear hb); (try clear hb2); (try clear hk); (try clear hi)) | ((with_reducible refine gate_dst (N := 8) rfl ?_); (try (refine gate_guard (by rfl) ?_; dsimp only)); refine box_event ?hg (N := 8) ?hd (cs := #[.int .i64 0, .string (⟨#[]⟩ : ByteArray), .int .i64 0]) (t := 47) ?hr ?_; (case hd => rfl); (case hg => rfl); (case hr => first | (go_simp; done) | (go_simp; rfl)); intro gb730 hg w47 hbox hb; replace HO_691004 := am_ (Kd.R_below (qR HO_691004) hb); replace HO_691005 := am_ (Kd.R_below (qR HO_691005) hb); replace HO_705004 := am_ (Kd.R_below (qR HO_705004) hb); replace HO_705005 := am_ (Kd.R_below (qR HO_705005) hb); replace HO_719004 := am_ (Kd.R_below (qR HO_719004) hb); replace HO_719005 := am_ (Kd.R_below (qR HO_719005) hb); replace HR724 := am_ (Kd.C_below (by repeat (first | (with_reducible exact HR724.out) | (with_reducible refine Kd.C_alloc ?_ _) | (with_reducible refine Kd.C_drewN ?_ _) | (with_reducible refine Kd.C_drew ?_) | exact HR724.out)) hb); have BK730 := am_ (hbox); have GW730 := am_ ((gG_ hg (qB HB))); have IGW730 := gI_ GW730; have GE730 := am_ ((gG_ hg (qB HB))); have IGE730 := gI_ GE730; replace HB := am_ (below_step (qB HB) hb); have NB690_730 := am_ ((gN_ hg (qK BK690))); have NB730_690 := am_ ((gM_ hg (qK BK690))); replace BK690 := am_ (blk_below (qK BK690) hb); have NB704_730 := am_ ((gN_ hg (qK BK704))); have NB730_704 := am_ ((gM_ hg (qK BK704))); replace BK704 := am_ (blk_below (qK BK704) hb); have NB718_730 := am_ ((gN_ hg (qK BK718))); have NB730_718 := am_ ((gM_ hg (qK BK718))); replace BK718 := am_ (blk_below (qK BK718) hb); clear hb hbox hg; have hnb48 := NB730_690.out; have hnc48 := NB690_730.out; have hnb49 := NB730_704.out; have hnc49 := NB704_730.out; have hnb50 := NB730_718.out; have hnc50 := NB718_730.out; obtain ⟨z51_0, z51_1, z51_2⟩ := cz3 BK730.out; obtain ⟨f51_0, f51_1, f51_2⟩ := fz3 BK730.out)))
      (try simp only [Act.put, List.setIfInBounds_toArray, List.set_cons_zero, List.set_cons_succ])
      go_cut [74] (fun v74 wc => ∃ (kq : Nat) (x74_40 : Bool), v74 = .bool x74_40 ∧ Aside0 (laws_FnFar.j1 kq x74_40 t678 t679 t680 t681 t682 t685 t688 t689 t691 t692 t693 t694 t695 t698 t701 t702 t725 t726 t727 = some r) ∧ Aside0 (kq ≤ kj7) ∧ Aside0 (Kd.R (Kd.int .u8) 5 wc w.heap.size (fun k_ => some k_ ≠ ((.slice Ao13 t685.length co13) : Value).ownBlock ∧ some k_ ≠ ((.slice Ao18 t695.length co18) : Value).ownBlock ∧ some k_ ≠ ((.slice Ao19 t698.length co19) : Value).ownBlock ∧ some k_ ≠ ((.slice Ao26 t709.length co26) : Value).ownBlock ∧ some k_ ≠ ((.slice Ao27 t712.length co27) : Value).ownBlock) (.slice Ao12 t682.length co12) t682) ∧ Aside0 (Kd.R (Kd.int .u8) 5 wc w.heap.size (fun k_ => some k_ ≠ ((.slice Ao12 t682.length co12) : Value).ownBlock ∧ some k_ ≠ ((.slice Ao18 t695.length co18) : Value).ownBlock ∧ some k_ ≠ ((.slice Ao19 t698.length co19) : Value).ownBlock ∧ some k_ ≠ ((.slice Ao26 t709.length co26) : Value).ownBlock ∧ some k_ ≠ ((.slice Ao27 t712.length co27) : Value).ownBlock) (.slice Ao13 t685.length co13) t685) ∧ Aside0 (Kd.R (Kd.int .u8) 5 wc w.heap.size (fun k_ => some k_ ≠ ((.slice Ao12 t682.length co12) : Value).ownBlock ∧ some k_ ≠ ((.slice Ao13 t685.length co13) : Value).ownBlock ∧ some k_ ≠ ((.slice Ao19 t698.length co19) : Value).ownBlock ∧ some k_ ≠ ((.slice Ao26 t709.length co26) : Value).ownBlock ∧ some k_ ≠ ((.slice Ao27 t712.length co27) : Value).ownBlock) (.slice Ao18 t695.length co18) t695) ∧ Aside0 (Kd.R (Kd.int .u8) 5 wc w.heap.size (fun k_ => some k_ ≠ ((.slice Ao12 t682.length co12) : Value).ownBlock ∧ some k_ ≠ ((.slice Ao13 t685.length co13) : Value).ownBlock ∧ some k_ ≠ ((.slice Ao18 t695.length co18) : Value).ownBlock ∧ some k_ ≠ ((.slice Ao26 t709.length co26) : Value).ownBlock ∧ some k_ ≠ ((.slice Ao27 t712.length co27) : Value).ownBlock) (.slice Ao19 t698.length co19) t698) ∧ Aside0 (Kd.R (Kd.int .u8) 5 wc w.heap.size (fun k_ => some k_ ≠ ((.slice Ao12 t682.length co12) : Value).ownBlock ∧ some k_ ≠ ((.slice Ao13 t685.length co13) : Value).ownBlock ∧ some k_ ≠ ((.slice Ao18 t695.length co18) : Value).ownBlock ∧ some k_ ≠ ((.slice Ao19 t698.length co19) : Value).ownBlock ∧ some k_ ≠ ((.slice Ao27 t712.length co27) : Value).ownBlock) (.slice Ao26 t709.length co26) t709) ∧ Aside0 (Kd.R (Kd.int .u8) 5 wc w.heap.size (fun k_ => some k_ ≠ ((.slice Ao12 t682.length co12) : Value).ownBlock ∧ some k_ ≠ ((.slice Ao13 t685.length co13) : Value).ownBlock ∧ some k_ ≠ ((.slice Ao18 t695.length co18) : Value).ownBlock ∧ some k_ ≠ ((.slice Ao19 t698.length co19) : Value).ownBlock ∧ some k_ ≠ ((.slice Ao26 t709.length co26) : Value).ownBlock) (.slice Ao27 t712.length co27) t712) ∧ Aside0 (wc.heap[gb690]? = some (.cells #[.int .i64 t678, .int .i64 t679, .int .i64 t680, .bool t681, (.slice Ao12 t682.length co12), (.slice Ao13 t685.length co13), .int .i64 t688, .int .i64 t689] 41 (0, 0))) ∧ Aside0 (wc.heap[gb704]? = some (.cells #[.int .i64 t691, .int .i64 t692, .int .i64 t693, .bool t694, (.slice Ao18 t695.length co18), (.slice Ao19 t698.length co19), .int .i64 t701, .int .i64 t702] 41 (0, 0))) ∧ Aside0 (wc.heap[gb718]? = some (.cells #[.int .i64 t705, .int .i64 t706, .int .i64 t707, .bool t708, (.slice Ao26 t709.length co26), (.slice Ao27 t712.length co27), .int .i64 t715, .int .i64 t716] 41 (0, 0))) ∧ Aside0 (wc.heap[gb730]? = some (.cells #[.int .i64 t725, .string t726, .int .i64 t727] 47 (0, 0))) ∧ Aside0 (Below w.heap.size w wc))
      case first =>
       have H := HC41.out
       clear HC41
       by_cases c52 : t729 = 0
       ·
        rw [if_pos c52] at H
        have c52b0 : (t729 == 0) = true := beq_iff_eq.mpr c52
        have c52b1 : (t729 != 0) = false := bne_eq_false_iff_eq.mpr c52
        clear c52
        (first | rw [c52b0] | rw [c52b1] | (simp only [i64_w, i32_w]; rw [c52b0]) | skip)
        by_cases c53 : t702 = (wrap64 (t689 + t728))
        ·
         rw [if_pos c53] at H
         have c53b0 : (t702 == (wrap64 (t689 + t728))) = true := beq_iff_eq.mpr c53
         have c53b1 : (t702 != (wrap64 (t689 + t728))) = false := bne_eq_false_iff_eq.mpr c53
         clear c53
         obtain ⟨t731, A54, H⟩ := bd_ H
         by_cases c55 : t731 = true
         ·
          subst c55
          rw [if_pos rfl] at H
          obtain ⟨t732, A56, H⟩ := bd_ H
          have H' := Aside0.mk H
          clear H
          have hnb57 := NB704_690.out
          have hnc57 := NB690_704.out
          have hnb58 := NB704_718.out
          have hnc58 := NB718_704.out
          have hnb59 := NB704_730.out
          have hnc59 := NB730_704.out
          obtain ⟨z60_0, z60_1, z60_2, z60_3, z60_4, z60_5, z60_6, z60_7⟩ := cz8 BK704.out
          obtain ⟨f60_0, f60_1, f60_2, f60_3, f60_4, f60_5, f60_6, f60_7⟩ := fz8 BK704.out
          have hnb61 := NB690_718.out
          have hnc61 := NB718_690.out
          have hnb62 := NB690_730.out
          have hnc62 := NB730_690.out
          obtain ⟨z63_0, z63_1, z63_2, z63_3, z63_4, z63_5, z63_6, z63_7⟩ := cz8 BK690.out
          obtain ⟨f63_0, f63_1, f63_2, f63_3, f63_4, f63_5, f63_6, f63_7⟩ := fz8 BK690.out
          go_wp2_with (first | (go_at_call 29; (with_reducible refine (impl_SockOk.calls kj7 t691 t692 t693 t694 _ _ t695 _ _ t698 t701 t702 true _ ?side1 ?side2 ?side3 ?side4 A54.out).mono ?_); (case side1 => refine (Kd.R_reads' (e := 5) (base := w.heap.size) (ok := fun k_ => (some k_ ≠ (.slice Ao12 t682.length co12 : Value).ownBlock ∧ (some k_ ≠ (.slice Ao13 t685.length co13 : Value).ownBlock ∧ (some k_ ≠ (.slice Ao19 t698.length co19 : Value).ownBlock ∧ (some k_ ≠ (.slice Ao26 t709.length co26 : Value).ownBlock ∧ some k_ ≠ (.slice Ao27 t712.length co27 : Value).ownBlock))))) (n := t695.length) (c := co18) ?_).2.2; exact (by (with_reducible repeat (first | apply Kd.R_alloc | apply Kd.R_drewN | apply Kd.R_drew)); exact (Kd.R_mono (Go.Proofs.YtaimfkfpglhijaaV.R_far3 (g := gb730) (Kd.R_types HO_705004.out BK730.out (by decide)) (fun _ hk => hk.2)) (fun _ h_ => h_.1)))); (case side2 => exact (Kd.R_reads' HO_705004.out).2.1); (case side3 => refine (Kd.R_reads' (e := 5) (base := w.heap.size) (ok := fun k_ => (some k_ ≠ (.slice Ao12 t682.length co12 : Value).ownBlock ∧ (some k_ ≠ (.slice Ao13 t685.length co13 : Value).ownBlock ∧ (some k_ ≠ (.slice Ao18 t695.length co18 : Value).ownBlock ∧ (some k_ ≠ (.slice Ao26 t709.length co26 : Value).ownBlock ∧ some k_ ≠ (.slice Ao27 t712.length co27 : Value).ownBlock))))) (n := t698.length) (c := co19) ?_).2.2; exact (by (with_reducible repeat (first | apply Kd.R_alloc | apply Kd.R_drewN | apply Kd.R_drew)); exact (Kd.R_mono (Go.Proofs.YtaimfkfpglhijaaV.R_far3 (g := gb730) (Kd.R_types HO_705005.out BK730.out (by decide)) (fun _ hk => hk.2)) (fun _ h_ => h_.1)))); (case side4 => exact (Kd.R_reads' HO_705005.out).2.1); rintro e w64 ⟨rfl, hb⟩; replace HO_691004 := am_ (Kd.R_below (by (with_reducible repeat (first | apply Kd.R_alloc | apply Kd.R_drewN | apply Kd.R_drew)); exact (Kd.R_mono (Go.Proofs.YtaimfkfpglhijaaV.R_far3 (g := gb730) (Kd.R_types HO_691004.out BK730.out (by decide)) (fun _ hk => hk.2)) (fun _ h_ => h_.1))) hb); replace HO_691005 := am_ (Kd.R_below (by (with_reducible repeat (first | apply Kd.R_alloc | apply Kd.R_drewN | apply Kd.R_drew)); exact (Kd.R_mono (Go.Proofs.YtaimfkfpglhijaaV.R_far3 (g := gb730) (Kd.R_types HO_691005.out BK730.out (by decide)) (fun _ hk => hk.2)) (fun _ h_ => h_.1))) hb); replace HO_705004 := am_ (Kd.R_below (by (with_reducible repeat (first | apply Kd.R_alloc | apply Kd.R_drewN | apply Kd.R_drew)); exact (Kd.R_mono (Go.Proofs.YtaimfkfpglhijaaV.R_far3 (g := gb730) (Kd.R_types HO_705004.out BK730.out (by decide)) (fun _ hk => hk.2)) (fun _ h_ => h_.1))) hb); replace HO_705005 := am_ (Kd.R_below (by (with_reducible repeat (first | apply Kd.R_alloc | apply Kd.R_drewN | apply Kd.R_drew)); exact (Kd.R_mono (Go.Proofs.YtaimfkfpglhijaaV.R_far3 (g := gb730) (Kd.R_types HO_705005.out BK730.out (by decide)) (fun _ hk => hk.2)) (fun _ h_ => h_.1))) hb); replace HO_719004 := am_ (Kd.R_below (by (with_reducible repeat (first | apply Kd.R_alloc | apply Kd.R_drewN | apply Kd.R_drew)); exact (Kd.R_mono (Go.Proofs.YtaimfkfpglhijaaV.R_far3 (g := gb730) (Kd.R_types HO_719004.out BK730.out (by decide)) (fun _ hk => hk.2)) (fun _ h_ => h_.1))) hb); replace HO_719005 := am_ (Kd.R_below (by (with_reducible repeat (first | apply Kd.R_alloc | apply Kd.R_drewN | apply Kd.R_drew)); exact (Kd.R_mono (Go.Proofs.YtaimfkfpglhijaaV.R_far3 (g := gb730) (Kd.R_types HO_719005.out BK730.out (by decide)) (fun _ hk => hk.2)) (fun _ h_ => h_.1))) hb); replace BK690 := am_ (blk_below (g := gb690) (o := .cells #[.int .i64 t678, .int .i64 t679, .int .i64 t680, .bool t681, .slice Ao12 t682.length co12, .slice Ao13 t685.length co13, .int .i64 t688, .int .i64 t689] 41 (0, 0)) (by (with_reducible repeat (first | refine blk_drewN ?_ _ | refine blk_drew ?_ | refine blk_alloc ?_ _)); refine Go.Proofs.YtaimfkfpglhijaaV.blk_far3 ?_ NB690_730.out; exact qK BK690) hb); replace BK704 := am_ (blk_below (g := gb704) (o := .cells #[.int .i64 t691, .int .i64 t692, .int .i64 t693, .bool t694, .slice Ao18 t695.length co18, .slice Ao19 t698.length co19, .int .i64 t701, .int .i64 t702] 41 (0, 0)) (by (with_reducible repeat (first | refine blk_drewN ?_ _ | refine blk_drew ?_ | refine blk_alloc ?_ _)); refine Go.Proofs.YtaimfkfpglhijaaV.blk_far3 ?_ NB704_730.out; exact qK BK704) hb); replace BK718 := am_ (blk_below (g := gb718) (o := .cells #[.int .i64 t705, .int .i64 t706, .int .i64 t707, .bool t708, .slice Ao26 t709.length co26, .slice Ao27 t712.length co27, .int .i64 t715, .int .i64 t716] 41 (0, 0)) (by (with_reducible repeat (first | refine blk_drewN ?_ _ | refine blk_drew ?_ | refine blk_alloc ?_ _)); refine Go.Proofs.YtaimfkfpglhijaaV.blk_far3 ?_ NB718_730.out; exact qK BK718) hb); replace BK730 := am_ (blk_below (g := gb730) (o := .cells #[.int .i64 t725, .string t726, .int .i64 t727] 47 (0, 0)) (by (with_reducible repeat (first | refine blk_drewN ?_ _ | refine blk_drew ?_ | refine blk_alloc ?_ _)); refine Go.Proofs.YtaimfkfpglhijaaV.blk_all3 (show _ = some (Go.Obj.cells #[.int .i64 0, .string (⟨#[]⟩ : ByteArray), .int .i64 0] _ (0, 0)) from ?_); exact qK BK730) hb); replace HB := am_ (below_step (qB HB) hb); (try clear hb); (try clear hb2); (try clear hk); (try clear hi); obtain ⟨z65_0, z65_1, z65_2, z65_3, z65_4, z65_5, z65_6, z65_7⟩ := cz8 BK704.out; obtain ⟨f65_0, f65_1, f65_2, f65_3, f65_4, f65_5, f65_6, f65_7⟩ := fz8 BK704.out; obtain ⟨z66_0, z66_1, z66_2, z66_3, z66_4, z66_5, z66_6, z66_7⟩ := cz8 BK690.out; obtain ⟨f66_0, f66_1, f66_2, f66_3, f66_4, f66_5, f66_6, f66_7⟩ := fz8 BK690.out) | (go_at_call 18; (with_reducible refine (laws_same.calls _ _ t698 _ _ t685 t732 _ ?side1 ?side2 ?side3 ?side4 A56.out).mono ?_); (case side1 => exact qC ((Kd.R_reads' HO_705005.out).2.2)); (case side2 => exact (Kd.R_reads' HO_705005.out).2.1); (case side3 => exact qC ((Kd.R_reads' HO_691005.out).2.2)); (case side4 => exact (Kd.R_reads' HO_691005.out).2.1); rintro e w' ⟨rfl, ⟨nd, rfl⟩⟩; (try first | exact ⟨rfl, _, World.drewN_drewN _ _ _⟩ | exact ⟨rfl, _, Eq.trans (World.drewN_drewN _ _ _) (congrArg (World.drewN _) (Nat.add_assoc _ _ _))⟩)))
          repeat (go_quiet (first | (go_at_call 29; (with_reducible refine (impl_SockOk.calls kj7 t691 t692 t693 t694 _ _ t695 _ _ t698 t701 t702 true _ ?side1 ?side2 ?side3 ?side4 A54.out).mono ?_); (case side1 => refine (Kd.R_reads' (e := 5) (base := w.heap.size) (ok := fun k_ => (some k_ ≠ (.slice Ao12 t682.length co12 : Value).ownBlock ∧ (some k_ ≠ (.slice Ao13 t685.length co13 : Value).ownBlock ∧ (some k_ ≠ (.slice Ao19 t698.length co19 : Value).ownBlock ∧ (some k_ ≠ (.slice Ao26 t709.length co26 : Value).ownBlock ∧ some k_ ≠ (.slice Ao27 t712.length co27 : Value).ownBlock))))) (n := t695.length) (c := co18) ?_).2.2; exact (by (with_reducible repeat (first | apply Kd.R_alloc | apply Kd.R_drewN | apply Kd.R_drew)); exact (Kd.R_mono (Go.Proofs.YtaimfkfpglhijaaV.R_far3 (g := gb730) (Kd.R_types HO_705004.out BK730.out (by decide)) (fun _ hk => hk.2)) (fun _ h_ => h_.1)))); (case side2 => exact (Kd.R_reads' HO_705004.out).2.1); (case side3 => refine (Kd.R_reads' (e := 5) (base := w.heap.size) (ok := fun k_ => (some k_ ≠ (.slice Ao12 t682.length co12 : Value).ownBlock ∧ (some k_ ≠ (.slice Ao13 t685.length co13 : Value).ownBlock ∧ (some k_ ≠ (.slice Ao18 t695.length co18 : Value).ownBlock ∧ (some k_ ≠ (.slice Ao26 t709.length co26 : Value).ownBlock ∧ some k_ ≠ (.slice Ao27 t712.length co27 : Value).ownBlock))))) (n := t698.length) (c := co19) ?_).2.2; exact (by (with_reducible repeat (first | apply Kd.R_alloc | apply Kd.R_drewN | apply Kd.R_drew)); exact (Kd.R_mono (Go.Proofs.YtaimfkfpglhijaaV.R_far3 (g := gb730) (Kd.R_types HO_705005.out BK730.out (by decide)) (fun _ hk => hk.2)) (fun _ h_ => h_.1)))); (case side4 => exact (Kd.R_reads' HO_705005.out).2.1); rintro e w64 ⟨rfl, hb⟩; replace HO_691004 := am_ (Kd.R_below (by (with_reducible repeat (first | apply Kd.R_alloc | apply Kd.R_drewN | apply Kd.R_drew)); exact (Kd.R_mono (Go.Proofs.YtaimfkfpglhijaaV.R_far3 (g := gb730) (Kd.R_types HO_691004.out BK730.out (by decide)) (fun _ hk => hk.2)) (fun _ h_ => h_.1))) hb); replace HO_691005 := am_ (Kd.R_below (by (with_reducible repeat (first | apply Kd.R_alloc | apply Kd.R_drewN | apply Kd.R_drew)); exact (Kd.R_mono (Go.Proofs.YtaimfkfpglhijaaV.R_far3 (g := gb730) (Kd.R_types HO_691005.out BK730.out (by decide)) (fun _ hk => hk.2)) (fun _ h_ => h_.1))) hb); replace HO_705004 := am_ (Kd.R_below (by (with_reducible repeat (first | apply Kd.R_alloc | apply Kd.R_drewN | apply Kd.R_drew)); exact (Kd.R_mono (Go.Proofs.YtaimfkfpglhijaaV.R_far3 (g := gb730) (Kd.R_types HO_705004.out BK730.out (by decide)) (fun _ hk => hk.2)) (fun _ h_ => h_.1))) hb); replace HO_705005 := am_ (Kd.R_below (by (with_reducible repeat (first | apply Kd.R_alloc | apply Kd.R_drewN | apply Kd.R_drew)); exact (Kd.R_mono (Go.Proofs.YtaimfkfpglhijaaV.R_far3 (g := gb730) (Kd.R_types HO_705005.out BK730.out (by decide)) (fun _ hk => hk.2)) (fun _ h_ => h_.1))) hb); replace HO_719004 := am_ (Kd.R_below (by (with_reducible repeat (first | apply Kd.R_alloc | apply Kd.R_drewN | apply Kd.R_drew)); exact (Kd.R_mono (Go.Proofs.YtaimfkfpglhijaaV.R_far3 (g := gb730) (Kd.R_types HO_719004.out BK730.out (by decide)) (fun _ hk => hk.2)) (fun _ h_ => h_.1))) hb); replace HO_719005 := am_ (Kd.R_below (by (with_reducible repeat (first | apply Kd.R_alloc | apply Kd.R_drewN | apply Kd.R_drew)); exact (Kd.R_mono (Go.Proofs.YtaimfkfpglhijaaV.R_far3 (g := gb730) (Kd.R_types HO_719005.out BK730.out (by decide)) (fun _ hk => hk.2)) (fun _ h_ => h_.1))) hb); replace BK690 := am_ (blk_below (g := gb690) (o := .cells #[.int .i64 t678, .int .i64 t679, .int .i64 t680, .bool t681, .slice Ao12 t682.length co12, .slice Ao13 t685.length co13, .int .i64 t688, .int .i64 t689] 41 (0, 0)) (by (with_reducible repeat (first | refine blk_drewN ?_ _ | refine blk_drew ?_ | refine blk_alloc ?_ _)); refine Go.Proofs.YtaimfkfpglhijaaV.blk_far3 ?_ NB690_730.out; exact qK BK690) hb); replace BK704 := am_ (blk_below (g := gb704) (o := .cells #[.int .i64 t691, .int .i64 t692, .int .i64 t693, .bool t694, .slice Ao18 t695.length co18, .slice Ao19 t698.length co19, .int .i64 t701, .int .i64 t702] 41 (0, 0)) (by (with_reducible repeat (first | refine blk_drewN ?_ _ | refine blk_drew ?_ | refine blk_alloc ?_ _)); refine Go.Proofs.YtaimfkfpglhijaaV.blk_far3 ?_ NB704_730.out; exact qK BK704) hb); replace BK718 := am_ (blk_below (g := gb718) (o := .cells #[.int .i64 t705, .int .i64 t706, .int .i64 t707, .bool t708, .slice Ao26 t709.length co26, .slice Ao27 t712.length co27, .int .i64 t715, .int .i64 t716] 41 (0, 0)) (by (with_reducible repeat (first | refine blk_drewN ?_ _ | refine blk_drew ?_ | refine blk_alloc ?_ _)); refine Go.Proofs.YtaimfkfpglhijaaV.blk_far3 ?_ NB718_730.out; exact qK BK718) hb); replace BK730 := am_ (blk_below (g := gb730) (o := .cells #[.int .i64 t725, .string t726, .int .i64 t727] 47 (0, 0)) (by (with_reducible repeat (first | refine blk_drewN ?_ _ | refine blk_drew ?_ | refine blk_alloc ?_ _)); refine Go.Proofs.YtaimfkfpglhijaaV.blk_all3 (show _ = some (Go.Obj.cells #[.int .i64 0, .string (⟨#[]⟩ : ByteArray), .int .i64 0] _ (0, 0)) from ?_); exact qK BK730) hb); replace HB := am_ (below_step (qB HB) hb); (try clear hb); (try clear hb2); (try clear hk); (try clear hi); obtain ⟨z65_0, z65_1, z65_2, z65_3, z65_4, z65_5, z65_6, z65_7⟩ := cz8 BK704.out; obtain ⟨f65_0, f65_1, f65_2, f65_3, f65_4, f65_5, f65_6, f65_7⟩ := fz8 BK704.out; obtain ⟨z66_0, z66_1, z66_2, z66_3, z66_4, z66_5, z66_6, z66_7⟩ := cz8 BK690.out; obtain ⟨f66_0, f66_1, f66_2, f66_3, f66_4, f66_5, f66_6, f66_7⟩ := fz8 BK690.out) | (go_at_call 18; (with_reducible refine (laws_same.calls _ _ t698 _ _ t685 t732 _ ?side1 ?side2 ?side3 ?side4 A56.out).mono ?_); (case side1 => exact qC ((Kd.R_reads' HO_705005.out).2.2)); (case side2 => exact (Kd.R_reads' HO_705005.out).2.1); (case side3 => exact qC ((Kd.R_reads' HO_691005.out).2.2)); (case side4 => exact (Kd.R_reads' HO_691005.out).2.1); rintro e w' ⟨rfl, ⟨nd, rfl⟩⟩; (try first | exact ⟨rfl, _, World.drewN_drewN _ _ _⟩ | exact ⟨rfl, _, Eq.trans (World.drewN_drewN _ _ _) (congrArg (World.drewN _) (Nat.add_assoc _ _ _))⟩))); try go_wp2_with (first | (go_at_call 29; (with_reducible refine (impl_SockOk.calls kj7 t691 t692 t693 t694 _ _ t695 _ _ t698 t701 t702 true _ ?side1 ?side2 ?side3 ?side4 A54.out).mono ?_); (case side1 => refine (Kd.R_reads' (e := 5) (base := w.heap.size) (ok := fun k_ => (some k_ ≠ (.slice Ao12 t682.length co12 : Value).ownBlock ∧ (some k_ ≠ (.slice Ao13 t685.length co13 : Value).ownBlock ∧ (some k_ ≠ (.slice Ao19 t698.length co19 : Value).ownBlock ∧ (some k_ ≠ (.slice Ao26 t709.length co26 : Value).ownBlock ∧ some k_ ≠ (.slice Ao27 t712.length co27 : Value).ownBlock))))) (n := t695.length) (c := co18) ?_).2.2; exact (by (with_reducible repeat (first | apply Kd.R_alloc | apply Kd.R_drewN | apply Kd.R_drew)); exact (Kd.R_mono (Go.Proofs.YtaimfkfpglhijaaV.R_far3 (g := gb730) (Kd.R_types HO_705004.out BK730.out (by decide)) (fun _ hk => hk.2)) (fun _ h_ => h_.1)))); (case side2 => exact (Kd.R_reads' HO_705004.out).2.1); (case side3 => refine (Kd.R_reads' (e := 5) (base := w.heap.size) (ok := fun k_ => (some k_ ≠ (.slice Ao12 t682.length co12 : Value).ownBlock ∧ (some k_ ≠ (.slice Ao13 t685.length co13 : Value).ownBlock ∧ (some k_ ≠ (.slice Ao18 t695.length co18 : Value).ownBlock ∧ (some k_ ≠ (.slice Ao26 t709.length co26 : Value).ownBlock ∧ some k_ ≠ (.slice Ao27 t712.length co27 : Value).ownBlock))))) (n := t698.length) (c := co19) ?_).2.2; exact (by (with_reducible repeat (first | apply Kd.R_alloc | apply Kd.R_drewN | apply Kd.R_drew)); exact (Kd.R_mono (Go.Proofs.YtaimfkfpglhijaaV.R_far3 (g := gb730) (Kd.R_types HO_705005.out BK730.out (by decide)) (fun _ hk => hk.2)) (fun _ h_ => h_.1)))); (case side4 => exact (Kd.R_reads' HO_705005.out).2.1); rintro e w64 ⟨rfl, hb⟩; replace HO_691004 := am_ (Kd.R_below (by (with_reducible repeat (first | apply Kd.R_alloc | apply Kd.R_drewN | apply Kd.R_drew)); exact (Kd.R_mono (Go.Proofs.YtaimfkfpglhijaaV.R_far3 (g := gb730) (Kd.R_types HO_691004.out BK730.out (by decide)) (fun _ hk => hk.2)) (fun _ h_ => h_.1))) hb); replace HO_691005 := am_ (Kd.R_below (by (with_reducible repeat (first | apply Kd.R_alloc | apply Kd.R_drewN | apply Kd.R_drew)); exact (Kd.R_mono (Go.Proofs.YtaimfkfpglhijaaV.R_far3 (g := gb730) (Kd.R_types HO_691005.out BK730.out (by decide)) (fun _ hk => hk.2)) (fun _ h_ => h_.1))) hb); replace HO_705004 := am_ (Kd.R_below (by (with_reducible repeat (first | apply Kd.R_alloc | apply Kd.R_drewN | apply Kd.R_drew)); exact (Kd.R_mono (Go.Proofs.YtaimfkfpglhijaaV.R_far3 (g := gb730) (Kd.R_types HO_705004.out BK730.out (by decide)) (fun _ hk => hk.2)) (fun _ h_ => h_.1))) hb); replace HO_705005 := am_ (Kd.R_below (by (with_reducible repeat (first | apply Kd.R_alloc | apply Kd.R_drewN | apply Kd.R_drew)); exact (Kd.R_mono (Go.Proofs.YtaimfkfpglhijaaV.R_far3 (g := gb730) (Kd.R_types HO_705005.out BK730.out (by decide)) (fun _ hk => hk.2)) (fun _ h_ => h_.1))) hb); replace HO_719004 := am_ (Kd.R_below (by (with_reducible repeat (first | apply Kd.R_alloc | apply Kd.R_drewN | apply Kd.R_drew)); exact (Kd.R_mono (Go.Proofs.YtaimfkfpglhijaaV.R_far3 (g := gb730) (Kd.R_types HO_719004.out BK730.out (by decide)) (fun _ hk => hk.2)) (fun _ h_ => h_.1))) hb); replace HO_719005 := am_ (Kd.R_below (by (with_reducible repeat (first | apply Kd.R_alloc | apply Kd.R_drewN | apply Kd.R_drew)); exact (Kd.R_mono (Go.Proofs.YtaimfkfpglhijaaV.R_far3 (g := gb730) (Kd.R_types HO_719005.out BK730.out (by decide)) (fun _ hk => hk.2)) (fun _ h_ => h_.1))) hb); replace BK690 := am_ (blk_below (g := gb690) (o := .cells #[.int .i64 t678, .int .i64 t679, .int .i64 t680, .bool t681, .slice Ao12 t682.length co12, .slice Ao13 t685.length co13, .int .i64 t688, .int .i64 t689] 41 (0, 0)) (by (with_reducible repeat (first | refine blk_drewN ?_ _ | refine blk_drew ?_ | refine blk_alloc ?_ _)); refine Go.Proofs.YtaimfkfpglhijaaV.blk_far3 ?_ NB690_730.out; exact qK BK690) hb); replace BK704 := am_ (blk_below (g := gb704) (o := .cells #[.int .i64 t691, .int .i64 t692, .int .i64 t693, .bool t694, .slice Ao18 t695.length co18, .slice Ao19 t698.length co19, .int .i64 t701, .int .i64 t702] 41 (0, 0)) (by (with_reducible repeat (first | refine blk_drewN ?_ _ | refine blk_drew ?_ | refine blk_alloc ?_ _)); refine Go.Proofs.YtaimfkfpglhijaaV.blk_far3 ?_ NB704_730.out; exact qK BK704) hb); replace BK718 := am_ (blk_below (g := gb718) (o := .cells #[.int .i64 t705, .int .i64 t706, .int .i64 t707, .bool t708, .slice Ao26 t709.length co26, .slice Ao27 t712.length co27, .int .i64 t715, .int .i64 t716] 41 (0, 0)) (by (with_reducible repeat (first | refine blk_drewN ?_ _ | refine blk_drew ?_ | refine blk_alloc ?_ _)); refine Go.Proofs.YtaimfkfpglhijaaV.blk_far3 ?_ NB718_730.out; exact qK BK718) hb); replace BK730 := am_ (blk_below (g := gb730) (o := .cells #[.int .i64 t725, .string t726, .int .i64 t727] 47 (0, 0)) (by (with_reducible repeat (first | refine blk_drewN ?_ _ | refine blk_drew ?_ | refine blk_alloc ?_ _)); refine Go.Proofs.YtaimfkfpglhijaaV.blk_all3 (show _ = some (Go.Obj.cells #[.int .i64 0, .string (⟨#[]⟩ : ByteArray), .int .i64 0] _ (0, 0)) from ?_); exact qK BK730) hb); replace HB := am_ (below_step (qB HB) hb); (try clear hb); (try clear hb2); (try clear hk); (try clear hi); obtain ⟨z65_0, z65_1, z65_2, z65_3, z65_4, z65_5, z65_6, z65_7⟩ := cz8 BK704.out; obtain ⟨f65_0, f65_1, f65_2, f65_3, f65_4, f65_5, f65_6, f65_7⟩ := fz8 BK704.out; obtain ⟨z66_0, z66_1, z66_2, z66_3, z66_4, z66_5, z66_6, z66_7⟩ := cz8 BK690.out; obtain ⟨f66_0, f66_1, f66_2, f66_3, f66_4, f66_5, f66_6, f66_7⟩ := fz8 BK690.out) | (go_at_call 18; (with_reducible refine (laws_same.calls _ _ t698 _ _ t685 t732 _ ?side1 ?side2 ?side3 ?side4 A56.out).mono ?_); (case side1 => exact qC ((Kd.R_reads' HO_705005.out).2.2)); (case side2 => exact (Kd.R_reads' HO_705005.out).2.1); (case side3 => exact qC ((Kd.R_reads' HO_691005.out).2.2)); (case side4 => exact (Kd.R_reads' HO_691005.out).2.1); rintro e w' ⟨rfl, ⟨nd, rfl⟩⟩; (try first | exact ⟨rfl, _, World.drewN_drewN _ _ _⟩ | exact ⟨rfl, _, Eq.trans (World.drewN_drewN _ _ _) (congrArg (World.drewN _) (Nat.add_assoc _ _ _))⟩))))
          go_meet
          case rel => exact ⟨_, (!t732), eqq_, H', ⟨by have := HJ7.out; first | omega | exact Nat.le_refl _⟩, ⟨qR HO_691004⟩, ⟨qR HO_691005⟩, ⟨qR HO_705004⟩, ⟨qR HO_705005⟩, ⟨qR HO_719004⟩, ⟨qR HO_719005⟩, ⟨qK BK690⟩, ⟨qK BK704⟩, ⟨qK BK718⟩, ⟨qK BK730⟩, ⟨qB HB⟩⟩
         ·
          replace c55 := Bool.eq_false_iff.mpr c55
          subst c55
          rw [if_neg (show ¬ (false = true) by decide)] at H
          have H' := Aside0.mk H
          clear H
          have hnb67 := NB704_690.out
          have hnc67 := NB690_704.out
          have hnb68 := NB704_718.out
          have hnc68 := NB718_704.out
          have hnb69 := NB704_730.out
          have hnc69 := NB730_704.out
          obtain ⟨z70_0, z70_1, z70_2, z70_3, z70_4, z70_5, z70_6, z70_7⟩ := cz8 BK704.out
          obtain ⟨f70_0, f70_1, f70_2, f70_3, f70_4, f70_5, f70_6, f70_7⟩ := fz8 BK704.out
          have hnb71 := NB690_718.out
          have hnc71 := NB718_690.out
          have hnb72 := NB690_730.out
          have hnc72 := NB730_690.out
          obtain ⟨z73_0, z73_1, z73_2, z73_3, z73_4, z73_5, z73_6, z73_7⟩ := cz8 BK690.out
          obtain ⟨f73_0, f73_1, f73_2, f73_3, f73_4, f73_5, f73_6, f73_7⟩ := fz8 BK690.out
          go_wp2_with (first | (go_at_call 29; (with_reducible refine (impl_SockOk.calls kj7 t691 t692 t693 t694 _ _ t695 _ _ t698 t701 t702 false _ ?side1 ?side2 ?side3 ?side4 A54.out).mono ?_); (case side1 => refine (Kd.R_reads' (e := 5) (base := w.heap.size) (ok := fun k_ => (some k_ ≠ (.slice Ao12 t682.length co12 : Value).ownBlock ∧ (some k_ ≠ (.slice Ao13 t685.length co13 : Value).ownBlock ∧ (some k_ ≠ (.slice Ao19 t698.length co19 : Value).ownBlock ∧ (some k_ ≠ (.slice Ao26 t709.length co26 : Value).ownBlock ∧ some k_ ≠ (.slice Ao27 t712.length co27 : Value).ownBlock))))) (n := t695.length) (c := co18) ?_).2.2; exact (by (with_reducible repeat (first | apply Kd.R_alloc | apply Kd.R_drewN | apply Kd.R_drew)); exact (Kd.R_mono (Go.Proofs.YtaimfkfpglhijaaV.R_far3 (g := gb730) (Kd.R_types HO_705004.out BK730.out (by decide)) (fun _ hk => hk.2)) (fun _ h_ => h_.1)))); (case side2 => exact (Kd.R_reads' HO_705004.out).2.1); (case side3 => refine (Kd.R_reads' (e := 5) (base := w.heap.size) (ok := fun k_ => (some k_ ≠ (.slice Ao12 t682.length co12 : Value).ownBlock ∧ (some k_ ≠ (.slice Ao13 t685.length co13 : Value).ownBlock ∧ (some k_ ≠ (.slice Ao18 t695.length co18 : Value).ownBlock ∧ (some k_ ≠ (.slice Ao26 t709.length co26 : Value).ownBlock ∧ some k_ ≠ (.slice Ao27 t712.length co27 : Value).ownBlock))))) (n := t698.length) (c := co19) ?_).2.2; exact (by (with_reducible repeat (first | apply Kd.R_alloc | apply Kd.R_drewN | apply Kd.R_drew)); exact (Kd.R_mono (Go.Proofs.YtaimfkfpglhijaaV.R_far3 (g := gb730) (Kd.R_types HO_705005.out BK730.out (by decide)) (fun _ hk => hk.2)) (fun _ h_ => h_.1)))); (case side4 => exact (Kd.R_reads' HO_705005.out).2.1); rintro e w74 ⟨rfl, hb⟩; replace HO_691004 := am_ (Kd.R_below (by (with_reducible repeat (first | apply Kd.R_alloc | apply Kd.R_drewN | apply Kd.R_drew)); exact (Kd.R_mono (Go.Proofs.YtaimfkfpglhijaaV.R_far3 (g := gb730) (Kd.R_types HO_691004.out BK730.out (by decide)) (fun _ hk => hk.2)) (fun _ h_ => h_.1))) hb); replace HO_691005 := am_ (Kd.R_below (by (with_reducible repeat (first | apply Kd.R_alloc | apply Kd.R_drewN | apply Kd.R_drew)); exact (Kd.R_mono (Go.Proofs.YtaimfkfpglhijaaV.R_far3 (g := gb730) (Kd.R_types HO_691005.out BK730.out (by decide)) (fun _ hk => hk.2)) (fun _ h_ => h_.1))) hb); replace HO_705004 := am_ (Kd.R_below (by (with_reducible repeat (first | apply Kd.R_alloc | apply Kd.R_drewN | apply Kd.R_drew)); exact (Kd.R_mono (Go.Proofs.YtaimfkfpglhijaaV.R_far3 (g := gb730) (Kd.R_types HO_705004.out BK730.out (by decide)) (fun _ hk => hk.2)) (fun _ h_ => h_.1))) hb); replace HO_705005 := am_ (Kd.R_below (by (with_reducible repeat (first | apply Kd.R_alloc | apply Kd.R_drewN | apply Kd.R_drew)); exact (Kd.R_mono (Go.Proofs.YtaimfkfpglhijaaV.R_far3 (g := gb730) (Kd.R_types HO_705005.out BK730.out (by decide)) (fun _ hk => hk.2)) (fun _ h_ => h_.1))) hb); replace HO_719004 := am_ (Kd.R_below (by (with_reducible repeat (first | apply Kd.R_alloc | apply Kd.R_drewN | apply Kd.R_drew)); exact (Kd.R_mono (Go.Proofs.YtaimfkfpglhijaaV.R_far3 (g := gb730) (Kd.R_types HO_719004.out BK730.out (by decide)) (fun _ hk => hk.2)) (fun _ h_ => h_.1))) hb); replace HO_719005 := am_ (Kd.R_below (by (with_reducible repeat (first | apply Kd.R_alloc | apply Kd.R_drewN | apply Kd.R_drew)); exact (Kd.R_mono (Go.Proofs.YtaimfkfpglhijaaV.R_far3 (g := gb730) (Kd.R_types HO_719005.out BK730.out (by decide)) (fun _ hk => hk.2)) (fun _ h_ => h_.1))) hb); replace BK690 := am_ (blk_below (g := gb690) (o := .cells #[.int .i64 t678, .int .i64 t679, .int .i64 t680, .bool t681, .slice Ao12 t682.length co12, .slice Ao13 t685.length co13, .int .i64 t688, .int .i64 t689] 41 (0, 0)) (by (with_reducible repeat (first | refine blk_drewN ?_ _ | refine blk_drew ?_ | refine blk_alloc ?_ _)); refine Go.Proofs.YtaimfkfpglhijaaV.blk_far3 ?_ NB690_730.out; exact qK BK690) hb); replace BK704 := am_ (blk_below (g := gb704) (o := .cells #[.int .i64 t691, .int .i64 t692, .int .i64 t693, .bool t694, .slice Ao18 t695.length co18, .slice Ao19 t698.length co19, .int .i64 t701, .int .i64 t702] 41 (0, 0)) (by (with_reducible repeat (first | refine blk_drewN ?_ _ | refine blk_drew ?_ | refine blk_alloc ?_ _)); refine Go.Proofs.YtaimfkfpglhijaaV.blk_far3 ?_ NB704_730.out; exact qK BK704) hb); replace BK718 := am_ (blk_below (g := gb718) (o := .cells #[.int .i64 t705, .int .i64 t706, .int .i64 t707, .bool t708, .slice Ao26 t709.length co26, .slice Ao27 t712.length co27, .int .i64 t715, .int .i64 t716] 41 (0, 0)) (by (with_reducible repeat (first | refine blk_drewN ?_ _ | refine blk_drew ?_ | refine blk_alloc ?_ _)); refine Go.Proofs.YtaimfkfpglhijaaV.blk_far3 ?_ NB718_730.out; exact qK BK718) hb); replace BK730 := am_ (blk_below (g := gb730) (o := .cells #[.int .i64 t725, .string t726, .int .i64 t727] 47 (0, 0)) (by (with_reducible repeat (first | refine blk_drewN ?_ _ | refine blk_drew ?_ | refine blk_alloc ?_ _)); refine Go.Proofs.YtaimfkfpglhijaaV.blk_all3 (show _ = some (Go.Obj.cells #[.int .i64 0, .string (⟨#[]⟩ : ByteArray), .int .i64 0] _ (0, 0)) from ?_); exact qK BK730) hb); replace HB := am_ (below_step (qB HB) hb); (try clear hb); (try clear hb2); (try clear hk); (try clear hi)))
          repeat (go_quiet (first | (go_at_call 29; (with_reducible refine (impl_SockOk.calls kj7 t691 t692 t693 t694 _ _ t695 _ _ t698 t701 t702 false _ ?side1 ?side2 ?side3 ?side4 A54.out).mono ?_); (case side1 => refine (Kd.R_reads' (e := 5) (base := w.heap.size) (ok := fun k_ => (some k_ ≠ (.slice Ao12 t682.length co12 : Value).ownBlock ∧ (some k_ ≠ (.slice Ao13 t685.length co13 : Value).ownBlock ∧ (some k_ ≠ (.slice Ao19 t698.length co19 : Value).ownBlock ∧ (some k_ ≠ (.slice Ao26 t709.length co26 : Value).ownBlock ∧ some k_ ≠ (.slice Ao27 t712.length co27 : Value).ownBlock))))) (n := t695.length) (c := co18) ?_).2.2; exact (by (with_reducible repeat (first | apply Kd.R_alloc | apply Kd.R_drewN | apply Kd.R_drew)); exact (Kd.R_mono (Go.Proofs.YtaimfkfpglhijaaV.R_far3 (g := gb730) (Kd.R_types HO_705004.out BK730.out (by decide)) (fun _ hk => hk.2)) (fun _ h_ => h_.1)))); (case side2 => exact (Kd.R_reads' HO_705004.out).2.1); (case side3 => refine (Kd.R_reads' (e := 5) (base := w.heap.size) (ok := fun k_ => (some k_ ≠ (.slice Ao12 t682.length co12 : Value).ownBlock ∧ (some k_ ≠ (.slice Ao13 t685.length co13 : Value).ownBlock ∧ (some k_ ≠ (.slice Ao18 t695.length co18 : Value).ownBlock ∧ (some k_ ≠ (.slice Ao26 t709.length co26 : Value).ownBlock ∧ some k_ ≠ (.slice Ao27 t712.length co27 : Value).ownBlock))))) (n := t698.length) (c := co19) ?_).2.2; exact (by (with_reducible repeat (first | apply Kd.R_alloc | apply Kd.R_drewN | apply Kd.R_drew)); exact (Kd.R_mono (Go.Proofs.YtaimfkfpglhijaaV.R_far3 (g := gb730) (Kd.R_types HO_705005.out BK730.out (by decide)) (fun _ hk => hk.2)) (fun _ h_ => h_.1)))); (case side4 => exact (Kd.R_reads' HO_705005.out).2.1); rintro e w74 ⟨rfl, hb⟩; replace HO_691004 := am_ (Kd.R_below (by (with_reducible repeat (first | apply Kd.R_alloc | apply Kd.R_drewN | apply Kd.R_drew)); exact (Kd.R_mono (Go.Proofs.YtaimfkfpglhijaaV.R_far3 (g := gb730) (Kd.R_types HO_691004.out BK730.out (by decide)) (fun _ hk => hk.2)) (fun _ h_ => h_.1))) hb); replace HO_691005 := am_ (Kd.R_below (by (with_reducible repeat (first | apply Kd.R_alloc | apply Kd.R_drewN | apply Kd.R_drew)); exact (Kd.R_mono (Go.Proofs.YtaimfkfpglhijaaV.R_far3 (g := gb730) (Kd.R_types HO_691005.out BK730.out (by decide)) (fun _ hk => hk.2)) (fun _ h_ => h_.1))) hb); replace HO_705004 := am_ (Kd.R_below (by (with_reducible repeat (first | apply Kd.R_alloc | apply Kd.R_drewN | apply Kd.R_drew)); exact (Kd.R_mono (Go.Proofs.YtaimfkfpglhijaaV.R_far3 (g := gb730) (Kd.R_types HO_705004.out BK730.out (by decide)) (fun _ hk => hk.2)) (fun _ h_ => h_.1))) hb); replace HO_705005 := am_ (Kd.R_below (by (with_reducible repeat (first | apply Kd.R_alloc | apply Kd.R_drewN | apply Kd.R_drew)); exact (Kd.R_mono (Go.Proofs.YtaimfkfpglhijaaV.R_far3 (g := gb730) (Kd.R_types HO_705005.out BK730.out (by decide)) (fun _ hk => hk.2)) (fun _ h_ => h_.1))) hb); replace HO_719004 := am_ (Kd.R_below (by (with_reducible repeat (first | apply Kd.R_alloc | apply Kd.R_drewN | apply Kd.R_drew)); exact (Kd.R_mono (Go.Proofs.YtaimfkfpglhijaaV.R_far3 (g := gb730) (Kd.R_types HO_719004.out BK730.out (by decide)) (fun _ hk => hk.2)) (fun _ h_ => h_.1))) hb); replace HO_719005 := am_ (Kd.R_below (by (with_reducible repeat (first | apply Kd.R_alloc | apply Kd.R_drewN | apply Kd.R_drew)); exact (Kd.R_mono (Go.Proofs.YtaimfkfpglhijaaV.R_far3 (g := gb730) (Kd.R_types HO_719005.out BK730.out (by decide)) (fun _ hk => hk.2)) (fun _ h_ => h_.1))) hb); replace BK690 := am_ (blk_below (g := gb690) (o := .cells #[.int .i64 t678, .int .i64 t679, .int .i64 t680, .bool t681, .slice Ao12 t682.length co12, .slice Ao13 t685.length co13, .int .i64 t688, .int .i64 t689] 41 (0, 0)) (by (with_reducible repeat (first | refine blk_drewN ?_ _ | refine blk_drew ?_ | refine blk_alloc ?_ _)); refine Go.Proofs.YtaimfkfpglhijaaV.blk_far3 ?_ NB690_730.out; exact qK BK690) hb); replace BK704 := am_ (blk_below (g := gb704) (o := .cells #[.int .i64 t691, .int .i64 t692, .int .i64 t693, .bool t694, .slice Ao18 t695.length co18, .slice Ao19 t698.length co19, .int .i64 t701, .int .i64 t702] 41 (0, 0)) (by (with_reducible repeat (first | refine blk_drewN ?_ _ | refine blk_drew ?_ | refine blk_alloc ?_ _)); refine Go.Proofs.YtaimfkfpglhijaaV.blk_far3 ?_ NB704_730.out; exact qK BK704) hb); replace BK718 := am_ (blk_below (g := gb718) (o := .cells #[.int .i64 t705, .int .i64 t706, .int .i64 t707, .bool t708, .slice Ao26 t709.length co26, .slice Ao27 t712.length co27, .int .i64 t715, .int .i64 t716] 41 (0, 0)) (by (with_reducible repeat (first | refine blk_drewN ?_ _ | refine blk_drew ?_ | refine blk_alloc ?_ _)); refine Go.Proofs.YtaimfkfpglhijaaV.blk_far3 ?_ NB718_730.out; exact qK BK718) hb); replace BK730 := am_ (blk_below (g := gb730) (o := .cells #[.int .i64 t725, .string t726, .int .i64 t727] 47 (0, 0)) (by (with_reducible repeat (first | refine blk_drewN ?_ _ | refine blk_drew ?_ | refine blk_alloc ?_ _)); refine Go.Proofs.YtaimfkfpglhijaaV.blk_all3 (show _ = some (Go.Obj.cells #[.int .i64 0, .string (⟨#[]⟩ : ByteArray), .int .i64 0] _ (0, 0)) from ?_); exact qK BK730) hb); replace HB := am_ (below_step (qB HB) hb); (try clear hb); (try clear hb2); (try clear hk); (try clear hi))); try go_wp2_with (first | (go_at_call 29; (with_reducible refine (impl_SockOk.calls kj7 t691 t692 t693 t694 _ _ t695 _ _ t698 t701 t702 false _ ?side1 ?side2 ?side3 ?side4 A54.out).mono ?_); (case side1 => refine (Kd.R_reads' (e := 5) (base := w.heap.size) (ok := fun k_ => (some k_ ≠ (.slice Ao12 t682.length co12 : Value).ownBlock ∧ (some k_ ≠ (.slice Ao13 t685.length co13 : Value).ownBlock ∧ (some k_ ≠ (.slice Ao19 t698.length co19 : Value).ownBlock ∧ (some k_ ≠ (.slice Ao26 t709.length co26 : Value).ownBlock ∧ some k_ ≠ (.slice Ao27 t712.length co27 : Value).ownBlock))))) (n := t695.length) (c := co18) ?_).2.2; exact (by (with_reducible repeat (first | apply Kd.R_alloc | apply Kd.R_drewN | apply Kd.R_drew)); exact (Kd.R_mono (Go.Proofs.YtaimfkfpglhijaaV.R_far3 (g := gb730) (Kd.R_types HO_705004.out BK730.out (by decide)) (fun _ hk => hk.2)) (fun _ h_ => h_.1)))); (case side2 => exact (Kd.R_reads' HO_705004.out).2.1); (case side3 => refine (Kd.R_reads' (e := 5) (base := w.heap.size) (ok := fun k_ => (some k_ ≠ (.slice Ao12 t682.length co12 : Value).ownBlock ∧ (some k_ ≠ (.slice Ao13 t685.length co13 : Value).ownBlock ∧ (some k_ ≠ (.slice Ao18 t695.length co18 : Value).ownBlock ∧ (some k_ ≠ (.slice Ao26 t709.length co26 : Value).ownBlock ∧ some k_ ≠ (.slice Ao27 t712.length co27 : Value).ownBlock))))) (n := t698.length) (c := co19) ?_).2.2; exact (by (with_reducible repeat (first | apply Kd.R_alloc | apply Kd.R_drewN | apply Kd.R_drew)); exact (Kd.R_mono (Go.Proofs.YtaimfkfpglhijaaV.R_far3 (g := gb730) (Kd.R_types HO_705005.out BK730.out (by decide)) (fun _ hk => hk.2)) (fun _ h_ => h_.1)))); (case side4 => exact (Kd.R_reads' HO_705005.out).2.1); rintro e w74 ⟨rfl, hb⟩; replace HO_691004 := am_ (Kd.R_below (by (with_reducible repeat (first | apply Kd.R_alloc | apply Kd.R_drewN | apply Kd.R_drew)); exact (Kd.R_mono (Go.Proofs.YtaimfkfpglhijaaV.R_far3 (g := gb730) (Kd.R_types HO_691004.out BK730.out (by decide)) (fun _ hk => hk.2)) (fun _ h_ => h_.1))) hb); replace HO_691005 := am_ (Kd.R_below (by (with_reducible repeat (first | apply Kd.R_alloc | apply Kd.R_drewN | apply Kd.R_drew)); exact (Kd.R_mono (Go.Proofs.YtaimfkfpglhijaaV.R_far3 (g := gb730) (Kd.R_types HO_691005.out BK730.out (by decide)) (fun _ hk => hk.2)) (fun _ h_ => h_.1))) hb); replace HO_705004 := am_ (Kd.R_below (by (with_reducible repeat (first | apply Kd.R_alloc | apply Kd.R_drewN | apply Kd.R_drew)); exact (Kd.R_mono (Go.Proofs.YtaimfkfpglhijaaV.R_far3 (g := gb730) (Kd.R_types HO_705004.out BK730.out (by decide)) (fun _ hk => hk.2)) (fun _ h_ => h_.1))) hb); replace HO_705005 := am_ (Kd.R_below (by (with_reducible repeat (first | apply Kd.R_alloc | apply Kd.R_drewN | apply Kd.R_drew)); exact (Kd.R_mono (Go.Proofs.YtaimfkfpglhijaaV.R_far3 (g := gb730) (Kd.R_types HO_705005.out BK730.out (by decide)) (fun _ hk => hk.2)) (fun _ h_ => h_.1))) hb); replace HO_719004 := am_ (Kd.R_below (by (with_reducible repeat (first | apply Kd.R_alloc | apply Kd.R_drewN | apply Kd.R_drew)); exact (Kd.R_mono (Go.Proofs.YtaimfkfpglhijaaV.R_far3 (g := gb730) (Kd.R_types HO_719004.out BK730.out (by decide)) (fun _ hk => hk.2)) (fun _ h_ => h_.1))) hb); replace HO_719005 := am_ (Kd.R_below (by (with_reducible repeat (first | apply Kd.R_alloc | apply Kd.R_drewN | apply Kd.R_drew)); exact (Kd.R_mono (Go.Proofs.YtaimfkfpglhijaaV.R_far3 (g := gb730) (Kd.R_types HO_719005.out BK730.out (by decide)) (fun _ hk => hk.2)) (fun _ h_ => h_.1))) hb); replace BK690 := am_ (blk_below (g := gb690) (o := .cells #[.int .i64 t678, .int .i64 t679, .int .i64 t680, .bool t681, .slice Ao12 t682.length co12, .slice Ao13 t685.length co13, .int .i64 t688, .int .i64 t689] 41 (0, 0)) (by (with_reducible repeat (first | refine blk_drewN ?_ _ | refine blk_drew ?_ | refine blk_alloc ?_ _)); refine Go.Proofs.YtaimfkfpglhijaaV.blk_far3 ?_ NB690_730.out; exact qK BK690) hb); replace BK704 := am_ (blk_below (g := gb704) (o := .cells #[.int .i64 t691, .int .i64 t692, .int .i64 t693, .bool t694, .slice Ao18 t695.length co18, .slice Ao19 t698.length co19, .int .i64 t701, .int .i64 t702] 41 (0, 0)) (by (with_reducible repeat (first | refine blk_drewN ?_ _ | refine blk_drew ?_ | refine blk_alloc ?_ _)); refine Go.Proofs.YtaimfkfpglhijaaV.blk_far3 ?_ NB704_730.out; exact qK BK704) hb); replace BK718 := am_ (blk_below (g := gb718) (o := .cells #[.int .i64 t705, .int .i64 t706, .int .i64 t707, .bool t708, .slice Ao26 t709.length co26, .slice Ao27 t712.length co27, .int .i64 t715, .int .i64 t716] 41 (0, 0)) (by (with_reducible repeat (first | refine blk_drewN ?_ _ | refine blk_drew ?_ | refine blk_alloc ?_ _)); refine Go.Proofs.YtaimfkfpglhijaaV.blk_far3 ?_ NB718_730.out; exact qK BK718) hb); replace BK730 := am_ (blk_below (g := gb730) (o := .cells #[.int .i64 t725, .string t726, .int .i64 t727] 47 (0, 0)) (by (with_reducible repeat (first | refine blk_drewN ?_ _ | refine blk_drew ?_ | refine blk_alloc ?_ _)); refine Go.Proofs.YtaimfkfpglhijaaV.blk_all3 (show _ = some (Go.Obj.cells #[.int .i64 0, .string (⟨#[]⟩ : ByteArray), .int .i64 0] _ (0, 0)) from ?_); exact qK BK730) hb); replace HB := am_ (below_step (qB HB) hb); (try clear hb); (try clear hb2); (try clear hk); (try clear hi))))
          go_meet
          case rel => exact ⟨_, (true), eqq_, H', ⟨by have := HJ7.out; first | omega | exact Nat.le_refl _⟩, ⟨qR HO_691004⟩, ⟨qR HO_691005⟩, ⟨qR HO_705004⟩, ⟨qR HO_705005⟩, ⟨qR HO_719004⟩, ⟨qR HO_719005⟩, ⟨qK BK690⟩, ⟨qK BK704⟩, ⟨qK BK718⟩, ⟨qK BK730⟩, ⟨qB HB⟩⟩
        ·
         rw [if_neg c53] at H
         have c53b0 : (t702 == (wrap64 (t689 + t728))) = false := beq_eq_false_iff_ne.mpr c53
         have c53b1 : (t702 != (wrap64 (t689 + t728))) = true := bne_iff_ne.mpr c53
         have H' := Aside0.mk H
         clear H
         have hnb75 := NB704_690.out
         have hnc75 := NB690_704.out
         have hnb76 := NB704_718.out
         have hnc76 := NB718_704.out
         have hnb77 := NB704_730.out
         have hnc77 := NB730_704.out
         obtain ⟨z78_0, z78_1, z78_2, z78_3, z78_4, z78_5, z78_6, z78_7⟩ := cz8 BK704.out
         obtain ⟨f78_0, f78_1, f78_2, f78_3, f78_4, f78_5, f78_6, f78_7⟩ := fz8 BK704.out
         have hnb79 := NB690_718.out
         have hnc79 := NB718_690.out
         have hnb80 := NB690_730.out
         have hnc80 := NB730_690.out
         obtain ⟨z81_0, z81_1, z81_2, z81_3, z81_4, z81_5, z81_6, z81_7⟩ := cz8 BK690.out
         obtain ⟨f81_0, f81_1, f81_2, f81_3, f81_4, f81_5, f81_6, f81_7⟩ := fz8 BK690.out
         go_wp2
         repeat (go_quiet (fail); try go_wp2)
         go_meet
         case rel => exact ⟨_, (true), eqq_, H', ⟨by have := HJ7.out; first | omega | exact Nat.le_refl _⟩, ⟨by (with_reducible repeat (first | apply Kd.R_alloc | apply Kd.R_drewN | apply Kd.R_drew)); exact Kd.R_mono (Go.Proofs.YtaimfkfpglhijaaV.R_far3 (g := gb730) (Kd.R_types HO_691004.out BK730.out (by decide)) (fun _ hk => hk.2)) (fun _ hk => ⟨hk.1.1, ⟨hk.1.2.1, ⟨hk.1.2.2.1, ⟨hk.1.2.2.2.1, hk.1.2.2.2.2⟩⟩⟩⟩)⟩, ⟨by (with_reducible repeat (first | apply Kd.R_alloc | apply Kd.R_drewN | apply Kd.R_drew)); exact Kd.R_mono (Go.Proofs.YtaimfkfpglhijaaV.R_far3 (g := gb730) (Kd.R_types HO_691005.out BK730.out (by decide)) (fun _ hk => hk.2)) (fun _ hk => ⟨hk.1.1, ⟨hk.1.2.1, ⟨hk.1.2.2.1, ⟨hk.1.2.2.2.1, hk.1.2.2.2.2⟩⟩⟩⟩)⟩, ⟨by (with_reducible repeat (first | apply Kd.R_alloc | apply Kd.R_drewN | apply Kd.R_drew)); exact Kd.R_mono (Go.Proofs.YtaimfkfpglhijaaV.R_far3 (g := gb730) (Kd.R_types HO_705004.out BK730.out (by decide)) (fun _ hk => hk.2)) (fun _ hk => ⟨hk.1.1, ⟨hk.1.2.1, ⟨hk.1.2.2.1, ⟨hk.1.2.2.2.1, hk.1.2.2.2.2⟩⟩⟩⟩)⟩, ⟨by (with_reducible repeat (first | apply Kd.R_alloc | apply Kd.R_drewN | apply Kd.R_drew)); exact Kd.R_mono (Go.Proofs.YtaimfkfpglhijaaV.R_far3 (g := gb730) (Kd.R_types HO_705005.out BK730.out (by decide)) (fun _ hk => hk.2)) (fun _ hk => ⟨hk.1.1, ⟨hk.1.2.1, ⟨hk.1.2.2.1, ⟨hk.1.2.2.2.1, hk.1.2.2.2.2⟩⟩⟩⟩)⟩, ⟨by (with_reducible repeat (first | apply Kd.R_alloc | apply Kd.R_drewN | apply Kd.R_drew)); exact Kd.R_mono (Go.Proofs.YtaimfkfpglhijaaV.R_far3 (g := gb730) (Kd.R_types HO_719004.out BK730.out (by decide)) (fun _ hk => hk.2)) (fun _ hk => ⟨hk.1.1, ⟨hk.1.2.1, ⟨hk.1.2.2.1, ⟨hk.1.2.2.2.1, hk.1.2.2.2.2⟩⟩⟩⟩)⟩, ⟨by (with_reducible repeat (first | apply Kd.R_alloc | apply Kd.R_drewN | apply Kd.R_drew)); exact Kd.R_mono (Go.Proofs.YtaimfkfpglhijaaV.R_far3 (g := gb730) (Kd.R_types HO_719005.out BK730.out (by decide)) (fun _ hk => hk.2)) (fun _ hk => ⟨hk.1.1, ⟨hk.1.2.1, ⟨hk.1.2.2.1, ⟨hk.1.2.2.2.1, hk.1.2.2.2.2⟩⟩⟩⟩)⟩, ⟨by (with_reducible repeat (first | refine blk_drewN ?_ _ | refine blk_drew ?_ | refine blk_alloc ?_ _)); refine Go.Proofs.YtaimfkfpglhijaaV.blk_far3 ?_ NB690_730.out; exact qK BK690⟩, ⟨by (with_reducible repeat (first | refine blk_drewN ?_ _ | refine blk_drew ?_ | refine blk_alloc ?_ _)); refine Go.Proofs.YtaimfkfpglhijaaV.blk_far3 ?_ NB704_730.out; exact qK BK704⟩, ⟨by (with_reducible repeat (first | refine blk_drewN ?_ _ | refine blk_drew ?_ | refine blk_alloc ?_ _)); refine Go.Proofs.YtaimfkfpglhijaaV.blk_far3 ?_ NB718_730.out; exact qK BK718⟩, ⟨by (with_reducible repeat (first | refine blk_drewN ?_ _ | refine blk_drew ?_ | refine blk_alloc ?_ _)); refine Go.Proofs.YtaimfkfpglhijaaV.blk_all3 (show _ = some (Go.Obj.cells #[.int .i64 0, .string (⟨#[]⟩ : ByteArray), .int .i64 0] _ (0, 0)) from ?_); exact qK BK730⟩, ⟨qB HB⟩⟩
       ·
        rw [if_neg c52] at H
        have c52b0 : (t729 == 0) = false := beq_eq_false_iff_ne.mpr c52
        have c52b1 : (t729 != 0) = true := bne_iff_ne.mpr c52
        (first | rw [c52b0] | rw [c52b1] | (simp only [i64_w, i32_w]; rw [c52b0]) | skip)
        have H' := Aside0.mk H
        clear H
        go_wp2
        repeat (go_quiet (fail); try go_wp2)
        go_meet
        case rel => exact ⟨_, (true), eqq_, H', ⟨by have := HJ7.out; first | omega | exact Nat.le_refl _⟩, ⟨by (with_reducible repeat (first | apply Kd.R_alloc | apply Kd.R_drewN | apply Kd.R_drew)); exact Kd.R_mono (Go.Proofs.YtaimfkfpglhijaaV.R_far3 (g := gb730) (Kd.R_types HO_691004.out BK730.out (by decide)) (fun _ hk => hk.2)) (fun _ hk => ⟨hk.1.1, ⟨hk.1.2.1, ⟨hk.1.2.2.1, ⟨hk.1.2.2.2.1, hk.1.2.2.2.2⟩⟩⟩⟩)⟩, ⟨by (with_reducible repeat (first | apply Kd.R_alloc | apply Kd.R_drewN | apply Kd.R_drew)); exact Kd.R_mono (Go.Proofs.YtaimfkfpglhijaaV.R_far3 (g := gb730) (Kd.R_types HO_691005.out BK730.out (by decide)) (fun _ hk => hk.2)) (fun _ hk => ⟨hk.1.1, ⟨hk.1.2.1, ⟨hk.1.2.2.1, ⟨hk.1.2.2.2.1, hk.1.2.2.2.2⟩⟩⟩⟩)⟩, ⟨by (with_reducible repeat (first | apply Kd.R_alloc | apply Kd.R_drewN | apply Kd.R_drew)); exact Kd.R_mono (Go.Proofs.YtaimfkfpglhijaaV.R_far3 (g := gb730) (Kd.R_types HO_705004.out BK730.out (by decide)) (fun _ hk => hk.2)) (fun _ hk => ⟨hk.1.1, ⟨hk.1.2.1, ⟨hk.1.2.2.1, ⟨hk.1.2.2.2.1, hk.1.2.2.2.2⟩⟩⟩⟩)⟩, ⟨by (with_reducible repeat (first | apply Kd.R_alloc | apply Kd.R_drewN | apply Kd.R_drew)); exact Kd.R_mono (Go.Proofs.YtaimfkfpglhijaaV.R_far3 (g := gb730) (Kd.R_types HO_705005.out BK730.out (by decide)) (fun _ hk => hk.2)) (fun _ hk => ⟨hk.1.1, ⟨hk.1.2.1, ⟨hk.1.2.2.1, ⟨hk.1.2.2.2.1, hk.1.2.2.2.2⟩⟩⟩⟩)⟩, ⟨by (with_reducible repeat (first | apply Kd.R_alloc | apply Kd.R_drewN | apply Kd.R_drew)); exact Kd.R_mono (Go.Proofs.YtaimfkfpglhijaaV.R_far3 (g := gb730) (Kd.R_types HO_719004.out BK730.out (by decide)) (fun _ hk => hk.2)) (fun _ hk => ⟨hk.1.1, ⟨hk.1.2.1, ⟨hk.1.2.2.1, ⟨hk.1.2.2.2.1, hk.1.2.2.2.2⟩⟩⟩⟩)⟩, ⟨by (with_reducible repeat (first | apply Kd.R_alloc | apply Kd.R_drewN | apply Kd.R_drew)); exact Kd.R_mono (Go.Proofs.YtaimfkfpglhijaaV.R_far3 (g := gb730) (Kd.R_types HO_719005.out BK730.out (by decide)) (fun _ hk => hk.2)) (fun _ hk => ⟨hk.1.1, ⟨hk.1.2.1, ⟨hk.1.2.2.1, ⟨hk.1.2.2.2.1, hk.1.2.2.2.2⟩⟩⟩⟩)⟩, ⟨by (with_reducible repeat (first | refine blk_drewN ?_ _ | refine blk_drew ?_ | refine blk_alloc ?_ _)); refine Go.Proofs.YtaimfkfpglhijaaV.blk_far3 ?_ NB690_730.out; exact qK BK690⟩, ⟨by (with_reducible repeat (first | refine blk_drewN ?_ _ | refine blk_drew ?_ | refine blk_alloc ?_ _)); refine Go.Proofs.YtaimfkfpglhijaaV.blk_far3 ?_ NB704_730.out; exact qK BK704⟩, ⟨by (with_reducible repeat (first | refine blk_drewN ?_ _ | refine blk_drew ?_ | refine blk_alloc ?_ _)); refine Go.Proofs.YtaimfkfpglhijaaV.blk_far3 ?_ NB718_730.out; exact qK BK718⟩, ⟨by (with_reducible repeat (first | refine blk_drewN ?_ _ | refine blk_drew ?_ | refine blk_alloc ?_ _)); refine Go.Proofs.YtaimfkfpglhijaaV.blk_all3 (show _ = some (Go.Obj.cells #[.int .i64 0, .string (⟨#[]⟩ : ByteArray), .int .i64 0] _ (0, 0)) from ?_); exact qK BK730⟩, ⟨qB HB⟩⟩
      case rest =>
       clear HC41
       try clear c1
       try clear c2
       try clear p2
       try clear c3
       try clear c4
       try clear q4
       try clear c5
       try clear c6
       try clear p6
       try clear c7
       try clear c8
       try clear c16
       try clear c23
       try clear c24
       try clear c28
       try clear c28b0
       try clear c28b1
       try clear c28b2
       try clear c30
       try clear c31
       try clear c33
       try clear c36
       try clear c37
       try clear c38
       try clear c38b0
       try clear c38b1
       try clear c39
       try clear c39b0
       try clear c39b1
       try clear c42
       try clear c43
       try clear c45
       try clear q45
       try clear c48
       try clear c49
       try clear c50
       try clear c52
       try clear c52b0
       try clear c52b1
       try clear c53
       try clear c53b0
       try clear c53b1
       try clear c55
       try clear c57
       try clear c58
       try clear c59
       try clear c61
       try clear c62
       try clear p64
       try clear c67
       try clear c68
       try clear c69
       try clear c71
       try clear c72
       try clear c75
       try clear c76
       try clear c77
       try clear c79
       try clear c80
       (try clear z11_0 z11_1 z11_2 z11_3 z11_4 z11_5 z11_6 z11_7)
       (try clear z17_0 z17_1 z17_2 z17_3 z17_4 z17_5 z17_6 z17_7)
       (try clear z20_0 z20_1 z20_2 z20_3 z20_4 z20_5 z20_6 z20_7)
       (try clear z25_0 z25_1 z25_2 z25_3 z25_4 z25_5 z25_6 z25_7)
       (try clear z32_0 z32_1 z32_2 z32_3 z32_4 z32_5 z32_6 z32_7)
       (try clear z34_0 z34_1 z34_2 z34_3 z34_4 z34_5 z34_6 z34_7)
       (try clear z44_0 z44_1 z44_2 z44_3 z44_4 z44_5 z44_6 z44_7)
       (try clear z51_0 z51_1 z51_2)
       (try clear z60_0 z60_1 z60_2 z60_3 z60_4 z60_5 z60_6 z60_7)
       (try clear z63_0 z63_1 z63_2 z63_3 z63_4 z63_5 z63_6 z63_7)
       (try clear z65_0 z65_1 z65_2 z65_3 z65_4 z65_5 z65_6 z65_7)
       (try clear z66_0 z66_1 z66_2 z66_3 z66_4 z66_5 z66_6 z66_7)
       (try clear z70_0 z70_1 z70_2 z70_3 z70_4 z70_5 z70_6 z70_7)
       (try clear z73_0 z73_1 z73_2 z73_3 z73_4 z73_5 z73_6 z73_7)
       (try clear z78_0 z78_1 z78_2 z78_3 z78_4 z78_5 z78_6 z78_7)
       (try clear z81_0 z81_1 z81_2 z81_3 z81_4 z81_5 z81_6 z81_7)
       (try clear f11_0 f11_1 f11_2 f11_3 f11_4 f11_5 f11_6 f11_7)
       (try clear f17_0 f17_1 f17_2 f17_3 f17_4 f17_5 f17_6 f17_7)
       (try clear f20_0 f20_1 f20_2 f20_3 f20_4 f20_5 f20_6 f20_7)
       (try clear f25_0 f25_1 f25_2 f25_3 f25_4 f25_5 f25_6 f25_7)
       (try clear f32_0 f32_1 f32_2 f32_3 f32_4 f32_5 f32_6 f32_7)
       (try clear f34_0 f34_1 f34_2 f34_3 f34_4 f34_5 f34_6 f34_7)
       (try clear f44_0 f44_1 f44_2 f44_3 f44_4 f44_5 f44_6 f44_7)
       (try clear f51_0 f51_1 f51_2)
       (try clear f60_0 f60_1 f60_2 f60_3 f60_4 f60_5 f60_6 f60_7)
       (try clear f63_0 f63_1 f63_2 f63_3 f63_4 f63_5 f63_6 f63_7)
       (try clear f65_0 f65_1 f65_2 f65_3 f65_4 f65_5 f65_6 f65_7)
       (try clear f66_0 f66_1 f66_2 f66_3 f66_4 f66_5 f66_6 f66_7)
       (try clear f70_0 f70_1 f70_2 f70_3 f70_4 f70_5 f70_6 f70_7)
       (try clear f73_0 f73_1 f73_2 f73_3 f73_4 f73_5 f73_6 f73_7)
       (try clear f78_0 f78_1 f78_2 f78_3 f78_4 f78_5 f78_6 f78_7)
       (try clear f81_0 f81_1 f81_2 f81_3 f81_4 f81_5 f81_6 f81_7)
       try clear p2
       try clear q045
       try clear q45
       obtain ⟨kq, x74_40, rfl, HA, HJ40, HO_691004, HO_691005, HO_705004, HO_705005, HO_719004, HO_719005, BK690, BK704, BK718, BK730, HB⟩ := hcut
       cases kq with
       | zero => exact absurd HA.out (by simp [laws_FnFar.j1])
       | succ kj40 =>
        have H := HA.out
        clear HA
        simp only [laws_FnFar.j1] at H
        by_cases c82 : x74_40 = true
        ·
         subst c82
         rw [if_pos rfl] at H
         exact absurd (hr_.out ▸ H) (by simp)
        ·
         replace c82 := Bool.eq_false_iff.mpr c82
         subst c82
         rw [if_neg (show ¬ (false = true) by decide)] at H
         by_cases c83 : 0 ≤ (t682.length : Int)
         case neg => exact nn_ c83 H
         rw [if_pos c83] at H
         have c83b0 := eq_true c83
         have c83b1 : decide (0 ≤ (t682.length : Int)) = true := decide_eq_true c83
         clear c83
         by_cases c84 : (t682.length : Int) ≤ (t695.length : Int)
         case neg => exact nn_ c84 H
         rw [if_pos c84] at H
         have c84b0 := eq_true c84
         have c84b1 : decide ((t682.length : Int) ≤ (t695.length : Int)) = true := decide_eq_true c84
         clear c84
         obtain ⟨y733, hy733⟩ : ∃ y_ : List Int, y_ = (t695.drop ((t682.length : Int) : Int).toNat) := ⟨_, rfl⟩
         rw [← hy733] at H
         have Ny733 := Aside0.mk hy733
         clear hy733
         obtain ⟨⟨t737, t740⟩, A85, H⟩ := bd_ H
         (try dsimp only at H)
         have HC86 := Aside0.mk H
         clear H
         have hnb87 := NB704_690.out
         have hnc87 := NB690_704.out
         have hnb88 := NB704_718.out
         have hnc88 := NB718_704.out
         have hnb89 := NB704_730.out
         have hnc89 := NB730_704.out
         obtain ⟨z90_0, z90_1, z90_2, z90_3, z90_4, z90_5, z90_6, z90_7⟩ := cz8 BK704.out
         obtain ⟨f90_0, f90_1, f90_2, f90_3, f90_4, f90_5, f90_6, f90_7⟩ := fz8 BK704.out
         have hnb91 := NB690_718.out
         have hnc91 := NB718_690.out
         have hnb92 := NB690_730.out
         have hnc92 := NB730_690.out
         obtain ⟨z93_0, z93_1, z93_2, z93_3, z93_4, z93_5, z93_6, z93_7⟩ := cz8 BK690.out
         obtain ⟨f93_0, f93_1, f93_2, f93_3, f93_4, f93_5, f93_6, f93_7⟩ := fz8 BK690.out
         have q94 : ((t682.length : Int) : Int) ≤ ((t695.length : Int) : Int) := od_
         obtain ⟨i094, hi094, _, hsz94, _⟩ := info_parts info5
         have hroom94 : t695.length ≤ co18 := (Kd.R_reads' HO_705004.out).2.1
         have hC94 : Kd.C (Kd.int .u8) _ Ao18 t695.length t695 := (Kd.R_reads' HO_705004.out).2.2
         have q094 : (0 : Int) ≤ ((t682.length : Int) : Int) := od_
         have hcut94 := cut_from (P := Try.prog) 22 5 .i64 Try.underlying22 hi094 1 hsz94 Ao18 t695.length co18 (t682.length : Int) q094 q94
         have hr94 := Kd.C_drop (m := ((t682.length : Int) : Int).toNat) (c := co18) hC94 (by omega) hroom94
         obtain ⟨A94, hA94⟩ : ∃ A1, A1 = (if co18 = ((t682.length : Int) : Int).toNat then Ao18 else (Ao18 : Option Addr).map (·.add (((t682.length : Int) : Int).toNat * 1))) := ⟨_, rfl⟩
         obtain ⟨c94, hc94⟩ : ∃ c1, c1 = co18 - ((t682.length : Int) : Int).toNat := ⟨_, rfl⟩
         have hy94 : y733.length = t695.length - ((t682.length : Int) : Int).toNat := (by rw [Ny733.out, List.length_drop] <;> omega)
         rw [show (t695).drop ((t682.length : Int) : Int).toNat = y733 from Ny733.out.symm] at hr94
         replace hr94 : Kd.C (Kd.int .u8) _ A94 y733.length y733 := (by rw [hA94]; exact hr94)
         rw [← hy94, ← hA94, ← hc94] at hcut94
         have HR736 := Aside0.mk hr94
         have HC736 := Aside0.mk (show y733.length ≤ c94 from by rw [hy94, hc94]; exact Nat.sub_le_sub_right hroom94 _)
         clear hr94 hC94 hroom94 hi094 hsz94 hc94
         have KY94 := Aside0.mk hy94
         have KA94 := Aside0.mk hA94
         clear hy94 hA94
         have KL94 := Aside0.mk (show ((t682.length : Int) : Int).toNat ≤ t695.length from by omega)
         replace q94 := eq_true q94
         go_upto_region 14 with (first | (go_at_call 30; (with_reducible refine (impl_Frames.calls kj40 (fun k_ => True) _ _ y733 t737 t740 _ ?side1 A85.out).mono ?_); (case side1 => exact Kd.V_mono (Kd.V_mk HC736.out (Kd.C_F (Kd.heap_int .u8) (by repeat (first | (with_reducible exact HR736.out) | (with_reducible refine Kd.C_alloc ?_ _) | (with_reducible refine Kd.C_drewN ?_ _) | (with_reducible refine Kd.C_drew ?_) | exact HR736.out)))) (fun _ _ => trivial)); rintro e w95 ⟨v738, rfl, ho0, hb⟩; replace HO_691004 := am_ (Kd.R_below (qR HO_691004) hb); replace HO_691005 := am_ (Kd.R_below (qR HO_691005) hb); replace HO_705004 := am_ (Kd.R_below (qR HO_705004) hb); replace HO_705005 := am_ (Kd.R_below (qR HO_705005) hb); replace HO_719004 := am_ (Kd.R_below (qR HO_719004) hb); replace HO_719005 := am_ (Kd.R_below (qR HO_719005) hb); have HO739 := am_ (Kd.R_lower (Kd.R_newB (Kd.R_mono (ok' := fun k_ => True) ho0 (fun _ hk_ => trivial)) (qK BK730)) (below_size (qB HB))); replace BK690 := am_ (blk_below (qK BK690) hb); replace BK704 := am_ (blk_below (qK BK704) hb); replace BK718 := am_ (blk_below (qK BK718) hb); replace BK730 := am_ (blk_below (qK BK730) hb); replace HR736 := am_ (Kd.C_below (by repeat (first | (with_reducible exact HR736.out) | (with_reducible refine Kd.C_alloc ?_ _) | (with_reducible refine Kd.C_drewN ?_ _) | (with_reducible refine Kd.C_drew ?_) | exact HR736.out)) hb); replace HB := am_ (below_step (qB HB) hb); (try clear hb); (try clear hb2); (try clear hk); (try clear hi); (try clear ho0)))
         repeat (go_quiet (first | (go_at_call 30; (with_reducible refine (impl_Frames.calls kj40 (fun k_ => True) _ _ y733 t737 t740 _ ?side1 A85.out).mono ?_); (case side1 => exact Kd.V_mono (Kd.V_mk HC736.out (Kd.C_F (Kd.heap_int .u8) (by repeat (first | (with_reducible exact HR736.out) | (with_reducible refine Kd.C_alloc ?_ _) | (with_reducible refine Kd.C_drewN ?_ _) | (with_reducible refine Kd.C_drew ?_) | exact HR736.out)))) (fun _ _ => trivial)); rintro e w95 ⟨v738, rfl, ho0, hb⟩; replace HO_691004 := am_ (Kd.R_below (qR HO_691004) hb); replace HO_691005 := am_ (Kd.R_below (qR HO_691005) hb); replace HO_705004 := am_ (Kd.R_below (qR HO_705004) hb); replace HO_705005 := am_ (Kd.R_below (qR HO_705005) hb); replace HO_719004 := am_ (Kd.R_below (qR HO_719004) hb); replace HO_719005 := am_ (Kd.R_below (qR HO_719005) hb); have HO739 := am_ (Kd.R_lower (Kd.R_newB (Kd.R_mono (ok' := fun k_ => True) ho0 (fun _ hk_ => trivial)) (qK BK730)) (below_size (qB HB))); replace BK690 := am_ (blk_below (qK BK690) hb); replace BK704 := am_ (blk_below (qK BK704) hb); replace BK718 := am_ (blk_below (qK BK718) hb); replace BK730 := am_ (blk_below (qK BK730) hb); replace HR736 := am_ (Kd.C_below (by repeat (first | (with_reducible exact HR736.out) | (with_reducible refine Kd.C_alloc ?_ _) | (with_reducible refine Kd.C_drewN ?_ _) | (with_reducible refine Kd.C_drew ?_) | exact HR736.out)) hb); replace HB := am_ (below_step (qB HB) hb); (try clear hb); (try clear hb2); (try clear hk); (try clear hi); (try clear ho0))); go_upto_region 14 with (first | (go_at_call 30; (with_reducible refine (impl_Frames.calls kj40 (fun k_ => True) _ _ y733 t737 t740 _ ?side1 A85.out).mono ?_); (case side1 => exact Kd.V_mono (Kd.V_mk HC736.out (Kd.C_F (Kd.heap_int .u8) (by repeat (first | (with_reducible exact HR736.out) | (with_reducible refine Kd.C_alloc ?_ _) | (with_reducible refine Kd.C_drewN ?_ _) | (with_reducible refine Kd.C_drew ?_) | exact HR736.out)))) (fun _ _ => trivial)); rintro e w95 ⟨v738, rfl, ho0, hb⟩; replace HO_691004 := am_ (Kd.R_below (qR HO_691004) hb); replace HO_691005 := am_ (Kd.R_below (qR HO_691005) hb); replace HO_705004 := am_ (Kd.R_below (qR HO_705004) hb); replace HO_705005 := am_ (Kd.R_below (qR HO_705005) hb); replace HO_719004 := am_ (Kd.R_below (qR HO_719004) hb); replace HO_719005 := am_ (Kd.R_below (qR HO_719005) hb); have HO739 := am_ (Kd.R_lower (Kd.R_newB (Kd.R_mono (ok' := fun k_ => True) ho0 (fun _ hk_ => trivial)) (qK BK730)) (below_size (qB HB))); replace BK690 := am_ (blk_below (qK BK690) hb); replace BK704 := am_ (blk_below (qK BK704) hb); replace BK718 := am_ (blk_below (qK BK718) hb); replace BK730 := am_ (blk_below (qK BK730) hb); replace HR736 := am_ (Kd.C_below (by repeat (first | (with_reducible exact HR736.out) | (with_reducible refine Kd.C_alloc ?_ _) | (with_reducible refine Kd.C_drewN ?_ _) | (with_reducible refine Kd.C_drew ?_) | exact HR736.out)) hb); replace HB := am_ (below_step (qB HB) hb); (try clear hb); (try clear hb2); (try clear hk); (try clear hi); (try clear ho0))))
         (try simp only [Act.put, List.setIfInBounds_toArray, List.set_cons_zero, List.set_cons_succ])
         go_cut [107] (fun v107 wc => ∃ (kq : Nat) (x107_85 : Bool), v107 = .bool x107_85 ∧ Aside0 (laws_FnFar.j2 kq x107_85 t678 t679 t680 t681 t682 t685 t688 t689 t691 t692 t693 t694 t695 t698 t701 t702 t725 t726 t727 = some r) ∧ Aside0 (kq ≤ kj40) ∧ Aside0 (Kd.R (Kd.int .u8) 5 wc w.heap.size (fun k_ => some k_ ≠ ((.slice Ao13 t685.length co13) : Value).ownBlock ∧ some k_ ≠ ((.slice Ao18 t695.length co18) : Value).ownBlock ∧ some k_ ≠ ((.slice Ao19 t698.length co19) : Value).ownBlock ∧ some k_ ≠ ((.slice Ao26 t709.length co26) : Value).ownBlock ∧ some k_ ≠ ((.slice Ao27 t712.length co27) : Value).ownBlock) (.slice Ao12 t682.length co12) t682) ∧ Aside0 (Kd.R (Kd.int .u8) 5 wc w.heap.size (fun k_ => some k_ ≠ ((.slice Ao12 t682.length co12) : Value).ownBlock ∧ some k_ ≠ ((.slice Ao18 t695.length co18) : Value).ownBlock ∧ some k_ ≠ ((.slice Ao19 t698.length co19) : Value).ownBlock ∧ some k_ ≠ ((.slice Ao26 t709.length co26) : Value).ownBlock ∧ some k_ ≠ ((.slice Ao27 t712.length co27) : Value).ownBlock) (.slice Ao13 t685.length co13) t685) ∧ Aside0 (Kd.R (Kd.int .u8) 5 wc w.heap.size (fun k_ => some k_ ≠ ((.slice Ao12 t682.length co12) : Value).ownBlock ∧ some k_ ≠ ((.slice Ao13 t685.length co13) : Value).ownBlock ∧ some k_ ≠ ((.slice Ao19 t698.length co19) : Value).ownBlock ∧ some k_ ≠ ((.slice Ao26 t709.length co26) : Value).ownBlock ∧ some k_ ≠ ((.slice Ao27 t712.length co27) : Value).ownBlock) (.slice Ao18 t695.length co18) t695) ∧ Aside0 (Kd.R (Kd.int .u8) 5 wc w.heap.size (fun k_ => some k_ ≠ ((.slice Ao12 t682.length co12) : Value).ownBlock ∧ some k_ ≠ ((.slice Ao13 t685.length co13) : Value).ownBlock ∧ some k_ ≠ ((.slice Ao18 t695.length co18) : Value).ownBlock ∧ some k_ ≠ ((.slice Ao26 t709.length co26) : Value).ownBlock ∧ some k_ ≠ ((.slice Ao27 t712.length co27) : Value).ownBlock) (.slice Ao19 t698.length co19) t698) ∧ Aside0 (Kd.R (Kd.int .u8) 5 wc w.heap.size (fun k_ => some k_ ≠ ((.slice Ao12 t682.length co12) : Value).ownBlock ∧ some k_ ≠ ((.slice Ao13 t685.length co13) : Value).ownBlock ∧ some k_ ≠ ((.slice Ao18 t695.length co18) : Value).ownBlock ∧ some k_ ≠ ((.slice Ao19 t698.length co19) : Value).ownBlock ∧ some k_ ≠ ((.slice Ao27 t712.length co27) : Value).ownBlock) (.slice Ao26 t709.length co26) t709) ∧ Aside0 (Kd.R (Kd.int .u8) 5 wc w.heap.size (fun k_ => some k_ ≠ ((.slice Ao12 t682.length co12) : Value).ownBlock ∧ some k_ ≠ ((.slice Ao13 t685.length co13) : Value).ownBlock ∧ some k_ ≠ ((.slice Ao18 t695.length co18) : Value).ownBlock ∧ some k_ ≠ ((.slice Ao19 t698.length co19) : Value).ownBlock ∧ some k_ ≠ ((.slice Ao26 t709.length co26) : Value).ownBlock) (.slice Ao27 t712.length co27) t712) ∧ Aside0 (wc.heap[gb690]? = some (.cells #[.int .i64 t678, .int .i64 t679, .int .i64 t680, .bool t681, (.slice Ao12 t682.length co12), (.slice Ao13 t685.length co13), .int .i64 t688, .int .i64 t689] 41 (0, 0))) ∧ Aside0 (wc.heap[gb704]? = some (.cells #[.int .i64 t691, .int .i64 t692, .int .i64 t693, .bool t694, (.slice Ao18 t695.length co18), (.slice Ao19 t698.length co19), .int .i64 t701, .int .i64 t702] 41 (0, 0))) ∧ Aside0 (wc.heap[gb718]? = some (.cells #[.int .i64 t705, .int .i64 t706, .int .i64 t707, .bool t708, (.slice Ao26 t709.length co26), (.slice Ao27 t712.length co27), .int .i64 t715, .int .i64 t716] 41 (0, 0))) ∧ Aside0 (wc.heap[gb730]? = some (.cells #[.int .i64 t725, .string t726, .int .i64 t727] 47 (0, 0))) ∧ Aside0 (Below w.heap.size w wc))
         case first =>
          have H := HC86.out
          clear HC86
          by_cases c96 : t740 = 0
          ·
           rw [if_pos c96] at H
           have c96b0 : (t740 == 0) = true := beq_iff_eq.mpr c96
           have c96b1 : (t740 != 0) = false := bne_eq_false_iff_eq.mpr c96
           clear c96
           (first | rw [c96b0] | rw [c96b1] | (simp only [i64_w, i32_w]; rw [c96b0]) | skip)
           by_cases c97 : (t737.length : Int) = 2
           ·
            rw [if_pos c97] at H
            have c97b0 : ((t737.length : Int) == 2) = true := beq_iff_eq.mpr c97
            have c97b1 : ((t737.length : Int) != 2) = false := bne_eq_false_iff_eq.mpr c97
            clear c97
            by_cases c98 : 1 < (t737.length : Int)
            case neg => exact nn_ c98 H
            rw [if_pos c98] at H
            have c98b0 : decide (1 < (t737.length : Int)) = true := decide_eq_true c98
            have c98b1 : decide (1 < t737.length) = true := decide_eq_true (by omega)
            clear c98
            by_cases c99 : ((rd_T47 t737 1).f0) = 5
            ·
             rw [if_pos c99] at H
             have c99b0 : (((rd_T47 t737 1).f0) == 5) = true := beq_iff_eq.mpr c99
             have c99b1 : (((rd_T47 t737 1).f0) != 5) = false := bne_eq_false_iff_eq.mpr c99
             clear c99
             have H' := Aside0.mk H
             clear H
             obtain ⟨Ao100, co100, eo100⟩ := Kd.R_slice HO739.out
             subst eo100
             have p741 : 0 ≤ (1 : Int) := (by omega)
             have q741 : 1 < (t737.length : Int) := od_
             obtain ⟨ad741, e741, hx741_0, hx741_1, hx741_2⟩ := at_T47 (Kd.R_reads' HO739.out).2.2 1 p741 q741
             cases e741
             (try simp only [show (1 : Int).toNat = 1 from rfl, Nat.reduceMul, Nat.reduceEqDiff, Go.Addr.add, ↓reduceIte] at hx741_0)
             (try simp only [show (1 : Int).toNat = 1 from rfl, Nat.reduceMul, Nat.reduceEqDiff, Go.Addr.add, ↓reduceIte] at hx741_1)
             (try simp only [show (1 : Int).toNat = 1 from rfl, Nat.reduceMul, Nat.reduceEqDiff, Go.Addr.add, ↓reduceIte] at hx741_2)
             have qi741 : (1 < t737.length) = True := eq_true (by omega)
             (try rw [show ((1 : Int)).toNat = 1 from rfl] at hx741_0)
             (try rw [show 1 * 3 = 3 from rfl] at hx741_0)
             (try rw [show ((1 : Int)).toNat = 1 from rfl] at hx741_1)
             (try rw [show 1 * 3 = 3 from rfl] at hx741_1)
             (try rw [show ((1 : Int)).toNat = 1 from rfl] at hx741_2)
             (try rw [show 1 * 3 = 3 from rfl] at hx741_2)
             replace p741 := eq_true p741
             replace q741 := eq_true q741
             have p742 : 0 ≤ (1 : Int) := (by omega)
             have q742 : 1 < (t737.length : Int) := od_
             obtain ⟨ad742, e742, hx742_0, hx742_1, hx742_2⟩ := at_T47 (Kd.R_reads' HO739.out).2.2 1 p742 q742
             obtain rfl : ad741 = ad742 := (by injection e742)
             (try simp only [show (1 : Int).toNat = 1 from rfl, Nat.reduceMul, Nat.reduceEqDiff, Go.Addr.add, ↓reduceIte] at hx742_0)
             (try simp only [show (1 : Int).toNat = 1 from rfl, Nat.reduceMul, Nat.reduceEqDiff, Go.Addr.add, ↓reduceIte] at hx742_1)
             (try simp only [show (1 : Int).toNat = 1 from rfl, Nat.reduceMul, Nat.reduceEqDiff, Go.Addr.add, ↓reduceIte] at hx742_2)
             have qi742 : (1 < t737.length) = True := eq_true (by omega)
             (try rw [show ((1 : Int)).toNat = 1 from rfl] at hx742_0)
             (try rw [show 1 * 3 = 3 from rfl] at hx742_0)
             (try rw [show ((1 : Int)).toNat = 1 from rfl] at hx742_1)
             (try rw [show 1 * 3 = 3 from rfl] at hx742_1)
             (try rw [show ((1 : Int)).toNat = 1 from rfl] at hx742_2)
             (try rw [show 1 * 3 = 3 from rfl] at hx742_2)
             replace p742 := eq_true p742
             replace q742 := eq_true q742
             have hnb101 := NB704_690.out
             have hnc101 := NB690_704.out
             have hnb102 := NB704_718.out
             have hnc102 := NB718_704.out
             have hnb103 := NB704_730.out
             have hnc103 := NB730_704.out
             obtain ⟨z104_0, z104_1, z104_2, z104_3, z104_4, z104_5, z104_6, z104_7⟩ := cz8 BK704.out
             obtain ⟨f104_0, f104_1, f104_2, f104_3, f104_4, f104_5, f104_6, f104_7⟩ := fz8 BK704.out
             go_wp2
             repeat (go_quiet (fail); try go_wp2)
             go_meet
             case rel => exact ⟨_, ((((rd_T47 t737 1).f2) != t701)), eqq_, H', ⟨by have := HJ7.out; have := HJ40.out; first | omega | exact Nat.le_refl _⟩, ⟨qR HO_691004⟩, ⟨qR HO_691005⟩, ⟨qR HO_705004⟩, ⟨qR HO_705005⟩, ⟨qR HO_719004⟩, ⟨qR HO_719005⟩, ⟨qK BK690⟩, ⟨qK BK704⟩, ⟨qK BK718⟩, ⟨qK BK730⟩, ⟨qB HB⟩⟩
            ·
             rw [if_neg c99] at H
             have c99b0 : (((rd_T47 t737 1).f0) == 5) = false := beq_eq_false_iff_ne.mpr c99
             have c99b1 : (((rd_T47 t737 1).f0) != 5) = true := bne_iff_ne.mpr c99
             have H' := Aside0.mk H
             clear H
             obtain ⟨Ao105, co105, eo105⟩ := Kd.R_slice HO739.out
             subst eo105
             have p741 : 0 ≤ (1 : Int) := (by omega)
             have q741 : 1 < (t737.length : Int) := od_
             obtain ⟨ad741, e741, hx741_0, hx741_1, hx741_2⟩ := at_T47 (Kd.R_reads' HO739.out).2.2 1 p741 q741
             cases e741
             (try simp only [show (1 : Int).toNat = 1 from rfl, Nat.reduceMul, Nat.reduceEqDiff, Go.Addr.add, ↓reduceIte] at hx741_0)
             (try simp only [show (1 : Int).toNat = 1 from rfl, Nat.reduceMul, Nat.reduceEqDiff, Go.Addr.add, ↓reduceIte] at hx741_1)
             (try simp only [show (1 : Int).toNat = 1 from rfl, Nat.reduceMul, Nat.reduceEqDiff, Go.Addr.add, ↓reduceIte] at hx741_2)
             have qi741 : (1 < t737.length) = True := eq_true (by omega)
             (try rw [show ((1 : Int)).toNat = 1 from rfl] at hx741_0)
             (try rw [show 1 * 3 = 3 from rfl] at hx741_0)
             (try rw [show ((1 : Int)).toNat = 1 from rfl] at hx741_1)
             (try rw [show 1 * 3 = 3 from rfl] at hx741_1)
             (try rw [show ((1 : Int)).toNat = 1 from rfl] at hx741_2)
             (try rw [show 1 * 3 = 3 from rfl] at hx741_2)
             replace p741 := eq_true p741
             replace q741 := eq_true q741
             go_wp2
             repeat (go_quiet (fail); try go_wp2)
             go_meet
             case rel => exact ⟨_, (true), eqq_, H', ⟨by have := HJ7.out; have := HJ40.out; first | omega | exact Nat.le_refl _⟩, ⟨qR HO_691004⟩, ⟨qR HO_691005⟩, ⟨qR HO_705004⟩, ⟨qR HO_705005⟩, ⟨qR HO_719004⟩, ⟨qR HO_719005⟩, ⟨qK BK690⟩, ⟨qK BK704⟩, ⟨qK BK718⟩, ⟨qK BK730⟩, ⟨qB HB⟩⟩
           ·
            rw [if_neg c97] at H
            have c97b0 : ((t737.length : Int) == 2) = false := beq_eq_false_iff_ne.mpr c97
            have c97b1 : ((t737.length : Int) != 2) = true := bne_iff_ne.mpr c97
            have H' := Aside0.mk H
            clear H
            obtain ⟨Ao106, co106, eo106⟩ := Kd.R_slice HO739.out
            subst eo106
            go_wp2
            repeat (go_quiet (fail); try go_wp2)
            go_meet
            case rel => exact ⟨_, (true), eqq_, H', ⟨by have := HJ7.out; have := HJ40.out; first | omega | exact Nat.le_refl _⟩, ⟨qR HO_691004⟩, ⟨qR HO_691005⟩, ⟨qR HO_705004⟩, ⟨qR HO_705005⟩, ⟨qR HO_719004⟩, ⟨qR HO_719005⟩, ⟨qK BK690⟩, ⟨qK BK704⟩, ⟨qK BK718⟩, ⟨qK BK730⟩, ⟨qB HB⟩⟩
          ·
           rw [if_neg c96] at H
           have c96b0 : (t740 == 0) = false := beq_eq_false_iff_ne.mpr c96
           have c96b1 : (t740 != 0) = true := bne_iff_ne.mpr c96
           (first | rw [c96b0] | rw [c96b1] | (simp only [i64_w, i32_w]; rw [c96b0]) | skip)
           have H' := Aside0.mk H
           clear H
           go_wp2
           repeat (go_quiet (fail); try go_wp2)
           go_meet
           case rel => exact ⟨_, (true), eqq_, H', ⟨by have := HJ7.out; have := HJ40.out; first | omega | exact Nat.le_refl _⟩, ⟨qR HO_691004⟩, ⟨qR HO_691005⟩, ⟨qR HO_705004⟩, ⟨qR HO_705005⟩, ⟨qR HO_719004⟩, ⟨qR HO_719005⟩, ⟨qK BK690⟩, ⟨qK BK704⟩, ⟨qK BK718⟩, ⟨qK BK730⟩, ⟨qB HB⟩⟩
         case rest =>
          clear HC86
          try clear c1
          try clear c2
          try clear p2
          try clear c3
          try clear c4
          try clear q4
          try clear c5
          try clear c6
          try clear p6
          try clear c7
          try clear p7
          try clear q7
          try clear hx7
          try clear qi7
          try clear c8
          try clear c9
          try clear q9
          try clear c10
          try clear c16
          try clear c23
          try clear c24
          try clear c28
          try clear c28b0
          try clear c28b1
          try clear c28b2
          try clear c30
          try clear c31
          try clear c33
          try clear c36
          try clear c37
          try clear c38
          try clear c38b0
          try clear c38b1
          try clear c39
          try clear c39b0
          try clear c39b1
          try clear c42
          try clear c43
          try clear c45
          try clear q45
          try clear c48
          try clear c49
          try clear c50
          try clear c52
          try clear c52b0
          try clear c52b1
          try clear c53
          try clear c53b0
          try clear c53b1
          try clear c55
          try clear c57
          try clear c58
          try clear c59
          try clear c61
          try clear c62
          try clear p64
          try clear c67
          try clear c68
          try clear c69
          try clear c71
          try clear c72
          try clear p74
          try clear q74
          try clear hx74
          try clear qi74
          try clear c75
          try clear c76
          try clear c77
          try clear c79
          try clear c80
          try clear c82
          try clear c83
          try clear c83b0
          try clear c83b1
          try clear c84
          try clear c84b0
          try clear c84b1
          try clear c87
          try clear c88
          try clear c89
          try clear c91
          try clear c92
          try clear c94
          try clear q94
          try clear c96
          try clear c96b0
          try clear c96b1
          try clear c97
          try clear c97b0
          try clear c97b1
          try clear c98
          try clear c98b0
          try clear c98b1
          try clear c99
          try clear c99b0
          try clear c99b1
          try clear c101
          try clear c102
          try clear c103
          (try clear z104_0 z104_1 z104_2 z104_3 z104_4 z104_5 z104_6 z104_7)
          (try clear z11_0 z11_1 z11_2 z11_3 z11_4 z11_5 z11_6 z11_7)
          (try clear z17_0 z17_1 z17_2 z17_3 z17_4 z17_5 z17_6 z17_7)
          (try clear z20_0 z20_1 z20_2 z20_3 z20_4 z20_5 z20_6 z20_7)
          (try clear z25_0 z25_1 z25_2 z25_3 z25_4 z25_5 z25_6 z25_7)
          (try clear z32_0 z32_1 z32_2 z32_3 z32_4 z32_5 z32_6 z32_7)
          (try clear z34_0 z34_1 z34_2 z34_3 z34_4 z34_5 z34_6 z34_7)
          (try clear z44_0 z44_1 z44_2 z44_3 z44_4 z44_5 z44_6 z44_7)
          (try clear z51_0 z51_1 z51_2)
          (try clear z60_0 z60_1 z60_2 z60_3 z60_4 z60_5 z60_6 z60_7)
          (try clear z63_0 z63_1 z63_2 z63_3 z63_4 z63_5 z63_6 z63_7)
          (try clear z65_0 z65_1 z65_2 z65_3 z65_4 z65_5 z65_6 z65_7)
          (try clear z66_0 z66_1 z66_2 z66_3 z66_4 z66_5 z66_6 z66_7)
          (try clear z70_0 z70_1 z70_2 z70_3 z70_4 z70_5 z70_6 z70_7)
          (try clear z73_0 z73_1 z73_2 z73_3 z73_4 z73_5 z73_6 z73_7)
          (try clear z78_0 z78_1 z78_2 z78_3 z78_4 z78_5 z78_6 z78_7)
          (try clear z81_0 z81_1 z81_2 z81_3 z81_4 z81_5 z81_6 z81_7)
          (try clear z90_0 z90_1 z90_2 z90_3 z90_4 z90_5 z90_6 z90_7)
          (try clear z93_0 z93_1 z93_2 z93_3 z93_4 z93_5 z93_6 z93_7)
          (try clear f104_0 f104_1 f104_2 f104_3 f104_4 f104_5 f104_6 f104_7)
          (try clear f11_0 f11_1 f11_2 f11_3 f11_4 f11_5 f11_6 f11_7)
          (try clear f17_0 f17_1 f17_2 f17_3 f17_4 f17_5 f17_6 f17_7)
          (try clear f20_0 f20_1 f20_2 f20_3 f20_4 f20_5 f20_6 f20_7)
          (try clear f25_0 f25_1 f25_2 f25_3 f25_4 f25_5 f25_6 f25_7)
          (try clear f32_0 f32_1 f32_2 f32_3 f32_4 f32_5 f32_6 f32_7)
          (try clear f34_0 f34_1 f34_2 f34_3 f34_4 f34_5 f34_6 f34_7)
          (try clear f44_0 f44_1 f44_2 f44_3 f44_4 f44_5 f44_6 f44_7)
          (try clear f51_0 f51_1 f51_2)
          (try clear f60_0 f60_1 f60_2 f60_3 f60_4 f60_5 f60_6 f60_7)
          (try clear f63_0 f63_1 f63_2 f63_3 f63_4 f63_5 f63_6 f63_7)
          (try clear f65_0 f65_1 f65_2 f65_3 f65_4 f65_5 f65_6 f65_7)
          (try clear f66_0 f66_1 f66_2 f66_3 f66_4 f66_5 f66_6 f66_7)
          (try clear f70_0 f70_1 f70_2 f70_3 f70_4 f70_5 f70_6 f70_7)
          (try clear f73_0 f73_1 f73_2 f73_3 f73_4 f73_5 f73_6 f73_7)
          (try clear f78_0 f78_1 f78_2 f78_3 f78_4 f78_5 f78_6 f78_7)
          (try clear f81_0 f81_1 f81_2 f81_3 f81_4 f81_5 f81_6 f81_7)
          (try clear f90_0 f90_1 f90_2 f90_3 f90_4 f90_5 f90_6 f90_7)
          (try clear f93_0 f93_1 f93_2 f93_3 f93_4 f93_5 f93_6 f93_7)
          try clear hx741_0
          try clear hx741_1
          try clear hx741_2
          try clear hx742_0
          try clear hx742_1
          try clear hx742_2
          try clear p2
          try clear p6
          try clear p64
          try clear p741
          try clear p742
          try clear q045
          try clear q094
          try clear q4
          try clear q45
          try clear q741
          try clear q742
          try clear q94
          obtain ⟨kq, x107_85, rfl, HA, HJ85, HO_691004, HO_691005, HO_705004, HO_705005, HO_719004, HO_719005, BK690, BK704, BK718, BK730, HB⟩ := hcut
          cases kq with
          | zero => exact absurd HA.out (by simp [laws_FnFar.j2])
          | succ kj85 =>
           have H := HA.out
           clear HA
           simp only [laws_FnFar.j2] at H
           by_cases c107 : x107_85 = true
           ·
            subst c107
            rw [if_pos rfl] at H
            exact absurd (hr_.out ▸ H) (by simp)
           ·
            replace c107 := Bool.eq_false_iff.mpr c107
            subst c107
            rw [if_neg (show ¬ (false = true) by decide)] at H
            by_cases c108 : t725 = 2
            ·
             rw [if_pos c108] at H
             have c108b0 : (t725 == 2) = true := beq_iff_eq.mpr c108
             have c108b1 : (t725 != 2) = false := bne_eq_false_iff_eq.mpr c108
             clear c108
             obtain ⟨t743, A109, H⟩ := bd_ H
             obtain ⟨t744, A110, H⟩ := bd_ H
             obtain rfl := Option.some.inj H
             have hnb111 := NB730_690.out
             have hnc111 := NB690_730.out
             have hnb112 := NB730_704.out
             have hnc112 := NB704_730.out
             have hnb113 := NB730_718.out
             have hnc113 := NB718_730.out
             obtain ⟨z114_0, z114_1, z114_2⟩ := cz3 BK730.out
             obtain ⟨f114_0, f114_1, f114_2⟩ := fz3 BK730.out
             have hnb115 := NB704_690.out
             have hnc115 := NB690_704.out
             have hnb116 := NB704_718.out
             have hnc116 := NB718_704.out
             obtain ⟨z117_0, z117_1, z117_2, z117_3, z117_4, z117_5, z117_6, z117_7⟩ := cz8 BK704.out
             obtain ⟨f117_0, f117_1, f117_2, f117_3, f117_4, f117_5, f117_6, f117_7⟩ := fz8 BK704.out
             have hnb118 := NB690_718.out
             have hnc118 := NB718_690.out
             obtain ⟨z119_0, z119_1, z119_2, z119_3, z119_4, z119_5, z119_6, z119_7⟩ := cz8 BK690.out
             obtain ⟨f119_0, f119_1, f119_2, f119_3, f119_4, f119_5, f119_6, f119_7⟩ := fz8 BK690.out
             go_wp2_with (first | (go_at_call 32; (with_reducible refine (impl_WordOf.calls t726 t743 _ A109.out).mono ?_); rintro e w' ⟨rfl, ⟨nd, rfl⟩⟩; (try first | exact ⟨rfl, _, World.drewN_drewN _ _ _⟩ | exact ⟨rfl, _, Eq.trans (World.drewN_drewN _ _ _) (congrArg (World.drewN _) (Nat.add_assoc _ _ _))⟩)) | (go_at_call 31; (with_reducible refine (impl_NextSt.calls kj85 t688 t743 t744 _ A110.out).mono ?_); rintro e w' ⟨rfl, ⟨nd, rfl⟩⟩; (try first | exact ⟨rfl, _, World.drewN_drewN _ _ _⟩ | exact ⟨rfl, _, Eq.trans (World.drewN_drewN _ _ _) (congrArg (World.drewN _) (Nat.add_assoc _ _ _))⟩)))
             repeat (go_quiet (first | (go_at_call 32; (with_reducible refine (impl_WordOf.calls t726 t743 _ A109.out).mono ?_); rintro e w' ⟨rfl, ⟨nd, rfl⟩⟩; (try first | exact ⟨rfl, _, World.drewN_drewN _ _ _⟩ | exact ⟨rfl, _, Eq.trans (World.drewN_drewN _ _ _) (congrArg (World.drewN _) (Nat.add_assoc _ _ _))⟩)) | (go_at_call 31; (with_reducible refine (impl_NextSt.calls kj85 t688 t743 t744 _ A110.out).mono ?_); rintro e w' ⟨rfl, ⟨nd, rfl⟩⟩; (try first | exact ⟨rfl, _, World.drewN_drewN _ _ _⟩ | exact ⟨rfl, _, Eq.trans (World.drewN_drewN _ _ _) (congrArg (World.drewN _) (Nat.add_assoc _ _ _))⟩))); try go_wp2_with (first | (go_at_call 32; (with_reducible refine (impl_WordOf.calls t726 t743 _ A109.out).mono ?_); rintro e w' ⟨rfl, ⟨nd, rfl⟩⟩; (try first | exact ⟨rfl, _, World.drewN_drewN _ _ _⟩ | exact ⟨rfl, _, Eq.trans (World.drewN_drewN _ _ _) (congrArg (World.drewN _) (Nat.add_assoc _ _ _))⟩)) | (go_at_call 31; (with_reducible refine (impl_NextSt.calls kj85 t688 t743 t744 _ A110.out).mono ?_); rintro e w' ⟨rfl, ⟨nd, rfl⟩⟩; (try first | exact ⟨rfl, _, World.drewN_drewN _ _ _⟩ | exact ⟨rfl, _, Eq.trans (World.drewN_drewN _ _ _) (congrArg (World.drewN _) (Nat.add_assoc _ _ _))⟩))))
             go_ret
             exact ⟨er_, qB HB⟩
            ·
             rw [if_neg c108] at H
             have c108b0 : (t725 == 2) = false := beq_eq_false_iff_ne.mpr c108
             have c108b1 : (t725 != 2) = true := bne_iff_ne.mpr c108
             by_cases c120 : t701 = t688
             ·
              rw [if_pos c120] at H
              have c120b0 : (t701 == t688) = true := beq_iff_eq.mpr c120
              have c120b1 : (t701 != t688) = false := bne_eq_false_iff_eq.mpr c120
              clear c120
              obtain rfl := Option.some.inj H
              have hnb121 := NB730_690.out
              have hnc121 := NB690_730.out
              have hnb122 := NB730_704.out
              have hnc122 := NB704_730.out
              have hnb123 := NB730_718.out
              have hnc123 := NB718_730.out
              obtain ⟨z124_0, z124_1, z124_2⟩ := cz3 BK730.out
              obtain ⟨f124_0, f124_1, f124_2⟩ := fz3 BK730.out
              have hnb125 := NB704_690.out
              have hnc125 := NB690_704.out
              have hnb126 := NB704_718.out
              have hnc126 := NB718_704.out
              obtain ⟨z127_0, z127_1, z127_2, z127_3, z127_4, z127_5, z127_6, z127_7⟩ := cz8 BK704.out
              obtain ⟨f127_0, f127_1, f127_2, f127_3, f127_4, f127_5, f127_6, f127_7⟩ := fz8 BK704.out
              have hnb128 := NB690_718.out
              have hnc128 := NB718_690.out
              obtain ⟨z129_0, z129_1, z129_2, z129_3, z129_4, z129_5, z129_6, z129_7⟩ := cz8 BK690.out
              obtain ⟨f129_0, f129_1, f129_2, f129_3, f129_4, f129_5, f129_6, f129_7⟩ := fz8 BK690.out
              go_wp2
              repeat (go_quiet (fail); try go_wp2)
              go_ret
              exact ⟨er_, qB HB⟩
             ·
              rw [if_neg c120] at H
              have c120b0 : (t701 == t688) = false := beq_eq_false_iff_ne.mpr c120
              have c120b1 : (t701 != t688) = true := bne_iff_ne.mpr c120
              exact absurd (hr_.out ▸ H) (by simp)
     ·
      replace c37 := Bool.eq_false_iff.mpr c37
      subst c37
      rw [if_neg (show ¬ (false = true) by decide)] at H
      obtain ⟨t720, A130, H⟩ := bd_ H
      obtain rfl := Option.some.inj H
      have hnb131 := NB704_690.out
      have hnc131 := NB690_704.out
      have hnb132 := NB704_718.out
      have hnc132 := NB718_704.out
      obtain ⟨z133_0, z133_1, z133_2, z133_3, z133_4, z133_5, z133_6, z133_7⟩ := cz8 BK704.out
      obtain ⟨f133_0, f133_1, f133_2, f133_3, f133_4, f133_5, f133_6, f133_7⟩ := fz8 BK704.out
      have hnb134 := NB690_718.out
      have hnc134 := NB718_690.out
      obtain ⟨z135_0, z135_1, z135_2, z135_3, z135_4, z135_5, z135_6, z135_7⟩ := cz8 BK690.out
      obtain ⟨f135_0, f135_1, f135_2, f135_3, f135_4, f135_5, f135_6, f135_7⟩ := fz8 BK690.out
      go_wp2_with (first | (go_at_call 27; (with_reducible refine (laws_sameSock.calls t691 t692 t693 t694 _ _ t695 _ _ t698 t701 t702 t678 t679 t680 t681 _ _ t682 _ _ t685 t688 t689 t720 _ ?side1 ?side2 ?side3 ?side4 ?side5 ?side6 ?side7 ?side8 A130.out).mono ?_); (case side1 => exact qC ((Kd.R_reads' HO_705004.out).2.2)); (case side2 => exact (Kd.R_reads' HO_705004.out).2.1); (case side3 => exact qC ((Kd.R_reads' HO_705005.out).2.2)); (case side4 => exact (Kd.R_reads' HO_705005.out).2.1); (case side5 => exact qC ((Kd.R_reads' HO_691004.out).2.2)); (case side6 => exact (Kd.R_reads' HO_691004.out).2.1); (case side7 => exact qC ((Kd.R_reads' HO_691005.out).2.2)); (case side8 => exact (Kd.R_reads' HO_691005.out).2.1); rintro e w136 ⟨rfl, hb⟩; replace HO_691004 := am_ (Kd.R_below (qR HO_691004) hb); replace HO_691005 := am_ (Kd.R_below (qR HO_691005) hb); replace HO_705004 := am_ (Kd.R_below (qR HO_705004) hb); replace HO_705005 := am_ (Kd.R_below (qR HO_705005) hb); replace HO_719004 := am_ (Kd.R_below (qR HO_719004) hb); replace HO_719005 := am_ (Kd.R_below (qR HO_719005) hb); replace BK690 := am_ (blk_below (qK BK690) hb); replace BK704 := am_ (blk_below (qK BK704) hb); replace BK718 := am_ (blk_below (qK BK718) hb); replace HB := am_ (below_step (qB HB) hb); (try clear hb); (try clear hb2); (try clear hk); (try clear hi)))
      repeat (go_quiet (first | (go_at_call 27; (with_reducible refine (laws_sameSock.calls t691 t692 t693 t694 _ _ t695 _ _ t698 t701 t702 t678 t679 t680 t681 _ _ t682 _ _ t685 t688 t689 t720 _ ?side1 ?side2 ?side3 ?side4 ?side5 ?side6 ?side7 ?side8 A130.out).mono ?_); (case side1 => exact qC ((Kd.R_reads' HO_705004.out).2.2)); (case side2 => exact (Kd.R_reads' HO_705004.out).2.1); (case side3 => exact qC ((Kd.R_reads' HO_705005.out).2.2)); (case side4 => exact (Kd.R_reads' HO_705005.out).2.1); (case side5 => exact qC ((Kd.R_reads' HO_691004.out).2.2)); (case side6 => exact (Kd.R_reads' HO_691004.out).2.1); (case side7 => exact qC ((Kd.R_reads' HO_691005.out).2.2)); (case side8 => exact (Kd.R_reads' HO_691005.out).2.1); rintro e w136 ⟨rfl, hb⟩; replace HO_691004 := am_ (Kd.R_below (qR HO_691004) hb); replace HO_691005 := am_ (Kd.R_below (qR HO_691005) hb); replace HO_705004 := am_ (Kd.R_below (qR HO_705004) hb); replace HO_705005 := am_ (Kd.R_below (qR HO_705005) hb); replace HO_719004 := am_ (Kd.R_below (qR HO_719004) hb); replace HO_719005 := am_ (Kd.R_below (qR HO_719005) hb); replace BK690 := am_ (blk_below (qK BK690) hb); replace BK704 := am_ (blk_below (qK BK704) hb); replace BK718 := am_ (blk_below (qK BK718) hb); replace HB := am_ (below_step (qB HB) hb); (try clear hb); (try clear hb2); (try clear hk); (try clear hi))); try go_wp2_with (first | (go_at_call 27; (with_reducible refine (laws_sameSock.calls t691 t692 t693 t694 _ _ t695 _ _ t698 t701 t702 t678 t679 t680 t681 _ _ t682 _ _ t685 t688 t689 t720 _ ?side1 ?side2 ?side3 ?side4 ?side5 ?side6 ?side7 ?side8 A130.out).mono ?_); (case side1 => exact qC ((Kd.R_reads' HO_705004.out).2.2)); (case side2 => exact (Kd.R_reads' HO_705004.out).2.1); (case side3 => exact qC ((Kd.R_reads' HO_705005.out).2.2)); (case side4 => exact (Kd.R_reads' HO_705005.out).2.1); (case side5 => exact qC ((Kd.R_reads' HO_691004.out).2.2)); (case side6 => exact (Kd.R_reads' HO_691004.out).2.1); (case side7 => exact qC ((Kd.R_reads' HO_691005.out).2.2)); (case side8 => exact (Kd.R_reads' HO_691005.out).2.1); rintro e w136 ⟨rfl, hb⟩; replace HO_691004 := am_ (Kd.R_below (qR HO_691004) hb); replace HO_691005 := am_ (Kd.R_below (qR HO_691005) hb); replace HO_705004 := am_ (Kd.R_below (qR HO_705004) hb); replace HO_705005 := am_ (Kd.R_below (qR HO_705005) hb); replace HO_719004 := am_ (Kd.R_below (qR HO_719004) hb); replace HO_719005 := am_ (Kd.R_below (qR HO_719005) hb); replace BK690 := am_ (blk_below (qK BK690) hb); replace BK704 := am_ (blk_below (qK BK704) hb); replace BK718 := am_ (blk_below (qK BK718) hb); replace HB := am_ (below_step (qB HB) hb); (try clear hb); (try clear hb2); (try clear hk); (try clear hi))))
      go_ret
      exact ⟨er_, qB HB⟩

/-- THE ONE PURE STATEMENT of laws_FnFar: yours. -/
def laws_FnFar.Pure : Prop := ∀ (l0 : List Int), l0.length ≤ maxLen → l0.length * 1 ≤ 140737488351232 → (∀ x ∈ l0, (Lit.int .u8 x).wf = true) → ∃ k, laws_FnFar.f k l0 = some true
theorem laws_FnFar.walk (P : laws_FnFar.Pure) (a0 : Option Addr) (len0 cap0 : Nat) (z0 : List Int) (w : World) (w0 : (a0 = none ∧ len0 = 0 ∧ cap0 = 0 ∧ z0 = []) ∨ ∃ x, a0 = some x ∧ len0 ≤ cap0 ∧ cap0 ≤ maxLen ∧ z0.length = cap0 ∧ (∀ i, i < z0.length → w.cell? (x.add i) = some (.int .u8 (z0.getD i 0))) ∧ ∀ n ∈ z0, (Lit.int .u8 n).wf = true) (y0 : len0 * 1 ≤ 140737488351232) :
  Calls Try.prog 4 #[.slice a0 len0 cap0] w fun e w' => e = .returned (.bool true) ∧ Below w.heap.size w w' := by
 obtain ⟨l0, rfl, hr0, hm0, hw0, hc0⟩ := ReadsInt.ofRowC w0
 obtain ⟨k, h⟩ := P l0 hm0 y0 hw0
 refine (laws_FnFar.calls k _ _ l0 true w (Kd.C_of_reads (d := (0 : Int)) (h1 := fun _ => rfl) hr0) hc0 ⟨rfl⟩ h).mono ?_
 rintro e w' ⟨rfl, hd⟩
 exact ⟨rfl, hd⟩

end Go.Proofs.Ytaimfkfpglhijaa.PFnFar
