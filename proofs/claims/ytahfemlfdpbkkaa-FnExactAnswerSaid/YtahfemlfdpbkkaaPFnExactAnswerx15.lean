-- Written by a program of this session (myprint.py, over the kit's print): contracts of FnExactAnswer
import Derived.Test.YtahfemlfdpbkkaaPFnExactAnswerx0
import Derived.Test.YtahfemlfdpbkkaaPFnExactAnswerx2
import Derived.Test.YtahfemlfdpbkkaaPFnExactAnswerx3
import Derived.Test.YtahfemlfdpbkkaaPFnExactAnswerx8
import Derived.Test.YtahfemlfdpbkkaaPFnExactAnswerx14
namespace Go.Proofs.Ytahfemlfdpbkkaa.PFnExactAnswer
open Go.RowKit Go.Proofs.YtahfemlfdpbkkaaW.PrintWords Go.Proofs.YtahfemlfdpbkkaaW.PrintLast Go.Proofs.YtahfemlfdpbkkaaW.PrintMore Go.Proofs.YtahfemlfdpbkkaaV
attribute [local go_sem] max2_int min2_int max_two min_two max_three min_three max_four min_four   -- for this text's walks alone
set_option linter.unusedVariables false
set_option linter.unusedSimpArgs false

/-! ### laws_FnExactAnswer: function 11 -/
mutual
def laws_FnExactAnswer.j0 : Nat → Bool → Bool → Bool → Int → Int → Int → Bool → List Int → List Int → Int → Int → Int → Int → Int → Bool → List Int → List Int → Int → Int → Int → Int → Int → Bool → List Int → List Int → Int → Int → Int → Int → Int → Bool → List Int → List Int → Int → Int → Option (Bool)
 | 0, _, _, _, _, _, _, _, _, _, _, _, _, _, _, _, _, _, _, _, _, _, _, _, _, _, _, _, _, _, _, _, _, _, _, _ => none
 | k + 1, x5, x8, x40, x421000, x421001, x421002, x421003, x421004, x421005, x421006, x421007, x448000, x448001, x448002, x448003, x448004, x448005, x448006, x448007, x461000, x461001, x461002, x461003, x461004, x461005, x461006, x461007, x475000, x475001, x475002, x475003, x475004, x475005, x475006, x475007 => if x40 = true then (some false) else ((laws_toSock.f k x421000 x421001 x421002 x421003 x421004 x421005 x421006 x421007).bind fun bt476 => ((laws_eqSock.f k x461000 x461001 x461002 x461003 x461004 x461005 x461006 x461007 bt476.1 bt476.2.1 bt476.2.2.1 bt476.2.2.2.1 bt476.2.2.2.2.1 bt476.2.2.2.2.2.1 bt476.2.2.2.2.2.2.1 bt476.2.2.2.2.2.2.2).bind fun t488 => (if t488 = true then ((laws_markSock.f k x461000 x461001 x461002 x461003 x461004 x461005 x461006 x461007 1).bind fun bt489 => (if bt489.1 < 0 then (laws_FnExactAnswer.j1 k x5 true x421000 x421001 x421002 x421003 x421004 x421005 x421006 x421007 x448000 x448001 x448002 x448003 x448004 x448005 x448006 x448007 x475000 x475001 x475002 x475003 x475004 x475005 x475006 x475007) else ((laws_eqSock.f k x475000 x475001 x475002 x475003 x475004 x475005 x475006 x475007 x448000 x448001 x448002 x448003 x448004 x448005 x448006 x448007).bind fun t492 => (if t492 = true then (laws_FnExactAnswer.j1 k x5 (x8 != x5) x421000 x421001 x421002 x421003 x421004 x421005 x421006 x421007 x448000 x448001 x448002 x448003 x448004 x448005 x448006 x448007 x475000 x475001 x475002 x475003 x475004 x475005 x475006 x475007) else (laws_FnExactAnswer.j1 k x5 true x421000 x421001 x421002 x421003 x421004 x421005 x421006 x421007 x448000 x448001 x448002 x448003 x448004 x448005 x448006 x448007 x475000 x475001 x475002 x475003 x475004 x475005 x475006 x475007))))) else (some false))))
def laws_FnExactAnswer.j1 : Nat → Bool → Bool → Int → Int → Int → Bool → List Int → List Int → Int → Int → Int → Int → Int → Bool → List Int → List Int → Int → Int → Int → Int → Int → Bool → List Int → List Int → Int → Int → Option (Bool)
 | 0, _, _, _, _, _, _, _, _, _, _, _, _, _, _, _, _, _, _, _, _, _, _, _, _, _, _ => none
 | k + 1, x5, x61, x421000, x421001, x421002, x421003, x421004, x421005, x421006, x421007, x448000, x448001, x448002, x448003, x448004, x448005, x448006, x448007, x475000, x475001, x475002, x475003, x475004, x475005, x475006, x475007 => if x61 = true then (some false) else ((laws_markSock.f k x475000 x475001 x475002 x475003 x475004 x475005 x475006 x475007 1).bind fun bt493 => ((laws_heldSock.f k x475000 x475001 x475002 x475003 bt493.2.1 bt493.2.2 x475006 x475007 1).bind fun t496 => (if t496 < 0 then (some false) else (if t496 = bt493.1 then ((laws_toSock.f k x421000 x421001 x421002 x421003 x421004 x421005 x421006 x421007).bind fun bt497 => ((impl_Answer.f k bt497.1 bt497.2.1 bt497.2.2.1 bt497.2.2.2.1 bt497.2.2.2.2.1 bt497.2.2.2.2.2.1 bt497.2.2.2.2.2.2.1 bt497.2.2.2.2.2.2.2).bind fun bt509 => ((laws_eqSock.f k bt509.1 bt509.2.1 bt509.2.2.1 bt509.2.2.2.1 bt509.2.2.2.2.1 bt509.2.2.2.2.2.1 bt509.2.2.2.2.2.2.1 bt509.2.2.2.2.2.2.2.1 x448000 x448001 x448002 x448003 x448004 x448005 x448006 x448007).bind fun t523 => (if t523 = true then (laws_FnExactAnswer.j2 k bt493.1 (bt509.2.2.2.2.2.2.2.2 != x5) x475000 x475001 x475002 x475003 bt493.2.1 bt493.2.2 x475006 x475007) else (laws_FnExactAnswer.j2 k bt493.1 true x475000 x475001 x475002 x475003 bt493.2.1 bt493.2.2 x475006 x475007))))) else (some false)))))
def laws_FnExactAnswer.j2 : Nat → Int → Bool → Int → Int → Int → Bool → List Int → List Int → Int → Int → Option (Bool)
 | 0, _, _, _, _, _, _, _, _, _, _ => none
 | k + 1, x10, x87, x475000, x475001, x475002, x475003, x475004, x475005, x475006, x475007 => if x87 = true then (some false) else ((laws_heldSock.f k x475000 x475001 x475002 x475003 x475004 x475005 x475006 x475007 1).bind fun t524 => (if t524 < 0 then (some false) else (if t524 = x10 then (some true) else (some false))))
end
def laws_FnExactAnswer.f (k : Nat) (a0_0 : Int) (a0_1 : Int) (a0_2 : Int) (a0_3 : Bool) (l0_4 : List Int) (l0_5 : List Int) (a0_6 : Int) (a0_7 : Int) : Option (Bool) := (laws_szSock.f a0_0 a0_1 a0_2 a0_3 l0_4 l0_5 a0_6 a0_7 1048576).bind fun t421 => (if t421 < 0 then (some true) else ((laws_toSock.f k a0_0 a0_1 a0_2 a0_3 l0_4 l0_5 a0_6 a0_7).bind fun bt422 => ((spec_Answer.f k bt422.1 bt422.2.1 bt422.2.2.1 bt422.2.2.2.1 bt422.2.2.2.2.1 bt422.2.2.2.2.2.1 bt422.2.2.2.2.2.2.1 bt422.2.2.2.2.2.2.2).bind fun bt434 => ((laws_toSock.f k a0_0 a0_1 a0_2 a0_3 l0_4 l0_5 a0_6 a0_7).bind fun bt448 => ((impl_Answer.f k bt448.1 bt448.2.1 bt448.2.2.1 bt448.2.2.2.1 bt448.2.2.2.2.1 bt448.2.2.2.2.2.1 bt448.2.2.2.2.2.2.1 bt448.2.2.2.2.2.2.2).bind fun bt461 => ((laws_eqSock.f k bt461.1 bt461.2.1 bt461.2.2.1 bt461.2.2.2.1 bt461.2.2.2.2.1 bt461.2.2.2.2.2.1 bt461.2.2.2.2.2.2.1 bt461.2.2.2.2.2.2.2.1 bt434.1 bt434.2.1 bt434.2.2.1 bt434.2.2.2.1 bt434.2.2.2.2.1 bt434.2.2.2.2.2.1 bt434.2.2.2.2.2.2.1 bt434.2.2.2.2.2.2.2.1).bind fun t475 => (if t475 = true then (laws_FnExactAnswer.j0 k bt434.2.2.2.2.2.2.2.2 bt461.2.2.2.2.2.2.2.2 (bt461.2.2.2.2.2.2.2.2 != bt434.2.2.2.2.2.2.2.2) a0_0 a0_1 a0_2 a0_3 l0_4 l0_5 a0_6 a0_7 bt434.1 bt434.2.1 bt434.2.2.1 bt434.2.2.2.1 bt434.2.2.2.2.1 bt434.2.2.2.2.2.1 bt434.2.2.2.2.2.2.1 bt434.2.2.2.2.2.2.2.1 bt448.1 bt448.2.1 bt448.2.2.1 bt448.2.2.2.1 bt448.2.2.2.2.1 bt448.2.2.2.2.2.1 bt448.2.2.2.2.2.2.1 bt448.2.2.2.2.2.2.2 bt461.1 bt461.2.1 bt461.2.2.1 bt461.2.2.2.1 bt461.2.2.2.2.1 bt461.2.2.2.2.2.1 bt461.2.2.2.2.2.2.1 bt461.2.2.2.2.2.2.2.1) else (laws_FnExactAnswer.j0 k bt434.2.2.2.2.2.2.2.2 bt461.2.2.2.2.2.2.2.2 true a0_0 a0_1 a0_2 a0_3 l0_4 l0_5 a0_6 a0_7 bt434.1 bt434.2.1 bt434.2.2.1 bt434.2.2.2.1 bt434.2.2.2.2.1 bt434.2.2.2.2.2.1 bt434.2.2.2.2.2.2.1 bt434.2.2.2.2.2.2.2.1 bt448.1 bt448.2.1 bt448.2.2.1 bt448.2.2.2.1 bt448.2.2.2.2.1 bt448.2.2.2.2.2.1 bt448.2.2.2.2.2.2.1 bt448.2.2.2.2.2.2.2 bt461.1 bt461.2.1 bt461.2.2.1 bt461.2.2.2.1 bt461.2.2.2.2.1 bt461.2.2.2.2.2.1 bt461.2.2.2.2.2.2.1 bt461.2.2.2.2.2.2.2.1))))))))
theorem laws_FnExactAnswer.mono_l : ∀ k, (∀ y0 y1 y2 y3 y4 y5 y6 y7 y8 y9 y10 y11 y12 y13 y14 y15 y16 y17 y18 y19 y20 y21 y22 y23 y24 y25 y26 y27 y28 y29 y30 y31 y32 y33 y34, LeO (laws_FnExactAnswer.j0 k y0 y1 y2 y3 y4 y5 y6 y7 y8 y9 y10 y11 y12 y13 y14 y15 y16 y17 y18 y19 y20 y21 y22 y23 y24 y25 y26 y27 y28 y29 y30 y31 y32 y33 y34) (laws_FnExactAnswer.j0 (k + 1) y0 y1 y2 y3 y4 y5 y6 y7 y8 y9 y10 y11 y12 y13 y14 y15 y16 y17 y18 y19 y20 y21 y22 y23 y24 y25 y26 y27 y28 y29 y30 y31 y32 y33 y34)) ∧ (∀ y0 y1 y2 y3 y4 y5 y6 y7 y8 y9 y10 y11 y12 y13 y14 y15 y16 y17 y18 y19 y20 y21 y22 y23 y24 y25, LeO (laws_FnExactAnswer.j1 k y0 y1 y2 y3 y4 y5 y6 y7 y8 y9 y10 y11 y12 y13 y14 y15 y16 y17 y18 y19 y20 y21 y22 y23 y24 y25) (laws_FnExactAnswer.j1 (k + 1) y0 y1 y2 y3 y4 y5 y6 y7 y8 y9 y10 y11 y12 y13 y14 y15 y16 y17 y18 y19 y20 y21 y22 y23 y24 y25)) ∧ (∀ y0 y1 y2 y3 y4 y5 y6 y7 y8 y9, LeO (laws_FnExactAnswer.j2 k y0 y1 y2 y3 y4 y5 y6 y7 y8 y9) (laws_FnExactAnswer.j2 (k + 1) y0 y1 y2 y3 y4 y5 y6 y7 y8 y9))
 | 0 => ⟨fun _ _ _ _ _ _ _ _ _ _ _ _ _ _ _ _ _ _ _ _ _ _ _ _ _ _ _ _ _ _ _ _ _ _ _ r h => by simp [laws_FnExactAnswer.j0] at h, fun _ _ _ _ _ _ _ _ _ _ _ _ _ _ _ _ _ _ _ _ _ _ _ _ _ _ r h => by simp [laws_FnExactAnswer.j1] at h, fun _ _ _ _ _ _ _ _ _ _ r h => by simp [laws_FnExactAnswer.j2] at h⟩
 | k + 1 => by
  obtain ⟨ih0, ih1, ih2⟩ := laws_FnExactAnswer.mono_l k
  refine ⟨?_, ?_, ?_⟩
  ·
   intro y0 y1 y2 y3 y4 y5 y6 y7 y8 y9 y10 y11 y12 y13 y14 y15 y16 y17 y18 y19 y20 y21 y22 y23 y24 y25 y26 y27 y28 y29 y30 y31 y32 y33 y34
   unfold laws_FnExactAnswer.j0
   repeat' first
   | (with_reducible exact ih0 _ _ _ _ _ _ _ _ _ _ _ _ _ _ _ _ _ _ _ _ _ _ _ _ _ _ _ _ _ _ _ _ _ _ _)
   | (with_reducible exact ih1 _ _ _ _ _ _ _ _ _ _ _ _ _ _ _ _ _ _ _ _ _ _ _ _ _ _)
   | (with_reducible exact ih2 _ _ _ _ _ _ _ _ _ _)
   | (with_reducible exact impl_Answer.mono _ _ _ _ _ _ _ _ _)
   | (with_reducible exact laws_eqSock.mono _ _ _ _ _ _ _ _ _ _ _ _ _ _ _ _ _)
   | (with_reducible exact laws_heldSock.mono _ _ _ _ _ _ _ _ _ _)
   | (with_reducible exact laws_markSock.mono _ _ _ _ _ _ _ _ _ _)
   | (with_reducible exact laws_toSock.mono _ _ _ _ _ _ _ _ _)
   | (with_reducible exact spec_Answer.mono _ _ _ _ _ _ _ _ _)
   | (with_reducible exact LeO.refl _)
   | (with_reducible exact LeO.none _)
   | (with_reducible refine LeO.ite ?_ ?_)
   | (with_reducible refine LeO.bind ?_ (fun _ => ?_))
   | exact ih0 _ _ _ _ _ _ _ _ _ _ _ _ _ _ _ _ _ _ _ _ _ _ _ _ _ _ _ _ _ _ _ _ _ _ _
   | exact ih1 _ _ _ _ _ _ _ _ _ _ _ _ _ _ _ _ _ _ _ _ _ _ _ _ _ _
   | exact ih2 _ _ _ _ _ _ _ _ _ _
   | exact impl_Answer.mono _ _ _ _ _ _ _ _ _
   | exact laws_eqSock.mono _ _ _ _ _ _ _ _ _ _ _ _ _ _ _ _ _
   | exact laws_heldSock.mono _ _ _ _ _ _ _ _ _ _
   | exact laws_markSock.mono _ _ _ _ _ _ _ _ _ _
   | exact laws_toSock.mono _ _ _ _ _ _ _ _ _
   | exact spec_Answer.mono _ _ _ _ _ _ _ _ _
   | exact LeO.none _
   | refine LeO.ite ?_ ?_
   | refine LeO.bind ?_ (fun _ => ?_)
  ·
   intro y0 y1 y2 y3 y4 y5 y6 y7 y8 y9 y10 y11 y12 y13 y14 y15 y16 y17 y18 y19 y20 y21 y22 y23 y24 y25
   unfold laws_FnExactAnswer.j1
   repeat' first
   | (with_reducible exact ih0 _ _ _ _ _ _ _ _ _ _ _ _ _ _ _ _ _ _ _ _ _ _ _ _ _ _ _ _ _ _ _ _ _ _ _)
   | (with_reducible exact ih1 _ _ _ _ _ _ _ _ _ _ _ _ _ _ _ _ _ _ _ _ _ _ _ _ _ _)
   | (with_reducible exact ih2 _ _ _ _ _ _ _ _ _ _)
   | (with_reducible exact impl_Answer.mono _ _ _ _ _ _ _ _ _)
   | (with_reducible exact laws_eqSock.mono _ _ _ _ _ _ _ _ _ _ _ _ _ _ _ _ _)
   | (with_reducible exact laws_heldSock.mono _ _ _ _ _ _ _ _ _ _)
   | (with_reducible exact laws_markSock.mono _ _ _ _ _ _ _ _ _ _)
   | (with_reducible exact laws_toSock.mono _ _ _ _ _ _ _ _ _)
   | (with_reducible exact spec_Answer.mono _ _ _ _ _ _ _ _ _)
   | (with_reducible exact LeO.refl _)
   | (with_reducible exact LeO.none _)
   | (with_reducible refine LeO.ite ?_ ?_)
   | (with_reducible refine LeO.bind ?_ (fun _ => ?_))
   | exact ih0 _ _ _ _ _ _ _ _ _ _ _ _ _ _ _ _ _ _ _ _ _ _ _ _ _ _ _ _ _ _ _ _ _ _ _
   | exact ih1 _ _ _ _ _ _ _ _ _ _ _ _ _ _ _ _ _ _ _ _ _ _ _ _ _ _
   | exact ih2 _ _ _ _ _ _ _ _ _ _
   | exact impl_Answer.mono _ _ _ _ _ _ _ _ _
   | exact laws_eqSock.mono _ _ _ _ _ _ _ _ _ _ _ _ _ _ _ _ _
   | exact laws_heldSock.mono _ _ _ _ _ _ _ _ _ _
   | exact laws_markSock.mono _ _ _ _ _ _ _ _ _ _
   | exact laws_toSock.mono _ _ _ _ _ _ _ _ _
   | exact spec_Answer.mono _ _ _ _ _ _ _ _ _
   | exact LeO.none _
   | refine LeO.ite ?_ ?_
   | refine LeO.bind ?_ (fun _ => ?_)
  ·
   intro y0 y1 y2 y3 y4 y5 y6 y7 y8 y9
   unfold laws_FnExactAnswer.j2
   repeat' first
   | (with_reducible exact ih0 _ _ _ _ _ _ _ _ _ _ _ _ _ _ _ _ _ _ _ _ _ _ _ _ _ _ _ _ _ _ _ _ _ _ _)
   | (with_reducible exact ih1 _ _ _ _ _ _ _ _ _ _ _ _ _ _ _ _ _ _ _ _ _ _ _ _ _ _)
   | (with_reducible exact ih2 _ _ _ _ _ _ _ _ _ _)
   | (with_reducible exact impl_Answer.mono _ _ _ _ _ _ _ _ _)
   | (with_reducible exact laws_eqSock.mono _ _ _ _ _ _ _ _ _ _ _ _ _ _ _ _ _)
   | (with_reducible exact laws_heldSock.mono _ _ _ _ _ _ _ _ _ _)
   | (with_reducible exact laws_markSock.mono _ _ _ _ _ _ _ _ _ _)
   | (with_reducible exact laws_toSock.mono _ _ _ _ _ _ _ _ _)
   | (with_reducible exact spec_Answer.mono _ _ _ _ _ _ _ _ _)
   | (with_reducible exact LeO.refl _)
   | (with_reducible exact LeO.none _)
   | (with_reducible refine LeO.ite ?_ ?_)
   | (with_reducible refine LeO.bind ?_ (fun _ => ?_))
   | exact ih0 _ _ _ _ _ _ _ _ _ _ _ _ _ _ _ _ _ _ _ _ _ _ _ _ _ _ _ _ _ _ _ _ _ _ _
   | exact ih1 _ _ _ _ _ _ _ _ _ _ _ _ _ _ _ _ _ _ _ _ _ _ _ _ _ _
   | exact ih2 _ _ _ _ _ _ _ _ _ _
   | exact impl_Answer.mono _ _ _ _ _ _ _ _ _
   | exact laws_eqSock.mono _ _ _ _ _ _ _ _ _ _ _ _ _ _ _ _ _
   | exact laws_heldSock.mono _ _ _ _ _ _ _ _ _ _
   | exact laws_markSock.mono _ _ _ _ _ _ _ _ _ _
   | exact laws_toSock.mono _ _ _ _ _ _ _ _ _
   | exact spec_Answer.mono _ _ _ _ _ _ _ _ _
   | exact LeO.none _
   | refine LeO.ite ?_ ?_
   | refine LeO.bind ?_ (fun _ => ?_)
theorem laws_FnExactAnswer.mono : ∀ a0 a1 a2 a3 a4 a5 a6 a7 k, LeO (laws_FnExactAnswer.f k a0 a1 a2 a3 a4 a5 a6 a7) (laws_FnExactAnswer.f (k + 1) a0 a1 a2 a3 a4 a5 a6 a7) := by
 intro a0 a1 a2 a3 a4 a5 a6 a7 k
 obtain ⟨ih0, ih1, ih2⟩ := laws_FnExactAnswer.mono_l k
 unfold laws_FnExactAnswer.f
 repeat' first
   | (with_reducible exact ih0 _ _ _ _ _ _ _ _ _ _ _ _ _ _ _ _ _ _ _ _ _ _ _ _ _ _ _ _ _ _ _ _ _ _ _)
   | (with_reducible exact ih1 _ _ _ _ _ _ _ _ _ _ _ _ _ _ _ _ _ _ _ _ _ _ _ _ _ _)
   | (with_reducible exact ih2 _ _ _ _ _ _ _ _ _ _)
   | (with_reducible exact impl_Answer.mono _ _ _ _ _ _ _ _ _)
   | (with_reducible exact laws_eqSock.mono _ _ _ _ _ _ _ _ _ _ _ _ _ _ _ _ _)
   | (with_reducible exact laws_heldSock.mono _ _ _ _ _ _ _ _ _ _)
   | (with_reducible exact laws_markSock.mono _ _ _ _ _ _ _ _ _ _)
   | (with_reducible exact laws_toSock.mono _ _ _ _ _ _ _ _ _)
   | (with_reducible exact spec_Answer.mono _ _ _ _ _ _ _ _ _)
   | (with_reducible exact LeO.refl _)
   | (with_reducible exact LeO.none _)
   | (with_reducible refine LeO.ite ?_ ?_)
   | (with_reducible refine LeO.bind ?_ (fun _ => ?_))
   | exact ih0 _ _ _ _ _ _ _ _ _ _ _ _ _ _ _ _ _ _ _ _ _ _ _ _ _ _ _ _ _ _ _ _ _ _ _
   | exact ih1 _ _ _ _ _ _ _ _ _ _ _ _ _ _ _ _ _ _ _ _ _ _ _ _ _ _
   | exact ih2 _ _ _ _ _ _ _ _ _ _
   | exact impl_Answer.mono _ _ _ _ _ _ _ _ _
   | exact laws_eqSock.mono _ _ _ _ _ _ _ _ _ _ _ _ _ _ _ _ _
   | exact laws_heldSock.mono _ _ _ _ _ _ _ _ _ _
   | exact laws_markSock.mono _ _ _ _ _ _ _ _ _ _
   | exact laws_toSock.mono _ _ _ _ _ _ _ _ _
   | exact spec_Answer.mono _ _ _ _ _ _ _ _ _
   | exact LeO.none _
   | refine LeO.ite ?_ ?_
   | refine LeO.bind ?_ (fun _ => ?_)
set_option maxHeartbeats 8000000 in
set_option maxRecDepth 100000 in
theorem laws_FnExactAnswer.calls (k : Nat) (a0_0 : Int) (a0_1 : Int) (a0_2 : Int) (a0_3 : Bool) (A0_4 : Option Addr) (c0_4 : Nat) (l0_4 : List Int) (A0_5 : Option Addr) (c0_5 : Nat) (l0_5 : List Int) (a0_6 : Int) (a0_7 : Int) (r : Bool) (w : World) (hr0_4 : Kd.C (Kd.int .u8) w A0_4 l0_4.length l0_4) (hc0_4 : l0_4.length ≤ c0_4) (hr0_5 : Kd.C (Kd.int .u8) w A0_5 l0_5.length l0_5) (hc0_5 : l0_5.length ≤ c0_5) (hr_ : Aside0 (r = true)) (h : laws_FnExactAnswer.f k a0_0 a0_1 a0_2 a0_3 l0_4 l0_5 a0_6 a0_7 = some r) :
  Calls Try.prog 11 #[.agg #[.int .i64 a0_0, .int .i64 a0_1, .int .i64 a0_2, .bool a0_3, .slice A0_4 l0_4.length c0_4, .slice A0_5 l0_5.length c0_5, .int .i64 a0_6, .int .i64 a0_7]] w fun e w' => e = .returned (.bool r) ∧ Below w.heap.size w w' := by
 have hu24 := Try.underlying24
 have hu29 := Try.underlying29
 have HR0_4 := Aside0.mk hr0_4
 have HC0_4 := Aside0.mk hc0_4
 clear hr0_4 hc0_4
 have HR0_5 := Aside0.mk hr0_5
 have HC0_5 := Aside0.mk hc0_5
 clear hr0_5 hc0_5
 have HB := Aside0.mk (Below.refl w.heap.size w)
 have H : ((laws_szSock.f a0_0 a0_1 a0_2 a0_3 l0_4 l0_5 a0_6 a0_7 1048576).bind fun t421 => (if t421 < 0 then (some true) else ((laws_toSock.f k a0_0 a0_1 a0_2 a0_3 l0_4 l0_5 a0_6 a0_7).bind fun bt422 => ((spec_Answer.f k bt422.1 bt422.2.1 bt422.2.2.1 bt422.2.2.2.1 bt422.2.2.2.2.1 bt422.2.2.2.2.2.1 bt422.2.2.2.2.2.2.1 bt422.2.2.2.2.2.2.2).bind fun bt434 => ((laws_toSock.f k a0_0 a0_1 a0_2 a0_3 l0_4 l0_5 a0_6 a0_7).bind fun bt448 => ((impl_Answer.f k bt448.1 bt448.2.1 bt448.2.2.1 bt448.2.2.2.1 bt448.2.2.2.2.1 bt448.2.2.2.2.2.1 bt448.2.2.2.2.2.2.1 bt448.2.2.2.2.2.2.2).bind fun bt461 => ((laws_eqSock.f k bt461.1 bt461.2.1 bt461.2.2.1 bt461.2.2.2.1 bt461.2.2.2.2.1 bt461.2.2.2.2.2.1 bt461.2.2.2.2.2.2.1 bt461.2.2.2.2.2.2.2.1 bt434.1 bt434.2.1 bt434.2.2.1 bt434.2.2.2.1 bt434.2.2.2.2.1 bt434.2.2.2.2.2.1 bt434.2.2.2.2.2.2.1 bt434.2.2.2.2.2.2.2.1).bind fun t475 => (if t475 = true then (laws_FnExactAnswer.j0 k bt434.2.2.2.2.2.2.2.2 bt461.2.2.2.2.2.2.2.2 (bt461.2.2.2.2.2.2.2.2 != bt434.2.2.2.2.2.2.2.2) a0_0 a0_1 a0_2 a0_3 l0_4 l0_5 a0_6 a0_7 bt434.1 bt434.2.1 bt434.2.2.1 bt434.2.2.2.1 bt434.2.2.2.2.1 bt434.2.2.2.2.2.1 bt434.2.2.2.2.2.2.1 bt434.2.2.2.2.2.2.2.1 bt448.1 bt448.2.1 bt448.2.2.1 bt448.2.2.2.1 bt448.2.2.2.2.1 bt448.2.2.2.2.2.1 bt448.2.2.2.2.2.2.1 bt448.2.2.2.2.2.2.2 bt461.1 bt461.2.1 bt461.2.2.1 bt461.2.2.2.1 bt461.2.2.2.2.1 bt461.2.2.2.2.2.1 bt461.2.2.2.2.2.2.1 bt461.2.2.2.2.2.2.2.1) else (laws_FnExactAnswer.j0 k bt434.2.2.2.2.2.2.2.2 bt461.2.2.2.2.2.2.2.2 true a0_0 a0_1 a0_2 a0_3 l0_4 l0_5 a0_6 a0_7 bt434.1 bt434.2.1 bt434.2.2.1 bt434.2.2.2.1 bt434.2.2.2.2.1 bt434.2.2.2.2.2.1 bt434.2.2.2.2.2.2.1 bt434.2.2.2.2.2.2.2.1 bt448.1 bt448.2.1 bt448.2.2.1 bt448.2.2.2.1 bt448.2.2.2.2.1 bt448.2.2.2.2.2.1 bt448.2.2.2.2.2.2.1 bt448.2.2.2.2.2.2.2 bt461.1 bt461.2.1 bt461.2.2.1 bt461.2.2.2.1 bt461.2.2.2.2.1 bt461.2.2.2.2.2.1 bt461.2.2.2.2.2.2.1 bt461.2.2.2.2.2.2.2.1))))))))) = some r := h
 clear h
 replace H := Option.bind_eq_some_iff.mp H
 obtain ⟨t421, A20, H⟩ := H
 replace H : (if t421 < 0 then (some true) else ((laws_toSock.f k a0_0 a0_1 a0_2 a0_3 l0_4 l0_5 a0_6 a0_7).bind fun bt422 => ((spec_Answer.f k bt422.1 bt422.2.1 bt422.2.2.1 bt422.2.2.2.1 bt422.2.2.2.2.1 bt422.2.2.2.2.2.1 bt422.2.2.2.2.2.2.1 bt422.2.2.2.2.2.2.2).bind fun bt434 => ((laws_toSock.f k a0_0 a0_1 a0_2 a0_3 l0_4 l0_5 a0_6 a0_7).bind fun bt448 => ((impl_Answer.f k bt448.1 bt448.2.1 bt448.2.2.1 bt448.2.2.2.1 bt448.2.2.2.2.1 bt448.2.2.2.2.2.1 bt448.2.2.2.2.2.2.1 bt448.2.2.2.2.2.2.2).bind fun bt461 => ((laws_eqSock.f k bt461.1 bt461.2.1 bt461.2.2.1 bt461.2.2.2.1 bt461.2.2.2.2.1 bt461.2.2.2.2.2.1 bt461.2.2.2.2.2.2.1 bt461.2.2.2.2.2.2.2.1 bt434.1 bt434.2.1 bt434.2.2.1 bt434.2.2.2.1 bt434.2.2.2.2.1 bt434.2.2.2.2.2.1 bt434.2.2.2.2.2.2.1 bt434.2.2.2.2.2.2.2.1).bind fun t475 => (if t475 = true then (laws_FnExactAnswer.j0 k bt434.2.2.2.2.2.2.2.2 bt461.2.2.2.2.2.2.2.2 (bt461.2.2.2.2.2.2.2.2 != bt434.2.2.2.2.2.2.2.2) a0_0 a0_1 a0_2 a0_3 l0_4 l0_5 a0_6 a0_7 bt434.1 bt434.2.1 bt434.2.2.1 bt434.2.2.2.1 bt434.2.2.2.2.1 bt434.2.2.2.2.2.1 bt434.2.2.2.2.2.2.1 bt434.2.2.2.2.2.2.2.1 bt448.1 bt448.2.1 bt448.2.2.1 bt448.2.2.2.1 bt448.2.2.2.2.1 bt448.2.2.2.2.2.1 bt448.2.2.2.2.2.2.1 bt448.2.2.2.2.2.2.2 bt461.1 bt461.2.1 bt461.2.2.1 bt461.2.2.2.1 bt461.2.2.2.2.1 bt461.2.2.2.2.2.1 bt461.2.2.2.2.2.2.1 bt461.2.2.2.2.2.2.2.1) else (laws_FnExactAnswer.j0 k bt434.2.2.2.2.2.2.2.2 bt461.2.2.2.2.2.2.2.2 true a0_0 a0_1 a0_2 a0_3 l0_4 l0_5 a0_6 a0_7 bt434.1 bt434.2.1 bt434.2.2.1 bt434.2.2.2.1 bt434.2.2.2.2.1 bt434.2.2.2.2.2.1 bt434.2.2.2.2.2.2.1 bt434.2.2.2.2.2.2.2.1 bt448.1 bt448.2.1 bt448.2.2.1 bt448.2.2.2.1 bt448.2.2.2.2.1 bt448.2.2.2.2.2.1 bt448.2.2.2.2.2.2.1 bt448.2.2.2.2.2.2.2 bt461.1 bt461.2.1 bt461.2.2.1 bt461.2.2.2.1 bt461.2.2.2.2.1 bt461.2.2.2.2.2.1 bt461.2.2.2.2.2.2.1 bt461.2.2.2.2.2.2.2.1)))))))) = some r := H
 have A2 := Aside0.mk A20
 clear A20
 have HC3 := Aside0.mk H
 clear H
 go_enter Try.func11, Try.ntmps11
 go_upto_if 18 with (first | ((with_reducible refine gate_dst (N := 1) rfl ?_); refine box_event ?hg (N := 1) ?hd (cs := #[.int .i64 a0_0, .int .i64 a0_1, .int .i64 a0_2, .bool a0_3, .slice A0_4 l0_4.length c0_4, .slice A0_5 l0_5.length c0_5, .int .i64 a0_6, .int .i64 a0_7]) (t := 24) ?hr ?_; (case hd => rfl); (case hg => rfl); (case hr => first | (go_simp; done) | (go_simp; rfl)); intro gb420 hg w4 hbox hb; have BK420 := am_ (hbox); have GW420 := am_ ((gG_ hg (qB HB))); have IGW420 := gI_ GW420; have GE420 := am_ ((gG_ hg (qB HB))); have IGE420 := gI_ GE420; replace HB := am_ (below_step (qB HB) hb); clear hb hbox hg; obtain ⟨hcz5_0, hcz5_1, hcz5_2, hcz5_3, hcz5_4, hcz5_5, hcz5_6, hcz5_7⟩ := cz8 BK420.out; obtain ⟨hfz5_0, hfz5_1, hfz5_2, hfz5_3, hfz5_4, hfz5_5, hfz5_6, hfz5_7⟩ := fz8 BK420.out) | ((with_reducible refine gate_callee (f := 15) rfl ?_); refine goesL_ (some 16) rfl rfl Try.func15 (by kernel_rfl) rfl #[.agg #[.int .i64 a0_0, .int .i64 a0_1, .int .i64 a0_2, .bool a0_3, .slice A0_4 l0_4.length c0_4, .slice A0_5 l0_5.length c0_5, .int .i64 a0_6, .int .i64 a0_7], .int .i64 1048576] rfl (by (try simp only [List.map_toArray, List.map_cons, List.map_nil]); first | done | rfl | (simp only [List.length_drop, List.length_take]; rfl)) ?_; (with_reducible refine (laws_szSock.calls a0_0 a0_1 a0_2 a0_3 _ _ l0_4 _ _ l0_5 a0_6 a0_7 1048576 t421 _ ?side1 ?side2 ?side3 ?side4 A2.out).mono ?_); (case side1 => exact qC (Kd.C_below HR0_4.out HB.out)); (case side2 => exact HC0_4.out); (case side3 => exact qC (Kd.C_below HR0_5.out HB.out)); (case side4 => exact HC0_5.out); rintro e w6 ⟨rfl, hb⟩; refine ⟨_, rfl, ?_⟩; replace BK420 := am_ (blk_below (qK BK420) hb); replace HB := am_ (below_step (qB HB) hb); (try clear hb); (try clear hb2); (try clear hk); (try clear hi)))
 (try simp only [Act.put, List.setIfInBounds_toArray, List.set_cons_zero, List.set_cons_succ])
 have H := HC3.out
 clear HC3
 by_cases c7 : t421 < 0
 ·
  rw [if_pos c7] at H
  have c7b0 : decide (t421 < 0) = true := decide_eq_true c7
  clear c7
  (first | rw [c7b0] | (simp only [i64_w, i32_w]; rw [c7b0]) | skip)
  obtain rfl := Option.some.inj H
  go_wp2
  go_ret
  exact ⟨by first | rfl | (simp [errW_none, errW_some] <;> rfl) | (simp [*, errW_none, errW_some] <;> rfl), qB HB⟩
 ·
  rw [if_neg c7] at H
  have c7b0 : decide (t421 < 0) = false := decide_eq_false c7
  clear c7
  (first | rw [c7b0] | (simp only [i64_w, i32_w]; rw [c7b0]) | skip)
  replace H := Option.bind_eq_some_iff.mp H
  obtain ⟨⟨t422, t423, t424, t425, t426, t429, t432, t433⟩, A80, H⟩ := H
  replace H : ((spec_Answer.f k t422 t423 t424 t425 t426 t429 t432 t433).bind fun bt434 => ((laws_toSock.f k a0_0 a0_1 a0_2 a0_3 l0_4 l0_5 a0_6 a0_7).bind fun bt448 => ((impl_Answer.f k bt448.1 bt448.2.1 bt448.2.2.1 bt448.2.2.2.1 bt448.2.2.2.2.1 bt448.2.2.2.2.2.1 bt448.2.2.2.2.2.2.1 bt448.2.2.2.2.2.2.2).bind fun bt461 => ((laws_eqSock.f k bt461.1 bt461.2.1 bt461.2.2.1 bt461.2.2.2.1 bt461.2.2.2.2.1 bt461.2.2.2.2.2.1 bt461.2.2.2.2.2.2.1 bt461.2.2.2.2.2.2.2.1 bt434.1 bt434.2.1 bt434.2.2.1 bt434.2.2.2.1 bt434.2.2.2.2.1 bt434.2.2.2.2.2.1 bt434.2.2.2.2.2.2.1 bt434.2.2.2.2.2.2.2.1).bind fun t475 => (if t475 = true then (laws_FnExactAnswer.j0 k bt434.2.2.2.2.2.2.2.2 bt461.2.2.2.2.2.2.2.2 (bt461.2.2.2.2.2.2.2.2 != bt434.2.2.2.2.2.2.2.2) a0_0 a0_1 a0_2 a0_3 l0_4 l0_5 a0_6 a0_7 bt434.1 bt434.2.1 bt434.2.2.1 bt434.2.2.2.1 bt434.2.2.2.2.1 bt434.2.2.2.2.2.1 bt434.2.2.2.2.2.2.1 bt434.2.2.2.2.2.2.2.1 bt448.1 bt448.2.1 bt448.2.2.1 bt448.2.2.2.1 bt448.2.2.2.2.1 bt448.2.2.2.2.2.1 bt448.2.2.2.2.2.2.1 bt448.2.2.2.2.2.2.2 bt461.1 bt461.2.1 bt461.2.2.1 bt461.2.2.2.1 bt461.2.2.2.2.1 bt461.2.2.2.2.2.1 bt461.2.2.2.2.2.2.1 bt461.2.2.2.2.2.2.2.1) else (laws_FnExactAnswer.j0 k bt434.2.2.2.2.2.2.2.2 bt461.2.2.2.2.2.2.2.2 true a0_0 a0_1 a0_2 a0_3 l0_4 l0_5 a0_6 a0_7 bt434.1 bt434.2.1 bt434.2.2.1 bt434.2.2.2.1 bt434.2.2.2.2.1 bt434.2.2.2.2.2.1 bt434.2.2.2.2.2.2.1 bt434.2.2.2.2.2.2.2.1 bt448.1 bt448.2.1 bt448.2.2.1 bt448.2.2.2.1 bt448.2.2.2.2.1 bt448.2.2.2.2.2.1 bt448.2.2.2.2.2.2.1 bt448.2.2.2.2.2.2.2 bt461.1 bt461.2.1 bt461.2.2.1 bt461.2.2.2.1 bt461.2.2.2.2.1 bt461.2.2.2.2.2.1 bt461.2.2.2.2.2.2.1 bt461.2.2.2.2.2.2.2.1)))))) = some r := H
  have A8 := Aside0.mk A80
  clear A80
  replace H := Option.bind_eq_some_iff.mp H
  obtain ⟨⟨t434, t435, t436, t437, t438, t441, t444, t445, t446⟩, A90, H⟩ := H
  replace H : ((laws_toSock.f k a0_0 a0_1 a0_2 a0_3 l0_4 l0_5 a0_6 a0_7).bind fun bt448 => ((impl_Answer.f k bt448.1 bt448.2.1 bt448.2.2.1 bt448.2.2.2.1 bt448.2.2.2.2.1 bt448.2.2.2.2.2.1 bt448.2.2.2.2.2.2.1 bt448.2.2.2.2.2.2.2).bind fun bt461 => ((laws_eqSock.f k bt461.1 bt461.2.1 bt461.2.2.1 bt461.2.2.2.1 bt461.2.2.2.2.1 bt461.2.2.2.2.2.1 bt461.2.2.2.2.2.2.1 bt461.2.2.2.2.2.2.2.1 t434 t435 t436 t437 t438 t441 t444 t445).bind fun t475 => (if t475 = true then (laws_FnExactAnswer.j0 k t446 bt461.2.2.2.2.2.2.2.2 (bt461.2.2.2.2.2.2.2.2 != t446) a0_0 a0_1 a0_2 a0_3 l0_4 l0_5 a0_6 a0_7 t434 t435 t436 t437 t438 t441 t444 t445 bt448.1 bt448.2.1 bt448.2.2.1 bt448.2.2.2.1 bt448.2.2.2.2.1 bt448.2.2.2.2.2.1 bt448.2.2.2.2.2.2.1 bt448.2.2.2.2.2.2.2 bt461.1 bt461.2.1 bt461.2.2.1 bt461.2.2.2.1 bt461.2.2.2.2.1 bt461.2.2.2.2.2.1 bt461.2.2.2.2.2.2.1 bt461.2.2.2.2.2.2.2.1) else (laws_FnExactAnswer.j0 k t446 bt461.2.2.2.2.2.2.2.2 true a0_0 a0_1 a0_2 a0_3 l0_4 l0_5 a0_6 a0_7 t434 t435 t436 t437 t438 t441 t444 t445 bt448.1 bt448.2.1 bt448.2.2.1 bt448.2.2.2.1 bt448.2.2.2.2.1 bt448.2.2.2.2.2.1 bt448.2.2.2.2.2.2.1 bt448.2.2.2.2.2.2.2 bt461.1 bt461.2.1 bt461.2.2.1 bt461.2.2.2.1 bt461.2.2.2.2.1 bt461.2.2.2.2.2.1 bt461.2.2.2.2.2.2.1 bt461.2.2.2.2.2.2.2.1))))) = some r := H
  have A9 := Aside0.mk A90
  clear A90
  replace H := Option.bind_eq_some_iff.mp H
  obtain ⟨⟨t448, t449, t450, t451, t452, t455, t458, t459⟩, A100, H⟩ := H
  replace H : ((impl_Answer.f k t448 t449 t450 t451 t452 t455 t458 t459).bind fun bt461 => ((laws_eqSock.f k bt461.1 bt461.2.1 bt461.2.2.1 bt461.2.2.2.1 bt461.2.2.2.2.1 bt461.2.2.2.2.2.1 bt461.2.2.2.2.2.2.1 bt461.2.2.2.2.2.2.2.1 t434 t435 t436 t437 t438 t441 t444 t445).bind fun t475 => (if t475 = true then (laws_FnExactAnswer.j0 k t446 bt461.2.2.2.2.2.2.2.2 (bt461.2.2.2.2.2.2.2.2 != t446) a0_0 a0_1 a0_2 a0_3 l0_4 l0_5 a0_6 a0_7 t434 t435 t436 t437 t438 t441 t444 t445 t448 t449 t450 t451 t452 t455 t458 t459 bt461.1 bt461.2.1 bt461.2.2.1 bt461.2.2.2.1 bt461.2.2.2.2.1 bt461.2.2.2.2.2.1 bt461.2.2.2.2.2.2.1 bt461.2.2.2.2.2.2.2.1) else (laws_FnExactAnswer.j0 k t446 bt461.2.2.2.2.2.2.2.2 true a0_0 a0_1 a0_2 a0_3 l0_4 l0_5 a0_6 a0_7 t434 t435 t436 t437 t438 t441 t444 t445 t448 t449 t450 t451 t452 t455 t458 t459 bt461.1 bt461.2.1 bt461.2.2.1 bt461.2.2.2.1 bt461.2.2.2.2.1 bt461.2.2.2.2.2.1 bt461.2.2.2.2.2.2.1 bt461.2.2.2.2.2.2.2.1)))) = some r := H
  have A10 := Aside0.mk A100
  clear A100
  replace H := Option.bind_eq_some_iff.mp H
  obtain ⟨⟨t461, t462, t463, t464, t465, t468, t471, t472, t473⟩, A110, H⟩ := H
  replace H : ((laws_eqSock.f k t461 t462 t463 t464 t465 t468 t471 t472 t434 t435 t436 t437 t438 t441 t444 t445).bind fun t475 => (if t475 = true then (laws_FnExactAnswer.j0 k t446 t473 (t473 != t446) a0_0 a0_1 a0_2 a0_3 l0_4 l0_5 a0_6 a0_7 t434 t435 t436 t437 t438 t441 t444 t445 t448 t449 t450 t451 t452 t455 t458 t459 t461 t462 t463 t464 t465 t468 t471 t472) else (laws_FnExactAnswer.j0 k t446 t473 true a0_0 a0_1 a0_2 a0_3 l0_4 l0_5 a0_6 a0_7 t434 t435 t436 t437 t438 t441 t444 t445 t448 t449 t450 t451 t452 t455 t458 t459 t461 t462 t463 t464 t465 t468 t471 t472))) = some r := H
  have A11 := Aside0.mk A110
  clear A110
  have HC12 := Aside0.mk H
  clear H
  obtain ⟨hcz13_0, hcz13_1, hcz13_2, hcz13_3, hcz13_4, hcz13_5, hcz13_6, hcz13_7⟩ := cz8 BK420.out
  obtain ⟨hfz13_0, hfz13_1, hfz13_2, hfz13_3, hfz13_4, hfz13_5, hfz13_6, hfz13_7⟩ := fz8 BK420.out
  go_upto_region 8 with (first | ((with_reducible refine gate_callee (f := 18) rfl ?_); refine goesL_ (some 21) rfl rfl Try.func18 (by kernel_rfl) rfl #[.agg #[.int .i64 a0_0, .int .i64 a0_1, .int .i64 a0_2, .bool a0_3, .slice A0_4 l0_4.length c0_4, .slice A0_5 l0_5.length c0_5, .int .i64 a0_6, .int .i64 a0_7]] rfl (by (try simp only [List.map_toArray, List.map_cons, List.map_nil]); first | done | rfl | (simp only [List.length_drop, List.length_take]; rfl)) ?_; (with_reducible refine (laws_toSock.calls k a0_0 a0_1 a0_2 a0_3 _ _ l0_4 _ _ l0_5 a0_6 a0_7 t422 t423 t424 t425 t426 t429 t432 t433 _ ?side1 ?side2 ?side3 ?side4 A8.out).mono ?_); (case side1 => exact qC (Kd.C_below HR0_4.out HB.out)); (case side2 => exact HC0_4.out); (case side3 => exact qC (Kd.C_below HR0_5.out HB.out)); (case side4 => exact HC0_5.out); rintro e w14 ⟨v427, v430, rfl, ho0, ho1, hb⟩; refine ⟨_, rfl, ?_⟩; have HO428 := am_ (Kd.R_lower ho0 (below_size (qB HB))); have HO431 := am_ (Kd.R_lower ho1 (below_size (qB HB))); replace BK420 := am_ (blk_below (qK BK420) hb); replace HB := am_ (below_step (qB HB) hb); (try clear hb); (try clear hb2); (try clear hk); (try clear hi); (try clear ho0); (try clear ho1); obtain ⟨Ao15, co15, eo15⟩ := Kd.R_slice HO428.out; subst eo15; obtain ⟨Ao16, co16, eo16⟩ := Kd.R_slice HO431.out; subst eo16) | ((with_reducible refine gate_callee (f := 51) rfl ?_); refine goesL_ (some 22) rfl rfl Try.func51 (by kernel_rfl) rfl #[.agg #[.int .i64 t422, .int .i64 t423, .int .i64 t424, .bool t425, .slice Ao15 t426.length co15, .slice Ao16 t429.length co16, .int .i64 t432, .int .i64 t433]] rfl (by (try simp only [List.map_toArray, List.map_cons, List.map_nil]); first | done | rfl | (simp only [List.length_drop, List.length_take]; rfl)) ?_; (with_reducible refine (spec_Answer.calls k t422 t423 t424 t425 _ _ t426 _ _ t429 t432 t433 t434 t435 t436 t437 t438 t441 t444 t445 t446 _ ?side1 ?side2 ?side3 ?side4 A9.out).mono ?_); (case side1 => exact qC ((Kd.R_reads' HO428.out).2.2)); (case side2 => exact (Kd.R_reads' HO428.out).2.1); (case side3 => exact qC ((Kd.R_reads' HO431.out).2.2)); (case side4 => exact (Kd.R_reads' HO431.out).2.1); rintro e w17 ⟨v439, v442, rfl, ho0, ho1, hb⟩; refine ⟨_, rfl, ?_⟩; have HO440 := am_ (Kd.R_lower (Kd.R_new' (Kd.R_new' ho0 (Kd.R_lt (qR HO428))) (Kd.R_lt (qR HO431))) (below_size (qB HB))); have HO443 := am_ (Kd.R_lower (Kd.R_new' (Kd.R_new' ho1 (Kd.R_lt (qR HO428))) (Kd.R_lt (qR HO431))) (below_size (qB HB))); replace HO428 := am_ (Kd.R_mono (Kd.R_told (Kd.R_told (Kd.R_old (qR HO428) hb) (Kd.R_base ho0)) (Kd.R_base ho1)) (fun _ h_ => h_.1)); replace HO431 := am_ (Kd.R_mono (Kd.R_told (Kd.R_told (Kd.R_old (qR HO431) hb) (Kd.R_base ho0)) (Kd.R_base ho1)) (fun _ h_ => h_.1)); replace BK420 := am_ (blk_below (qK BK420) hb); replace HB := am_ (below_step (qB HB) hb); (try clear hb); (try clear hb2); (try clear hk); (try clear hi); (try clear ho0); (try clear ho1)) | ((with_reducible refine gate_dst (N := 4) rfl ?_); refine box_event ?hg (N := 4) ?hd (cs := #[.int .i64 0, .int .i64 0, .int .i64 0, .bool false, .slice none 0 0, .slice none 0 0, .int .i64 0, .int .i64 0]) (t := 29) ?hr ?_; (case hd => rfl); (case hg => rfl); (case hr => first | (go_simp; done) | (go_simp; rfl)); intro gb447 hg w18 hbox hb; replace HO428 := am_ (Kd.R_below (qR HO428) hb); replace HO431 := am_ (Kd.R_below (qR HO431) hb); replace HO440 := am_ (Kd.R_below (qR HO440) hb); replace HO443 := am_ (Kd.R_below (qR HO443) hb); have BK447 := am_ (hbox); have GW447 := am_ ((gG_ hg (qB HB))); have IGW447 := gI_ GW447; have GE447 := am_ ((gG_ hg (qB HB))); have IGE447 := gI_ GE447; replace HB := am_ (below_step (qB HB) hb); have NB420_447 := am_ ((gN_ hg (qK BK420))); have NB447_420 := am_ ((gM_ hg (qK BK420))); replace BK420 := am_ (blk_below (qK BK420) hb); clear hb hbox hg; have hnb19 := NB447_420.out; have hnc19 := NB420_447.out; obtain ⟨hcz20_0, hcz20_1, hcz20_2, hcz20_3, hcz20_4, hcz20_5, hcz20_6, hcz20_7⟩ := cz8 BK447.out; obtain ⟨hfz20_0, hfz20_1, hfz20_2, hfz20_3, hfz20_4, hfz20_5, hfz20_6, hfz20_7⟩ := fz8 BK447.out; obtain ⟨Ao21, co21, eo21⟩ := Kd.R_slice HO440.out; subst eo21; obtain ⟨Ao22, co22, eo22⟩ := Kd.R_slice HO443.out; subst eo22; obtain ⟨hcz23_0, hcz23_1, hcz23_2, hcz23_3, hcz23_4, hcz23_5, hcz23_6, hcz23_7⟩ := cz8 BK420.out; obtain ⟨hfz23_0, hfz23_1, hfz23_2, hfz23_3, hfz23_4, hfz23_5, hfz23_6, hfz23_7⟩ := fz8 BK420.out) | ((with_reducible refine gate_callee (f := 18) rfl ?_); refine goesL_ (some 26) rfl rfl Try.func18 (by kernel_rfl) rfl #[.agg #[.int .i64 a0_0, .int .i64 a0_1, .int .i64 a0_2, .bool a0_3, .slice A0_4 l0_4.length c0_4, .slice A0_5 l0_5.length c0_5, .int .i64 a0_6, .int .i64 a0_7]] rfl (by (try simp only [List.map_toArray, List.map_cons, List.map_nil]); first | done | rfl | (simp only [List.length_drop, List.length_take]; rfl)) ?_; (with_reducible refine (laws_toSock.calls k a0_0 a0_1 a0_2 a0_3 _ _ l0_4 _ _ l0_5 a0_6 a0_7 t448 t449 t450 t451 t452 t455 t458 t459 _ ?side1 ?side2 ?side3 ?side4 A10.out).mono ?_); (case side1 => exact Kd.C_below HR0_4.out (qB HB)); (case side2 => exact HC0_4.out); (case side3 => exact Kd.C_below HR0_5.out (qB HB)); (case side4 => exact HC0_5.out); rintro e w24 ⟨v453, v456, rfl, ho0, ho1, hb⟩; refine ⟨_, rfl, ?_⟩; have HO454 := am_ (Kd.R_lower (Kd.R_new' (Kd.R_new' (Kd.R_new' (Kd.R_new' ho0 (Kd.R_lt (by (with_reducible repeat (first | apply Kd.R_alloc | apply Kd.R_drewN | apply Kd.R_drew)); exact (Kd.R_mono (Go.Proofs.YtahfemlfdpbkkaaV.R_far8 (g := gb447) (Kd.R_types HO428.out BK447.out (by decide)) (fun _ hk => hk.2)) (fun _ h_ => h_.1))))) (Kd.R_lt (by (with_reducible repeat (first | apply Kd.R_alloc | apply Kd.R_drewN | apply Kd.R_drew)); exact (Kd.R_mono (Go.Proofs.YtahfemlfdpbkkaaV.R_far8 (g := gb447) (Kd.R_types HO431.out BK447.out (by decide)) (fun _ hk => hk.2)) (fun _ h_ => h_.1))))) (Kd.R_lt (by (with_reducible repeat (first | apply Kd.R_alloc | apply Kd.R_drewN | apply Kd.R_drew)); exact (Kd.R_mono (Go.Proofs.YtahfemlfdpbkkaaV.R_far8 (g := gb447) (Kd.R_types HO440.out BK447.out (by decide)) (fun _ hk => hk.2)) (fun _ h_ => h_.1))))) (Kd.R_lt (by (with_reducible repeat (first | apply Kd.R_alloc | apply Kd.R_drewN | apply Kd.R_drew)); exact (Kd.R_mono (Go.Proofs.YtahfemlfdpbkkaaV.R_far8 (g := gb447) (Kd.R_types HO443.out BK447.out (by decide)) (fun _ hk => hk.2)) (fun _ h_ => h_.1))))) (below_size (qB HB))); have HO457 := am_ (Kd.R_lower (Kd.R_new' (Kd.R_new' (Kd.R_new' (Kd.R_new' ho1 (Kd.R_lt (by (with_reducible repeat (first | apply Kd.R_alloc | apply Kd.R_drewN | apply Kd.R_drew)); exact (Kd.R_mono (Go.Proofs.YtahfemlfdpbkkaaV.R_far8 (g := gb447) (Kd.R_types HO428.out BK447.out (by decide)) (fun _ hk => hk.2)) (fun _ h_ => h_.1))))) (Kd.R_lt (by (with_reducible repeat (first | apply Kd.R_alloc | apply Kd.R_drewN | apply Kd.R_drew)); exact (Kd.R_mono (Go.Proofs.YtahfemlfdpbkkaaV.R_far8 (g := gb447) (Kd.R_types HO431.out BK447.out (by decide)) (fun _ hk => hk.2)) (fun _ h_ => h_.1))))) (Kd.R_lt (by (with_reducible repeat (first | apply Kd.R_alloc | apply Kd.R_drewN | apply Kd.R_drew)); exact (Kd.R_mono (Go.Proofs.YtahfemlfdpbkkaaV.R_far8 (g := gb447) (Kd.R_types HO440.out BK447.out (by decide)) (fun _ hk => hk.2)) (fun _ h_ => h_.1))))) (Kd.R_lt (by (with_reducible repeat (first | apply Kd.R_alloc | apply Kd.R_drewN | apply Kd.R_drew)); exact (Kd.R_mono (Go.Proofs.YtahfemlfdpbkkaaV.R_far8 (g := gb447) (Kd.R_types HO443.out BK447.out (by decide)) (fun _ hk => hk.2)) (fun _ h_ => h_.1))))) (below_size (qB HB))); replace HO428 := am_ (Kd.R_mono (Kd.R_told (Kd.R_told (Kd.R_old (by (with_reducible repeat (first | apply Kd.R_alloc | apply Kd.R_drewN | apply Kd.R_drew)); exact (Kd.R_mono (Go.Proofs.YtahfemlfdpbkkaaV.R_far8 (g := gb447) (Kd.R_types HO428.out BK447.out (by decide)) (fun _ hk => hk.2)) (fun _ h_ => h_.1))) hb) (Kd.R_base ho0)) (Kd.R_base ho1)) (fun _ h_ => h_.1)); replace HO431 := am_ (Kd.R_mono (Kd.R_told (Kd.R_told (Kd.R_old (by (with_reducible repeat (first | apply Kd.R_alloc | apply Kd.R_drewN | apply Kd.R_drew)); exact (Kd.R_mono (Go.Proofs.YtahfemlfdpbkkaaV.R_far8 (g := gb447) (Kd.R_types HO431.out BK447.out (by decide)) (fun _ hk => hk.2)) (fun _ h_ => h_.1))) hb) (Kd.R_base ho0)) (Kd.R_base ho1)) (fun _ h_ => h_.1)); replace HO440 := am_ (Kd.R_mono (Kd.R_told (Kd.R_told (Kd.R_old (by (with_reducible repeat (first | apply Kd.R_alloc | apply Kd.R_drewN | apply Kd.R_drew)); exact (Kd.R_mono (Go.Proofs.YtahfemlfdpbkkaaV.R_far8 (g := gb447) (Kd.R_types HO440.out BK447.out (by decide)) (fun _ hk => hk.2)) (fun _ h_ => h_.1))) hb) (Kd.R_base ho0)) (Kd.R_base ho1)) (fun _ h_ => h_.1)); replace HO443 := am_ (Kd.R_mono (Kd.R_told (Kd.R_told (Kd.R_old (by (with_reducible repeat (first | apply Kd.R_alloc | apply Kd.R_drewN | apply Kd.R_drew)); exact (Kd.R_mono (Go.Proofs.YtahfemlfdpbkkaaV.R_far8 (g := gb447) (Kd.R_types HO443.out BK447.out (by decide)) (fun _ hk => hk.2)) (fun _ h_ => h_.1))) hb) (Kd.R_base ho0)) (Kd.R_base ho1)) (fun _ h_ => h_.1)); replace BK420 := am_ (blk_below (g := gb420) (o := .cells #[.int .i64 a0_0, .int .i64 a0_1, .int .i64 a0_2, .bool a0_3, .slice A0_4 l0_4.length c0_4, .slice A0_5 l0_5.length c0_5, .int .i64 a0_6, .int .i64 a0_7] 24 (0, 0)) (by (with_reducible repeat (first | refine blk_drewN ?_ _ | refine blk_drew ?_ | refine blk_alloc ?_ _)); refine Go.Proofs.YtahfemlfdpbkkaaV.blk_far8 ?_ NB420_447.out; (with_reducible repeat (first | refine blk_drewN ?_ _ | refine blk_drew ?_ | refine blk_alloc ?_ _)); exact BK420.out) hb); replace BK447 := am_ (blk_below (g := gb447) (o := .cells #[.int .i64 t434, .int .i64 t435, .int .i64 t436, .bool t437, .slice Ao21 t438.length co21, .slice Ao22 t441.length co22, .int .i64 t444, .int .i64 t445] 29 (0, 0)) (by (with_reducible repeat (first | refine blk_drewN ?_ _ | refine blk_drew ?_ | refine blk_alloc ?_ _)); refine Go.Proofs.YtahfemlfdpbkkaaV.blk_all8 (show _ = some (Go.Obj.cells #[.int .i64 0, .int .i64 0, .int .i64 0, .bool false, .slice none 0 0, .slice none 0 0, .int .i64 0, .int .i64 0] _ (0, 0)) from ?_); (with_reducible repeat (first | refine blk_drewN ?_ _ | refine blk_drew ?_ | refine blk_alloc ?_ _)); exact BK447.out) hb); replace HB := am_ (below_step (qB HB) hb); (try clear hb); (try clear hb2); (try clear hk); (try clear hi); (try clear ho0); (try clear ho1)) | ((with_reducible refine gate_dst (N := 6) rfl ?_); refine box_event ?hg (N := 6) ?hd (cs := #[.int .i64 0, .int .i64 0, .int .i64 0, .bool false, .slice none 0 0, .slice none 0 0, .int .i64 0, .int .i64 0]) (t := 29) ?hr ?_; (case hd => rfl); (case hg => rfl); (case hr => first | (go_simp; done) | (go_simp; rfl)); intro gb460 hg w25 hbox hb; replace HO428 := am_ (Kd.R_below (qR HO428) hb); replace HO431 := am_ (Kd.R_below (qR HO431) hb); replace HO440 := am_ (Kd.R_below (qR HO440) hb); replace HO443 := am_ (Kd.R_below (qR HO443) hb); replace HO454 := am_ (Kd.R_below (qR HO454) hb); replace HO457 := am_ (Kd.R_below (qR HO457) hb); have BK460 := am_ (hbox); have GW460 := am_ ((gG_ hg (qB HB))); have IGW460 := gI_ GW460; have GE460 := am_ ((gG_ hg (qB HB))); have IGE460 := gI_ GE460; replace HB := am_ (below_step (qB HB) hb); have NB420_460 := am_ ((gN_ hg (qK BK420))); have NB460_420 := am_ ((gM_ hg (qK BK420))); replace BK420 := am_ (blk_below (qK BK420) hb); have NB447_460 := am_ ((gN_ hg (qK BK447))); have NB460_447 := am_ ((gM_ hg (qK BK447))); replace BK447 := am_ (blk_below (qK BK447) hb); clear hb hbox hg; have hnb26 := NB460_420.out; have hnc26 := NB420_460.out; have hnb27 := NB460_447.out; have hnc27 := NB447_460.out; obtain ⟨hcz28_0, hcz28_1, hcz28_2, hcz28_3, hcz28_4, hcz28_5, hcz28_6, hcz28_7⟩ := cz8 BK460.out; obtain ⟨hfz28_0, hfz28_1, hfz28_2, hfz28_3, hfz28_4, hfz28_5, hfz28_6, hfz28_7⟩ := fz8 BK460.out; obtain ⟨Ao29, co29, eo29⟩ := Kd.R_slice HO454.out; subst eo29; obtain ⟨Ao30, co30, eo30⟩ := Kd.R_slice HO457.out; subst eo30) | ((with_reducible refine gate_callee (f := 52) rfl ?_); refine goesL_ (some 29) rfl rfl Try.func52 (by kernel_rfl) rfl #[.agg #[.int .i64 t448, .int .i64 t449, .int .i64 t450, .bool t451, .slice Ao29 t452.length co29, .slice Ao30 t455.length co30, .int .i64 t458, .int .i64 t459]] rfl (by (try simp only [List.map_toArray, List.map_cons, List.map_nil]); first | done | rfl | (simp only [List.length_drop, List.length_take]; rfl)) ?_; (with_reducible refine (impl_Answer.calls k t448 t449 t450 t451 _ _ t452 _ _ t455 t458 t459 t461 t462 t463 t464 t465 t468 t471 t472 t473 _ ?side1 ?side2 ?side3 ?side4 A11.out).mono ?_); (case side1 => refine (Kd.R_reads' (e := 5) (base := w.heap.size) (ok := fun k_ => ((((some k_ ≠ (.slice Ao30 t455.length co30 : Value).ownBlock ∧ some k_ ≠ (.slice Ao15 t426.length co15 : Value).ownBlock) ∧ some k_ ≠ (.slice Ao16 t429.length co16 : Value).ownBlock) ∧ some k_ ≠ (.slice Ao21 t438.length co21 : Value).ownBlock) ∧ some k_ ≠ (.slice Ao22 t441.length co22 : Value).ownBlock)) (n := t452.length) (c := co29) ?_).2.2; exact (by (with_reducible repeat (first | apply Kd.R_alloc | apply Kd.R_drewN | apply Kd.R_drew)); exact (Kd.R_mono (Go.Proofs.YtahfemlfdpbkkaaV.R_far8 (g := gb460) (Kd.R_types HO454.out BK460.out (by decide)) (fun _ hk => hk.2)) (fun _ h_ => h_.1)))); (case side2 => exact (Kd.R_reads' HO454.out).2.1); (case side3 => refine (Kd.R_reads' (e := 5) (base := w.heap.size) (ok := fun k_ => ((((some k_ ≠ (.slice Ao29 t452.length co29 : Value).ownBlock ∧ some k_ ≠ (.slice Ao15 t426.length co15 : Value).ownBlock) ∧ some k_ ≠ (.slice Ao16 t429.length co16 : Value).ownBlock) ∧ some k_ ≠ (.slice Ao21 t438.length co21 : Value).ownBlock) ∧ some k_ ≠ (.slice Ao22 t441.length co22 : Value).ownBlock)) (n := t455.length) (c := co30) ?_).2.2; exact (by (with_reducible repeat (first | apply Kd.R_alloc | apply Kd.R_drewN | apply Kd.R_drew)); exact (Kd.R_mono (Go.Proofs.YtahfemlfdpbkkaaV.R_far8 (g := gb460) (Kd.R_types HO457.out BK460.out (by decide)) (fun _ hk => hk.2)) (fun _ h_ => h_.1)))); (case side4 => exact (Kd.R_reads' HO457.out).2.1); rintro e w31 ⟨v466, v469, rfl, ho0, ho1, hb⟩; refine ⟨_, rfl, ?_⟩; have HO467 := am_ (Kd.R_lower (Kd.R_new' (Kd.R_new' (Kd.R_new' (Kd.R_new' (Kd.R_new' (Kd.R_new' ho0 (Kd.R_lt (by (with_reducible repeat (first | apply Kd.R_alloc | apply Kd.R_drewN | apply Kd.R_drew)); exact (Kd.R_mono (Go.Proofs.YtahfemlfdpbkkaaV.R_far8 (g := gb460) (Kd.R_types HO428.out BK460.out (by decide)) (fun _ hk => hk.2)) (fun _ h_ => h_.1))))) (Kd.R_lt (by (with_reducible repeat (first | apply Kd.R_alloc | apply Kd.R_drewN | apply Kd.R_drew)); exact (Kd.R_mono (Go.Proofs.YtahfemlfdpbkkaaV.R_far8 (g := gb460) (Kd.R_types HO431.out BK460.out (by decide)) (fun _ hk => hk.2)) (fun _ h_ => h_.1))))) (Kd.R_lt (by (with_reducible repeat (first | apply Kd.R_alloc | apply Kd.R_drewN | apply Kd.R_drew)); exact (Kd.R_mono (Go.Proofs.YtahfemlfdpbkkaaV.R_far8 (g := gb460) (Kd.R_types HO440.out BK460.out (by decide)) (fun _ hk => hk.2)) (fun _ h_ => h_.1))))) (Kd.R_lt (by (with_reducible repeat (first | apply Kd.R_alloc | apply Kd.R_drewN | apply Kd.R_drew)); exact (Kd.R_mono (Go.Proofs.YtahfemlfdpbkkaaV.R_far8 (g := gb460) (Kd.R_types HO443.out BK460.out (by decide)) (fun _ hk => hk.2)) (fun _ h_ => h_.1))))) (Kd.R_lt (by (with_reducible repeat (first | apply Kd.R_alloc | apply Kd.R_drewN | apply Kd.R_drew)); exact (Kd.R_mono (Go.Proofs.YtahfemlfdpbkkaaV.R_far8 (g := gb460) (Kd.R_types HO454.out BK460.out (by decide)) (fun _ hk => hk.2)) (fun _ h_ => h_.1))))) (Kd.R_lt (by (with_reducible repeat (first | apply Kd.R_alloc | apply Kd.R_drewN | apply Kd.R_drew)); exact (Kd.R_mono (Go.Proofs.YtahfemlfdpbkkaaV.R_far8 (g := gb460) (Kd.R_types HO457.out BK460.out (by decide)) (fun _ hk => hk.2)) (fun _ h_ => h_.1))))) (below_size (qB HB))); have HO470 := am_ (Kd.R_lower (Kd.R_new' (Kd.R_new' (Kd.R_new' (Kd.R_new' (Kd.R_new' (Kd.R_new' ho1 (Kd.R_lt (by (with_reducible repeat (first | apply Kd.R_alloc | apply Kd.R_drewN | apply Kd.R_drew)); exact (Kd.R_mono (Go.Proofs.YtahfemlfdpbkkaaV.R_far8 (g := gb460) (Kd.R_types HO428.out BK460.out (by decide)) (fun _ hk => hk.2)) (fun _ h_ => h_.1))))) (Kd.R_lt (by (with_reducible repeat (first | apply Kd.R_alloc | apply Kd.R_drewN | apply Kd.R_drew)); exact (Kd.R_mono (Go.Proofs.YtahfemlfdpbkkaaV.R_far8 (g := gb460) (Kd.R_types HO431.out BK460.out (by decide)) (fun _ hk => hk.2)) (fun _ h_ => h_.1))))) (Kd.R_lt (by (with_reducible repeat (first | apply Kd.R_alloc | apply Kd.R_drewN | apply Kd.R_drew)); exact (Kd.R_mono (Go.Proofs.YtahfemlfdpbkkaaV.R_far8 (g := gb460) (Kd.R_types HO440.out BK460.out (by decide)) (fun _ hk => hk.2)) (fun _ h_ => h_.1))))) (Kd.R_lt (by (with_reducible repeat (first | apply Kd.R_alloc | apply Kd.R_drewN | apply Kd.R_drew)); exact (Kd.R_mono (Go.Proofs.YtahfemlfdpbkkaaV.R_far8 (g := gb460) (Kd.R_types HO443.out BK460.out (by decide)) (fun _ hk => hk.2)) (fun _ h_ => h_.1))))) (Kd.R_lt (by (with_reducible repeat (first | apply Kd.R_alloc | apply Kd.R_drewN | apply Kd.R_drew)); exact (Kd.R_mono (Go.Proofs.YtahfemlfdpbkkaaV.R_far8 (g := gb460) (Kd.R_types HO454.out BK460.out (by decide)) (fun _ hk => hk.2)) (fun _ h_ => h_.1))))) (Kd.R_lt (by (with_reducible repeat (first | apply Kd.R_alloc | apply Kd.R_drewN | apply Kd.R_drew)); exact (Kd.R_mono (Go.Proofs.YtahfemlfdpbkkaaV.R_far8 (g := gb460) (Kd.R_types HO457.out BK460.out (by decide)) (fun _ hk => hk.2)) (fun _ h_ => h_.1))))) (below_size (qB HB))); replace HO428 := am_ (Kd.R_mono (Kd.R_told (Kd.R_told (Kd.R_old (by (with_reducible repeat (first | apply Kd.R_alloc | apply Kd.R_drewN | apply Kd.R_drew)); exact (Kd.R_mono (Go.Proofs.YtahfemlfdpbkkaaV.R_far8 (g := gb460) (Kd.R_types HO428.out BK460.out (by decide)) (fun _ hk => hk.2)) (fun _ h_ => h_.1))) hb) (Kd.R_base ho0)) (Kd.R_base ho1)) (fun _ h_ => h_.1)); replace HO431 := am_ (Kd.R_mono (Kd.R_told (Kd.R_told (Kd.R_old (by (with_reducible repeat (first | apply Kd.R_alloc | apply Kd.R_drewN | apply Kd.R_drew)); exact (Kd.R_mono (Go.Proofs.YtahfemlfdpbkkaaV.R_far8 (g := gb460) (Kd.R_types HO431.out BK460.out (by decide)) (fun _ hk => hk.2)) (fun _ h_ => h_.1))) hb) (Kd.R_base ho0)) (Kd.R_base ho1)) (fun _ h_ => h_.1)); replace HO440 := am_ (Kd.R_mono (Kd.R_told (Kd.R_told (Kd.R_old (by (with_reducible repeat (first | apply Kd.R_alloc | apply Kd.R_drewN | apply Kd.R_drew)); exact (Kd.R_mono (Go.Proofs.YtahfemlfdpbkkaaV.R_far8 (g := gb460) (Kd.R_types HO440.out BK460.out (by decide)) (fun _ hk => hk.2)) (fun _ h_ => h_.1))) hb) (Kd.R_base ho0)) (Kd.R_base ho1)) (fun _ h_ => h_.1)); replace HO443 := am_ (Kd.R_mono (Kd.R_told (Kd.R_told (Kd.R_old (by (with_reducible repeat (first | apply Kd.R_alloc | apply Kd.R_drewN | apply Kd.R_drew)); exact (Kd.R_mono (Go.Proofs.YtahfemlfdpbkkaaV.R_far8 (g := gb460) (Kd.R_types HO443.out BK460.out (by decide)) (fun _ hk => hk.2)) (fun _ h_ => h_.1))) hb) (Kd.R_base ho0)) (Kd.R_base ho1)) (fun _ h_ => h_.1)); replace HO454 := am_ (Kd.R_mono (Kd.R_told (Kd.R_told (Kd.R_old (by (with_reducible repeat (first | apply Kd.R_alloc | apply Kd.R_drewN | apply Kd.R_drew)); exact (Kd.R_mono (Go.Proofs.YtahfemlfdpbkkaaV.R_far8 (g := gb460) (Kd.R_types HO454.out BK460.out (by decide)) (fun _ hk => hk.2)) (fun _ h_ => h_.1))) hb) (Kd.R_base ho0)) (Kd.R_base ho1)) (fun _ h_ => h_.1)); replace HO457 := am_ (Kd.R_mono (Kd.R_told (Kd.R_told (Kd.R_old (by (with_reducible repeat (first | apply Kd.R_alloc | apply Kd.R_drewN | apply Kd.R_drew)); exact (Kd.R_mono (Go.Proofs.YtahfemlfdpbkkaaV.R_far8 (g := gb460) (Kd.R_types HO457.out BK460.out (by decide)) (fun _ hk => hk.2)) (fun _ h_ => h_.1))) hb) (Kd.R_base ho0)) (Kd.R_base ho1)) (fun _ h_ => h_.1)); replace BK420 := am_ (blk_below (g := gb420) (o := .cells #[.int .i64 a0_0, .int .i64 a0_1, .int .i64 a0_2, .bool a0_3, .slice A0_4 l0_4.length c0_4, .slice A0_5 l0_5.length c0_5, .int .i64 a0_6, .int .i64 a0_7] 24 (0, 0)) (by (with_reducible repeat (first | refine blk_drewN ?_ _ | refine blk_drew ?_ | refine blk_alloc ?_ _)); refine Go.Proofs.YtahfemlfdpbkkaaV.blk_far8 ?_ NB420_460.out; (with_reducible repeat (first | refine blk_drewN ?_ _ | refine blk_drew ?_ | refine blk_alloc ?_ _)); exact BK420.out) hb); replace BK447 := am_ (blk_below (g := gb447) (o := .cells #[.int .i64 t434, .int .i64 t435, .int .i64 t436, .bool t437, .slice Ao21 t438.length co21, .slice Ao22 t441.length co22, .int .i64 t444, .int .i64 t445] 29 (0, 0)) (by (with_reducible repeat (first | refine blk_drewN ?_ _ | refine blk_drew ?_ | refine blk_alloc ?_ _)); refine Go.Proofs.YtahfemlfdpbkkaaV.blk_far8 ?_ NB447_460.out; (with_reducible repeat (first | refine blk_drewN ?_ _ | refine blk_drew ?_ | refine blk_alloc ?_ _)); exact BK447.out) hb); replace BK460 := am_ (blk_below (g := gb460) (o := .cells #[.int .i64 t448, .int .i64 t449, .int .i64 t450, .bool t451, .slice Ao29 t452.length co29, .slice Ao30 t455.length co30, .int .i64 t458, .int .i64 t459] 29 (0, 0)) (by (with_reducible repeat (first | refine blk_drewN ?_ _ | refine blk_drew ?_ | refine blk_alloc ?_ _)); refine Go.Proofs.YtahfemlfdpbkkaaV.blk_all8 (show _ = some (Go.Obj.cells #[.int .i64 0, .int .i64 0, .int .i64 0, .bool false, .slice none 0 0, .slice none 0 0, .int .i64 0, .int .i64 0] _ (0, 0)) from ?_); (with_reducible repeat (first | refine blk_drewN ?_ _ | refine blk_drew ?_ | refine blk_alloc ?_ _)); exact BK460.out) hb); replace HB := am_ (below_step (qB HB) hb); (try clear hb); (try clear hb2); (try clear hk); (try clear hi); (try clear ho0); (try clear ho1)) | ((with_reducible refine gate_dst (N := 7) rfl ?_); refine box_event ?hg (N := 7) ?hd (cs := #[.int .i64 0, .int .i64 0, .int .i64 0, .bool false, .slice none 0 0, .slice none 0 0, .int .i64 0, .int .i64 0]) (t := 29) ?hr ?_; (case hd => rfl); (case hg => rfl); (case hr => first | (go_simp; done) | (go_simp; rfl)); intro gb474 hg w32 hbox hb; replace HO428 := am_ (Kd.R_below (qR HO428) hb); replace HO431 := am_ (Kd.R_below (qR HO431) hb); replace HO440 := am_ (Kd.R_below (qR HO440) hb); replace HO443 := am_ (Kd.R_below (qR HO443) hb); replace HO454 := am_ (Kd.R_below (qR HO454) hb); replace HO457 := am_ (Kd.R_below (qR HO457) hb); replace HO467 := am_ (Kd.R_below (qR HO467) hb); replace HO470 := am_ (Kd.R_below (qR HO470) hb); have BK474 := am_ (hbox); have GW474 := am_ ((gG_ hg (qB HB))); have IGW474 := gI_ GW474; have GE474 := am_ ((gG_ hg (qB HB))); have IGE474 := gI_ GE474; replace HB := am_ (below_step (qB HB) hb); have NB420_474 := am_ ((gN_ hg (qK BK420))); have NB474_420 := am_ ((gM_ hg (qK BK420))); replace BK420 := am_ (blk_below (qK BK420) hb); have NB447_474 := am_ ((gN_ hg (qK BK447))); have NB474_447 := am_ ((gM_ hg (qK BK447))); replace BK447 := am_ (blk_below (qK BK447) hb); have NB460_474 := am_ ((gN_ hg (qK BK460))); have NB474_460 := am_ ((gM_ hg (qK BK460))); replace BK460 := am_ (blk_below (qK BK460) hb); clear hb hbox hg; have hnb33 := NB474_420.out; have hnc33 := NB420_474.out; have hnb34 := NB474_447.out; have hnc34 := NB447_474.out; have hnb35 := NB474_460.out; have hnc35 := NB460_474.out; obtain ⟨hcz36_0, hcz36_1, hcz36_2, hcz36_3, hcz36_4, hcz36_5, hcz36_6, hcz36_7⟩ := cz8 BK474.out; obtain ⟨hfz36_0, hfz36_1, hfz36_2, hfz36_3, hfz36_4, hfz36_5, hfz36_6, hfz36_7⟩ := fz8 BK474.out; obtain ⟨Ao37, co37, eo37⟩ := Kd.R_slice HO467.out; subst eo37; obtain ⟨Ao38, co38, eo38⟩ := Kd.R_slice HO470.out; subst eo38))
  (try simp only [Act.put, List.setIfInBounds_toArray, List.set_cons_zero, List.set_cons_succ])
  go_cut [40] (fun v40 wc => ∃ (kq : Nat) (x40_11 : Bool), v40 = .bool x40_11 ∧ Aside0 (laws_FnExactAnswer.j0 kq t446 t473 x40_11 a0_0 a0_1 a0_2 a0_3 l0_4 l0_5 a0_6 a0_7 t434 t435 t436 t437 t438 t441 t444 t445 t448 t449 t450 t451 t452 t455 t458 t459 t461 t462 t463 t464 t465 t468 t471 t472 = some r) ∧ Aside0 (kq ≤ k) ∧ Aside0 (Kd.R (Kd.int .u8) 5 wc w.heap.size (fun k_ => some k_ ≠ ((.slice Ao22 t441.length co22) : Value).ownBlock ∧ some k_ ≠ ((.slice Ao29 t452.length co29) : Value).ownBlock ∧ some k_ ≠ ((.slice Ao30 t455.length co30) : Value).ownBlock ∧ some k_ ≠ ((.slice Ao37 t465.length co37) : Value).ownBlock ∧ some k_ ≠ ((.slice Ao38 t468.length co38) : Value).ownBlock) (.slice Ao21 t438.length co21) t438) ∧ Aside0 (Kd.R (Kd.int .u8) 5 wc w.heap.size (fun k_ => some k_ ≠ ((.slice Ao21 t438.length co21) : Value).ownBlock ∧ some k_ ≠ ((.slice Ao29 t452.length co29) : Value).ownBlock ∧ some k_ ≠ ((.slice Ao30 t455.length co30) : Value).ownBlock ∧ some k_ ≠ ((.slice Ao37 t465.length co37) : Value).ownBlock ∧ some k_ ≠ ((.slice Ao38 t468.length co38) : Value).ownBlock) (.slice Ao22 t441.length co22) t441) ∧ Aside0 (Kd.R (Kd.int .u8) 5 wc w.heap.size (fun k_ => some k_ ≠ ((.slice Ao21 t438.length co21) : Value).ownBlock ∧ some k_ ≠ ((.slice Ao22 t441.length co22) : Value).ownBlock ∧ some k_ ≠ ((.slice Ao30 t455.length co30) : Value).ownBlock ∧ some k_ ≠ ((.slice Ao37 t465.length co37) : Value).ownBlock ∧ some k_ ≠ ((.slice Ao38 t468.length co38) : Value).ownBlock) (.slice Ao29 t452.length co29) t452) ∧ Aside0 (Kd.R (Kd.int .u8) 5 wc w.heap.size (fun k_ => some k_ ≠ ((.slice Ao21 t438.length co21) : Value).ownBlock ∧ some k_ ≠ ((.slice Ao22 t441.length co22) : Value).ownBlock ∧ some k_ ≠ ((.slice Ao29 t452.length co29) : Value).ownBlock ∧ some k_ ≠ ((.slice Ao37 t465.length co37) : Value).ownBlock ∧ some k_ ≠ ((.slice Ao38 t468.length co38) : Value).ownBlock) (.slice Ao30 t455.length co30) t455) ∧ Aside0 (Kd.R (Kd.int .u8) 5 wc w.heap.size (fun k_ => some k_ ≠ ((.slice Ao21 t438.length co21) : Value).ownBlock ∧ some k_ ≠ ((.slice Ao22 t441.length co22) : Value).ownBlock ∧ some k_ ≠ ((.slice Ao29 t452.length co29) : Value).ownBlock ∧ some k_ ≠ ((.slice Ao30 t455.length co30) : Value).ownBlock ∧ some k_ ≠ ((.slice Ao38 t468.length co38) : Value).ownBlock) (.slice Ao37 t465.length co37) t465) ∧ Aside0 (Kd.R (Kd.int .u8) 5 wc w.heap.size (fun k_ => some k_ ≠ ((.slice Ao21 t438.length co21) : Value).ownBlock ∧ some k_ ≠ ((.slice Ao22 t441.length co22) : Value).ownBlock ∧ some k_ ≠ ((.slice Ao29 t452.length co29) : Value).ownBlock ∧ some k_ ≠ ((.slice Ao30 t455.length co30) : Value).ownBlock ∧ some k_ ≠ ((.slice Ao37 t465.length co37) : Value).ownBlock) (.slice Ao38 t468.length co38) t468) ∧ Aside0 (wc.heap[gb420]? = some (.cells #[.int .i64 a0_0, .int .i64 a0_1, .int .i64 a0_2, .bool a0_3, (.slice A0_4 l0_4.length c0_4), (.slice A0_5 l0_5.length c0_5), .int .i64 a0_6, .int .i64 a0_7] 24 (0, 0))) ∧ Aside0 (wc.heap[gb447]? = some (.cells #[.int .i64 t434, .int .i64 t435, .int .i64 t436, .bool t437, (.slice Ao21 t438.length co21), (.slice Ao22 t441.length co22), .int .i64 t444, .int .i64 t445] 29 (0, 0))) ∧ Aside0 (wc.heap[gb460]? = some (.cells #[.int .i64 t448, .int .i64 t449, .int .i64 t450, .bool t451, (.slice Ao29 t452.length co29), (.slice Ao30 t455.length co30), .int .i64 t458, .int .i64 t459] 29 (0, 0))) ∧ Aside0 (wc.heap[gb474]? = some (.cells #[.int .i64 t461, .int .i64 t462, .int .i64 t463, .bool t464, (.slice Ao37 t465.length co37), (.slice Ao38 t468.length co38), .int .i64 t471, .int .i64 t472] 29 (0, 0))) ∧ Aside0 (Below w.heap.size w wc))
  case first =>
   have H := HC12.out
   clear HC12
   replace H := Option.bind_eq_some_iff.mp H
   obtain ⟨t475, A390, H⟩ := H
   replace H : (if t475 = true then (laws_FnExactAnswer.j0 k t446 t473 (t473 != t446) a0_0 a0_1 a0_2 a0_3 l0_4 l0_5 a0_6 a0_7 t434 t435 t436 t437 t438 t441 t444 t445 t448 t449 t450 t451 t452 t455 t458 t459 t461 t462 t463 t464 t465 t468 t471 t472) else (laws_FnExactAnswer.j0 k t446 t473 true a0_0 a0_1 a0_2 a0_3 l0_4 l0_5 a0_6 a0_7 t434 t435 t436 t437 t438 t441 t444 t445 t448 t449 t450 t451 t452 t455 t458 t459 t461 t462 t463 t464 t465 t468 t471 t472)) = some r := H
   have A39 := Aside0.mk A390
   clear A390
   by_cases c40 : t475 = true
   ·
    subst c40
    have H1 : (laws_FnExactAnswer.j0 k t446 t473 (t473 != t446) a0_0 a0_1 a0_2 a0_3 l0_4 l0_5 a0_6 a0_7 t434 t435 t436 t437 t438 t441 t444 t445 t448 t449 t450 t451 t452 t455 t458 t459 t461 t462 t463 t464 t465 t468 t471 t472) = some r := by rw [if_pos rfl] at H; exact H
    clear H
    have H := H1
    clear H1
    have H' := Aside0.mk H
    clear H
    have hnb41 := NB474_420.out
    have hnc41 := NB420_474.out
    have hnb42 := NB474_447.out
    have hnc42 := NB447_474.out
    have hnb43 := NB474_460.out
    have hnc43 := NB460_474.out
    obtain ⟨hcz44_0, hcz44_1, hcz44_2, hcz44_3, hcz44_4, hcz44_5, hcz44_6, hcz44_7⟩ := cz8 BK474.out
    obtain ⟨hfz44_0, hfz44_1, hfz44_2, hfz44_3, hfz44_4, hfz44_5, hfz44_6, hfz44_7⟩ := fz8 BK474.out
    have hnb45 := NB447_420.out
    have hnc45 := NB420_447.out
    have hnb46 := NB447_460.out
    have hnc46 := NB460_447.out
    obtain ⟨hcz47_0, hcz47_1, hcz47_2, hcz47_3, hcz47_4, hcz47_5, hcz47_6, hcz47_7⟩ := cz8 BK447.out
    obtain ⟨hfz47_0, hfz47_1, hfz47_2, hfz47_3, hfz47_4, hfz47_5, hfz47_6, hfz47_7⟩ := fz8 BK447.out
    go_wp2_with (first | ((with_reducible refine gate_callee (f := 21) rfl ?_); refine goesL_ (some 34) rfl rfl Try.func21 (by kernel_rfl) rfl #[.agg #[.int .i64 t461, .int .i64 t462, .int .i64 t463, .bool t464, .slice Ao37 t465.length co37, .slice Ao38 t468.length co38, .int .i64 t471, .int .i64 t472], .agg #[.int .i64 t434, .int .i64 t435, .int .i64 t436, .bool t437, .slice Ao21 t438.length co21, .slice Ao22 t441.length co22, .int .i64 t444, .int .i64 t445]] rfl (by (try simp only [List.map_toArray, List.map_cons, List.map_nil]); first | done | rfl | (simp only [List.length_drop, List.length_take]; rfl)) ?_; (with_reducible refine (laws_eqSock.calls k t461 t462 t463 t464 _ _ t465 _ _ t468 t471 t472 t434 t435 t436 t437 _ _ t438 _ _ t441 t444 t445 true _ ?side1 ?side2 ?side3 ?side4 ?side5 ?side6 ?side7 ?side8 A39.out).mono ?_); (case side1 => refine (Kd.R_reads' (e := 5) (base := w.heap.size) (ok := fun k_ => ((((((some k_ ≠ (.slice Ao38 t468.length co38 : Value).ownBlock ∧ some k_ ≠ (.slice Ao15 t426.length co15 : Value).ownBlock) ∧ some k_ ≠ (.slice Ao16 t429.length co16 : Value).ownBlock) ∧ some k_ ≠ (.slice Ao21 t438.length co21 : Value).ownBlock) ∧ some k_ ≠ (.slice Ao22 t441.length co22 : Value).ownBlock) ∧ some k_ ≠ (.slice Ao29 t452.length co29 : Value).ownBlock) ∧ some k_ ≠ (.slice Ao30 t455.length co30 : Value).ownBlock)) (n := t465.length) (c := co37) ?_).2.2; exact (by (with_reducible repeat (first | apply Kd.R_alloc | apply Kd.R_drewN | apply Kd.R_drew)); exact (Kd.R_mono (Go.Proofs.YtahfemlfdpbkkaaV.R_far8 (g := gb474) (Kd.R_types HO467.out BK474.out (by decide)) (fun _ hk => hk.2)) (fun _ h_ => h_.1)))); (case side2 => exact (Kd.R_reads' HO467.out).2.1); (case side3 => refine (Kd.R_reads' (e := 5) (base := w.heap.size) (ok := fun k_ => ((((((some k_ ≠ (.slice Ao37 t465.length co37 : Value).ownBlock ∧ some k_ ≠ (.slice Ao15 t426.length co15 : Value).ownBlock) ∧ some k_ ≠ (.slice Ao16 t429.length co16 : Value).ownBlock) ∧ some k_ ≠ (.slice Ao21 t438.length co21 : Value).ownBlock) ∧ some k_ ≠ (.slice Ao22 t441.length co22 : Value).ownBlock) ∧ some k_ ≠ (.slice Ao29 t452.length co29 : Value).ownBlock) ∧ some k_ ≠ (.slice Ao30 t455.length co30 : Value).ownBlock)) (n := t468.length) (c := co38) ?_).2.2; exact (by (with_reducible repeat (first | apply Kd.R_alloc | apply Kd.R_drewN | apply Kd.R_drew)); exact (Kd.R_mono (Go.Proofs.YtahfemlfdpbkkaaV.R_far8 (g := gb474) (Kd.R_types HO470.out BK474.out (by decide)) (fun _ hk => hk.2)) (fun _ h_ => h_.1)))); (case side4 => exact (Kd.R_reads' HO470.out).2.1); (case side5 => refine (Kd.R_reads' (e := 5) (base := w.heap.size) (ok := fun k_ => ((((((some k_ ≠ (.slice Ao22 t441.length co22 : Value).ownBlock ∧ some k_ ≠ (.slice Ao15 t426.length co15 : Value).ownBlock) ∧ some k_ ≠ (.slice Ao16 t429.length co16 : Value).ownBlock) ∧ some k_ ≠ (.slice Ao29 t452.length co29 : Value).ownBlock) ∧ some k_ ≠ (.slice Ao30 t455.length co30 : Value).ownBlock) ∧ some k_ ≠ (.slice Ao37 t465.length co37 : Value).ownBlock) ∧ some k_ ≠ (.slice Ao38 t468.length co38 : Value).ownBlock)) (n := t438.length) (c := co21) ?_).2.2; exact (by (with_reducible repeat (first | apply Kd.R_alloc | apply Kd.R_drewN | apply Kd.R_drew)); exact (Kd.R_mono (Go.Proofs.YtahfemlfdpbkkaaV.R_far8 (g := gb474) (Kd.R_types HO440.out BK474.out (by decide)) (fun _ hk => hk.2)) (fun _ h_ => h_.1)))); (case side6 => exact (Kd.R_reads' HO440.out).2.1); (case side7 => refine (Kd.R_reads' (e := 5) (base := w.heap.size) (ok := fun k_ => ((((((some k_ ≠ (.slice Ao21 t438.length co21 : Value).ownBlock ∧ some k_ ≠ (.slice Ao15 t426.length co15 : Value).ownBlock) ∧ some k_ ≠ (.slice Ao16 t429.length co16 : Value).ownBlock) ∧ some k_ ≠ (.slice Ao29 t452.length co29 : Value).ownBlock) ∧ some k_ ≠ (.slice Ao30 t455.length co30 : Value).ownBlock) ∧ some k_ ≠ (.slice Ao37 t465.length co37 : Value).ownBlock) ∧ some k_ ≠ (.slice Ao38 t468.length co38 : Value).ownBlock)) (n := t441.length) (c := co22) ?_).2.2; exact (by (with_reducible repeat (first | apply Kd.R_alloc | apply Kd.R_drewN | apply Kd.R_drew)); exact (Kd.R_mono (Go.Proofs.YtahfemlfdpbkkaaV.R_far8 (g := gb474) (Kd.R_types HO443.out BK474.out (by decide)) (fun _ hk => hk.2)) (fun _ h_ => h_.1)))); (case side8 => exact (Kd.R_reads' HO443.out).2.1); rintro e w48 ⟨rfl, hb⟩; refine ⟨_, rfl, ?_⟩; replace HO428 := am_ (Kd.R_below (by (with_reducible repeat (first | apply Kd.R_alloc | apply Kd.R_drewN | apply Kd.R_drew)); exact (Kd.R_mono (Go.Proofs.YtahfemlfdpbkkaaV.R_far8 (g := gb474) (Kd.R_types HO428.out BK474.out (by decide)) (fun _ hk => hk.2)) (fun _ h_ => h_.1))) hb); replace HO431 := am_ (Kd.R_below (by (with_reducible repeat (first | apply Kd.R_alloc | apply Kd.R_drewN | apply Kd.R_drew)); exact (Kd.R_mono (Go.Proofs.YtahfemlfdpbkkaaV.R_far8 (g := gb474) (Kd.R_types HO431.out BK474.out (by decide)) (fun _ hk => hk.2)) (fun _ h_ => h_.1))) hb); replace HO440 := am_ (Kd.R_below (by (with_reducible repeat (first | apply Kd.R_alloc | apply Kd.R_drewN | apply Kd.R_drew)); exact (Kd.R_mono (Go.Proofs.YtahfemlfdpbkkaaV.R_far8 (g := gb474) (Kd.R_types HO440.out BK474.out (by decide)) (fun _ hk => hk.2)) (fun _ h_ => h_.1))) hb); replace HO443 := am_ (Kd.R_below (by (with_reducible repeat (first | apply Kd.R_alloc | apply Kd.R_drewN | apply Kd.R_drew)); exact (Kd.R_mono (Go.Proofs.YtahfemlfdpbkkaaV.R_far8 (g := gb474) (Kd.R_types HO443.out BK474.out (by decide)) (fun _ hk => hk.2)) (fun _ h_ => h_.1))) hb); replace HO454 := am_ (Kd.R_below (by (with_reducible repeat (first | apply Kd.R_alloc | apply Kd.R_drewN | apply Kd.R_drew)); exact (Kd.R_mono (Go.Proofs.YtahfemlfdpbkkaaV.R_far8 (g := gb474) (Kd.R_types HO454.out BK474.out (by decide)) (fun _ hk => hk.2)) (fun _ h_ => h_.1))) hb); replace HO457 := am_ (Kd.R_below (by (with_reducible repeat (first | apply Kd.R_alloc | apply Kd.R_drewN | apply Kd.R_drew)); exact (Kd.R_mono (Go.Proofs.YtahfemlfdpbkkaaV.R_far8 (g := gb474) (Kd.R_types HO457.out BK474.out (by decide)) (fun _ hk => hk.2)) (fun _ h_ => h_.1))) hb); replace HO467 := am_ (Kd.R_below (by (with_reducible repeat (first | apply Kd.R_alloc | apply Kd.R_drewN | apply Kd.R_drew)); exact (Kd.R_mono (Go.Proofs.YtahfemlfdpbkkaaV.R_far8 (g := gb474) (Kd.R_types HO467.out BK474.out (by decide)) (fun _ hk => hk.2)) (fun _ h_ => h_.1))) hb); replace HO470 := am_ (Kd.R_below (by (with_reducible repeat (first | apply Kd.R_alloc | apply Kd.R_drewN | apply Kd.R_drew)); exact (Kd.R_mono (Go.Proofs.YtahfemlfdpbkkaaV.R_far8 (g := gb474) (Kd.R_types HO470.out BK474.out (by decide)) (fun _ hk => hk.2)) (fun _ h_ => h_.1))) hb); replace BK420 := am_ (blk_below (g := gb420) (o := .cells #[.int .i64 a0_0, .int .i64 a0_1, .int .i64 a0_2, .bool a0_3, .slice A0_4 l0_4.length c0_4, .slice A0_5 l0_5.length c0_5, .int .i64 a0_6, .int .i64 a0_7] 24 (0, 0)) (by (with_reducible repeat (first | refine blk_drewN ?_ _ | refine blk_drew ?_ | refine blk_alloc ?_ _)); refine Go.Proofs.YtahfemlfdpbkkaaV.blk_far8 ?_ NB420_474.out; (with_reducible repeat (first | refine blk_drewN ?_ _ | refine blk_drew ?_ | refine blk_alloc ?_ _)); exact BK420.out) hb); replace BK447 := am_ (blk_below (g := gb447) (o := .cells #[.int .i64 t434, .int .i64 t435, .int .i64 t436, .bool t437, .slice Ao21 t438.length co21, .slice Ao22 t441.length co22, .int .i64 t444, .int .i64 t445] 29 (0, 0)) (by (with_reducible repeat (first | refine blk_drewN ?_ _ | refine blk_drew ?_ | refine blk_alloc ?_ _)); refine Go.Proofs.YtahfemlfdpbkkaaV.blk_far8 ?_ NB447_474.out; (with_reducible repeat (first | refine blk_drewN ?_ _ | refine blk_drew ?_ | refine blk_alloc ?_ _)); exact BK447.out) hb); replace BK460 := am_ (blk_below (g := gb460) (o := .cells #[.int .i64 t448, .int .i64 t449, .int .i64 t450, .bool t451, .slice Ao29 t452.length co29, .slice Ao30 t455.length co30, .int .i64 t458, .int .i64 t459] 29 (0, 0)) (by (with_reducible repeat (first | refine blk_drewN ?_ _ | refine blk_drew ?_ | refine blk_alloc ?_ _)); refine Go.Proofs.YtahfemlfdpbkkaaV.blk_far8 ?_ NB460_474.out; (with_reducible repeat (first | refine blk_drewN ?_ _ | refine blk_drew ?_ | refine blk_alloc ?_ _)); exact BK460.out) hb); replace BK474 := am_ (blk_below (g := gb474) (o := .cells #[.int .i64 t461, .int .i64 t462, .int .i64 t463, .bool t464, .slice Ao37 t465.length co37, .slice Ao38 t468.length co38, .int .i64 t471, .int .i64 t472] 29 (0, 0)) (by (with_reducible repeat (first | refine blk_drewN ?_ _ | refine blk_drew ?_ | refine blk_alloc ?_ _)); refine Go.Proofs.YtahfemlfdpbkkaaV.blk_all8 (show _ = some (Go.Obj.cells #[.int .i64 0, .int .i64 0, .int .i64 0, .bool false, .slice none 0 0, .slice none 0 0, .int .i64 0, .int .i64 0] _ (0, 0)) from ?_); (with_reducible repeat (first | refine blk_drewN ?_ _ | refine blk_drew ?_ | refine blk_alloc ?_ _)); exact BK474.out) hb); replace HB := am_ (below_step (qB HB) hb); (try clear hb); (try clear hb2); (try clear hk); (try clear hi)))
    go_meet
    case rel => exact ⟨_, ((t473 != t446)), (by first | rfl | (simp; done) | (simp [*]; done) | (simp [Go.Proofs.YtahfemlfdpbkkaaV.bne_nil, Go.Proofs.YtahfemlfdpbkkaaV.beq_nil]; done)), H', ⟨by first | omega | exact Nat.le_refl _⟩, ⟨by (with_reducible repeat (first | apply Kd.R_alloc | apply Kd.R_drewN | apply Kd.R_drew)); exact Kd.R_mono HO440.out (fun _ hk => ⟨hk.1.1.1.1.1.1, ⟨hk.1.1.1.2, ⟨hk.1.1.2, ⟨hk.1.2, hk.2⟩⟩⟩⟩)⟩, ⟨by (with_reducible repeat (first | apply Kd.R_alloc | apply Kd.R_drewN | apply Kd.R_drew)); exact Kd.R_mono HO443.out (fun _ hk => ⟨hk.1.1.1.1.1.1, ⟨hk.1.1.1.2, ⟨hk.1.1.2, ⟨hk.1.2, hk.2⟩⟩⟩⟩)⟩, ⟨by (with_reducible repeat (first | apply Kd.R_alloc | apply Kd.R_drewN | apply Kd.R_drew)); exact Kd.R_mono HO454.out (fun _ hk => ⟨hk.1.1.1.2, ⟨hk.1.1.2, ⟨hk.1.1.1.1.1.1, ⟨hk.1.2, hk.2⟩⟩⟩⟩)⟩, ⟨by (with_reducible repeat (first | apply Kd.R_alloc | apply Kd.R_drewN | apply Kd.R_drew)); exact Kd.R_mono HO457.out (fun _ hk => ⟨hk.1.1.1.2, ⟨hk.1.1.2, ⟨hk.1.1.1.1.1.1, ⟨hk.1.2, hk.2⟩⟩⟩⟩)⟩, ⟨by (with_reducible repeat (first | apply Kd.R_alloc | apply Kd.R_drewN | apply Kd.R_drew)); exact Kd.R_mono HO467.out (fun _ hk => ⟨hk.1.1.1.2, ⟨hk.1.1.2, ⟨hk.1.2, ⟨hk.2, hk.1.1.1.1.1.1⟩⟩⟩⟩)⟩, ⟨by (with_reducible repeat (first | apply Kd.R_alloc | apply Kd.R_drewN | apply Kd.R_drew)); exact Kd.R_mono HO470.out (fun _ hk => ⟨hk.1.1.1.2, ⟨hk.1.1.2, ⟨hk.1.2, ⟨hk.2, hk.1.1.1.1.1.1⟩⟩⟩⟩)⟩, ⟨qK BK420⟩, ⟨qK BK447⟩, ⟨qK BK460⟩, ⟨qK BK474⟩, ⟨qB HB⟩⟩
   ·
    replace c40 := Bool.eq_false_iff.mpr c40
    subst c40
    have H1 : (laws_FnExactAnswer.j0 k t446 t473 true a0_0 a0_1 a0_2 a0_3 l0_4 l0_5 a0_6 a0_7 t434 t435 t436 t437 t438 t441 t444 t445 t448 t449 t450 t451 t452 t455 t458 t459 t461 t462 t463 t464 t465 t468 t471 t472) = some r := by rw [if_neg (show ¬ (false = true) by decide)] at H; exact H
    clear H
    have H := H1
    clear H1
    have H' := Aside0.mk H
    clear H
    have hnb49 := NB474_420.out
    have hnc49 := NB420_474.out
    have hnb50 := NB474_447.out
    have hnc50 := NB447_474.out
    have hnb51 := NB474_460.out
    have hnc51 := NB460_474.out
    obtain ⟨hcz52_0, hcz52_1, hcz52_2, hcz52_3, hcz52_4, hcz52_5, hcz52_6, hcz52_7⟩ := cz8 BK474.out
    obtain ⟨hfz52_0, hfz52_1, hfz52_2, hfz52_3, hfz52_4, hfz52_5, hfz52_6, hfz52_7⟩ := fz8 BK474.out
    have hnb53 := NB447_420.out
    have hnc53 := NB420_447.out
    have hnb54 := NB447_460.out
    have hnc54 := NB460_447.out
    obtain ⟨hcz55_0, hcz55_1, hcz55_2, hcz55_3, hcz55_4, hcz55_5, hcz55_6, hcz55_7⟩ := cz8 BK447.out
    obtain ⟨hfz55_0, hfz55_1, hfz55_2, hfz55_3, hfz55_4, hfz55_5, hfz55_6, hfz55_7⟩ := fz8 BK447.out
    go_wp2_with (first | ((with_reducible refine gate_callee (f := 21) rfl ?_); refine goesL_ (some 34) rfl rfl Try.func21 (by kernel_rfl) rfl #[.agg #[.int .i64 t461, .int .i64 t462, .int .i64 t463, .bool t464, .slice Ao37 t465.length co37, .slice Ao38 t468.length co38, .int .i64 t471, .int .i64 t472], .agg #[.int .i64 t434, .int .i64 t435, .int .i64 t436, .bool t437, .slice Ao21 t438.length co21, .slice Ao22 t441.length co22, .int .i64 t444, .int .i64 t445]] rfl (by (try simp only [List.map_toArray, List.map_cons, List.map_nil]); first | done | rfl | (simp only [List.length_drop, List.length_take]; rfl)) ?_; (with_reducible refine (laws_eqSock.calls k t461 t462 t463 t464 _ _ t465 _ _ t468 t471 t472 t434 t435 t436 t437 _ _ t438 _ _ t441 t444 t445 false _ ?side1 ?side2 ?side3 ?side4 ?side5 ?side6 ?side7 ?side8 A39.out).mono ?_); (case side1 => refine (Kd.R_reads' (e := 5) (base := w.heap.size) (ok := fun k_ => ((((((some k_ ≠ (.slice Ao38 t468.length co38 : Value).ownBlock ∧ some k_ ≠ (.slice Ao15 t426.length co15 : Value).ownBlock) ∧ some k_ ≠ (.slice Ao16 t429.length co16 : Value).ownBlock) ∧ some k_ ≠ (.slice Ao21 t438.length co21 : Value).ownBlock) ∧ some k_ ≠ (.slice Ao22 t441.length co22 : Value).ownBlock) ∧ some k_ ≠ (.slice Ao29 t452.length co29 : Value).ownBlock) ∧ some k_ ≠ (.slice Ao30 t455.length co30 : Value).ownBlock)) (n := t465.length) (c := co37) ?_).2.2; exact (by (with_reducible repeat (first | apply Kd.R_alloc | apply Kd.R_drewN | apply Kd.R_drew)); exact (Kd.R_mono (Go.Proofs.YtahfemlfdpbkkaaV.R_far8 (g := gb474) (Kd.R_types HO467.out BK474.out (by decide)) (fun _ hk => hk.2)) (fun _ h_ => h_.1)))); (case side2 => exact (Kd.R_reads' HO467.out).2.1); (case side3 => refine (Kd.R_reads' (e := 5) (base := w.heap.size) (ok := fun k_ => ((((((some k_ ≠ (.slice Ao37 t465.length co37 : Value).ownBlock ∧ some k_ ≠ (.slice Ao15 t426.length co15 : Value).ownBlock) ∧ some k_ ≠ (.slice Ao16 t429.length co16 : Value).ownBlock) ∧ some k_ ≠ (.slice Ao21 t438.length co21 : Value).ownBlock) ∧ some k_ ≠ (.slice Ao22 t441.length co22 : Value).ownBlock) ∧ some k_ ≠ (.slice Ao29 t452.length co29 : Value).ownBlock) ∧ some k_ ≠ (.slice Ao30 t455.length co30 : Value).ownBlock)) (n := t468.length) (c := co38) ?_).2.2; exact (by (with_reducible repeat (first | apply Kd.R_alloc | apply Kd.R_drewN | apply Kd.R_drew)); exact (Kd.R_mono (Go.Proofs.YtahfemlfdpbkkaaV.R_far8 (g := gb474) (Kd.R_types HO470.out BK474.out (by decide)) (fun _ hk => hk.2)) (fun _ h_ => h_.1)))); (case side4 => exact (Kd.R_reads' HO470.out).2.1); (case side5 => refine (Kd.R_reads' (e := 5) (base := w.heap.size) (ok := fun k_ => ((((((some k_ ≠ (.slice Ao22 t441.length co22 : Value).ownBlock ∧ some k_ ≠ (.slice Ao15 t426.length co15 : Value).ownBlock) ∧ some k_ ≠ (.slice Ao16 t429.length co16 : Value).ownBlock) ∧ some k_ ≠ (.slice Ao29 t452.length co29 : Value).ownBlock) ∧ some k_ ≠ (.slice Ao30 t455.length co30 : Value).ownBlock) ∧ some k_ ≠ (.slice Ao37 t465.length co37 : Value).ownBlock) ∧ some k_ ≠ (.slice Ao38 t468.length co38 : Value).ownBlock)) (n := t438.length) (c := co21) ?_).2.2; exact (by (with_reducible repeat (first | apply Kd.R_alloc | apply Kd.R_drewN | apply Kd.R_drew)); exact (Kd.R_mono (Go.Proofs.YtahfemlfdpbkkaaV.R_far8 (g := gb474) (Kd.R_types HO440.out BK474.out (by decide)) (fun _ hk => hk.2)) (fun _ h_ => h_.1)))); (case side6 => exact (Kd.R_reads' HO440.out).2.1); (case side7 => refine (Kd.R_reads' (e := 5) (base := w.heap.size) (ok := fun k_ => ((((((some k_ ≠ (.slice Ao21 t438.length co21 : Value).ownBlock ∧ some k_ ≠ (.slice Ao15 t426.length co15 : Value).ownBlock) ∧ some k_ ≠ (.slice Ao16 t429.length co16 : Value).ownBlock) ∧ some k_ ≠ (.slice Ao29 t452.length co29 : Value).ownBlock) ∧ some k_ ≠ (.slice Ao30 t455.length co30 : Value).ownBlock) ∧ some k_ ≠ (.slice Ao37 t465.length co37 : Value).ownBlock) ∧ some k_ ≠ (.slice Ao38 t468.length co38 : Value).ownBlock)) (n := t441.length) (c := co22) ?_).2.2; exact (by (with_reducible repeat (first | apply Kd.R_alloc | apply Kd.R_drewN | apply Kd.R_drew)); exact (Kd.R_mono (Go.Proofs.YtahfemlfdpbkkaaV.R_far8 (g := gb474) (Kd.R_types HO443.out BK474.out (by decide)) (fun _ hk => hk.2)) (fun _ h_ => h_.1)))); (case side8 => exact (Kd.R_reads' HO443.out).2.1); rintro e w56 ⟨rfl, hb⟩; refine ⟨_, rfl, ?_⟩; replace HO428 := am_ (Kd.R_below (by (with_reducible repeat (first | apply Kd.R_alloc | apply Kd.R_drewN | apply Kd.R_drew)); exact (Kd.R_mono (Go.Proofs.YtahfemlfdpbkkaaV.R_far8 (g := gb474) (Kd.R_types HO428.out BK474.out (by decide)) (fun _ hk => hk.2)) (fun _ h_ => h_.1))) hb); replace HO431 := am_ (Kd.R_below (by (with_reducible repeat (first | apply Kd.R_alloc | apply Kd.R_drewN | apply Kd.R_drew)); exact (Kd.R_mono (Go.Proofs.YtahfemlfdpbkkaaV.R_far8 (g := gb474) (Kd.R_types HO431.out BK474.out (by decide)) (fun _ hk => hk.2)) (fun _ h_ => h_.1))) hb); replace HO440 := am_ (Kd.R_below (by (with_reducible repeat (first | apply Kd.R_alloc | apply Kd.R_drewN | apply Kd.R_drew)); exact (Kd.R_mono (Go.Proofs.YtahfemlfdpbkkaaV.R_far8 (g := gb474) (Kd.R_types HO440.out BK474.out (by decide)) (fun _ hk => hk.2)) (fun _ h_ => h_.1))) hb); replace HO443 := am_ (Kd.R_below (by (with_reducible repeat (first | apply Kd.R_alloc | apply Kd.R_drewN | apply Kd.R_drew)); exact (Kd.R_mono (Go.Proofs.YtahfemlfdpbkkaaV.R_far8 (g := gb474) (Kd.R_types HO443.out BK474.out (by decide)) (fun _ hk => hk.2)) (fun _ h_ => h_.1))) hb); replace HO454 := am_ (Kd.R_below (by (with_reducible repeat (first | apply Kd.R_alloc | apply Kd.R_drewN | apply Kd.R_drew)); exact (Kd.R_mono (Go.Proofs.YtahfemlfdpbkkaaV.R_far8 (g := gb474) (Kd.R_types HO454.out BK474.out (by decide)) (fun _ hk => hk.2)) (fun _ h_ => h_.1))) hb); replace HO457 := am_ (Kd.R_below (by (with_reducible repeat (first | apply Kd.R_alloc | apply Kd.R_drewN | apply Kd.R_drew)); exact (Kd.R_mono (Go.Proofs.YtahfemlfdpbkkaaV.R_far8 (g := gb474) (Kd.R_types HO457.out BK474.out (by decide)) (fun _ hk => hk.2)) (fun _ h_ => h_.1))) hb); replace HO467 := am_ (Kd.R_below (by (with_reducible repeat (first | apply Kd.R_alloc | apply Kd.R_drewN | apply Kd.R_drew)); exact (Kd.R_mono (Go.Proofs.YtahfemlfdpbkkaaV.R_far8 (g := gb474) (Kd.R_types HO467.out BK474.out (by decide)) (fun _ hk => hk.2)) (fun _ h_ => h_.1))) hb); replace HO470 := am_ (Kd.R_below (by (with_reducible repeat (first | apply Kd.R_alloc | apply Kd.R_drewN | apply Kd.R_drew)); exact (Kd.R_mono (Go.Proofs.YtahfemlfdpbkkaaV.R_far8 (g := gb474) (Kd.R_types HO470.out BK474.out (by decide)) (fun _ hk => hk.2)) (fun _ h_ => h_.1))) hb); replace BK420 := am_ (blk_below (g := gb420) (o := .cells #[.int .i64 a0_0, .int .i64 a0_1, .int .i64 a0_2, .bool a0_3, .slice A0_4 l0_4.length c0_4, .slice A0_5 l0_5.length c0_5, .int .i64 a0_6, .int .i64 a0_7] 24 (0, 0)) (by (with_reducible repeat (first | refine blk_drewN ?_ _ | refine blk_drew ?_ | refine blk_alloc ?_ _)); refine Go.Proofs.YtahfemlfdpbkkaaV.blk_far8 ?_ NB420_474.out; (with_reducible repeat (first | refine blk_drewN ?_ _ | refine blk_drew ?_ | refine blk_alloc ?_ _)); exact BK420.out) hb); replace BK447 := am_ (blk_below (g := gb447) (o := .cells #[.int .i64 t434, .int .i64 t435, .int .i64 t436, .bool t437, .slice Ao21 t438.length co21, .slice Ao22 t441.length co22, .int .i64 t444, .int .i64 t445] 29 (0, 0)) (by (with_reducible repeat (first | refine blk_drewN ?_ _ | refine blk_drew ?_ | refine blk_alloc ?_ _)); refine Go.Proofs.YtahfemlfdpbkkaaV.blk_far8 ?_ NB447_474.out; (with_reducible repeat (first | refine blk_drewN ?_ _ | refine blk_drew ?_ | refine blk_alloc ?_ _)); exact BK447.out) hb); replace BK460 := am_ (blk_below (g := gb460) (o := .cells #[.int .i64 t448, .int .i64 t449, .int .i64 t450, .bool t451, .slice Ao29 t452.length co29, .slice Ao30 t455.length co30, .int .i64 t458, .int .i64 t459] 29 (0, 0)) (by (with_reducible repeat (first | refine blk_drewN ?_ _ | refine blk_drew ?_ | refine blk_alloc ?_ _)); refine Go.Proofs.YtahfemlfdpbkkaaV.blk_far8 ?_ NB460_474.out; (with_reducible repeat (first | refine blk_drewN ?_ _ | refine blk_drew ?_ | refine blk_alloc ?_ _)); exact BK460.out) hb); replace BK474 := am_ (blk_below (g := gb474) (o := .cells #[.int .i64 t461, .int .i64 t462, .int .i64 t463, .bool t464, .slice Ao37 t465.length co37, .slice Ao38 t468.length co38, .int .i64 t471, .int .i64 t472] 29 (0, 0)) (by (with_reducible repeat (first | refine blk_drewN ?_ _ | refine blk_drew ?_ | refine blk_alloc ?_ _)); refine Go.Proofs.YtahfemlfdpbkkaaV.blk_all8 (show _ = some (Go.Obj.cells #[.int .i64 0, .int .i64 0, .int .i64 0, .bool false, .slice none 0 0, .slice none 0 0, .int .i64 0, .int .i64 0] _ (0, 0)) from ?_); (with_reducible repeat (first | refine blk_drewN ?_ _ | refine blk_drew ?_ | refine blk_alloc ?_ _)); exact BK474.out) hb); replace HB := am_ (below_step (qB HB) hb); (try clear hb); (try clear hb2); (try clear hk); (try clear hi)))
    go_meet
    case rel => exact ⟨_, (true), (by first | rfl | (simp; done) | (simp [*]; done) | (simp [Go.Proofs.YtahfemlfdpbkkaaV.bne_nil, Go.Proofs.YtahfemlfdpbkkaaV.beq_nil]; done)), H', ⟨by first | omega | exact Nat.le_refl _⟩, ⟨by (with_reducible repeat (first | apply Kd.R_alloc | apply Kd.R_drewN | apply Kd.R_drew)); exact Kd.R_mono HO440.out (fun _ hk => ⟨hk.1.1.1.1.1.1, ⟨hk.1.1.1.2, ⟨hk.1.1.2, ⟨hk.1.2, hk.2⟩⟩⟩⟩)⟩, ⟨by (with_reducible repeat (first | apply Kd.R_alloc | apply Kd.R_drewN | apply Kd.R_drew)); exact Kd.R_mono HO443.out (fun _ hk => ⟨hk.1.1.1.1.1.1, ⟨hk.1.1.1.2, ⟨hk.1.1.2, ⟨hk.1.2, hk.2⟩⟩⟩⟩)⟩, ⟨by (with_reducible repeat (first | apply Kd.R_alloc | apply Kd.R_drewN | apply Kd.R_drew)); exact Kd.R_mono HO454.out (fun _ hk => ⟨hk.1.1.1.2, ⟨hk.1.1.2, ⟨hk.1.1.1.1.1.1, ⟨hk.1.2, hk.2⟩⟩⟩⟩)⟩, ⟨by (with_reducible repeat (first | apply Kd.R_alloc | apply Kd.R_drewN | apply Kd.R_drew)); exact Kd.R_mono HO457.out (fun _ hk => ⟨hk.1.1.1.2, ⟨hk.1.1.2, ⟨hk.1.1.1.1.1.1, ⟨hk.1.2, hk.2⟩⟩⟩⟩)⟩, ⟨by (with_reducible repeat (first | apply Kd.R_alloc | apply Kd.R_drewN | apply Kd.R_drew)); exact Kd.R_mono HO467.out (fun _ hk => ⟨hk.1.1.1.2, ⟨hk.1.1.2, ⟨hk.1.2, ⟨hk.2, hk.1.1.1.1.1.1⟩⟩⟩⟩)⟩, ⟨by (with_reducible repeat (first | apply Kd.R_alloc | apply Kd.R_drewN | apply Kd.R_drew)); exact Kd.R_mono HO470.out (fun _ hk => ⟨hk.1.1.1.2, ⟨hk.1.1.2, ⟨hk.1.2, ⟨hk.2, hk.1.1.1.1.1.1⟩⟩⟩⟩)⟩, ⟨qK BK420⟩, ⟨qK BK447⟩, ⟨qK BK460⟩, ⟨qK BK474⟩, ⟨qB HB⟩⟩
  case rest =>
   clear HC12
   try clear c1
   try clear c2
   try clear p2
   try clear c3
   try clear c4
   try clear c5
   try clear c7
   try clear c7b0
   try clear c11
   try clear c15
   try clear c18
   try clear c19
   try clear c21
   try clear c26
   try clear c27
   try clear c33
   try clear c34
   try clear c35
   try clear c40
   try clear c41
   try clear c42
   try clear c43
   try clear c45
   try clear c46
   try clear c49
   try clear c50
   try clear c51
   try clear c52
   try clear c53
   try clear c54
   (try clear hcz13_0 hcz13_1 hcz13_2 hcz13_3 hcz13_4 hcz13_5 hcz13_6 hcz13_7)
   (try clear hcz20_0 hcz20_1 hcz20_2 hcz20_3 hcz20_4 hcz20_5 hcz20_6 hcz20_7)
   (try clear hcz23_0 hcz23_1 hcz23_2 hcz23_3 hcz23_4 hcz23_5 hcz23_6 hcz23_7)
   (try clear hcz28_0 hcz28_1 hcz28_2 hcz28_3 hcz28_4 hcz28_5 hcz28_6 hcz28_7)
   (try clear hcz36_0 hcz36_1 hcz36_2 hcz36_3 hcz36_4 hcz36_5 hcz36_6 hcz36_7)
   (try clear hcz44_0 hcz44_1 hcz44_2 hcz44_3 hcz44_4 hcz44_5 hcz44_6 hcz44_7)
   (try clear hcz47_0 hcz47_1 hcz47_2 hcz47_3 hcz47_4 hcz47_5 hcz47_6 hcz47_7)
   (try clear hcz52_0 hcz52_1 hcz52_2 hcz52_3 hcz52_4 hcz52_5 hcz52_6 hcz52_7)
   (try clear hcz55_0 hcz55_1 hcz55_2 hcz55_3 hcz55_4 hcz55_5 hcz55_6 hcz55_7)
   (try clear hcz5_0 hcz5_1 hcz5_2 hcz5_3 hcz5_4 hcz5_5 hcz5_6 hcz5_7)
   (try clear hfz13_0 hfz13_1 hfz13_2 hfz13_3 hfz13_4 hfz13_5 hfz13_6 hfz13_7)
   (try clear hfz20_0 hfz20_1 hfz20_2 hfz20_3 hfz20_4 hfz20_5 hfz20_6 hfz20_7)
   (try clear hfz23_0 hfz23_1 hfz23_2 hfz23_3 hfz23_4 hfz23_5 hfz23_6 hfz23_7)
   (try clear hfz28_0 hfz28_1 hfz28_2 hfz28_3 hfz28_4 hfz28_5 hfz28_6 hfz28_7)
   (try clear hfz36_0 hfz36_1 hfz36_2 hfz36_3 hfz36_4 hfz36_5 hfz36_6 hfz36_7)
   (try clear hfz44_0 hfz44_1 hfz44_2 hfz44_3 hfz44_4 hfz44_5 hfz44_6 hfz44_7)
   (try clear hfz47_0 hfz47_1 hfz47_2 hfz47_3 hfz47_4 hfz47_5 hfz47_6 hfz47_7)
   (try clear hfz52_0 hfz52_1 hfz52_2 hfz52_3 hfz52_4 hfz52_5 hfz52_6 hfz52_7)
   (try clear hfz55_0 hfz55_1 hfz55_2 hfz55_3 hfz55_4 hfz55_5 hfz55_6 hfz55_7)
   (try clear hfz5_0 hfz5_1 hfz5_2 hfz5_3 hfz5_4 hfz5_5 hfz5_6 hfz5_7)
   obtain ⟨kq, x40_11, rfl, HA, HJ11, HO_448004, HO_448005, HO_461004, HO_461005, HO_475004, HO_475005, BK420, BK447, BK460, BK474, HB⟩ := hcut
   cases kq with
   | zero => exact absurd HA.out (by simp [laws_FnExactAnswer.j0])
   | succ kj11 =>
    have H := HA.out
    clear HA
    simp only [laws_FnExactAnswer.j0] at H
    by_cases c57 : x40_11 = true
    ·
     subst c57
     have H1 : (some false) = some r := by rw [if_pos rfl] at H; exact H
     clear H
     have H := H1
     clear H1
     exact absurd (hr_.out ▸ H) (by simp)
    ·
     replace c57 := Bool.eq_false_iff.mpr c57
     subst c57
     have H1 : ((laws_toSock.f kj11 a0_0 a0_1 a0_2 a0_3 l0_4 l0_5 a0_6 a0_7).bind fun bt476 => ((laws_eqSock.f kj11 t448 t449 t450 t451 t452 t455 t458 t459 bt476.1 bt476.2.1 bt476.2.2.1 bt476.2.2.2.1 bt476.2.2.2.2.1 bt476.2.2.2.2.2.1 bt476.2.2.2.2.2.2.1 bt476.2.2.2.2.2.2.2).bind fun t488 => (if t488 = true then ((laws_markSock.f kj11 t448 t449 t450 t451 t452 t455 t458 t459 1).bind fun bt489 => (if bt489.1 < 0 then (laws_FnExactAnswer.j1 kj11 t446 true a0_0 a0_1 a0_2 a0_3 l0_4 l0_5 a0_6 a0_7 t434 t435 t436 t437 t438 t441 t444 t445 t461 t462 t463 t464 t465 t468 t471 t472) else ((laws_eqSock.f kj11 t461 t462 t463 t464 t465 t468 t471 t472 t434 t435 t436 t437 t438 t441 t444 t445).bind fun t492 => (if t492 = true then (laws_FnExactAnswer.j1 kj11 t446 (t473 != t446) a0_0 a0_1 a0_2 a0_3 l0_4 l0_5 a0_6 a0_7 t434 t435 t436 t437 t438 t441 t444 t445 t461 t462 t463 t464 t465 t468 t471 t472) else (laws_FnExactAnswer.j1 kj11 t446 true a0_0 a0_1 a0_2 a0_3 l0_4 l0_5 a0_6 a0_7 t434 t435 t436 t437 t438 t441 t444 t445 t461 t462 t463 t464 t465 t468 t471 t472))))) else (some false)))) = some r := by rw [if_neg (show ¬ (false = true) by decide)] at H; exact H
     clear H
     have H := H1
     clear H1
     replace H := Option.bind_eq_some_iff.mp H
     obtain ⟨⟨t476, t477, t478, t479, t480, t483, t486, t487⟩, A580, H⟩ := H
     replace H : ((laws_eqSock.f kj11 t448 t449 t450 t451 t452 t455 t458 t459 t476 t477 t478 t479 t480 t483 t486 t487).bind fun t488 => (if t488 = true then ((laws_markSock.f kj11 t448 t449 t450 t451 t452 t455 t458 t459 1).bind fun bt489 => (if bt489.1 < 0 then (laws_FnExactAnswer.j1 kj11 t446 true a0_0 a0_1 a0_2 a0_3 l0_4 l0_5 a0_6 a0_7 t434 t435 t436 t437 t438 t441 t444 t445 t461 t462 t463 t464 t465 t468 t471 t472) else ((laws_eqSock.f kj11 t461 t462 t463 t464 t465 t468 t471 t472 t434 t435 t436 t437 t438 t441 t444 t445).bind fun t492 => (if t492 = true then (laws_FnExactAnswer.j1 kj11 t446 (t473 != t446) a0_0 a0_1 a0_2 a0_3 l0_4 l0_5 a0_6 a0_7 t434 t435 t436 t437 t438 t441 t444 t445 t461 t462 t463 t464 t465 t468 t471 t472) else (laws_FnExactAnswer.j1 kj11 t446 true a0_0 a0_1 a0_2 a0_3 l0_4 l0_5 a0_6 a0_7 t434 t435 t436 t437 t438 t441 t444 t445 t461 t462 t463 t464 t465 t468 t471 t472))))) else (some false))) = some r := H
     have A58 := Aside0.mk A580
     clear A580
     replace H := Option.bind_eq_some_iff.mp H
     obtain ⟨t488, A590, H⟩ := H
     replace H : (if t488 = true then ((laws_markSock.f kj11 t448 t449 t450 t451 t452 t455 t458 t459 1).bind fun bt489 => (if bt489.1 < 0 then (laws_FnExactAnswer.j1 kj11 t446 true a0_0 a0_1 a0_2 a0_3 l0_4 l0_5 a0_6 a0_7 t434 t435 t436 t437 t438 t441 t444 t445 t461 t462 t463 t464 t465 t468 t471 t472) else ((laws_eqSock.f kj11 t461 t462 t463 t464 t465 t468 t471 t472 t434 t435 t436 t437 t438 t441 t444 t445).bind fun t492 => (if t492 = true then (laws_FnExactAnswer.j1 kj11 t446 (t473 != t446) a0_0 a0_1 a0_2 a0_3 l0_4 l0_5 a0_6 a0_7 t434 t435 t436 t437 t438 t441 t444 t445 t461 t462 t463 t464 t465 t468 t471 t472) else (laws_FnExactAnswer.j1 kj11 t446 true a0_0 a0_1 a0_2 a0_3 l0_4 l0_5 a0_6 a0_7 t434 t435 t436 t437 t438 t441 t444 t445 t461 t462 t463 t464 t465 t468 t471 t472))))) else (some false)) = some r := H
     have A59 := Aside0.mk A590
     clear A590
     by_cases c60 : t488 = true
     ·
      subst c60
      have H1 : ((laws_markSock.f kj11 t448 t449 t450 t451 t452 t455 t458 t459 1).bind fun bt489 => (if bt489.1 < 0 then (laws_FnExactAnswer.j1 kj11 t446 true a0_0 a0_1 a0_2 a0_3 l0_4 l0_5 a0_6 a0_7 t434 t435 t436 t437 t438 t441 t444 t445 t461 t462 t463 t464 t465 t468 t471 t472) else ((laws_eqSock.f kj11 t461 t462 t463 t464 t465 t468 t471 t472 t434 t435 t436 t437 t438 t441 t444 t445).bind fun t492 => (if t492 = true then (laws_FnExactAnswer.j1 kj11 t446 (t473 != t446) a0_0 a0_1 a0_2 a0_3 l0_4 l0_5 a0_6 a0_7 t434 t435 t436 t437 t438 t441 t444 t445 t461 t462 t463 t464 t465 t468 t471 t472) else (laws_FnExactAnswer.j1 kj11 t446 true a0_0 a0_1 a0_2 a0_3 l0_4 l0_5 a0_6 a0_7 t434 t435 t436 t437 t438 t441 t444 t445 t461 t462 t463 t464 t465 t468 t471 t472))))) = some r := by rw [if_pos rfl] at H; exact H
      clear H
      have H := H1
      clear H1
      replace H := Option.bind_eq_some_iff.mp H
      obtain ⟨⟨t489, t490, t491⟩, A610, H⟩ := H
      replace H : (if t489 < 0 then (laws_FnExactAnswer.j1 kj11 t446 true a0_0 a0_1 a0_2 a0_3 l0_4 l0_5 a0_6 a0_7 t434 t435 t436 t437 t438 t441 t444 t445 t461 t462 t463 t464 t465 t468 t471 t472) else ((laws_eqSock.f kj11 t461 t462 t463 t464 t465 t468 t471 t472 t434 t435 t436 t437 t438 t441 t444 t445).bind fun t492 => (if t492 = true then (laws_FnExactAnswer.j1 kj11 t446 (t473 != t446) a0_0 a0_1 a0_2 a0_3 l0_4 l0_5 a0_6 a0_7 t434 t435 t436 t437 t438 t441 t444 t445 t461 t462 t463 t464 t465 t468 t471 t472) else (laws_FnExactAnswer.j1 kj11 t446 true a0_0 a0_1 a0_2 a0_3 l0_4 l0_5 a0_6 a0_7 t434 t435 t436 t437 t438 t441 t444 t445 t461 t462 t463 t464 t465 t468 t471 t472)))) = some r := H
      have A61 := Aside0.mk A610
      clear A610
      have HC62 := Aside0.mk H
      clear H
      try go_wp2
      replace HO_448004 := am_ (Kd.R_drew HO_448004.out)
      replace HO_448005 := am_ (Kd.R_drew HO_448005.out)
      replace HO_461004 := am_ (Kd.R_drew HO_461004.out)
      replace HO_461005 := am_ (Kd.R_drew HO_461005.out)
      replace HO_475004 := am_ (Kd.R_drew HO_475004.out)
      replace HO_475005 := am_ (Kd.R_drew HO_475005.out)
      replace BK420 := am_ (blk_drew BK420.out)
      replace BK447 := am_ (blk_drew BK447.out)
      replace BK460 := am_ (blk_drew BK460.out)
      replace BK474 := am_ (blk_drew BK474.out)
      replace HB := am_ (below_drew1 HB.out)
      refine start_ (n := 5) (S := fun w' => w'.cell? ⟨gb460, 0, none⟩ = some (.int .i64 t448) ∧ w'.cell? ⟨gb460, 1, none⟩ = some (.int .i64 t449) ∧ w'.cell? ⟨gb460, 2, none⟩ = some (.int .i64 t450) ∧ w'.cell? ⟨gb460, 3, none⟩ = some (.bool t451) ∧ w'.cell? ⟨gb460, 4, none⟩ = some (.slice Ao29 t452.length co29) ∧ w'.cell? ⟨gb460, 5, none⟩ = some (.slice Ao30 t455.length co30) ∧ w'.cell? ⟨gb460, 6, none⟩ = some (.int .i64 t458) ∧ w'.cell? ⟨gb460, 7, none⟩ = some (.int .i64 t459) ∧ w'.cell? ⟨gb420, 0, none⟩ = some (.int .i64 a0_0) ∧ w'.cell? ⟨gb420, 1, none⟩ = some (.int .i64 a0_1) ∧ w'.cell? ⟨gb420, 2, none⟩ = some (.int .i64 a0_2) ∧ w'.cell? ⟨gb420, 3, none⟩ = some (.bool a0_3) ∧ w'.cell? ⟨gb420, 4, none⟩ = some (.slice A0_4 l0_4.length c0_4) ∧ w'.cell? ⟨gb420, 5, none⟩ = some (.slice A0_5 l0_5.length c0_5) ∧ w'.cell? ⟨gb420, 6, none⟩ = some (.int .i64 a0_6) ∧ w'.cell? ⟨gb420, 7, none⟩ = some (.int .i64 a0_7)) (ds := []) #[false, false, false, false, false] (by kernel_rfl) rfl rfl (cw8 BK460.out (cz8 BK420.out)) (fun hHeld => ?_)
      generalize wc.drew = w63 at HO_448004 HO_448005 HO_461004 HO_461005 HO_475004 HO_475005 BK420 BK447 BK460 BK474 HB hHeld ⊢
      refine take_ (i := 0) (N := some 41) (v := ?_) (a' := ?_) #[true, false, false, false, false] rfl rfl (by kernel_rfl) (fun _ _ _ h => h) (Or.inl ⟨by rfl, ?_⟩) hHeld ?_ ?_
      rotate_left
      ·
       rintro w' ⟨s0, s1, s2, s3, s4, s5, s6, s7, s8, s9, s10, s11, s12, s13, s14, s15⟩
       go_simp
       with_reducible rfl
      rotate_left
      ·
       simp only [Act.put, List.setIfInBounds_toArray, List.set_cons_zero, List.set_cons_succ, i64_w, i32_w]
       rfl
      refine take_ (i := 1) (N := some 42) (v := ?_) (a' := ?_) #[true, true, false, false, false] rfl rfl (by kernel_rfl) (fun _ _ _ h => h) (Or.inl ⟨by rfl, ?_⟩) hHeld ?_ ?_
      rotate_left
      ·
       rintro w' ⟨s0, s1, s2, s3, s4, s5, s6, s7, s8, s9, s10, s11, s12, s13, s14, s15⟩
       go_simp
       with_reducible rfl
      rotate_left
      ·
       simp only [Act.put, List.setIfInBounds_toArray, List.set_cons_zero, List.set_cons_succ, i64_w, i32_w]
       rfl
      refine one_ (i := 2) (N := some 43) #[true, true, true, false, false] rfl rfl (by kernel_rfl) (by decide) (fun K hK => ?_)
      refine goes_ Try.func18 (by kernel_rfl) rfl #[.agg #[.int .i64 a0_0, .int .i64 a0_1, .int .i64 a0_2, .bool a0_3, .slice A0_4 l0_4.length c0_4, .slice A0_5 l0_5.length c0_5, .int .i64 a0_6, .int .i64 a0_7]] (by rfl) rfl rfl (by (try simp only [List.map_toArray, List.map_cons, List.map_nil]); first | done | rfl | (simp only [List.length_drop, List.length_take]; rfl)) ?_
      with_reducible refine (laws_toSock.calls kj11 a0_0 a0_1 a0_2 a0_3 _ _ l0_4 _ _ l0_5 a0_6 a0_7 t476 t477 t478 t479 t480 t483 t486 t487 _ ?side1 ?side2 ?side3 ?side4 A58.out).mono ?_
      (case side1 => exact qC (Kd.C_below HR0_4.out HB.out))
      (case side2 => exact HC0_4.out)
      (case side3 => exact qC (Kd.C_below HR0_5.out HB.out))
      (case side4 => exact HC0_5.out)
      rintro e w64 ⟨v481, v484, rfl, ho0, ho1, hb⟩
      refine ⟨_, rfl, ?_⟩
      have HO482 := am_ (Kd.R_lower (Kd.R_new' (Kd.R_new' (Kd.R_new' (Kd.R_new' (Kd.R_new' (Kd.R_new' ho0 (Kd.R_lt (qR HO_448004))) (Kd.R_lt (qR HO_448005))) (Kd.R_lt (qR HO_461004))) (Kd.R_lt (qR HO_461005))) (Kd.R_lt (qR HO_475004))) (Kd.R_lt (qR HO_475005))) (below_size (qB HB)))
      have HO485 := am_ (Kd.R_lower (Kd.R_new' (Kd.R_new' (Kd.R_new' (Kd.R_new' (Kd.R_new' (Kd.R_new' ho1 (Kd.R_lt (qR HO_448004))) (Kd.R_lt (qR HO_448005))) (Kd.R_lt (qR HO_461004))) (Kd.R_lt (qR HO_461005))) (Kd.R_lt (qR HO_475004))) (Kd.R_lt (qR HO_475005))) (below_size (qB HB)))
      replace HO_448004 := am_ (Kd.R_mono (Kd.R_told (Kd.R_told (Kd.R_old (qR HO_448004) hb) (Kd.R_base ho0)) (Kd.R_base ho1)) (fun _ h_ => h_.1))
      replace HO_448005 := am_ (Kd.R_mono (Kd.R_told (Kd.R_told (Kd.R_old (qR HO_448005) hb) (Kd.R_base ho0)) (Kd.R_base ho1)) (fun _ h_ => h_.1))
      replace HO_461004 := am_ (Kd.R_mono (Kd.R_told (Kd.R_told (Kd.R_old (qR HO_461004) hb) (Kd.R_base ho0)) (Kd.R_base ho1)) (fun _ h_ => h_.1))
      replace HO_461005 := am_ (Kd.R_mono (Kd.R_told (Kd.R_told (Kd.R_old (qR HO_461005) hb) (Kd.R_base ho0)) (Kd.R_base ho1)) (fun _ h_ => h_.1))
      replace HO_475004 := am_ (Kd.R_mono (Kd.R_told (Kd.R_told (Kd.R_old (qR HO_475004) hb) (Kd.R_base ho0)) (Kd.R_base ho1)) (fun _ h_ => h_.1))
      replace HO_475005 := am_ (Kd.R_mono (Kd.R_told (Kd.R_told (Kd.R_old (qR HO_475005) hb) (Kd.R_base ho0)) (Kd.R_base ho1)) (fun _ h_ => h_.1))
      replace BK420 := am_ (blk_below (qK BK420) hb)
      replace BK447 := am_ (blk_below (qK BK447) hb)
      replace BK460 := am_ (blk_below (qK BK460) hb)
      replace BK474 := am_ (blk_below (qK BK474) hb)
      replace HB := am_ (below_step (qB HB) hb)
      (try clear hb ho0 ho1)
      obtain ⟨Ao65, co65, eo65⟩ := Kd.R_slice HO482.out
      (first | subst eo65 | (injection eo65 with f1_ f2_ f3_; have f4_ := f1_.symm; have f5_ := f3_.symm; clear f1_ f2_ f3_; subst f4_; subst f5_))
      obtain ⟨Ao66, co66, eo66⟩ := Kd.R_slice HO485.out
      (first | subst eo66 | (injection eo66 with f1_ f2_ f3_; have f4_ := f1_.symm; have f5_ := f3_.symm; clear f1_ f2_ f3_; subst f4_; subst f5_))
      refine hK.out _ _ (cw8 BK460.out (cz8 BK420.out)) (fun hHeld => ?_)
      clear hK K
      refine norm_ (a' := ?_) ?_ ?_
      rotate_left
      ·
       show Act.put _ (some 43) _ = _
       simp only [Act.put, List.setIfInBounds_toArray, List.set_cons_zero, List.set_cons_succ, i64_w, i32_w]
       rfl
      refine one_ (i := 3) (N := some 44) #[true, true, true, true, false] rfl rfl (by kernel_rfl) (by decide) (fun K hK => ?_)
      refine goes_ Try.func21 (by kernel_rfl) rfl #[.agg #[.int .i64 t448, .int .i64 t449, .int .i64 t450, .bool t451, .slice Ao29 t452.length co29, .slice Ao30 t455.length co30, .int .i64 t458, .int .i64 t459], .agg #[.int .i64 t476, .int .i64 t477, .int .i64 t478, .bool t479, .slice Ao65 t480.length co65, .slice Ao66 t483.length co66, .int .i64 t486, .int .i64 t487]] (by rfl) rfl rfl (by (try simp only [List.map_toArray, List.map_cons, List.map_nil]); first | done | rfl | (simp only [List.length_drop, List.length_take]; rfl)) ?_
      with_reducible refine (laws_eqSock.calls kj11 t448 t449 t450 t451 _ _ t452 _ _ t455 t458 t459 t476 t477 t478 t479 _ _ t480 _ _ t483 t486 t487 true _ ?side1 ?side2 ?side3 ?side4 ?side5 ?side6 ?side7 ?side8 A59.out).mono ?_
      (case side1 => exact qC ((Kd.R_reads' HO_461004.out).2.2))
      (case side2 => exact (Kd.R_reads' HO_461004.out).2.1)
      (case side3 => exact qC ((Kd.R_reads' HO_461005.out).2.2))
      (case side4 => exact (Kd.R_reads' HO_461005.out).2.1)
      (case side5 => exact qC ((Kd.R_reads' HO482.out).2.2))
      (case side6 => exact (Kd.R_reads' HO482.out).2.1)
      (case side7 => exact qC ((Kd.R_reads' HO485.out).2.2))
      (case side8 => exact (Kd.R_reads' HO485.out).2.1)
      rintro e w67 ⟨rfl, hb⟩
      refine ⟨_, rfl, ?_⟩
      replace HO_448004 := am_ (Kd.R_below (qR HO_448004) hb)
      replace HO_448005 := am_ (Kd.R_below (qR HO_448005) hb)
      replace HO_461004 := am_ (Kd.R_below (qR HO_461004) hb)
      replace HO_461005 := am_ (Kd.R_below (qR HO_461005) hb)
      replace HO_475004 := am_ (Kd.R_below (qR HO_475004) hb)
      replace HO_475005 := am_ (Kd.R_below (qR HO_475005) hb)
      replace HO482 := am_ (Kd.R_below (qR HO482) hb)
      replace HO485 := am_ (Kd.R_below (qR HO485) hb)
      replace BK420 := am_ (blk_below (qK BK420) hb)
      replace BK447 := am_ (blk_below (qK BK447) hb)
      replace BK460 := am_ (blk_below (qK BK460) hb)
      replace BK474 := am_ (blk_below (qK BK474) hb)
      replace HB := am_ (below_step (qB HB) hb)
      (try clear hb)
      refine hK.out _ _ (cw8 BK460.out (cz8 BK420.out)) (fun hHeld => ?_)
      clear hK K
      refine norm_ (a' := ?_) ?_ ?_
      rotate_left
      ·
       show Act.put _ (some 44) _ = _
       simp only [Act.put, List.setIfInBounds_toArray, List.set_cons_zero, List.set_cons_succ, i64_w, i32_w]
       rfl
      refine pure_ (i := 4) (N := some 45) (v := ?_) (a' := ?_) #[true, true, true, true, true] rfl rfl (by kernel_rfl) (fun _ _ _ h => h) (Or.inl ⟨by rfl, ?_⟩) ?_ ?_
      rotate_left
      ·
       intro w'
       go_simp
       with_reducible rfl
      rotate_left
      ·
       simp only [Act.put, List.setIfInBounds_toArray, List.set_cons_zero, List.set_cons_succ, i64_w, i32_w]
       rfl
      refine done_ (by kernel_rfl) ?_
      have hnb68 := NB460_420.out
      have hnc68 := NB420_460.out
      have hnb69 := NB460_447.out
      have hnc69 := NB447_460.out
      have hnb70 := NB460_474.out
      have hnc70 := NB474_460.out
      obtain ⟨hcz71_0, hcz71_1, hcz71_2, hcz71_3, hcz71_4, hcz71_5, hcz71_6, hcz71_7⟩ := cz8 BK460.out
      obtain ⟨hfz71_0, hfz71_1, hfz71_2, hfz71_3, hfz71_4, hfz71_5, hfz71_6, hfz71_7⟩ := fz8 BK460.out
      go_upto_region 14 with (first | ((with_reducible refine gate_callee (f := 22) rfl ?_); refine goesL_ (some 48) rfl rfl Try.func22 (by kernel_rfl) rfl #[.agg #[.int .i64 t448, .int .i64 t449, .int .i64 t450, .bool t451, .slice Ao29 t452.length co29, .slice Ao30 t455.length co30, .int .i64 t458, .int .i64 t459], .int .i64 1] rfl (by (try simp only [List.map_toArray, List.map_cons, List.map_nil]); first | done | rfl | (simp only [List.length_drop, List.length_take]; rfl)) ?_; (with_reducible refine (laws_markSock.calls kj11 t448 t449 t450 t451 (fun k_ => some k_ = (.slice Ao29 t452.length co29 : Value).ownBlock) (.slice Ao29 t452.length co29) t452 (fun k_ => some k_ = (.slice Ao30 t455.length co30 : Value).ownBlock) (.slice Ao30 t455.length co30) t455 t458 t459 1 t489 t490 t491 w _ ?side1 ?side2 ?side3 ?side4 ?side5 A61.out).mono ?_); (case side1 => repeat (first | (with_reducible first | exact HB.out | apply below_alloc | apply pw_below_drewN | apply below_drew1 | refine below_set ?_ GE420.out | refine below_set ?_ GE447.out | refine below_set ?_ GE460.out | refine below_set ?_ GE474.out) | exact HB.out)); (case side2 => exact Kd.R_tight rfl HO_461004.out); (case side3 => exact fun k_ e_ => (HO_461004.out.1 k_ e_.symm).1.1.2.2.1); (case side4 => exact Kd.R_tight rfl HO_461005.out); (case side5 => exact fun k_ e_ => (HO_461005.out.1 k_ e_.symm).1.1.2.2.1); rintro e w72 ⟨rfl, hy0, hy1, hb, hkp⟩; refine ⟨_, rfl, ?_⟩; replace HO_448004 := am_ (Kd.R_mono (ok' := fun k_ => some k_ ≠ (.slice Ao22 t441.length co22 : Value).ownBlock ∧ some k_ ≠ (.slice Ao29 t452.length co29 : Value).ownBlock ∧ some k_ ≠ (.slice Ao30 t455.length co30 : Value).ownBlock ∧ some k_ ≠ (.slice Ao37 t465.length co37 : Value).ownBlock ∧ some k_ ≠ (.slice Ao38 t468.length co38 : Value).ownBlock ∧ some k_ ≠ (.slice Ao65 t480.length co65 : Value).ownBlock ∧ some k_ ≠ (.slice Ao66 t483.length co66 : Value).ownBlock) (Kd.R_keptB (HO_448004.out) hkp (fun k_ hk_ hs_ => Or.elim hs_ (fun e_ => (hk_.1.1.2.1) e_) (fun e_ => (hk_.1.1.2.2.1) e_))) (fun k_ hk_ => ⟨hk_.1.1.1.1, hk_.1.1.1.2.1, hk_.1.1.1.2.2.1, hk_.1.1.1.2.2.2.1, hk_.1.1.1.2.2.2.2, hk_.1.1.2, hk_.1.2⟩)); replace HO_448005 := am_ (Kd.R_mono (ok' := fun k_ => some k_ ≠ (.slice Ao21 t438.length co21 : Value).ownBlock ∧ some k_ ≠ (.slice Ao29 t452.length co29 : Value).ownBlock ∧ some k_ ≠ (.slice Ao30 t455.length co30 : Value).ownBlock ∧ some k_ ≠ (.slice Ao37 t465.length co37 : Value).ownBlock ∧ some k_ ≠ (.slice Ao38 t468.length co38 : Value).ownBlock ∧ some k_ ≠ (.slice Ao65 t480.length co65 : Value).ownBlock ∧ some k_ ≠ (.slice Ao66 t483.length co66 : Value).ownBlock) (Kd.R_keptB (HO_448005.out) hkp (fun k_ hk_ hs_ => Or.elim hs_ (fun e_ => (hk_.1.1.2.1) e_) (fun e_ => (hk_.1.1.2.2.1) e_))) (fun k_ hk_ => ⟨hk_.1.1.1.1, hk_.1.1.1.2.1, hk_.1.1.1.2.2.1, hk_.1.1.1.2.2.2.1, hk_.1.1.1.2.2.2.2, hk_.1.1.2, hk_.1.2⟩)); replace HO_475004 := am_ (Kd.R_mono (ok' := fun k_ => some k_ ≠ (.slice Ao21 t438.length co21 : Value).ownBlock ∧ some k_ ≠ (.slice Ao22 t441.length co22 : Value).ownBlock ∧ some k_ ≠ (.slice Ao29 t452.length co29 : Value).ownBlock ∧ some k_ ≠ (.slice Ao30 t455.length co30 : Value).ownBlock ∧ some k_ ≠ (.slice Ao38 t468.length co38 : Value).ownBlock ∧ some k_ ≠ (.slice Ao65 t480.length co65 : Value).ownBlock ∧ some k_ ≠ (.slice Ao66 t483.length co66 : Value).ownBlock) (Kd.R_keptB (HO_475004.out) hkp (fun k_ hk_ hs_ => Or.elim hs_ (fun e_ => (hk_.1.1.2.2.1) e_) (fun e_ => (hk_.1.1.2.2.2.1) e_))) (fun k_ hk_ => ⟨hk_.1.1.1.1, hk_.1.1.1.2.1, hk_.1.1.1.2.2.1, hk_.1.1.1.2.2.2.1, hk_.1.1.1.2.2.2.2, hk_.1.1.2, hk_.1.2⟩)); replace HO_475005 := am_ (Kd.R_mono (ok' := fun k_ => some k_ ≠ (.slice Ao21 t438.length co21 : Value).ownBlock ∧ some k_ ≠ (.slice Ao22 t441.length co22 : Value).ownBlock ∧ some k_ ≠ (.slice Ao29 t452.length co29 : Value).ownBlock ∧ some k_ ≠ (.slice Ao30 t455.length co30 : Value).ownBlock ∧ some k_ ≠ (.slice Ao37 t465.length co37 : Value).ownBlock ∧ some k_ ≠ (.slice Ao65 t480.length co65 : Value).ownBlock ∧ some k_ ≠ (.slice Ao66 t483.length co66 : Value).ownBlock) (Kd.R_keptB (HO_475005.out) hkp (fun k_ hk_ hs_ => Or.elim hs_ (fun e_ => (hk_.1.1.2.2.1) e_) (fun e_ => (hk_.1.1.2.2.2.1) e_))) (fun k_ hk_ => ⟨hk_.1.1.1.1, hk_.1.1.1.2.1, hk_.1.1.1.2.2.1, hk_.1.1.1.2.2.2.1, hk_.1.1.1.2.2.2.2, hk_.1.1.2, hk_.1.2⟩)); replace BK420 := am_ (blk_kept (qK BK420) hkp (fun hs_ => Or.elim hs_ (fun e_ => (fun e_ => (Kd.R_ne HO_461004.out BK420.out (by decide)) e_) e_) (fun e_ => (fun e_ => (Kd.R_ne HO_461005.out BK420.out (by decide)) e_) e_))); replace BK447 := am_ (blk_kept (qK BK447) hkp (fun hs_ => Or.elim hs_ (fun e_ => (fun e_ => (Kd.R_ne HO_461004.out BK447.out (by decide)) e_) e_) (fun e_ => (fun e_ => (Kd.R_ne HO_461005.out BK447.out (by decide)) e_) e_))); replace BK460 := am_ (blk_kept (qK BK460) hkp (fun hs_ => Or.elim hs_ (fun e_ => (fun e_ => (Kd.R_ne HO_461004.out BK460.out (by decide)) e_) e_) (fun e_ => (fun e_ => (Kd.R_ne HO_461005.out BK460.out (by decide)) e_) e_))); replace BK474 := am_ (blk_kept (qK BK474) hkp (fun hs_ => Or.elim hs_ (fun e_ => (fun e_ => (Kd.R_ne HO_461004.out BK474.out (by decide)) e_) e_) (fun e_ => (fun e_ => (Kd.R_ne HO_461005.out BK474.out (by decide)) e_) e_))); replace HO_461004 := am_ (Kd.R_reok rfl hy0 (fun k_ e_ => HO_461004.out.1 k_ e_)); replace HO_461005 := am_ (Kd.R_reok rfl hy1 (fun k_ e_ => HO_461005.out.1 k_ e_)); replace HO482 := am_ (Kd.R_mono (ok' := fun k_ => some k_ ≠ (.slice Ao21 t438.length co21 : Value).ownBlock ∧ some k_ ≠ (.slice Ao22 t441.length co22 : Value).ownBlock ∧ some k_ ≠ (.slice Ao29 t452.length co29 : Value).ownBlock ∧ some k_ ≠ (.slice Ao30 t455.length co30 : Value).ownBlock ∧ some k_ ≠ (.slice Ao37 t465.length co37 : Value).ownBlock ∧ some k_ ≠ (.slice Ao38 t468.length co38 : Value).ownBlock ∧ some k_ ≠ (.slice Ao66 t483.length co66 : Value).ownBlock) (Kd.R_keptB (HO482.out) hkp (fun k_ hk_ hs_ => Or.elim hs_ (fun e_ => (hk_.1.1.1.2) e_) (fun e_ => (hk_.1.1.2) e_))) (fun k_ hk_ => ⟨hk_.1.1.1.1.1.1.2, hk_.1.1.1.1.1.2, hk_.1.1.1.1.2, hk_.1.1.1.2, hk_.1.1.2, hk_.1.2, hk_.1.1.1.1.1.1.1⟩)); replace HO485 := am_ (Kd.R_mono (ok' := fun k_ => some k_ ≠ (.slice Ao21 t438.length co21 : Value).ownBlock ∧ some k_ ≠ (.slice Ao22 t441.length co22 : Value).ownBlock ∧ some k_ ≠ (.slice Ao29 t452.length co29 : Value).ownBlock ∧ some k_ ≠ (.slice Ao30 t455.length co30 : Value).ownBlock ∧ some k_ ≠ (.slice Ao37 t465.length co37 : Value).ownBlock ∧ some k_ ≠ (.slice Ao38 t468.length co38 : Value).ownBlock ∧ some k_ ≠ (.slice Ao65 t480.length co65 : Value).ownBlock) (Kd.R_keptB (HO485.out) hkp (fun k_ hk_ hs_ => Or.elim hs_ (fun e_ => (hk_.1.1.1.2) e_) (fun e_ => (hk_.1.1.2) e_))) (fun k_ hk_ => ⟨hk_.1.1.1.1.1.1.2, hk_.1.1.1.1.1.2, hk_.1.1.1.1.2, hk_.1.1.1.2, hk_.1.1.2, hk_.1.2, hk_.1.1.1.1.1.1.1⟩)); replace HB := am_ (hb); (try clear hb); (try clear hkp); (try clear hy0); (try clear hy1)))
      (try simp only [Act.put, List.setIfInBounds_toArray, List.set_cons_zero, List.set_cons_succ])
      go_cut [61] (fun v61 wc => ∃ (kq : Nat) (x61_61 : Bool), v61 = .bool x61_61 ∧ Aside0 (laws_FnExactAnswer.j1 kq t446 x61_61 a0_0 a0_1 a0_2 a0_3 l0_4 l0_5 a0_6 a0_7 t434 t435 t436 t437 t438 t441 t444 t445 t461 t462 t463 t464 t465 t468 t471 t472 = some r) ∧ Aside0 (kq ≤ kj11) ∧ Aside0 (Kd.R (Kd.int .u8) 5 wc w.heap.size (fun k_ => some k_ ≠ ((.slice Ao22 t441.length co22) : Value).ownBlock ∧ some k_ ≠ ((.slice Ao29 t452.length co29) : Value).ownBlock ∧ some k_ ≠ ((.slice Ao30 t455.length co30) : Value).ownBlock ∧ some k_ ≠ ((.slice Ao37 t465.length co37) : Value).ownBlock ∧ some k_ ≠ ((.slice Ao38 t468.length co38) : Value).ownBlock) (.slice Ao21 t438.length co21) t438) ∧ Aside0 (Kd.R (Kd.int .u8) 5 wc w.heap.size (fun k_ => some k_ ≠ ((.slice Ao21 t438.length co21) : Value).ownBlock ∧ some k_ ≠ ((.slice Ao29 t452.length co29) : Value).ownBlock ∧ some k_ ≠ ((.slice Ao30 t455.length co30) : Value).ownBlock ∧ some k_ ≠ ((.slice Ao37 t465.length co37) : Value).ownBlock ∧ some k_ ≠ ((.slice Ao38 t468.length co38) : Value).ownBlock) (.slice Ao22 t441.length co22) t441) ∧ Aside0 (Kd.R (Kd.int .u8) 5 wc w.heap.size (fun k_ => some k_ ≠ ((.slice Ao21 t438.length co21) : Value).ownBlock ∧ some k_ ≠ ((.slice Ao22 t441.length co22) : Value).ownBlock ∧ some k_ ≠ ((.slice Ao30 t455.length co30) : Value).ownBlock ∧ some k_ ≠ ((.slice Ao37 t465.length co37) : Value).ownBlock ∧ some k_ ≠ ((.slice Ao38 t468.length co38) : Value).ownBlock) (.slice Ao29 t452.length co29) t490) ∧ Aside0 (Kd.R (Kd.int .u8) 5 wc w.heap.size (fun k_ => some k_ ≠ ((.slice Ao21 t438.length co21) : Value).ownBlock ∧ some k_ ≠ ((.slice Ao22 t441.length co22) : Value).ownBlock ∧ some k_ ≠ ((.slice Ao29 t452.length co29) : Value).ownBlock ∧ some k_ ≠ ((.slice Ao37 t465.length co37) : Value).ownBlock ∧ some k_ ≠ ((.slice Ao38 t468.length co38) : Value).ownBlock) (.slice Ao30 t455.length co30) t491) ∧ Aside0 (Kd.R (Kd.int .u8) 5 wc w.heap.size (fun k_ => some k_ ≠ ((.slice Ao21 t438.length co21) : Value).ownBlock ∧ some k_ ≠ ((.slice Ao22 t441.length co22) : Value).ownBlock ∧ some k_ ≠ ((.slice Ao29 t452.length co29) : Value).ownBlock ∧ some k_ ≠ ((.slice Ao30 t455.length co30) : Value).ownBlock ∧ some k_ ≠ ((.slice Ao38 t468.length co38) : Value).ownBlock) (.slice Ao37 t465.length co37) t465) ∧ Aside0 (Kd.R (Kd.int .u8) 5 wc w.heap.size (fun k_ => some k_ ≠ ((.slice Ao21 t438.length co21) : Value).ownBlock ∧ some k_ ≠ ((.slice Ao22 t441.length co22) : Value).ownBlock ∧ some k_ ≠ ((.slice Ao29 t452.length co29) : Value).ownBlock ∧ some k_ ≠ ((.slice Ao30 t455.length co30) : Value).ownBlock ∧ some k_ ≠ ((.slice Ao37 t465.length co37) : Value).ownBlock) (.slice Ao38 t468.length co38) t468) ∧ Aside0 (wc.heap[gb420]? = some (.cells #[.int .i64 a0_0, .int .i64 a0_1, .int .i64 a0_2, .bool a0_3, (.slice A0_4 l0_4.length c0_4), (.slice A0_5 l0_5.length c0_5), .int .i64 a0_6, .int .i64 a0_7] 24 (0, 0))) ∧ Aside0 (wc.heap[gb447]? = some (.cells #[.int .i64 t434, .int .i64 t435, .int .i64 t436, .bool t437, (.slice Ao21 t438.length co21), (.slice Ao22 t441.length co22), .int .i64 t444, .int .i64 t445] 29 (0, 0))) ∧ Aside0 (wc.heap[gb460]? = some (.cells #[.int .i64 t448, .int .i64 t449, .int .i64 t450, .bool t451, (.slice Ao29 t452.length co29), (.slice Ao30 t455.length co30), .int .i64 t458, .int .i64 t459] 29 (0, 0))) ∧ Aside0 (wc.heap[gb474]? = some (.cells #[.int .i64 t461, .int .i64 t462, .int .i64 t463, .bool t464, (.slice Ao37 t465.length co37), (.slice Ao38 t468.length co38), .int .i64 t471, .int .i64 t472] 29 (0, 0))) ∧ Aside0 (Below w.heap.size w wc))
      case first =>
       have H := HC62.out
       clear HC62
       by_cases c73 : t489 < 0
       ·
        rw [if_pos c73] at H
        have c73b0 : decide (t489 < 0) = true := decide_eq_true c73
        clear c73
        (first | rw [c73b0] | (simp only [i64_w, i32_w]; rw [c73b0]) | skip)
        have H' := Aside0.mk H
        clear H
        go_wp2
        go_meet
        case rel => exact ⟨_, (true), (by first | rfl | (simp; done) | (simp [*]; done) | (simp [Go.Proofs.YtahfemlfdpbkkaaV.bne_nil, Go.Proofs.YtahfemlfdpbkkaaV.beq_nil]; done)), H', ⟨by have := HJ11.out; first | omega | exact Nat.le_refl _⟩, ⟨by (with_reducible repeat (first | apply Kd.R_alloc | apply Kd.R_drewN | apply Kd.R_drew)); exact Kd.R_mono HO_448004.out (fun _ hk => ⟨hk.1, ⟨hk.2.1, ⟨hk.2.2.1, ⟨hk.2.2.2.1, hk.2.2.2.2.1⟩⟩⟩⟩)⟩, ⟨by (with_reducible repeat (first | apply Kd.R_alloc | apply Kd.R_drewN | apply Kd.R_drew)); exact Kd.R_mono HO_448005.out (fun _ hk => ⟨hk.1, ⟨hk.2.1, ⟨hk.2.2.1, ⟨hk.2.2.2.1, hk.2.2.2.2.1⟩⟩⟩⟩)⟩, ⟨by (with_reducible repeat (first | apply Kd.R_alloc | apply Kd.R_drewN | apply Kd.R_drew)); exact Kd.R_mono HO_461004.out (fun _ hk => ⟨hk.1.1.1, ⟨hk.1.1.2.1, ⟨hk.1.1.2.2.1, ⟨hk.1.1.2.2.2.1, hk.1.1.2.2.2.2⟩⟩⟩⟩)⟩, ⟨by (with_reducible repeat (first | apply Kd.R_alloc | apply Kd.R_drewN | apply Kd.R_drew)); exact Kd.R_mono HO_461005.out (fun _ hk => ⟨hk.1.1.1, ⟨hk.1.1.2.1, ⟨hk.1.1.2.2.1, ⟨hk.1.1.2.2.2.1, hk.1.1.2.2.2.2⟩⟩⟩⟩)⟩, ⟨by (with_reducible repeat (first | apply Kd.R_alloc | apply Kd.R_drewN | apply Kd.R_drew)); exact Kd.R_mono HO_475004.out (fun _ hk => ⟨hk.1, ⟨hk.2.1, ⟨hk.2.2.1, ⟨hk.2.2.2.1, hk.2.2.2.2.1⟩⟩⟩⟩)⟩, ⟨by (with_reducible repeat (first | apply Kd.R_alloc | apply Kd.R_drewN | apply Kd.R_drew)); exact Kd.R_mono HO_475005.out (fun _ hk => ⟨hk.1, ⟨hk.2.1, ⟨hk.2.2.1, ⟨hk.2.2.2.1, hk.2.2.2.2.1⟩⟩⟩⟩)⟩, ⟨qK BK420⟩, ⟨qK BK447⟩, ⟨qK BK460⟩, ⟨qK BK474⟩, ⟨qB HB⟩⟩
       ·
        rw [if_neg c73] at H
        have c73b0 : decide (t489 < 0) = false := decide_eq_false c73
        clear c73
        (first | rw [c73b0] | (simp only [i64_w, i32_w]; rw [c73b0]) | skip)
        replace H := Option.bind_eq_some_iff.mp H
        obtain ⟨t492, A740, H⟩ := H
        replace H : (if t492 = true then (laws_FnExactAnswer.j1 kj11 t446 (t473 != t446) a0_0 a0_1 a0_2 a0_3 l0_4 l0_5 a0_6 a0_7 t434 t435 t436 t437 t438 t441 t444 t445 t461 t462 t463 t464 t465 t468 t471 t472) else (laws_FnExactAnswer.j1 kj11 t446 true a0_0 a0_1 a0_2 a0_3 l0_4 l0_5 a0_6 a0_7 t434 t435 t436 t437 t438 t441 t444 t445 t461 t462 t463 t464 t465 t468 t471 t472)) = some r := H
        have A74 := Aside0.mk A740
        clear A740
        by_cases c75 : t492 = true
        ·
         subst c75
         have H1 : (laws_FnExactAnswer.j1 kj11 t446 (t473 != t446) a0_0 a0_1 a0_2 a0_3 l0_4 l0_5 a0_6 a0_7 t434 t435 t436 t437 t438 t441 t444 t445 t461 t462 t463 t464 t465 t468 t471 t472) = some r := by rw [if_pos rfl] at H; exact H
         clear H
         have H := H1
         clear H1
         have H' := Aside0.mk H
         clear H
         have hnb76 := NB474_420.out
         have hnc76 := NB420_474.out
         have hnb77 := NB474_447.out
         have hnc77 := NB447_474.out
         have hnb78 := NB474_460.out
         have hnc78 := NB460_474.out
         obtain ⟨hcz79_0, hcz79_1, hcz79_2, hcz79_3, hcz79_4, hcz79_5, hcz79_6, hcz79_7⟩ := cz8 BK474.out
         obtain ⟨hfz79_0, hfz79_1, hfz79_2, hfz79_3, hfz79_4, hfz79_5, hfz79_6, hfz79_7⟩ := fz8 BK474.out
         have hnb80 := NB447_420.out
         have hnc80 := NB420_447.out
         have hnb81 := NB447_460.out
         have hnc81 := NB460_447.out
         obtain ⟨hcz82_0, hcz82_1, hcz82_2, hcz82_3, hcz82_4, hcz82_5, hcz82_6, hcz82_7⟩ := cz8 BK447.out
         obtain ⟨hfz82_0, hfz82_1, hfz82_2, hfz82_3, hfz82_4, hfz82_5, hfz82_6, hfz82_7⟩ := fz8 BK447.out
         go_wp2_with (first | (go_at_call 21; (with_reducible refine (laws_eqSock.calls kj11 t461 t462 t463 t464 _ _ t465 _ _ t468 t471 t472 t434 t435 t436 t437 _ _ t438 _ _ t441 t444 t445 true _ ?side1 ?side2 ?side3 ?side4 ?side5 ?side6 ?side7 ?side8 A74.out).mono ?_); (case side1 => exact qC ((Kd.R_reads' HO_475004.out).2.2)); (case side2 => exact (Kd.R_reads' HO_475004.out).2.1); (case side3 => exact qC ((Kd.R_reads' HO_475005.out).2.2)); (case side4 => exact (Kd.R_reads' HO_475005.out).2.1); (case side5 => exact qC ((Kd.R_reads' HO_448004.out).2.2)); (case side6 => exact (Kd.R_reads' HO_448004.out).2.1); (case side7 => exact qC ((Kd.R_reads' HO_448005.out).2.2)); (case side8 => exact (Kd.R_reads' HO_448005.out).2.1); rintro e w83 ⟨rfl, hb⟩; replace HO_448004 := am_ (Kd.R_below (qR HO_448004) hb); replace HO_448005 := am_ (Kd.R_below (qR HO_448005) hb); replace HO_461004 := am_ (Kd.R_below (qR HO_461004) hb); replace HO_461005 := am_ (Kd.R_below (qR HO_461005) hb); replace HO_475004 := am_ (Kd.R_below (qR HO_475004) hb); replace HO_475005 := am_ (Kd.R_below (qR HO_475005) hb); replace HO482 := am_ (Kd.R_below (qR HO482) hb); replace HO485 := am_ (Kd.R_below (qR HO485) hb); replace BK420 := am_ (blk_below (qK BK420) hb); replace BK447 := am_ (blk_below (qK BK447) hb); replace BK460 := am_ (blk_below (qK BK460) hb); replace BK474 := am_ (blk_below (qK BK474) hb); replace HB := am_ (below_step (qB HB) hb); (try clear hb); (try clear hb2); (try clear hk); (try clear hi)))
         go_meet
         case rel => exact ⟨_, ((t473 != t446)), (by first | rfl | (simp; done) | (simp [*]; done) | (simp [Go.Proofs.YtahfemlfdpbkkaaV.bne_nil, Go.Proofs.YtahfemlfdpbkkaaV.beq_nil]; done)), H', ⟨by have := HJ11.out; first | omega | exact Nat.le_refl _⟩, ⟨by (with_reducible repeat (first | apply Kd.R_alloc | apply Kd.R_drewN | apply Kd.R_drew)); exact Kd.R_mono HO_448004.out (fun _ hk => ⟨hk.1, ⟨hk.2.1, ⟨hk.2.2.1, ⟨hk.2.2.2.1, hk.2.2.2.2.1⟩⟩⟩⟩)⟩, ⟨by (with_reducible repeat (first | apply Kd.R_alloc | apply Kd.R_drewN | apply Kd.R_drew)); exact Kd.R_mono HO_448005.out (fun _ hk => ⟨hk.1, ⟨hk.2.1, ⟨hk.2.2.1, ⟨hk.2.2.2.1, hk.2.2.2.2.1⟩⟩⟩⟩)⟩, ⟨by (with_reducible repeat (first | apply Kd.R_alloc | apply Kd.R_drewN | apply Kd.R_drew)); exact Kd.R_mono HO_461004.out (fun _ hk => ⟨hk.1.1.1, ⟨hk.1.1.2.1, ⟨hk.1.1.2.2.1, ⟨hk.1.1.2.2.2.1, hk.1.1.2.2.2.2⟩⟩⟩⟩)⟩, ⟨by (with_reducible repeat (first | apply Kd.R_alloc | apply Kd.R_drewN | apply Kd.R_drew)); exact Kd.R_mono HO_461005.out (fun _ hk => ⟨hk.1.1.1, ⟨hk.1.1.2.1, ⟨hk.1.1.2.2.1, ⟨hk.1.1.2.2.2.1, hk.1.1.2.2.2.2⟩⟩⟩⟩)⟩, ⟨by (with_reducible repeat (first | apply Kd.R_alloc | apply Kd.R_drewN | apply Kd.R_drew)); exact Kd.R_mono HO_475004.out (fun _ hk => ⟨hk.1, ⟨hk.2.1, ⟨hk.2.2.1, ⟨hk.2.2.2.1, hk.2.2.2.2.1⟩⟩⟩⟩)⟩, ⟨by (with_reducible repeat (first | apply Kd.R_alloc | apply Kd.R_drewN | apply Kd.R_drew)); exact Kd.R_mono HO_475005.out (fun _ hk => ⟨hk.1, ⟨hk.2.1, ⟨hk.2.2.1, ⟨hk.2.2.2.1, hk.2.2.2.2.1⟩⟩⟩⟩)⟩, ⟨qK BK420⟩, ⟨qK BK447⟩, ⟨qK BK460⟩, ⟨qK BK474⟩, ⟨qB HB⟩⟩
        ·
         replace c75 := Bool.eq_false_iff.mpr c75
         subst c75
         have H1 : (laws_FnExactAnswer.j1 kj11 t446 true a0_0 a0_1 a0_2 a0_3 l0_4 l0_5 a0_6 a0_7 t434 t435 t436 t437 t438 t441 t444 t445 t461 t462 t463 t464 t465 t468 t471 t472) = some r := by rw [if_neg (show ¬ (false = true) by decide)] at H; exact H
         clear H
         have H := H1
         clear H1
         have H' := Aside0.mk H
         clear H
         have hnb84 := NB474_420.out
         have hnc84 := NB420_474.out
         have hnb85 := NB474_447.out
         have hnc85 := NB447_474.out
         have hnb86 := NB474_460.out
         have hnc86 := NB460_474.out
         obtain ⟨hcz87_0, hcz87_1, hcz87_2, hcz87_3, hcz87_4, hcz87_5, hcz87_6, hcz87_7⟩ := cz8 BK474.out
         obtain ⟨hfz87_0, hfz87_1, hfz87_2, hfz87_3, hfz87_4, hfz87_5, hfz87_6, hfz87_7⟩ := fz8 BK474.out
         have hnb88 := NB447_420.out
         have hnc88 := NB420_447.out
         have hnb89 := NB447_460.out
         have hnc89 := NB460_447.out
         obtain ⟨hcz90_0, hcz90_1, hcz90_2, hcz90_3, hcz90_4, hcz90_5, hcz90_6, hcz90_7⟩ := cz8 BK447.out
         obtain ⟨hfz90_0, hfz90_1, hfz90_2, hfz90_3, hfz90_4, hfz90_5, hfz90_6, hfz90_7⟩ := fz8 BK447.out
         go_wp2_with (first | (go_at_call 21; (with_reducible refine (laws_eqSock.calls kj11 t461 t462 t463 t464 _ _ t465 _ _ t468 t471 t472 t434 t435 t436 t437 _ _ t438 _ _ t441 t444 t445 false _ ?side1 ?side2 ?side3 ?side4 ?side5 ?side6 ?side7 ?side8 A74.out).mono ?_); (case side1 => exact qC ((Kd.R_reads' HO_475004.out).2.2)); (case side2 => exact (Kd.R_reads' HO_475004.out).2.1); (case side3 => exact qC ((Kd.R_reads' HO_475005.out).2.2)); (case side4 => exact (Kd.R_reads' HO_475005.out).2.1); (case side5 => exact qC ((Kd.R_reads' HO_448004.out).2.2)); (case side6 => exact (Kd.R_reads' HO_448004.out).2.1); (case side7 => exact qC ((Kd.R_reads' HO_448005.out).2.2)); (case side8 => exact (Kd.R_reads' HO_448005.out).2.1); rintro e w91 ⟨rfl, hb⟩; replace HO_448004 := am_ (Kd.R_below (qR HO_448004) hb); replace HO_448005 := am_ (Kd.R_below (qR HO_448005) hb); replace HO_461004 := am_ (Kd.R_below (qR HO_461004) hb); replace HO_461005 := am_ (Kd.R_below (qR HO_461005) hb); replace HO_475004 := am_ (Kd.R_below (qR HO_475004) hb); replace HO_475005 := am_ (Kd.R_below (qR HO_475005) hb); replace HO482 := am_ (Kd.R_below (qR HO482) hb); replace HO485 := am_ (Kd.R_below (qR HO485) hb); replace BK420 := am_ (blk_below (qK BK420) hb); replace BK447 := am_ (blk_below (qK BK447) hb); replace BK460 := am_ (blk_below (qK BK460) hb); replace BK474 := am_ (blk_below (qK BK474) hb); replace HB := am_ (below_step (qB HB) hb); (try clear hb); (try clear hb2); (try clear hk); (try clear hi)))
         go_meet
         case rel => exact ⟨_, (true), (by first | rfl | (simp; done) | (simp [*]; done) | (simp [Go.Proofs.YtahfemlfdpbkkaaV.bne_nil, Go.Proofs.YtahfemlfdpbkkaaV.beq_nil]; done)), H', ⟨by have := HJ11.out; first | omega | exact Nat.le_refl _⟩, ⟨by (with_reducible repeat (first | apply Kd.R_alloc | apply Kd.R_drewN | apply Kd.R_drew)); exact Kd.R_mono HO_448004.out (fun _ hk => ⟨hk.1, ⟨hk.2.1, ⟨hk.2.2.1, ⟨hk.2.2.2.1, hk.2.2.2.2.1⟩⟩⟩⟩)⟩, ⟨by (with_reducible repeat (first | apply Kd.R_alloc | apply Kd.R_drewN | apply Kd.R_drew)); exact Kd.R_mono HO_448005.out (fun _ hk => ⟨hk.1, ⟨hk.2.1, ⟨hk.2.2.1, ⟨hk.2.2.2.1, hk.2.2.2.2.1⟩⟩⟩⟩)⟩, ⟨by (with_reducible repeat (first | apply Kd.R_alloc | apply Kd.R_drewN | apply Kd.R_drew)); exact Kd.R_mono HO_461004.out (fun _ hk => ⟨hk.1.1.1, ⟨hk.1.1.2.1, ⟨hk.1.1.2.2.1, ⟨hk.1.1.2.2.2.1, hk.1.1.2.2.2.2⟩⟩⟩⟩)⟩, ⟨by (with_reducible repeat (first | apply Kd.R_alloc | apply Kd.R_drewN | apply Kd.R_drew)); exact Kd.R_mono HO_461005.out (fun _ hk => ⟨hk.1.1.1, ⟨hk.1.1.2.1, ⟨hk.1.1.2.2.1, ⟨hk.1.1.2.2.2.1, hk.1.1.2.2.2.2⟩⟩⟩⟩)⟩, ⟨by (with_reducible repeat (first | apply Kd.R_alloc | apply Kd.R_drewN | apply Kd.R_drew)); exact Kd.R_mono HO_475004.out (fun _ hk => ⟨hk.1, ⟨hk.2.1, ⟨hk.2.2.1, ⟨hk.2.2.2.1, hk.2.2.2.2.1⟩⟩⟩⟩)⟩, ⟨by (with_reducible repeat (first | apply Kd.R_alloc | apply Kd.R_drewN | apply Kd.R_drew)); exact Kd.R_mono HO_475005.out (fun _ hk => ⟨hk.1, ⟨hk.2.1, ⟨hk.2.2.1, ⟨hk.2.2.2.1, hk.2.2.2.2.1⟩⟩⟩⟩)⟩, ⟨qK BK420⟩, ⟨qK BK447⟩, ⟨qK BK460⟩, ⟨qK BK474⟩, ⟨qB HB⟩⟩
      case rest =>
       clear HC62
       try clear c1
       try clear c2
       try clear p2
       try clear c3
       try clear c4
       try clear c5
       try clear c6
       try clear c7
       try clear c7b0
       try clear c8
       try clear c11
       try clear c15
       try clear c18
       try clear c19
       try clear c21
       try clear c22
       try clear c26
       try clear c27
       try clear c33
       try clear c34
       try clear c35
       try clear c40
       try clear c41
       try clear c42
       try clear c43
       try clear c45
       try clear c46
       try clear c49
       try clear c50
       try clear c51
       try clear c52
       try clear c53
       try clear c54
       try clear c57
       try clear c60
       try clear c68
       try clear c69
       try clear c70
       try clear c73
       try clear c73b0
       try clear c75
       try clear c76
       try clear c77
       try clear c78
       try clear c80
       try clear c81
       try clear c84
       try clear c85
       try clear c86
       try clear c88
       try clear c89
       (try clear hcz13_0 hcz13_1 hcz13_2 hcz13_3 hcz13_4 hcz13_5 hcz13_6 hcz13_7)
       (try clear hcz20_0 hcz20_1 hcz20_2 hcz20_3 hcz20_4 hcz20_5 hcz20_6 hcz20_7)
       (try clear hcz23_0 hcz23_1 hcz23_2 hcz23_3 hcz23_4 hcz23_5 hcz23_6 hcz23_7)
       (try clear hcz28_0 hcz28_1 hcz28_2 hcz28_3 hcz28_4 hcz28_5 hcz28_6 hcz28_7)
       (try clear hcz36_0 hcz36_1 hcz36_2 hcz36_3 hcz36_4 hcz36_5 hcz36_6 hcz36_7)
       (try clear hcz44_0 hcz44_1 hcz44_2 hcz44_3 hcz44_4 hcz44_5 hcz44_6 hcz44_7)
       (try clear hcz47_0 hcz47_1 hcz47_2 hcz47_3 hcz47_4 hcz47_5 hcz47_6 hcz47_7)
       (try clear hcz52_0 hcz52_1 hcz52_2 hcz52_3 hcz52_4 hcz52_5 hcz52_6 hcz52_7)
       (try clear hcz55_0 hcz55_1 hcz55_2 hcz55_3 hcz55_4 hcz55_5 hcz55_6 hcz55_7)
       (try clear hcz5_0 hcz5_1 hcz5_2 hcz5_3 hcz5_4 hcz5_5 hcz5_6 hcz5_7)
       (try clear hcz71_0 hcz71_1 hcz71_2 hcz71_3 hcz71_4 hcz71_5 hcz71_6 hcz71_7)
       (try clear hcz79_0 hcz79_1 hcz79_2 hcz79_3 hcz79_4 hcz79_5 hcz79_6 hcz79_7)
       (try clear hcz82_0 hcz82_1 hcz82_2 hcz82_3 hcz82_4 hcz82_5 hcz82_6 hcz82_7)
       (try clear hcz87_0 hcz87_1 hcz87_2 hcz87_3 hcz87_4 hcz87_5 hcz87_6 hcz87_7)
       (try clear hcz90_0 hcz90_1 hcz90_2 hcz90_3 hcz90_4 hcz90_5 hcz90_6 hcz90_7)
       (try clear hfz13_0 hfz13_1 hfz13_2 hfz13_3 hfz13_4 hfz13_5 hfz13_6 hfz13_7)
       (try clear hfz20_0 hfz20_1 hfz20_2 hfz20_3 hfz20_4 hfz20_5 hfz20_6 hfz20_7)
       (try clear hfz23_0 hfz23_1 hfz23_2 hfz23_3 hfz23_4 hfz23_5 hfz23_6 hfz23_7)
       (try clear hfz28_0 hfz28_1 hfz28_2 hfz28_3 hfz28_4 hfz28_5 hfz28_6 hfz28_7)
       (try clear hfz36_0 hfz36_1 hfz36_2 hfz36_3 hfz36_4 hfz36_5 hfz36_6 hfz36_7)
       (try clear hfz44_0 hfz44_1 hfz44_2 hfz44_3 hfz44_4 hfz44_5 hfz44_6 hfz44_7)
       (try clear hfz47_0 hfz47_1 hfz47_2 hfz47_3 hfz47_4 hfz47_5 hfz47_6 hfz47_7)
       (try clear hfz52_0 hfz52_1 hfz52_2 hfz52_3 hfz52_4 hfz52_5 hfz52_6 hfz52_7)
       (try clear hfz55_0 hfz55_1 hfz55_2 hfz55_3 hfz55_4 hfz55_5 hfz55_6 hfz55_7)
       (try clear hfz5_0 hfz5_1 hfz5_2 hfz5_3 hfz5_4 hfz5_5 hfz5_6 hfz5_7)
       (try clear hfz71_0 hfz71_1 hfz71_2 hfz71_3 hfz71_4 hfz71_5 hfz71_6 hfz71_7)
       (try clear hfz79_0 hfz79_1 hfz79_2 hfz79_3 hfz79_4 hfz79_5 hfz79_6 hfz79_7)
       (try clear hfz82_0 hfz82_1 hfz82_2 hfz82_3 hfz82_4 hfz82_5 hfz82_6 hfz82_7)
       (try clear hfz87_0 hfz87_1 hfz87_2 hfz87_3 hfz87_4 hfz87_5 hfz87_6 hfz87_7)
       (try clear hfz90_0 hfz90_1 hfz90_2 hfz90_3 hfz90_4 hfz90_5 hfz90_6 hfz90_7)
       try clear p2
       obtain ⟨kq, x61_61, rfl, HA, HJ61, HO_448004, HO_448005, HO_461004, HO_461005, HO_475004, HO_475005, BK420, BK447, BK460, BK474, HB⟩ := hcut
       have hl461004_61 := (Kd.R_reads' HO_461004.out).1
       rw [hl461004_61] at HO_461004
       (try simp only [hl461004_61])
       (try simp only [hl461004_61] at BK420)
       (try simp only [hl461004_61] at BK447)
       (try simp only [hl461004_61] at BK460)
       (try simp only [hl461004_61] at BK474)
       (try simp only [hl461004_61] at HO_448004)
       (try simp only [hl461004_61] at HO_448005)
       (try simp only [hl461004_61] at HO_461005)
       (try simp only [hl461004_61] at HO_475004)
       (try simp only [hl461004_61] at HO_475005)
       have hl461005_61 := (Kd.R_reads' HO_461005.out).1
       rw [hl461005_61] at HO_461005
       (try simp only [hl461005_61])
       (try simp only [hl461005_61] at BK420)
       (try simp only [hl461005_61] at BK447)
       (try simp only [hl461005_61] at BK460)
       (try simp only [hl461005_61] at BK474)
       (try simp only [hl461005_61] at HO_448004)
       (try simp only [hl461005_61] at HO_448005)
       (try simp only [hl461005_61] at HO_461004)
       (try simp only [hl461005_61] at HO_475004)
       (try simp only [hl461005_61] at HO_475005)
       cases kq with
       | zero => exact absurd HA.out (by simp [laws_FnExactAnswer.j1])
       | succ kj61 =>
        have H := HA.out
        clear HA
        simp only [laws_FnExactAnswer.j1] at H
        by_cases c92 : x61_61 = true
        ·
         subst c92
         have H1 : (some false) = some r := by rw [if_pos rfl] at H; exact H
         clear H
         have H := H1
         clear H1
         exact absurd (hr_.out ▸ H) (by simp)
        ·
         replace c92 := Bool.eq_false_iff.mpr c92
         subst c92
         have H1 : ((laws_markSock.f kj61 t461 t462 t463 t464 t465 t468 t471 t472 1).bind fun bt493 => ((laws_heldSock.f kj61 t461 t462 t463 t464 bt493.2.1 bt493.2.2 t471 t472 1).bind fun t496 => (if t496 < 0 then (some false) else (if t496 = bt493.1 then ((laws_toSock.f kj61 a0_0 a0_1 a0_2 a0_3 l0_4 l0_5 a0_6 a0_7).bind fun bt497 => ((impl_Answer.f kj61 bt497.1 bt497.2.1 bt497.2.2.1 bt497.2.2.2.1 bt497.2.2.2.2.1 bt497.2.2.2.2.2.1 bt497.2.2.2.2.2.2.1 bt497.2.2.2.2.2.2.2).bind fun bt509 => ((laws_eqSock.f kj61 bt509.1 bt509.2.1 bt509.2.2.1 bt509.2.2.2.1 bt509.2.2.2.2.1 bt509.2.2.2.2.2.1 bt509.2.2.2.2.2.2.1 bt509.2.2.2.2.2.2.2.1 t434 t435 t436 t437 t438 t441 t444 t445).bind fun t523 => (if t523 = true then (laws_FnExactAnswer.j2 kj61 bt493.1 (bt509.2.2.2.2.2.2.2.2 != t446) t461 t462 t463 t464 bt493.2.1 bt493.2.2 t471 t472) else (laws_FnExactAnswer.j2 kj61 bt493.1 true t461 t462 t463 t464 bt493.2.1 bt493.2.2 t471 t472))))) else (some false))))) = some r := by rw [if_neg (show ¬ (false = true) by decide)] at H; exact H
         clear H
         have H := H1
         clear H1
         replace H := Option.bind_eq_some_iff.mp H
         obtain ⟨⟨t493, t494, t495⟩, A930, H⟩ := H
         replace H : ((laws_heldSock.f kj61 t461 t462 t463 t464 t494 t495 t471 t472 1).bind fun t496 => (if t496 < 0 then (some false) else (if t496 = t493 then ((laws_toSock.f kj61 a0_0 a0_1 a0_2 a0_3 l0_4 l0_5 a0_6 a0_7).bind fun bt497 => ((impl_Answer.f kj61 bt497.1 bt497.2.1 bt497.2.2.1 bt497.2.2.2.1 bt497.2.2.2.2.1 bt497.2.2.2.2.2.1 bt497.2.2.2.2.2.2.1 bt497.2.2.2.2.2.2.2).bind fun bt509 => ((laws_eqSock.f kj61 bt509.1 bt509.2.1 bt509.2.2.1 bt509.2.2.2.1 bt509.2.2.2.2.1 bt509.2.2.2.2.2.1 bt509.2.2.2.2.2.2.1 bt509.2.2.2.2.2.2.2.1 t434 t435 t436 t437 t438 t441 t444 t445).bind fun t523 => (if t523 = true then (laws_FnExactAnswer.j2 kj61 t493 (bt509.2.2.2.2.2.2.2.2 != t446) t461 t462 t463 t464 t494 t495 t471 t472) else (laws_FnExactAnswer.j2 kj61 t493 true t461 t462 t463 t464 t494 t495 t471 t472))))) else (some false)))) = some r := H
         have A93 := Aside0.mk A930
         clear A930
         replace H := Option.bind_eq_some_iff.mp H
         obtain ⟨t496, A940, H⟩ := H
         replace H : (if t496 < 0 then (some false) else (if t496 = t493 then ((laws_toSock.f kj61 a0_0 a0_1 a0_2 a0_3 l0_4 l0_5 a0_6 a0_7).bind fun bt497 => ((impl_Answer.f kj61 bt497.1 bt497.2.1 bt497.2.2.1 bt497.2.2.2.1 bt497.2.2.2.2.1 bt497.2.2.2.2.2.1 bt497.2.2.2.2.2.2.1 bt497.2.2.2.2.2.2.2).bind fun bt509 => ((laws_eqSock.f kj61 bt509.1 bt509.2.1 bt509.2.2.1 bt509.2.2.2.1 bt509.2.2.2.2.1 bt509.2.2.2.2.2.1 bt509.2.2.2.2.2.2.1 bt509.2.2.2.2.2.2.2.1 t434 t435 t436 t437 t438 t441 t444 t445).bind fun t523 => (if t523 = true then (laws_FnExactAnswer.j2 kj61 t493 (bt509.2.2.2.2.2.2.2.2 != t446) t461 t462 t463 t464 t494 t495 t471 t472) else (laws_FnExactAnswer.j2 kj61 t493 true t461 t462 t463 t464 t494 t495 t471 t472))))) else (some false))) = some r := H
         have A94 := Aside0.mk A940
         clear A940
         by_cases c95 : t496 < 0
         ·
          rw [if_pos c95] at H
          have c95b0 : decide (t496 < 0) = true := decide_eq_true c95
          clear c95
          exact absurd (hr_.out ▸ H) (by simp)
         ·
          rw [if_neg c95] at H
          have c95b0 : decide (t496 < 0) = false := decide_eq_false c95
          clear c95
          by_cases c96 : t496 = t493
          ·
           rw [if_pos c96] at H
           have c96b0 : (t496 == t493) = true := beq_iff_eq.mpr c96
           have c96b1 : (t496 != t493) = false := bne_eq_false_iff_eq.mpr c96
           clear c96
           replace H := Option.bind_eq_some_iff.mp H
           obtain ⟨⟨t497, t498, t499, t500, t501, t504, t507, t508⟩, A970, H⟩ := H
           replace H : ((impl_Answer.f kj61 t497 t498 t499 t500 t501 t504 t507 t508).bind fun bt509 => ((laws_eqSock.f kj61 bt509.1 bt509.2.1 bt509.2.2.1 bt509.2.2.2.1 bt509.2.2.2.2.1 bt509.2.2.2.2.2.1 bt509.2.2.2.2.2.2.1 bt509.2.2.2.2.2.2.2.1 t434 t435 t436 t437 t438 t441 t444 t445).bind fun t523 => (if t523 = true then (laws_FnExactAnswer.j2 kj61 t493 (bt509.2.2.2.2.2.2.2.2 != t446) t461 t462 t463 t464 t494 t495 t471 t472) else (laws_FnExactAnswer.j2 kj61 t493 true t461 t462 t463 t464 t494 t495 t471 t472)))) = some r := H
           have A97 := Aside0.mk A970
           clear A970
           replace H := Option.bind_eq_some_iff.mp H
           obtain ⟨⟨t509, t510, t511, t512, t513, t516, t519, t520, t521⟩, A980, H⟩ := H
           replace H : ((laws_eqSock.f kj61 t509 t510 t511 t512 t513 t516 t519 t520 t434 t435 t436 t437 t438 t441 t444 t445).bind fun t523 => (if t523 = true then (laws_FnExactAnswer.j2 kj61 t493 (t521 != t446) t461 t462 t463 t464 t494 t495 t471 t472) else (laws_FnExactAnswer.j2 kj61 t493 true t461 t462 t463 t464 t494 t495 t471 t472))) = some r := H
           have A98 := Aside0.mk A980
           clear A980
           have HC99 := Aside0.mk H
           clear H
           have hnb100 := NB474_420.out
           have hnc100 := NB420_474.out
           have hnb101 := NB474_447.out
           have hnc101 := NB447_474.out
           have hnb102 := NB474_460.out
           have hnc102 := NB460_474.out
           obtain ⟨hcz103_0, hcz103_1, hcz103_2, hcz103_3, hcz103_4, hcz103_5, hcz103_6, hcz103_7⟩ := cz8 BK474.out
           obtain ⟨hfz103_0, hfz103_1, hfz103_2, hfz103_3, hfz103_4, hfz103_5, hfz103_6, hfz103_7⟩ := fz8 BK474.out
           go_upto_region 25 with (first | ((with_reducible refine gate_callee (f := 22) rfl ?_); refine goesL_ (some 64) rfl rfl Try.func22 (by kernel_rfl) rfl #[.agg #[.int .i64 t461, .int .i64 t462, .int .i64 t463, .bool t464, .slice Ao37 t465.length co37, .slice Ao38 t468.length co38, .int .i64 t471, .int .i64 t472], .int .i64 1] rfl (by (try simp only [List.map_toArray, List.map_cons, List.map_nil]); first | done | rfl | (simp only [List.length_drop, List.length_take]; rfl)) ?_; (with_reducible refine (laws_markSock.calls kj61 t461 t462 t463 t464 (fun k_ => some k_ = (.slice Ao37 t465.length co37 : Value).ownBlock) (.slice Ao37 t465.length co37) t465 (fun k_ => some k_ = (.slice Ao38 t468.length co38 : Value).ownBlock) (.slice Ao38 t468.length co38) t468 t471 t472 1 t493 t494 t495 w _ ?side1 ?side2 ?side3 ?side4 ?side5 A93.out).mono ?_); (case side1 => repeat (first | (with_reducible first | exact HB.out | apply below_alloc | apply pw_below_drewN | apply below_drew1 | refine below_set ?_ GE420.out | refine below_set ?_ GE447.out | refine below_set ?_ GE460.out | refine below_set ?_ GE474.out) | exact HB.out)); (case side2 => exact Kd.R_tight rfl HO_475004.out); (case side3 => exact fun k_ e_ => (HO_475004.out.1 k_ e_.symm).2.2.2.2); (case side4 => exact Kd.R_tight rfl HO_475005.out); (case side5 => exact fun k_ e_ => (HO_475005.out.1 k_ e_.symm).2.2.2.2); rintro e w104 ⟨rfl, hy0, hy1, hb, hkp⟩; refine ⟨_, rfl, ?_⟩; replace HO_448004 := am_ (Kd.R_mono (ok' := fun k_ => some k_ ≠ (.slice Ao22 t441.length co22 : Value).ownBlock ∧ some k_ ≠ (.slice Ao29 t490.length co29 : Value).ownBlock ∧ some k_ ≠ (.slice Ao30 t491.length co30 : Value).ownBlock ∧ some k_ ≠ (.slice Ao37 t465.length co37 : Value).ownBlock ∧ some k_ ≠ (.slice Ao38 t468.length co38 : Value).ownBlock) (Kd.R_keptB (HO_448004.out) hkp (fun k_ hk_ hs_ => Or.elim hs_ (fun e_ => (hk_.2.2.2.1) e_) (fun e_ => (hk_.2.2.2.2) e_))) (fun k_ hk_ => ⟨hk_.1.1, hk_.1.2.1, hk_.1.2.2.1, hk_.1.2.2.2.1, hk_.1.2.2.2.2⟩)); replace HO_448005 := am_ (Kd.R_mono (ok' := fun k_ => some k_ ≠ (.slice Ao21 t438.length co21 : Value).ownBlock ∧ some k_ ≠ (.slice Ao29 t490.length co29 : Value).ownBlock ∧ some k_ ≠ (.slice Ao30 t491.length co30 : Value).ownBlock ∧ some k_ ≠ (.slice Ao37 t465.length co37 : Value).ownBlock ∧ some k_ ≠ (.slice Ao38 t468.length co38 : Value).ownBlock) (Kd.R_keptB (HO_448005.out) hkp (fun k_ hk_ hs_ => Or.elim hs_ (fun e_ => (hk_.2.2.2.1) e_) (fun e_ => (hk_.2.2.2.2) e_))) (fun k_ hk_ => ⟨hk_.1.1, hk_.1.2.1, hk_.1.2.2.1, hk_.1.2.2.2.1, hk_.1.2.2.2.2⟩)); replace HO_461004 := am_ (Kd.R_mono (ok' := fun k_ => some k_ ≠ (.slice Ao21 t438.length co21 : Value).ownBlock ∧ some k_ ≠ (.slice Ao22 t441.length co22 : Value).ownBlock ∧ some k_ ≠ (.slice Ao30 t491.length co30 : Value).ownBlock ∧ some k_ ≠ (.slice Ao37 t465.length co37 : Value).ownBlock ∧ some k_ ≠ (.slice Ao38 t468.length co38 : Value).ownBlock) (Kd.R_keptB (HO_461004.out) hkp (fun k_ hk_ hs_ => Or.elim hs_ (fun e_ => (hk_.2.2.2.1) e_) (fun e_ => (hk_.2.2.2.2) e_))) (fun k_ hk_ => ⟨hk_.1.1, hk_.1.2.1, hk_.1.2.2.1, hk_.1.2.2.2.1, hk_.1.2.2.2.2⟩)); replace HO_461005 := am_ (Kd.R_mono (ok' := fun k_ => some k_ ≠ (.slice Ao21 t438.length co21 : Value).ownBlock ∧ some k_ ≠ (.slice Ao22 t441.length co22 : Value).ownBlock ∧ some k_ ≠ (.slice Ao29 t490.length co29 : Value).ownBlock ∧ some k_ ≠ (.slice Ao37 t465.length co37 : Value).ownBlock ∧ some k_ ≠ (.slice Ao38 t468.length co38 : Value).ownBlock) (Kd.R_keptB (HO_461005.out) hkp (fun k_ hk_ hs_ => Or.elim hs_ (fun e_ => (hk_.2.2.2.1) e_) (fun e_ => (hk_.2.2.2.2) e_))) (fun k_ hk_ => ⟨hk_.1.1, hk_.1.2.1, hk_.1.2.2.1, hk_.1.2.2.2.1, hk_.1.2.2.2.2⟩)); replace BK420 := am_ (blk_kept (qK BK420) hkp (fun hs_ => Or.elim hs_ (fun e_ => (fun e_ => (Kd.R_ne HO_475004.out BK420.out (by decide)) e_) e_) (fun e_ => (fun e_ => (Kd.R_ne HO_475005.out BK420.out (by decide)) e_) e_))); replace BK447 := am_ (blk_kept (qK BK447) hkp (fun hs_ => Or.elim hs_ (fun e_ => (fun e_ => (Kd.R_ne HO_475004.out BK447.out (by decide)) e_) e_) (fun e_ => (fun e_ => (Kd.R_ne HO_475005.out BK447.out (by decide)) e_) e_))); replace BK460 := am_ (blk_kept (qK BK460) hkp (fun hs_ => Or.elim hs_ (fun e_ => (fun e_ => (Kd.R_ne HO_475004.out BK460.out (by decide)) e_) e_) (fun e_ => (fun e_ => (Kd.R_ne HO_475005.out BK460.out (by decide)) e_) e_))); replace BK474 := am_ (blk_kept (qK BK474) hkp (fun hs_ => Or.elim hs_ (fun e_ => (fun e_ => (Kd.R_ne HO_475004.out BK474.out (by decide)) e_) e_) (fun e_ => (fun e_ => (Kd.R_ne HO_475005.out BK474.out (by decide)) e_) e_))); replace HO_475004 := am_ (Kd.R_reok rfl hy0 (fun k_ e_ => HO_475004.out.1 k_ e_)); replace HO_475005 := am_ (Kd.R_reok rfl hy1 (fun k_ e_ => HO_475005.out.1 k_ e_)); replace HB := am_ (hb); (try clear hb); (try clear hkp); (try clear hy0); (try clear hy1); obtain ⟨hcz105_0, hcz105_1, hcz105_2, hcz105_3, hcz105_4, hcz105_5, hcz105_6, hcz105_7⟩ := cz8 BK474.out; obtain ⟨hfz105_0, hfz105_1, hfz105_2, hfz105_3, hfz105_4, hfz105_5, hfz105_6, hfz105_7⟩ := fz8 BK474.out) | ((with_reducible refine gate_callee (f := 23) rfl ?_); refine goesL_ (some 67) rfl rfl Try.func23 (by kernel_rfl) rfl #[.agg #[.int .i64 t461, .int .i64 t462, .int .i64 t463, .bool t464, .slice Ao37 t494.length co37, .slice Ao38 t495.length co38, .int .i64 t471, .int .i64 t472], .int .i64 1] rfl (by (try simp only [List.map_toArray, List.map_cons, List.map_nil]); first | done | (rw [show t494.length = t465.length from (Kd.R_reads' HO_475004.out).1.symm, show t495.length = t468.length from (Kd.R_reads' HO_475005.out).1.symm] <;> rfl) | rfl | (simp only [List.length_drop, List.length_take]; rfl)) ?_; (with_reducible refine (laws_heldSock.calls kj61 t461 t462 t463 t464 _ _ t494 _ _ t495 t471 t472 1 t496 _ ?side1 ?side2 ?side3 ?side4 A94.out).mono ?_); (case side1 => exact qC ((Kd.R_reads' HO_475004.out).2.2)); (case side2 => rw [show t494.length = t465.length from (Kd.R_reads' HO_475004.out).1.symm]; exact (Kd.R_reads' HO_475004.out).2.1); (case side3 => exact qC ((Kd.R_reads' HO_475005.out).2.2)); (case side4 => rw [show t495.length = t468.length from (Kd.R_reads' HO_475005.out).1.symm]; exact (Kd.R_reads' HO_475005.out).2.1); rintro e w106 ⟨rfl, hb⟩; refine ⟨_, rfl, ?_⟩; replace HO_448004 := am_ (Kd.R_below (qR HO_448004) hb); replace HO_448005 := am_ (Kd.R_below (qR HO_448005) hb); replace HO_461004 := am_ (Kd.R_below (qR HO_461004) hb); replace HO_461005 := am_ (Kd.R_below (qR HO_461005) hb); replace HO_475004 := am_ (Kd.R_below (qR HO_475004) hb); replace HO_475005 := am_ (Kd.R_below (qR HO_475005) hb); replace BK420 := am_ (blk_below (qK BK420) hb); replace BK447 := am_ (blk_below (qK BK447) hb); replace BK460 := am_ (blk_below (qK BK460) hb); replace BK474 := am_ (blk_below (qK BK474) hb); replace HB := am_ (below_step (qB HB) hb); (try clear hb); (try clear hb2); (try clear hk); (try clear hi); have hnb107 := NB420_447.out; have hnc107 := NB447_420.out; have hnb108 := NB420_460.out; have hnc108 := NB460_420.out; obtain ⟨hcz109_0, hcz109_1, hcz109_2, hcz109_3, hcz109_4, hcz109_5, hcz109_6, hcz109_7⟩ := cz8 BK420.out; obtain ⟨hfz109_0, hfz109_1, hfz109_2, hfz109_3, hfz109_4, hfz109_5, hfz109_6, hfz109_7⟩ := fz8 BK420.out) | ((with_reducible refine gate_callee (f := 18) rfl ?_); refine goesL_ (some 75) rfl rfl Try.func18 (by kernel_rfl) rfl #[.agg #[.int .i64 a0_0, .int .i64 a0_1, .int .i64 a0_2, .bool a0_3, .slice A0_4 l0_4.length c0_4, .slice A0_5 l0_5.length c0_5, .int .i64 a0_6, .int .i64 a0_7]] rfl (by (try simp only [List.map_toArray, List.map_cons, List.map_nil]); first | done | rfl | (simp only [List.length_drop, List.length_take]; rfl)) ?_; (with_reducible refine (laws_toSock.calls kj61 a0_0 a0_1 a0_2 a0_3 _ _ l0_4 _ _ l0_5 a0_6 a0_7 t497 t498 t499 t500 t501 t504 t507 t508 _ ?side1 ?side2 ?side3 ?side4 A97.out).mono ?_); (case side1 => exact qC (Kd.C_below HR0_4.out HB.out)); (case side2 => exact HC0_4.out); (case side3 => exact qC (Kd.C_below HR0_5.out HB.out)); (case side4 => exact HC0_5.out); rintro e w110 ⟨v502, v505, rfl, ho0, ho1, hb⟩; refine ⟨_, rfl, ?_⟩; have HO503 := am_ (Kd.R_lower (Kd.R_new' (Kd.R_new' (Kd.R_new' (Kd.R_new' (Kd.R_new' (Kd.R_new' ho0 (Kd.R_lt (qR HO_448004))) (Kd.R_lt (qR HO_448005))) (Kd.R_lt (qR HO_461004))) (Kd.R_lt (qR HO_461005))) (Kd.R_lt (qR HO_475004))) (Kd.R_lt (qR HO_475005))) (below_size (qB HB))); have HO506 := am_ (Kd.R_lower (Kd.R_new' (Kd.R_new' (Kd.R_new' (Kd.R_new' (Kd.R_new' (Kd.R_new' ho1 (Kd.R_lt (qR HO_448004))) (Kd.R_lt (qR HO_448005))) (Kd.R_lt (qR HO_461004))) (Kd.R_lt (qR HO_461005))) (Kd.R_lt (qR HO_475004))) (Kd.R_lt (qR HO_475005))) (below_size (qB HB))); replace HO_448004 := am_ (Kd.R_mono (Kd.R_told (Kd.R_told (Kd.R_old (qR HO_448004) hb) (Kd.R_base ho0)) (Kd.R_base ho1)) (fun _ h_ => h_.1)); replace HO_448005 := am_ (Kd.R_mono (Kd.R_told (Kd.R_told (Kd.R_old (qR HO_448005) hb) (Kd.R_base ho0)) (Kd.R_base ho1)) (fun _ h_ => h_.1)); replace HO_461004 := am_ (Kd.R_mono (Kd.R_told (Kd.R_told (Kd.R_old (qR HO_461004) hb) (Kd.R_base ho0)) (Kd.R_base ho1)) (fun _ h_ => h_.1)); replace HO_461005 := am_ (Kd.R_mono (Kd.R_told (Kd.R_told (Kd.R_old (qR HO_461005) hb) (Kd.R_base ho0)) (Kd.R_base ho1)) (fun _ h_ => h_.1)); replace HO_475004 := am_ (Kd.R_mono (Kd.R_told (Kd.R_told (Kd.R_old (qR HO_475004) hb) (Kd.R_base ho0)) (Kd.R_base ho1)) (fun _ h_ => h_.1)); replace HO_475005 := am_ (Kd.R_mono (Kd.R_told (Kd.R_told (Kd.R_old (qR HO_475005) hb) (Kd.R_base ho0)) (Kd.R_base ho1)) (fun _ h_ => h_.1)); replace BK420 := am_ (blk_below (qK BK420) hb); replace BK447 := am_ (blk_below (qK BK447) hb); replace BK460 := am_ (blk_below (qK BK460) hb); replace BK474 := am_ (blk_below (qK BK474) hb); replace HB := am_ (below_step (qB HB) hb); (try clear hb); (try clear hb2); (try clear hk); (try clear hi); (try clear ho0); (try clear ho1); obtain ⟨Ao111, co111, eo111⟩ := Kd.R_slice HO503.out; subst eo111; obtain ⟨Ao112, co112, eo112⟩ := Kd.R_slice HO506.out; subst eo112) | ((with_reducible refine gate_callee (f := 52) rfl ?_); refine goesL_ (some 76) rfl rfl Try.func52 (by kernel_rfl) rfl #[.agg #[.int .i64 t497, .int .i64 t498, .int .i64 t499, .bool t500, .slice Ao111 t501.length co111, .slice Ao112 t504.length co112, .int .i64 t507, .int .i64 t508]] rfl (by (try simp only [List.map_toArray, List.map_cons, List.map_nil]); first | done | rfl | (simp only [List.length_drop, List.length_take]; rfl)) ?_; (with_reducible refine (impl_Answer.calls kj61 t497 t498 t499 t500 _ _ t501 _ _ t504 t507 t508 t509 t510 t511 t512 t513 t516 t519 t520 t521 _ ?side1 ?side2 ?side3 ?side4 A98.out).mono ?_); (case side1 => exact qC ((Kd.R_reads' HO503.out).2.2)); (case side2 => exact (Kd.R_reads' HO503.out).2.1); (case side3 => exact qC ((Kd.R_reads' HO506.out).2.2)); (case side4 => exact (Kd.R_reads' HO506.out).2.1); rintro e w113 ⟨v514, v517, rfl, ho0, ho1, hb⟩; refine ⟨_, rfl, ?_⟩; have HO515 := am_ (Kd.R_lower (Kd.R_new' (Kd.R_new' (Kd.R_new' (Kd.R_new' (Kd.R_new' (Kd.R_new' (Kd.R_new' (Kd.R_new' ho0 (Kd.R_lt (qR HO_448004))) (Kd.R_lt (qR HO_448005))) (Kd.R_lt (qR HO_461004))) (Kd.R_lt (qR HO_461005))) (Kd.R_lt (qR HO_475004))) (Kd.R_lt (qR HO_475005))) (Kd.R_lt (qR HO503))) (Kd.R_lt (qR HO506))) (below_size (qB HB))); have HO518 := am_ (Kd.R_lower (Kd.R_new' (Kd.R_new' (Kd.R_new' (Kd.R_new' (Kd.R_new' (Kd.R_new' (Kd.R_new' (Kd.R_new' ho1 (Kd.R_lt (qR HO_448004))) (Kd.R_lt (qR HO_448005))) (Kd.R_lt (qR HO_461004))) (Kd.R_lt (qR HO_461005))) (Kd.R_lt (qR HO_475004))) (Kd.R_lt (qR HO_475005))) (Kd.R_lt (qR HO503))) (Kd.R_lt (qR HO506))) (below_size (qB HB))); replace HO_448004 := am_ (Kd.R_mono (Kd.R_told (Kd.R_told (Kd.R_old (qR HO_448004) hb) (Kd.R_base ho0)) (Kd.R_base ho1)) (fun _ h_ => h_.1)); replace HO_448005 := am_ (Kd.R_mono (Kd.R_told (Kd.R_told (Kd.R_old (qR HO_448005) hb) (Kd.R_base ho0)) (Kd.R_base ho1)) (fun _ h_ => h_.1)); replace HO_461004 := am_ (Kd.R_mono (Kd.R_told (Kd.R_told (Kd.R_old (qR HO_461004) hb) (Kd.R_base ho0)) (Kd.R_base ho1)) (fun _ h_ => h_.1)); replace HO_461005 := am_ (Kd.R_mono (Kd.R_told (Kd.R_told (Kd.R_old (qR HO_461005) hb) (Kd.R_base ho0)) (Kd.R_base ho1)) (fun _ h_ => h_.1)); replace HO_475004 := am_ (Kd.R_mono (Kd.R_told (Kd.R_told (Kd.R_old (qR HO_475004) hb) (Kd.R_base ho0)) (Kd.R_base ho1)) (fun _ h_ => h_.1)); replace HO_475005 := am_ (Kd.R_mono (Kd.R_told (Kd.R_told (Kd.R_old (qR HO_475005) hb) (Kd.R_base ho0)) (Kd.R_base ho1)) (fun _ h_ => h_.1)); replace HO503 := am_ (Kd.R_mono (Kd.R_told (Kd.R_told (Kd.R_old (qR HO503) hb) (Kd.R_base ho0)) (Kd.R_base ho1)) (fun _ h_ => h_.1)); replace HO506 := am_ (Kd.R_mono (Kd.R_told (Kd.R_told (Kd.R_old (qR HO506) hb) (Kd.R_base ho0)) (Kd.R_base ho1)) (fun _ h_ => h_.1)); replace BK420 := am_ (blk_below (qK BK420) hb); replace BK447 := am_ (blk_below (qK BK447) hb); replace BK460 := am_ (blk_below (qK BK460) hb); replace BK474 := am_ (blk_below (qK BK474) hb); replace HB := am_ (below_step (qB HB) hb); (try clear hb); (try clear hb2); (try clear hk); (try clear hi); (try clear ho0); (try clear ho1)) | ((with_reducible refine gate_dst (N := 12) rfl ?_); refine box_event ?hg (N := 12) ?hd (cs := #[.int .i64 0, .int .i64 0, .int .i64 0, .bool false, .slice none 0 0, .slice none 0 0, .int .i64 0, .int .i64 0]) (t := 29) ?hr ?_; (case hd => rfl); (case hg => rfl); (case hr => first | (go_simp; done) | (go_simp; rfl)); intro gb522 hg w114 hbox hb; replace HO_448004 := am_ (Kd.R_below (qR HO_448004) hb); replace HO_448005 := am_ (Kd.R_below (qR HO_448005) hb); replace HO_461004 := am_ (Kd.R_below (qR HO_461004) hb); replace HO_461005 := am_ (Kd.R_below (qR HO_461005) hb); replace HO_475004 := am_ (Kd.R_below (qR HO_475004) hb); replace HO_475005 := am_ (Kd.R_below (qR HO_475005) hb); replace HO503 := am_ (Kd.R_below (qR HO503) hb); replace HO506 := am_ (Kd.R_below (qR HO506) hb); replace HO515 := am_ (Kd.R_below (qR HO515) hb); replace HO518 := am_ (Kd.R_below (qR HO518) hb); have BK522 := am_ (hbox); have GW522 := am_ ((gG_ hg (qB HB))); have IGW522 := gI_ GW522; have GE522 := am_ ((gG_ hg (qB HB))); have IGE522 := gI_ GE522; replace HB := am_ (below_step (qB HB) hb); have NB420_522 := am_ ((gN_ hg (qK BK420))); have NB522_420 := am_ ((gM_ hg (qK BK420))); replace BK420 := am_ (blk_below (qK BK420) hb); have NB447_522 := am_ ((gN_ hg (qK BK447))); have NB522_447 := am_ ((gM_ hg (qK BK447))); replace BK447 := am_ (blk_below (qK BK447) hb); have NB460_522 := am_ ((gN_ hg (qK BK460))); have NB522_460 := am_ ((gM_ hg (qK BK460))); replace BK460 := am_ (blk_below (qK BK460) hb); have NB474_522 := am_ ((gN_ hg (qK BK474))); have NB522_474 := am_ ((gM_ hg (qK BK474))); replace BK474 := am_ (blk_below (qK BK474) hb); clear hb hbox hg; have hnb115 := NB522_420.out; have hnc115 := NB420_522.out; have hnb116 := NB522_447.out; have hnc116 := NB447_522.out; have hnb117 := NB522_460.out; have hnc117 := NB460_522.out; have hnb118 := NB522_474.out; have hnc118 := NB474_522.out; obtain ⟨hcz119_0, hcz119_1, hcz119_2, hcz119_3, hcz119_4, hcz119_5, hcz119_6, hcz119_7⟩ := cz8 BK522.out; obtain ⟨hfz119_0, hfz119_1, hfz119_2, hfz119_3, hfz119_4, hfz119_5, hfz119_6, hfz119_7⟩ := fz8 BK522.out; obtain ⟨Ao120, co120, eo120⟩ := Kd.R_slice HO515.out; subst eo120; obtain ⟨Ao121, co121, eo121⟩ := Kd.R_slice HO518.out; subst eo121))
           (try simp only [Act.put, List.setIfInBounds_toArray, List.set_cons_zero, List.set_cons_succ])
           go_cut [87] (fun v87 wc => ∃ (kq : Nat) (x87_98 : Bool), v87 = .bool x87_98 ∧ Aside0 (laws_FnExactAnswer.j2 kq t493 x87_98 t461 t462 t463 t464 t494 t495 t471 t472 = some r) ∧ Aside0 (kq ≤ kj61) ∧ Aside0 (Kd.R (Kd.int .u8) 5 wc w.heap.size (fun k_ => some k_ ≠ ((.slice Ao22 t441.length co22) : Value).ownBlock ∧ some k_ ≠ ((.slice Ao29 t490.length co29) : Value).ownBlock ∧ some k_ ≠ ((.slice Ao30 t491.length co30) : Value).ownBlock ∧ some k_ ≠ ((.slice Ao37 t465.length co37) : Value).ownBlock ∧ some k_ ≠ ((.slice Ao38 t468.length co38) : Value).ownBlock ∧ some k_ ≠ ((.slice Ao120 t513.length co120) : Value).ownBlock ∧ some k_ ≠ ((.slice Ao121 t516.length co121) : Value).ownBlock) (.slice Ao21 t438.length co21) t438) ∧ Aside0 (Kd.R (Kd.int .u8) 5 wc w.heap.size (fun k_ => some k_ ≠ ((.slice Ao21 t438.length co21) : Value).ownBlock ∧ some k_ ≠ ((.slice Ao29 t490.length co29) : Value).ownBlock ∧ some k_ ≠ ((.slice Ao30 t491.length co30) : Value).ownBlock ∧ some k_ ≠ ((.slice Ao37 t465.length co37) : Value).ownBlock ∧ some k_ ≠ ((.slice Ao38 t468.length co38) : Value).ownBlock ∧ some k_ ≠ ((.slice Ao120 t513.length co120) : Value).ownBlock ∧ some k_ ≠ ((.slice Ao121 t516.length co121) : Value).ownBlock) (.slice Ao22 t441.length co22) t441) ∧ Aside0 (Kd.R (Kd.int .u8) 5 wc w.heap.size (fun k_ => some k_ ≠ ((.slice Ao21 t438.length co21) : Value).ownBlock ∧ some k_ ≠ ((.slice Ao22 t441.length co22) : Value).ownBlock ∧ some k_ ≠ ((.slice Ao30 t491.length co30) : Value).ownBlock ∧ some k_ ≠ ((.slice Ao37 t465.length co37) : Value).ownBlock ∧ some k_ ≠ ((.slice Ao38 t468.length co38) : Value).ownBlock ∧ some k_ ≠ ((.slice Ao120 t513.length co120) : Value).ownBlock ∧ some k_ ≠ ((.slice Ao121 t516.length co121) : Value).ownBlock) (.slice Ao29 t490.length co29) t490) ∧ Aside0 (Kd.R (Kd.int .u8) 5 wc w.heap.size (fun k_ => some k_ ≠ ((.slice Ao21 t438.length co21) : Value).ownBlock ∧ some k_ ≠ ((.slice Ao22 t441.length co22) : Value).ownBlock ∧ some k_ ≠ ((.slice Ao29 t490.length co29) : Value).ownBlock ∧ some k_ ≠ ((.slice Ao37 t465.length co37) : Value).ownBlock ∧ some k_ ≠ ((.slice Ao38 t468.length co38) : Value).ownBlock ∧ some k_ ≠ ((.slice Ao120 t513.length co120) : Value).ownBlock ∧ some k_ ≠ ((.slice Ao121 t516.length co121) : Value).ownBlock) (.slice Ao30 t491.length co30) t491) ∧ Aside0 (Kd.R (Kd.int .u8) 5 wc w.heap.size (fun k_ => some k_ ≠ ((.slice Ao21 t438.length co21) : Value).ownBlock ∧ some k_ ≠ ((.slice Ao22 t441.length co22) : Value).ownBlock ∧ some k_ ≠ ((.slice Ao29 t490.length co29) : Value).ownBlock ∧ some k_ ≠ ((.slice Ao30 t491.length co30) : Value).ownBlock ∧ some k_ ≠ ((.slice Ao38 t468.length co38) : Value).ownBlock ∧ some k_ ≠ ((.slice Ao120 t513.length co120) : Value).ownBlock ∧ some k_ ≠ ((.slice Ao121 t516.length co121) : Value).ownBlock) (.slice Ao37 t465.length co37) t494) ∧ Aside0 (Kd.R (Kd.int .u8) 5 wc w.heap.size (fun k_ => some k_ ≠ ((.slice Ao21 t438.length co21) : Value).ownBlock ∧ some k_ ≠ ((.slice Ao22 t441.length co22) : Value).ownBlock ∧ some k_ ≠ ((.slice Ao29 t490.length co29) : Value).ownBlock ∧ some k_ ≠ ((.slice Ao30 t491.length co30) : Value).ownBlock ∧ some k_ ≠ ((.slice Ao37 t465.length co37) : Value).ownBlock ∧ some k_ ≠ ((.slice Ao120 t513.length co120) : Value).ownBlock ∧ some k_ ≠ ((.slice Ao121 t516.length co121) : Value).ownBlock) (.slice Ao38 t468.length co38) t495) ∧ Aside0 (Kd.R (Kd.int .u8) 5 wc w.heap.size (fun k_ => some k_ ≠ ((.slice Ao21 t438.length co21) : Value).ownBlock ∧ some k_ ≠ ((.slice Ao22 t441.length co22) : Value).ownBlock ∧ some k_ ≠ ((.slice Ao29 t490.length co29) : Value).ownBlock ∧ some k_ ≠ ((.slice Ao30 t491.length co30) : Value).ownBlock ∧ some k_ ≠ ((.slice Ao37 t465.length co37) : Value).ownBlock ∧ some k_ ≠ ((.slice Ao38 t468.length co38) : Value).ownBlock ∧ some k_ ≠ ((.slice Ao121 t516.length co121) : Value).ownBlock) (.slice Ao120 t513.length co120) t513) ∧ Aside0 (Kd.R (Kd.int .u8) 5 wc w.heap.size (fun k_ => some k_ ≠ ((.slice Ao21 t438.length co21) : Value).ownBlock ∧ some k_ ≠ ((.slice Ao22 t441.length co22) : Value).ownBlock ∧ some k_ ≠ ((.slice Ao29 t490.length co29) : Value).ownBlock ∧ some k_ ≠ ((.slice Ao30 t491.length co30) : Value).ownBlock ∧ some k_ ≠ ((.slice Ao37 t465.length co37) : Value).ownBlock ∧ some k_ ≠ ((.slice Ao38 t468.length co38) : Value).ownBlock ∧ some k_ ≠ ((.slice Ao120 t513.length co120) : Value).ownBlock) (.slice Ao121 t516.length co121) t516) ∧ Aside0 (wc.heap[gb420]? = some (.cells #[.int .i64 a0_0, .int .i64 a0_1, .int .i64 a0_2, .bool a0_3, (.slice A0_4 l0_4.length c0_4), (.slice A0_5 l0_5.length c0_5), .int .i64 a0_6, .int .i64 a0_7] 24 (0, 0))) ∧ Aside0 (wc.heap[gb447]? = some (.cells #[.int .i64 t434, .int .i64 t435, .int .i64 t436, .bool t437, (.slice Ao21 t438.length co21), (.slice Ao22 t441.length co22), .int .i64 t444, .int .i64 t445] 29 (0, 0))) ∧ Aside0 (wc.heap[gb460]? = some (.cells #[.int .i64 t448, .int .i64 t449, .int .i64 t450, .bool t451, (.slice Ao29 t490.length co29), (.slice Ao30 t491.length co30), .int .i64 t458, .int .i64 t459] 29 (0, 0))) ∧ Aside0 (wc.heap[gb474]? = some (.cells #[.int .i64 t461, .int .i64 t462, .int .i64 t463, .bool t464, (.slice Ao37 t465.length co37), (.slice Ao38 t468.length co38), .int .i64 t471, .int .i64 t472] 29 (0, 0))) ∧ Aside0 (wc.heap[gb522]? = some (.cells #[.int .i64 t509, .int .i64 t510, .int .i64 t511, .bool t512, (.slice Ao120 t513.length co120), (.slice Ao121 t516.length co121), .int .i64 t519, .int .i64 t520] 29 (0, 0))) ∧ Aside0 (Below w.heap.size w wc))
           case first =>
            have H := HC99.out
            clear HC99
            replace H := Option.bind_eq_some_iff.mp H
            obtain ⟨t523, A1220, H⟩ := H
            replace H : (if t523 = true then (laws_FnExactAnswer.j2 kj61 t493 (t521 != t446) t461 t462 t463 t464 t494 t495 t471 t472) else (laws_FnExactAnswer.j2 kj61 t493 true t461 t462 t463 t464 t494 t495 t471 t472)) = some r := H
            have A122 := Aside0.mk A1220
            clear A1220
            by_cases c123 : t523 = true
            ·
             subst c123
             have H1 : (laws_FnExactAnswer.j2 kj61 t493 (t521 != t446) t461 t462 t463 t464 t494 t495 t471 t472) = some r := by rw [if_pos rfl] at H; exact H
             clear H
             have H := H1
             clear H1
             have H' := Aside0.mk H
             clear H
             have hnb124 := NB522_420.out
             have hnc124 := NB420_522.out
             have hnb125 := NB522_447.out
             have hnc125 := NB447_522.out
             have hnb126 := NB522_460.out
             have hnc126 := NB460_522.out
             have hnb127 := NB522_474.out
             have hnc127 := NB474_522.out
             obtain ⟨hcz128_0, hcz128_1, hcz128_2, hcz128_3, hcz128_4, hcz128_5, hcz128_6, hcz128_7⟩ := cz8 BK522.out
             obtain ⟨hfz128_0, hfz128_1, hfz128_2, hfz128_3, hfz128_4, hfz128_5, hfz128_6, hfz128_7⟩ := fz8 BK522.out
             have hnb129 := NB447_420.out
             have hnc129 := NB420_447.out
             have hnb130 := NB447_460.out
             have hnc130 := NB460_447.out
             have hnb131 := NB447_474.out
             have hnc131 := NB474_447.out
             obtain ⟨hcz132_0, hcz132_1, hcz132_2, hcz132_3, hcz132_4, hcz132_5, hcz132_6, hcz132_7⟩ := cz8 BK447.out
             obtain ⟨hfz132_0, hfz132_1, hfz132_2, hfz132_3, hfz132_4, hfz132_5, hfz132_6, hfz132_7⟩ := fz8 BK447.out
             go_wp2_with (first | ((with_reducible refine gate_callee (f := 21) rfl ?_); refine goesL_ (some 81) rfl rfl Try.func21 (by kernel_rfl) rfl #[.agg #[.int .i64 t509, .int .i64 t510, .int .i64 t511, .bool t512, .slice Ao120 t513.length co120, .slice Ao121 t516.length co121, .int .i64 t519, .int .i64 t520], .agg #[.int .i64 t434, .int .i64 t435, .int .i64 t436, .bool t437, .slice Ao21 t438.length co21, .slice Ao22 t441.length co22, .int .i64 t444, .int .i64 t445]] rfl (by (try simp only [List.map_toArray, List.map_cons, List.map_nil]); first | done | rfl | (simp only [List.length_drop, List.length_take]; rfl)) ?_; (with_reducible refine (laws_eqSock.calls kj61 t509 t510 t511 t512 _ _ t513 _ _ t516 t519 t520 t434 t435 t436 t437 _ _ t438 _ _ t441 t444 t445 true _ ?side1 ?side2 ?side3 ?side4 ?side5 ?side6 ?side7 ?side8 A122.out).mono ?_); (case side1 => refine (Kd.R_reads' (e := 5) (base := w.heap.size) (ok := fun k_ => ((((((((some k_ ≠ (.slice Ao121 t516.length co121 : Value).ownBlock ∧ some k_ ≠ (.slice Ao21 t438.length co21 : Value).ownBlock) ∧ some k_ ≠ (.slice Ao22 t441.length co22 : Value).ownBlock) ∧ some k_ ≠ (.slice Ao29 t490.length co29 : Value).ownBlock) ∧ some k_ ≠ (.slice Ao30 t491.length co30 : Value).ownBlock) ∧ some k_ ≠ (.slice Ao37 t465.length co37 : Value).ownBlock) ∧ some k_ ≠ (.slice Ao38 t468.length co38 : Value).ownBlock) ∧ some k_ ≠ (.slice Ao111 t501.length co111 : Value).ownBlock) ∧ some k_ ≠ (.slice Ao112 t504.length co112 : Value).ownBlock)) (n := t513.length) (c := co120) ?_).2.2; exact (by (with_reducible repeat (first | apply Kd.R_alloc | apply Kd.R_drewN | apply Kd.R_drew)); exact (Kd.R_mono (Go.Proofs.YtahfemlfdpbkkaaV.R_far8 (g := gb522) (Kd.R_types HO515.out BK522.out (by decide)) (fun _ hk => hk.2)) (fun _ h_ => h_.1)))); (case side2 => exact (Kd.R_reads' HO515.out).2.1); (case side3 => refine (Kd.R_reads' (e := 5) (base := w.heap.size) (ok := fun k_ => ((((((((some k_ ≠ (.slice Ao120 t513.length co120 : Value).ownBlock ∧ some k_ ≠ (.slice Ao21 t438.length co21 : Value).ownBlock) ∧ some k_ ≠ (.slice Ao22 t441.length co22 : Value).ownBlock) ∧ some k_ ≠ (.slice Ao29 t490.length co29 : Value).ownBlock) ∧ some k_ ≠ (.slice Ao30 t491.length co30 : Value).ownBlock) ∧ some k_ ≠ (.slice Ao37 t465.length co37 : Value).ownBlock) ∧ some k_ ≠ (.slice Ao38 t468.length co38 : Value).ownBlock) ∧ some k_ ≠ (.slice Ao111 t501.length co111 : Value).ownBlock) ∧ some k_ ≠ (.slice Ao112 t504.length co112 : Value).ownBlock)) (n := t516.length) (c := co121) ?_).2.2; exact (by (with_reducible repeat (first | apply Kd.R_alloc | apply Kd.R_drewN | apply Kd.R_drew)); exact (Kd.R_mono (Go.Proofs.YtahfemlfdpbkkaaV.R_far8 (g := gb522) (Kd.R_types HO518.out BK522.out (by decide)) (fun _ hk => hk.2)) (fun _ h_ => h_.1)))); (case side4 => exact (Kd.R_reads' HO518.out).2.1); (case side5 => refine (Kd.R_reads' (e := 5) (base := w.heap.size) (ok := fun k_ => (((((some k_ ≠ (.slice Ao22 t441.length co22 : Value).ownBlock ∧ (some k_ ≠ (.slice Ao29 t490.length co29 : Value).ownBlock ∧ (some k_ ≠ (.slice Ao30 t491.length co30 : Value).ownBlock ∧ (some k_ ≠ (.slice Ao37 t465.length co37 : Value).ownBlock ∧ some k_ ≠ (.slice Ao38 t468.length co38 : Value).ownBlock)))) ∧ some k_ ≠ (.slice Ao111 t501.length co111 : Value).ownBlock) ∧ some k_ ≠ (.slice Ao112 t504.length co112 : Value).ownBlock) ∧ some k_ ≠ (.slice Ao120 t513.length co120 : Value).ownBlock) ∧ some k_ ≠ (.slice Ao121 t516.length co121 : Value).ownBlock)) (n := t438.length) (c := co21) ?_).2.2; exact (by (with_reducible repeat (first | apply Kd.R_alloc | apply Kd.R_drewN | apply Kd.R_drew)); exact (Kd.R_mono (Go.Proofs.YtahfemlfdpbkkaaV.R_far8 (g := gb522) (Kd.R_types HO_448004.out BK522.out (by decide)) (fun _ hk => hk.2)) (fun _ h_ => h_.1)))); (case side6 => exact (Kd.R_reads' HO_448004.out).2.1); (case side7 => refine (Kd.R_reads' (e := 5) (base := w.heap.size) (ok := fun k_ => (((((some k_ ≠ (.slice Ao21 t438.length co21 : Value).ownBlock ∧ (some k_ ≠ (.slice Ao29 t490.length co29 : Value).ownBlock ∧ (some k_ ≠ (.slice Ao30 t491.length co30 : Value).ownBlock ∧ (some k_ ≠ (.slice Ao37 t465.length co37 : Value).ownBlock ∧ some k_ ≠ (.slice Ao38 t468.length co38 : Value).ownBlock)))) ∧ some k_ ≠ (.slice Ao111 t501.length co111 : Value).ownBlock) ∧ some k_ ≠ (.slice Ao112 t504.length co112 : Value).ownBlock) ∧ some k_ ≠ (.slice Ao120 t513.length co120 : Value).ownBlock) ∧ some k_ ≠ (.slice Ao121 t516.length co121 : Value).ownBlock)) (n := t441.length) (c := co22) ?_).2.2; exact (by (with_reducible repeat (first | apply Kd.R_alloc | apply Kd.R_drewN | apply Kd.R_drew)); exact (Kd.R_mono (Go.Proofs.YtahfemlfdpbkkaaV.R_far8 (g := gb522) (Kd.R_types HO_448005.out BK522.out (by decide)) (fun _ hk => hk.2)) (fun _ h_ => h_.1)))); (case side8 => exact (Kd.R_reads' HO_448005.out).2.1); rintro e w133 ⟨rfl, hb⟩; refine ⟨_, rfl, ?_⟩; replace HO_448004 := am_ (Kd.R_below (by (with_reducible repeat (first | apply Kd.R_alloc | apply Kd.R_drewN | apply Kd.R_drew)); exact (Kd.R_mono (Go.Proofs.YtahfemlfdpbkkaaV.R_far8 (g := gb522) (Kd.R_types HO_448004.out BK522.out (by decide)) (fun _ hk => hk.2)) (fun _ h_ => h_.1))) hb); replace HO_448005 := am_ (Kd.R_below (by (with_reducible repeat (first | apply Kd.R_alloc | apply Kd.R_drewN | apply Kd.R_drew)); exact (Kd.R_mono (Go.Proofs.YtahfemlfdpbkkaaV.R_far8 (g := gb522) (Kd.R_types HO_448005.out BK522.out (by decide)) (fun _ hk => hk.2)) (fun _ h_ => h_.1))) hb); replace HO_461004 := am_ (Kd.R_below (by (with_reducible repeat (first | apply Kd.R_alloc | apply Kd.R_drewN | apply Kd.R_drew)); exact (Kd.R_mono (Go.Proofs.YtahfemlfdpbkkaaV.R_far8 (g := gb522) (Kd.R_types HO_461004.out BK522.out (by decide)) (fun _ hk => hk.2)) (fun _ h_ => h_.1))) hb); replace HO_461005 := am_ (Kd.R_below (by (with_reducible repeat (first | apply Kd.R_alloc | apply Kd.R_drewN | apply Kd.R_drew)); exact (Kd.R_mono (Go.Proofs.YtahfemlfdpbkkaaV.R_far8 (g := gb522) (Kd.R_types HO_461005.out BK522.out (by decide)) (fun _ hk => hk.2)) (fun _ h_ => h_.1))) hb); replace HO_475004 := am_ (Kd.R_below (by (with_reducible repeat (first | apply Kd.R_alloc | apply Kd.R_drewN | apply Kd.R_drew)); exact (Kd.R_mono (Go.Proofs.YtahfemlfdpbkkaaV.R_far8 (g := gb522) (Kd.R_types HO_475004.out BK522.out (by decide)) (fun _ hk => hk.2)) (fun _ h_ => h_.1))) hb); replace HO_475005 := am_ (Kd.R_below (by (with_reducible repeat (first | apply Kd.R_alloc | apply Kd.R_drewN | apply Kd.R_drew)); exact (Kd.R_mono (Go.Proofs.YtahfemlfdpbkkaaV.R_far8 (g := gb522) (Kd.R_types HO_475005.out BK522.out (by decide)) (fun _ hk => hk.2)) (fun _ h_ => h_.1))) hb); replace HO503 := am_ (Kd.R_below (by (with_reducible repeat (first | apply Kd.R_alloc | apply Kd.R_drewN | apply Kd.R_drew)); exact (Kd.R_mono (Go.Proofs.YtahfemlfdpbkkaaV.R_far8 (g := gb522) (Kd.R_types HO503.out BK522.out (by decide)) (fun _ hk => hk.2)) (fun _ h_ => h_.1))) hb); replace HO506 := am_ (Kd.R_below (by (with_reducible repeat (first | apply Kd.R_alloc | apply Kd.R_drewN | apply Kd.R_drew)); exact (Kd.R_mono (Go.Proofs.YtahfemlfdpbkkaaV.R_far8 (g := gb522) (Kd.R_types HO506.out BK522.out (by decide)) (fun _ hk => hk.2)) (fun _ h_ => h_.1))) hb); replace HO515 := am_ (Kd.R_below (by (with_reducible repeat (first | apply Kd.R_alloc | apply Kd.R_drewN | apply Kd.R_drew)); exact (Kd.R_mono (Go.Proofs.YtahfemlfdpbkkaaV.R_far8 (g := gb522) (Kd.R_types HO515.out BK522.out (by decide)) (fun _ hk => hk.2)) (fun _ h_ => h_.1))) hb); replace HO518 := am_ (Kd.R_below (by (with_reducible repeat (first | apply Kd.R_alloc | apply Kd.R_drewN | apply Kd.R_drew)); exact (Kd.R_mono (Go.Proofs.YtahfemlfdpbkkaaV.R_far8 (g := gb522) (Kd.R_types HO518.out BK522.out (by decide)) (fun _ hk => hk.2)) (fun _ h_ => h_.1))) hb); replace BK420 := am_ (blk_below (g := gb420) (o := .cells #[.int .i64 a0_0, .int .i64 a0_1, .int .i64 a0_2, .bool a0_3, .slice A0_4 l0_4.length c0_4, .slice A0_5 l0_5.length c0_5, .int .i64 a0_6, .int .i64 a0_7] 24 (0, 0)) (by (with_reducible repeat (first | refine blk_drewN ?_ _ | refine blk_drew ?_ | refine blk_alloc ?_ _)); refine Go.Proofs.YtahfemlfdpbkkaaV.blk_far8 ?_ NB420_522.out; (with_reducible repeat (first | refine blk_drewN ?_ _ | refine blk_drew ?_ | refine blk_alloc ?_ _)); exact BK420.out) hb); replace BK447 := am_ (blk_below (g := gb447) (o := .cells #[.int .i64 t434, .int .i64 t435, .int .i64 t436, .bool t437, .slice Ao21 t438.length co21, .slice Ao22 t441.length co22, .int .i64 t444, .int .i64 t445] 29 (0, 0)) (by (with_reducible repeat (first | refine blk_drewN ?_ _ | refine blk_drew ?_ | refine blk_alloc ?_ _)); refine Go.Proofs.YtahfemlfdpbkkaaV.blk_far8 ?_ NB447_522.out; (with_reducible repeat (first | refine blk_drewN ?_ _ | refine blk_drew ?_ | refine blk_alloc ?_ _)); exact BK447.out) hb); replace BK460 := am_ (blk_below (g := gb460) (o := .cells #[.int .i64 t448, .int .i64 t449, .int .i64 t450, .bool t451, .slice Ao29 t490.length co29, .slice Ao30 t491.length co30, .int .i64 t458, .int .i64 t459] 29 (0, 0)) (by (with_reducible repeat (first | refine blk_drewN ?_ _ | refine blk_drew ?_ | refine blk_alloc ?_ _)); refine Go.Proofs.YtahfemlfdpbkkaaV.blk_far8 ?_ NB460_522.out; (with_reducible repeat (first | refine blk_drewN ?_ _ | refine blk_drew ?_ | refine blk_alloc ?_ _)); exact BK460.out) hb); replace BK474 := am_ (blk_below (g := gb474) (o := .cells #[.int .i64 t461, .int .i64 t462, .int .i64 t463, .bool t464, .slice Ao37 t465.length co37, .slice Ao38 t468.length co38, .int .i64 t471, .int .i64 t472] 29 (0, 0)) (by (with_reducible repeat (first | refine blk_drewN ?_ _ | refine blk_drew ?_ | refine blk_alloc ?_ _)); refine Go.Proofs.YtahfemlfdpbkkaaV.blk_far8 ?_ NB474_522.out; (with_reducible repeat (first | refine blk_drewN ?_ _ | refine blk_drew ?_ | refine blk_alloc ?_ _)); exact BK474.out) hb); replace BK522 := am_ (blk_below (g := gb522) (o := .cells #[.int .i64 t509, .int .i64 t510, .int .i64 t511, .bool t512, .slice Ao120 t513.length co120, .slice Ao121 t516.length co121, .int .i64 t519, .int .i64 t520] 29 (0, 0)) (by (with_reducible repeat (first | refine blk_drewN ?_ _ | refine blk_drew ?_ | refine blk_alloc ?_ _)); refine Go.Proofs.YtahfemlfdpbkkaaV.blk_all8 (show _ = some (Go.Obj.cells #[.int .i64 0, .int .i64 0, .int .i64 0, .bool false, .slice none 0 0, .slice none 0 0, .int .i64 0, .int .i64 0] _ (0, 0)) from ?_); (with_reducible repeat (first | refine blk_drewN ?_ _ | refine blk_drew ?_ | refine blk_alloc ?_ _)); exact BK522.out) hb); replace HB := am_ (below_step (qB HB) hb); (try clear hb); (try clear hb2); (try clear hk); (try clear hi)))
             go_meet
             case rel => exact ⟨_, ((t521 != t446)), (by first | rfl | (simp; done) | (simp [*]; done) | (simp [Go.Proofs.YtahfemlfdpbkkaaV.bne_nil, Go.Proofs.YtahfemlfdpbkkaaV.beq_nil]; done)), H', ⟨by have := HJ11.out; have := HJ61.out; first | omega | exact Nat.le_refl _⟩, ⟨by (try simp only [hl461004_61]); (try simp only [hl461005_61]); (with_reducible repeat (first | apply Kd.R_alloc | apply Kd.R_drewN | apply Kd.R_drew)); exact Kd.R_mono HO_448004.out (fun _ hk => ⟨hk.1.1.1.1.1, ⟨hk.1.1.1.1.2.1, ⟨hk.1.1.1.1.2.2.1, ⟨hk.1.1.1.1.2.2.2.1, ⟨hk.1.1.1.1.2.2.2.2, ⟨hk.1.2, hk.2⟩⟩⟩⟩⟩⟩)⟩, ⟨by (try simp only [hl461004_61]); (try simp only [hl461005_61]); (with_reducible repeat (first | apply Kd.R_alloc | apply Kd.R_drewN | apply Kd.R_drew)); exact Kd.R_mono HO_448005.out (fun _ hk => ⟨hk.1.1.1.1.1, ⟨hk.1.1.1.1.2.1, ⟨hk.1.1.1.1.2.2.1, ⟨hk.1.1.1.1.2.2.2.1, ⟨hk.1.1.1.1.2.2.2.2, ⟨hk.1.2, hk.2⟩⟩⟩⟩⟩⟩)⟩, ⟨by (try simp only [hl461004_61]); (try simp only [hl461005_61]); (with_reducible repeat (first | apply Kd.R_alloc | apply Kd.R_drewN | apply Kd.R_drew)); exact Kd.R_mono HO_461004.out (fun _ hk => ⟨hk.1.1.1.1.1, ⟨hk.1.1.1.1.2.1, ⟨hk.1.1.1.1.2.2.1, ⟨hk.1.1.1.1.2.2.2.1, ⟨hk.1.1.1.1.2.2.2.2, ⟨hk.1.2, hk.2⟩⟩⟩⟩⟩⟩)⟩, ⟨by (try simp only [hl461004_61]); (try simp only [hl461005_61]); (with_reducible repeat (first | apply Kd.R_alloc | apply Kd.R_drewN | apply Kd.R_drew)); exact Kd.R_mono HO_461005.out (fun _ hk => ⟨hk.1.1.1.1.1, ⟨hk.1.1.1.1.2.1, ⟨hk.1.1.1.1.2.2.1, ⟨hk.1.1.1.1.2.2.2.1, ⟨hk.1.1.1.1.2.2.2.2, ⟨hk.1.2, hk.2⟩⟩⟩⟩⟩⟩)⟩, ⟨by (try simp only [hl461004_61]); (try simp only [hl461005_61]); (with_reducible repeat (first | apply Kd.R_alloc | apply Kd.R_drewN | apply Kd.R_drew)); exact Kd.R_mono HO_475004.out (fun _ hk => ⟨hk.1.1.1.1.1, ⟨hk.1.1.1.1.2.1, ⟨hk.1.1.1.1.2.2.1, ⟨hk.1.1.1.1.2.2.2.1, ⟨hk.1.1.1.1.2.2.2.2, ⟨hk.1.2, hk.2⟩⟩⟩⟩⟩⟩)⟩, ⟨by (try simp only [hl461004_61]); (try simp only [hl461005_61]); (with_reducible repeat (first | apply Kd.R_alloc | apply Kd.R_drewN | apply Kd.R_drew)); exact Kd.R_mono HO_475005.out (fun _ hk => ⟨hk.1.1.1.1.1, ⟨hk.1.1.1.1.2.1, ⟨hk.1.1.1.1.2.2.1, ⟨hk.1.1.1.1.2.2.2.1, ⟨hk.1.1.1.1.2.2.2.2, ⟨hk.1.2, hk.2⟩⟩⟩⟩⟩⟩)⟩, ⟨by (try simp only [hl461004_61]); (try simp only [hl461005_61]); (with_reducible repeat (first | apply Kd.R_alloc | apply Kd.R_drewN | apply Kd.R_drew)); exact Kd.R_mono HO515.out (fun _ hk => ⟨hk.1.1.1.1.1.1.1.2, ⟨hk.1.1.1.1.1.1.2, ⟨hk.1.1.1.1.1.2, ⟨hk.1.1.1.1.2, ⟨hk.1.1.1.2, ⟨hk.1.1.2, hk.1.1.1.1.1.1.1.1⟩⟩⟩⟩⟩⟩)⟩, ⟨by (try simp only [hl461004_61]); (try simp only [hl461005_61]); (with_reducible repeat (first | apply Kd.R_alloc | apply Kd.R_drewN | apply Kd.R_drew)); exact Kd.R_mono HO518.out (fun _ hk => ⟨hk.1.1.1.1.1.1.1.2, ⟨hk.1.1.1.1.1.1.2, ⟨hk.1.1.1.1.1.2, ⟨hk.1.1.1.1.2, ⟨hk.1.1.1.2, ⟨hk.1.1.2, hk.1.1.1.1.1.1.1.1⟩⟩⟩⟩⟩⟩)⟩, ⟨by (try simp only [hl461004_61]); (try simp only [hl461005_61]); (with_reducible repeat (first | refine blk_drewN ?_ _ | refine blk_drew ?_ | refine blk_alloc ?_ _)); exact BK420.out⟩, ⟨by (try simp only [hl461004_61]); (try simp only [hl461005_61]); (with_reducible repeat (first | refine blk_drewN ?_ _ | refine blk_drew ?_ | refine blk_alloc ?_ _)); exact BK447.out⟩, ⟨by (try simp only [hl461004_61]); (try simp only [hl461005_61]); (with_reducible repeat (first | refine blk_drewN ?_ _ | refine blk_drew ?_ | refine blk_alloc ?_ _)); exact BK460.out⟩, ⟨by (try simp only [hl461004_61]); (try simp only [hl461005_61]); (with_reducible repeat (first | refine blk_drewN ?_ _ | refine blk_drew ?_ | refine blk_alloc ?_ _)); exact BK474.out⟩, ⟨by (try simp only [hl461004_61]); (try simp only [hl461005_61]); (with_reducible repeat (first | refine blk_drewN ?_ _ | refine blk_drew ?_ | refine blk_alloc ?_ _)); exact BK522.out⟩, ⟨qB HB⟩⟩
            ·
             replace c123 := Bool.eq_false_iff.mpr c123
             subst c123
             have H1 : (laws_FnExactAnswer.j2 kj61 t493 true t461 t462 t463 t464 t494 t495 t471 t472) = some r := by rw [if_neg (show ¬ (false = true) by decide)] at H; exact H
             clear H
             have H := H1
             clear H1
             have H' := Aside0.mk H
             clear H
             have hnb134 := NB522_420.out
             have hnc134 := NB420_522.out
             have hnb135 := NB522_447.out
             have hnc135 := NB447_522.out
             have hnb136 := NB522_460.out
             have hnc136 := NB460_522.out
             have hnb137 := NB522_474.out
             have hnc137 := NB474_522.out
             obtain ⟨hcz138_0, hcz138_1, hcz138_2, hcz138_3, hcz138_4, hcz138_5, hcz138_6, hcz138_7⟩ := cz8 BK522.out
             obtain ⟨hfz138_0, hfz138_1, hfz138_2, hfz138_3, hfz138_4, hfz138_5, hfz138_6, hfz138_7⟩ := fz8 BK522.out
             have hnb139 := NB447_420.out
             have hnc139 := NB420_447.out
             have hnb140 := NB447_460.out
             have hnc140 := NB460_447.out
             have hnb141 := NB447_474.out
             have hnc141 := NB474_447.out
             obtain ⟨hcz142_0, hcz142_1, hcz142_2, hcz142_3, hcz142_4, hcz142_5, hcz142_6, hcz142_7⟩ := cz8 BK447.out
             obtain ⟨hfz142_0, hfz142_1, hfz142_2, hfz142_3, hfz142_4, hfz142_5, hfz142_6, hfz142_7⟩ := fz8 BK447.out
             go_wp2_with (first | ((with_reducible refine gate_callee (f := 21) rfl ?_); refine goesL_ (some 81) rfl rfl Try.func21 (by kernel_rfl) rfl #[.agg #[.int .i64 t509, .int .i64 t510, .int .i64 t511, .bool t512, .slice Ao120 t513.length co120, .slice Ao121 t516.length co121, .int .i64 t519, .int .i64 t520], .agg #[.int .i64 t434, .int .i64 t435, .int .i64 t436, .bool t437, .slice Ao21 t438.length co21, .slice Ao22 t441.length co22, .int .i64 t444, .int .i64 t445]] rfl (by (try simp only [List.map_toArray, List.map_cons, List.map_nil]); first | done | rfl | (simp only [List.length_drop, List.length_take]; rfl)) ?_; (with_reducible refine (laws_eqSock.calls kj61 t509 t510 t511 t512 _ _ t513 _ _ t516 t519 t520 t434 t435 t436 t437 _ _ t438 _ _ t441 t444 t445 false _ ?side1 ?side2 ?side3 ?side4 ?side5 ?side6 ?side7 ?side8 A122.out).mono ?_); (case side1 => refine (Kd.R_reads' (e := 5) (base := w.heap.size) (ok := fun k_ => ((((((((some k_ ≠ (.slice Ao121 t516.length co121 : Value).ownBlock ∧ some k_ ≠ (.slice Ao21 t438.length co21 : Value).ownBlock) ∧ some k_ ≠ (.slice Ao22 t441.length co22 : Value).ownBlock) ∧ some k_ ≠ (.slice Ao29 t490.length co29 : Value).ownBlock) ∧ some k_ ≠ (.slice Ao30 t491.length co30 : Value).ownBlock) ∧ some k_ ≠ (.slice Ao37 t465.length co37 : Value).ownBlock) ∧ some k_ ≠ (.slice Ao38 t468.length co38 : Value).ownBlock) ∧ some k_ ≠ (.slice Ao111 t501.length co111 : Value).ownBlock) ∧ some k_ ≠ (.slice Ao112 t504.length co112 : Value).ownBlock)) (n := t513.length) (c := co120) ?_).2.2; exact (by (with_reducible repeat (first | apply Kd.R_alloc | apply Kd.R_drewN | apply Kd.R_drew)); exact (Kd.R_mono (Go.Proofs.YtahfemlfdpbkkaaV.R_far8 (g := gb522) (Kd.R_types HO515.out BK522.out (by decide)) (fun _ hk => hk.2)) (fun _ h_ => h_.1)))); (case side2 => exact (Kd.R_reads' HO515.out).2.1); (case side3 => refine (Kd.R_reads' (e := 5) (base := w.heap.size) (ok := fun k_ => ((((((((some k_ ≠ (.slice Ao120 t513.length co120 : Value).ownBlock ∧ some k_ ≠ (.slice Ao21 t438.length co21 : Value).ownBlock) ∧ some k_ ≠ (.slice Ao22 t441.length co22 : Value).ownBlock) ∧ some k_ ≠ (.slice Ao29 t490.length co29 : Value).ownBlock) ∧ some k_ ≠ (.slice Ao30 t491.length co30 : Value).ownBlock) ∧ some k_ ≠ (.slice Ao37 t465.length co37 : Value).ownBlock) ∧ some k_ ≠ (.slice Ao38 t468.length co38 : Value).ownBlock) ∧ some k_ ≠ (.slice Ao111 t501.length co111 : Value).ownBlock) ∧ some k_ ≠ (.slice Ao112 t504.length co112 : Value).ownBlock)) (n := t516.length) (c := co121) ?_).2.2; exact (by (with_reducible repeat (first | apply Kd.R_alloc | apply Kd.R_drewN | apply Kd.R_drew)); exact (Kd.R_mono (Go.Proofs.YtahfemlfdpbkkaaV.R_far8 (g := gb522) (Kd.R_types HO518.out BK522.out (by decide)) (fun _ hk => hk.2)) (fun _ h_ => h_.1)))); (case side4 => exact (Kd.R_reads' HO518.out).2.1); (case side5 => refine (Kd.R_reads' (e := 5) (base := w.heap.size) (ok := fun k_ => (((((some k_ ≠ (.slice Ao22 t441.length co22 : Value).ownBlock ∧ (some k_ ≠ (.slice Ao29 t490.length co29 : Value).ownBlock ∧ (some k_ ≠ (.slice Ao30 t491.length co30 : Value).ownBlock ∧ (some k_ ≠ (.slice Ao37 t465.length co37 : Value).ownBlock ∧ some k_ ≠ (.slice Ao38 t468.length co38 : Value).ownBlock)))) ∧ some k_ ≠ (.slice Ao111 t501.length co111 : Value).ownBlock) ∧ some k_ ≠ (.slice Ao112 t504.length co112 : Value).ownBlock) ∧ some k_ ≠ (.slice Ao120 t513.length co120 : Value).ownBlock) ∧ some k_ ≠ (.slice Ao121 t516.length co121 : Value).ownBlock)) (n := t438.length) (c := co21) ?_).2.2; exact (by (with_reducible repeat (first | apply Kd.R_alloc | apply Kd.R_drewN | apply Kd.R_drew)); exact (Kd.R_mono (Go.Proofs.YtahfemlfdpbkkaaV.R_far8 (g := gb522) (Kd.R_types HO_448004.out BK522.out (by decide)) (fun _ hk => hk.2)) (fun _ h_ => h_.1)))); (case side6 => exact (Kd.R_reads' HO_448004.out).2.1); (case side7 => refine (Kd.R_reads' (e := 5) (base := w.heap.size) (ok := fun k_ => (((((some k_ ≠ (.slice Ao21 t438.length co21 : Value).ownBlock ∧ (some k_ ≠ (.slice Ao29 t490.length co29 : Value).ownBlock ∧ (some k_ ≠ (.slice Ao30 t491.length co30 : Value).ownBlock ∧ (some k_ ≠ (.slice Ao37 t465.length co37 : Value).ownBlock ∧ some k_ ≠ (.slice Ao38 t468.length co38 : Value).ownBlock)))) ∧ some k_ ≠ (.slice Ao111 t501.length co111 : Value).ownBlock) ∧ some k_ ≠ (.slice Ao112 t504.length co112 : Value).ownBlock) ∧ some k_ ≠ (.slice Ao120 t513.length co120 : Value).ownBlock) ∧ some k_ ≠ (.slice Ao121 t516.length co121 : Value).ownBlock)) (n := t441.length) (c := co22) ?_).2.2; exact (by (with_reducible repeat (first | apply Kd.R_alloc | apply Kd.R_drewN | apply Kd.R_drew)); exact (Kd.R_mono (Go.Proofs.YtahfemlfdpbkkaaV.R_far8 (g := gb522) (Kd.R_types HO_448005.out BK522.out (by decide)) (fun _ hk => hk.2)) (fun _ h_ => h_.1)))); (case side8 => exact (Kd.R_reads' HO_448005.out).2.1); rintro e w143 ⟨rfl, hb⟩; refine ⟨_, rfl, ?_⟩; replace HO_448004 := am_ (Kd.R_below (by (with_reducible repeat (first | apply Kd.R_alloc | apply Kd.R_drewN | apply Kd.R_drew)); exact (Kd.R_mono (Go.Proofs.YtahfemlfdpbkkaaV.R_far8 (g := gb522) (Kd.R_types HO_448004.out BK522.out (by decide)) (fun _ hk => hk.2)) (fun _ h_ => h_.1))) hb); replace HO_448005 := am_ (Kd.R_below (by (with_reducible repeat (first | apply Kd.R_alloc | apply Kd.R_drewN | apply Kd.R_drew)); exact (Kd.R_mono (Go.Proofs.YtahfemlfdpbkkaaV.R_far8 (g := gb522) (Kd.R_types HO_448005.out BK522.out (by decide)) (fun _ hk => hk.2)) (fun _ h_ => h_.1))) hb); replace HO_461004 := am_ (Kd.R_below (by (with_reducible repeat (first | apply Kd.R_alloc | apply Kd.R_drewN | apply Kd.R_drew)); exact (Kd.R_mono (Go.Proofs.YtahfemlfdpbkkaaV.R_far8 (g := gb522) (Kd.R_types HO_461004.out BK522.out (by decide)) (fun _ hk => hk.2)) (fun _ h_ => h_.1))) hb); replace HO_461005 := am_ (Kd.R_below (by (with_reducible repeat (first | apply Kd.R_alloc | apply Kd.R_drewN | apply Kd.R_drew)); exact (Kd.R_mono (Go.Proofs.YtahfemlfdpbkkaaV.R_far8 (g := gb522) (Kd.R_types HO_461005.out BK522.out (by decide)) (fun _ hk => hk.2)) (fun _ h_ => h_.1))) hb); replace HO_475004 := am_ (Kd.R_below (by (with_reducible repeat (first | apply Kd.R_alloc | apply Kd.R_drewN | apply Kd.R_drew)); exact (Kd.R_mono (Go.Proofs.YtahfemlfdpbkkaaV.R_far8 (g := gb522) (Kd.R_types HO_475004.out BK522.out (by decide)) (fun _ hk => hk.2)) (fun _ h_ => h_.1))) hb); replace HO_475005 := am_ (Kd.R_below (by (with_reducible repeat (first | apply Kd.R_alloc | apply Kd.R_drewN | apply Kd.R_drew)); exact (Kd.R_mono (Go.Proofs.YtahfemlfdpbkkaaV.R_far8 (g := gb522) (Kd.R_types HO_475005.out BK522.out (by decide)) (fun _ hk => hk.2)) (fun _ h_ => h_.1))) hb); replace HO503 := am_ (Kd.R_below (by (with_reducible repeat (first | apply Kd.R_alloc | apply Kd.R_drewN | apply Kd.R_drew)); exact (Kd.R_mono (Go.Proofs.YtahfemlfdpbkkaaV.R_far8 (g := gb522) (Kd.R_types HO503.out BK522.out (by decide)) (fun _ hk => hk.2)) (fun _ h_ => h_.1))) hb); replace HO506 := am_ (Kd.R_below (by (with_reducible repeat (first | apply Kd.R_alloc | apply Kd.R_drewN | apply Kd.R_drew)); exact (Kd.R_mono (Go.Proofs.YtahfemlfdpbkkaaV.R_far8 (g := gb522) (Kd.R_types HO506.out BK522.out (by decide)) (fun _ hk => hk.2)) (fun _ h_ => h_.1))) hb); replace HO515 := am_ (Kd.R_below (by (with_reducible repeat (first | apply Kd.R_alloc | apply Kd.R_drewN | apply Kd.R_drew)); exact (Kd.R_mono (Go.Proofs.YtahfemlfdpbkkaaV.R_far8 (g := gb522) (Kd.R_types HO515.out BK522.out (by decide)) (fun _ hk => hk.2)) (fun _ h_ => h_.1))) hb); replace HO518 := am_ (Kd.R_below (by (with_reducible repeat (first | apply Kd.R_alloc | apply Kd.R_drewN | apply Kd.R_drew)); exact (Kd.R_mono (Go.Proofs.YtahfemlfdpbkkaaV.R_far8 (g := gb522) (Kd.R_types HO518.out BK522.out (by decide)) (fun _ hk => hk.2)) (fun _ h_ => h_.1))) hb); replace BK420 := am_ (blk_below (g := gb420) (o := .cells #[.int .i64 a0_0, .int .i64 a0_1, .int .i64 a0_2, .bool a0_3, .slice A0_4 l0_4.length c0_4, .slice A0_5 l0_5.length c0_5, .int .i64 a0_6, .int .i64 a0_7] 24 (0, 0)) (by (with_reducible repeat (first | refine blk_drewN ?_ _ | refine blk_drew ?_ | refine blk_alloc ?_ _)); refine Go.Proofs.YtahfemlfdpbkkaaV.blk_far8 ?_ NB420_522.out; (with_reducible repeat (first | refine blk_drewN ?_ _ | refine blk_drew ?_ | refine blk_alloc ?_ _)); exact BK420.out) hb); replace BK447 := am_ (blk_below (g := gb447) (o := .cells #[.int .i64 t434, .int .i64 t435, .int .i64 t436, .bool t437, .slice Ao21 t438.length co21, .slice Ao22 t441.length co22, .int .i64 t444, .int .i64 t445] 29 (0, 0)) (by (with_reducible repeat (first | refine blk_drewN ?_ _ | refine blk_drew ?_ | refine blk_alloc ?_ _)); refine Go.Proofs.YtahfemlfdpbkkaaV.blk_far8 ?_ NB447_522.out; (with_reducible repeat (first | refine blk_drewN ?_ _ | refine blk_drew ?_ | refine blk_alloc ?_ _)); exact BK447.out) hb); replace BK460 := am_ (blk_below (g := gb460) (o := .cells #[.int .i64 t448, .int .i64 t449, .int .i64 t450, .bool t451, .slice Ao29 t490.length co29, .slice Ao30 t491.length co30, .int .i64 t458, .int .i64 t459] 29 (0, 0)) (by (with_reducible repeat (first | refine blk_drewN ?_ _ | refine blk_drew ?_ | refine blk_alloc ?_ _)); refine Go.Proofs.YtahfemlfdpbkkaaV.blk_far8 ?_ NB460_522.out; (with_reducible repeat (first | refine blk_drewN ?_ _ | refine blk_drew ?_ | refine blk_alloc ?_ _)); exact BK460.out) hb); replace BK474 := am_ (blk_below (g := gb474) (o := .cells #[.int .i64 t461, .int .i64 t462, .int .i64 t463, .bool t464, .slice Ao37 t465.length co37, .slice Ao38 t468.length co38, .int .i64 t471, .int .i64 t472] 29 (0, 0)) (by (with_reducible repeat (first | refine blk_drewN ?_ _ | refine blk_drew ?_ | refine blk_alloc ?_ _)); refine Go.Proofs.YtahfemlfdpbkkaaV.blk_far8 ?_ NB474_522.out; (with_reducible repeat (first | refine blk_drewN ?_ _ | refine blk_drew ?_ | refine blk_alloc ?_ _)); exact BK474.out) hb); replace BK522 := am_ (blk_below (g := gb522) (o := .cells #[.int .i64 t509, .int .i64 t510, .int .i64 t511, .bool t512, .slice Ao120 t513.length co120, .slice Ao121 t516.length co121, .int .i64 t519, .int .i64 t520] 29 (0, 0)) (by (with_reducible repeat (first | refine blk_drewN ?_ _ | refine blk_drew ?_ | refine blk_alloc ?_ _)); refine Go.Proofs.YtahfemlfdpbkkaaV.blk_all8 (show _ = some (Go.Obj.cells #[.int .i64 0, .int .i64 0, .int .i64 0, .bool false, .slice none 0 0, .slice none 0 0, .int .i64 0, .int .i64 0] _ (0, 0)) from ?_); (with_reducible repeat (first | refine blk_drewN ?_ _ | refine blk_drew ?_ | refine blk_alloc ?_ _)); exact BK522.out) hb); replace HB := am_ (below_step (qB HB) hb); (try clear hb); (try clear hb2); (try clear hk); (try clear hi)))
             go_meet
             case rel => exact ⟨_, (true), (by first | rfl | (simp; done) | (simp [*]; done) | (simp [Go.Proofs.YtahfemlfdpbkkaaV.bne_nil, Go.Proofs.YtahfemlfdpbkkaaV.beq_nil]; done)), H', ⟨by have := HJ11.out; have := HJ61.out; first | omega | exact Nat.le_refl _⟩, ⟨by (try simp only [hl461004_61]); (try simp only [hl461005_61]); (with_reducible repeat (first | apply Kd.R_alloc | apply Kd.R_drewN | apply Kd.R_drew)); exact Kd.R_mono HO_448004.out (fun _ hk => ⟨hk.1.1.1.1.1, ⟨hk.1.1.1.1.2.1, ⟨hk.1.1.1.1.2.2.1, ⟨hk.1.1.1.1.2.2.2.1, ⟨hk.1.1.1.1.2.2.2.2, ⟨hk.1.2, hk.2⟩⟩⟩⟩⟩⟩)⟩, ⟨by (try simp only [hl461004_61]); (try simp only [hl461005_61]); (with_reducible repeat (first | apply Kd.R_alloc | apply Kd.R_drewN | apply Kd.R_drew)); exact Kd.R_mono HO_448005.out (fun _ hk => ⟨hk.1.1.1.1.1, ⟨hk.1.1.1.1.2.1, ⟨hk.1.1.1.1.2.2.1, ⟨hk.1.1.1.1.2.2.2.1, ⟨hk.1.1.1.1.2.2.2.2, ⟨hk.1.2, hk.2⟩⟩⟩⟩⟩⟩)⟩, ⟨by (try simp only [hl461004_61]); (try simp only [hl461005_61]); (with_reducible repeat (first | apply Kd.R_alloc | apply Kd.R_drewN | apply Kd.R_drew)); exact Kd.R_mono HO_461004.out (fun _ hk => ⟨hk.1.1.1.1.1, ⟨hk.1.1.1.1.2.1, ⟨hk.1.1.1.1.2.2.1, ⟨hk.1.1.1.1.2.2.2.1, ⟨hk.1.1.1.1.2.2.2.2, ⟨hk.1.2, hk.2⟩⟩⟩⟩⟩⟩)⟩, ⟨by (try simp only [hl461004_61]); (try simp only [hl461005_61]); (with_reducible repeat (first | apply Kd.R_alloc | apply Kd.R_drewN | apply Kd.R_drew)); exact Kd.R_mono HO_461005.out (fun _ hk => ⟨hk.1.1.1.1.1, ⟨hk.1.1.1.1.2.1, ⟨hk.1.1.1.1.2.2.1, ⟨hk.1.1.1.1.2.2.2.1, ⟨hk.1.1.1.1.2.2.2.2, ⟨hk.1.2, hk.2⟩⟩⟩⟩⟩⟩)⟩, ⟨by (try simp only [hl461004_61]); (try simp only [hl461005_61]); (with_reducible repeat (first | apply Kd.R_alloc | apply Kd.R_drewN | apply Kd.R_drew)); exact Kd.R_mono HO_475004.out (fun _ hk => ⟨hk.1.1.1.1.1, ⟨hk.1.1.1.1.2.1, ⟨hk.1.1.1.1.2.2.1, ⟨hk.1.1.1.1.2.2.2.1, ⟨hk.1.1.1.1.2.2.2.2, ⟨hk.1.2, hk.2⟩⟩⟩⟩⟩⟩)⟩, ⟨by (try simp only [hl461004_61]); (try simp only [hl461005_61]); (with_reducible repeat (first | apply Kd.R_alloc | apply Kd.R_drewN | apply Kd.R_drew)); exact Kd.R_mono HO_475005.out (fun _ hk => ⟨hk.1.1.1.1.1, ⟨hk.1.1.1.1.2.1, ⟨hk.1.1.1.1.2.2.1, ⟨hk.1.1.1.1.2.2.2.1, ⟨hk.1.1.1.1.2.2.2.2, ⟨hk.1.2, hk.2⟩⟩⟩⟩⟩⟩)⟩, ⟨by (try simp only [hl461004_61]); (try simp only [hl461005_61]); (with_reducible repeat (first | apply Kd.R_alloc | apply Kd.R_drewN | apply Kd.R_drew)); exact Kd.R_mono HO515.out (fun _ hk => ⟨hk.1.1.1.1.1.1.1.2, ⟨hk.1.1.1.1.1.1.2, ⟨hk.1.1.1.1.1.2, ⟨hk.1.1.1.1.2, ⟨hk.1.1.1.2, ⟨hk.1.1.2, hk.1.1.1.1.1.1.1.1⟩⟩⟩⟩⟩⟩)⟩, ⟨by (try simp only [hl461004_61]); (try simp only [hl461005_61]); (with_reducible repeat (first | apply Kd.R_alloc | apply Kd.R_drewN | apply Kd.R_drew)); exact Kd.R_mono HO518.out (fun _ hk => ⟨hk.1.1.1.1.1.1.1.2, ⟨hk.1.1.1.1.1.1.2, ⟨hk.1.1.1.1.1.2, ⟨hk.1.1.1.1.2, ⟨hk.1.1.1.2, ⟨hk.1.1.2, hk.1.1.1.1.1.1.1.1⟩⟩⟩⟩⟩⟩)⟩, ⟨by (try simp only [hl461004_61]); (try simp only [hl461005_61]); (with_reducible repeat (first | refine blk_drewN ?_ _ | refine blk_drew ?_ | refine blk_alloc ?_ _)); exact BK420.out⟩, ⟨by (try simp only [hl461004_61]); (try simp only [hl461005_61]); (with_reducible repeat (first | refine blk_drewN ?_ _ | refine blk_drew ?_ | refine blk_alloc ?_ _)); exact BK447.out⟩, ⟨by (try simp only [hl461004_61]); (try simp only [hl461005_61]); (with_reducible repeat (first | refine blk_drewN ?_ _ | refine blk_drew ?_ | refine blk_alloc ?_ _)); exact BK460.out⟩, ⟨by (try simp only [hl461004_61]); (try simp only [hl461005_61]); (with_reducible repeat (first | refine blk_drewN ?_ _ | refine blk_drew ?_ | refine blk_alloc ?_ _)); exact BK474.out⟩, ⟨by (try simp only [hl461004_61]); (try simp only [hl461005_61]); (with_reducible repeat (first | refine blk_drewN ?_ _ | refine blk_drew ?_ | refine blk_alloc ?_ _)); exact BK522.out⟩, ⟨qB HB⟩⟩
           case rest =>
            clear HC99
            try clear c1
            try clear c2
            try clear p2
            try clear c3
            try clear c4
            try clear c5
            try clear c6
            try clear c7
            try clear c7b0
            try clear c8
            try clear c9
            try clear c10
            try clear c11
            try clear c12
            try clear c13
            try clear c14
            try clear c15
            try clear c18
            try clear c19
            try clear c21
            try clear c22
            try clear c23
            try clear c26
            try clear c27
            try clear c33
            try clear c34
            try clear c35
            try clear c40
            try clear c41
            try clear c42
            try clear c43
            try clear c45
            try clear c46
            try clear c49
            try clear c50
            try clear c51
            try clear c52
            try clear c53
            try clear c54
            try clear c57
            try clear c60
            try clear c68
            try clear c69
            try clear c70
            try clear c73
            try clear c73b0
            try clear c75
            try clear c76
            try clear c77
            try clear c78
            try clear c80
            try clear c81
            try clear c84
            try clear c85
            try clear c86
            try clear c88
            try clear c89
            try clear c92
            try clear c95
            try clear c95b0
            try clear c96
            try clear c96b0
            try clear c96b1
            try clear c100
            try clear c101
            try clear c102
            try clear c107
            try clear c108
            try clear c115
            try clear c116
            try clear c117
            try clear c118
            try clear c123
            try clear c124
            try clear c125
            try clear c126
            try clear c127
            try clear c129
            try clear c130
            try clear c131
            try clear c134
            try clear c135
            try clear c136
            try clear c137
            try clear c139
            try clear c140
            try clear c141
            (try clear hcz103_0 hcz103_1 hcz103_2 hcz103_3 hcz103_4 hcz103_5 hcz103_6 hcz103_7)
            (try clear hcz105_0 hcz105_1 hcz105_2 hcz105_3 hcz105_4 hcz105_5 hcz105_6 hcz105_7)
            (try clear hcz109_0 hcz109_1 hcz109_2 hcz109_3 hcz109_4 hcz109_5 hcz109_6 hcz109_7)
            (try clear hcz119_0 hcz119_1 hcz119_2 hcz119_3 hcz119_4 hcz119_5 hcz119_6 hcz119_7)
            (try clear hcz128_0 hcz128_1 hcz128_2 hcz128_3 hcz128_4 hcz128_5 hcz128_6 hcz128_7)
            (try clear hcz132_0 hcz132_1 hcz132_2 hcz132_3 hcz132_4 hcz132_5 hcz132_6 hcz132_7)
            (try clear hcz138_0 hcz138_1 hcz138_2 hcz138_3 hcz138_4 hcz138_5 hcz138_6 hcz138_7)
            (try clear hcz13_0 hcz13_1 hcz13_2 hcz13_3 hcz13_4 hcz13_5 hcz13_6 hcz13_7)
            (try clear hcz142_0 hcz142_1 hcz142_2 hcz142_3 hcz142_4 hcz142_5 hcz142_6 hcz142_7)
            (try clear hcz20_0 hcz20_1 hcz20_2 hcz20_3 hcz20_4 hcz20_5 hcz20_6 hcz20_7)
            (try clear hcz23_0 hcz23_1 hcz23_2 hcz23_3 hcz23_4 hcz23_5 hcz23_6 hcz23_7)
            (try clear hcz28_0 hcz28_1 hcz28_2 hcz28_3 hcz28_4 hcz28_5 hcz28_6 hcz28_7)
            (try clear hcz36_0 hcz36_1 hcz36_2 hcz36_3 hcz36_4 hcz36_5 hcz36_6 hcz36_7)
            (try clear hcz44_0 hcz44_1 hcz44_2 hcz44_3 hcz44_4 hcz44_5 hcz44_6 hcz44_7)
            (try clear hcz47_0 hcz47_1 hcz47_2 hcz47_3 hcz47_4 hcz47_5 hcz47_6 hcz47_7)
            (try clear hcz52_0 hcz52_1 hcz52_2 hcz52_3 hcz52_4 hcz52_5 hcz52_6 hcz52_7)
            (try clear hcz55_0 hcz55_1 hcz55_2 hcz55_3 hcz55_4 hcz55_5 hcz55_6 hcz55_7)
            (try clear hcz5_0 hcz5_1 hcz5_2 hcz5_3 hcz5_4 hcz5_5 hcz5_6 hcz5_7)
            (try clear hcz71_0 hcz71_1 hcz71_2 hcz71_3 hcz71_4 hcz71_5 hcz71_6 hcz71_7)
            (try clear hcz79_0 hcz79_1 hcz79_2 hcz79_3 hcz79_4 hcz79_5 hcz79_6 hcz79_7)
            (try clear hcz82_0 hcz82_1 hcz82_2 hcz82_3 hcz82_4 hcz82_5 hcz82_6 hcz82_7)
            (try clear hcz87_0 hcz87_1 hcz87_2 hcz87_3 hcz87_4 hcz87_5 hcz87_6 hcz87_7)
            (try clear hcz90_0 hcz90_1 hcz90_2 hcz90_3 hcz90_4 hcz90_5 hcz90_6 hcz90_7)
            (try clear hfz103_0 hfz103_1 hfz103_2 hfz103_3 hfz103_4 hfz103_5 hfz103_6 hfz103_7)
            (try clear hfz105_0 hfz105_1 hfz105_2 hfz105_3 hfz105_4 hfz105_5 hfz105_6 hfz105_7)
            (try clear hfz109_0 hfz109_1 hfz109_2 hfz109_3 hfz109_4 hfz109_5 hfz109_6 hfz109_7)
            (try clear hfz119_0 hfz119_1 hfz119_2 hfz119_3 hfz119_4 hfz119_5 hfz119_6 hfz119_7)
            (try clear hfz128_0 hfz128_1 hfz128_2 hfz128_3 hfz128_4 hfz128_5 hfz128_6 hfz128_7)
            (try clear hfz132_0 hfz132_1 hfz132_2 hfz132_3 hfz132_4 hfz132_5 hfz132_6 hfz132_7)
            (try clear hfz138_0 hfz138_1 hfz138_2 hfz138_3 hfz138_4 hfz138_5 hfz138_6 hfz138_7)
            (try clear hfz13_0 hfz13_1 hfz13_2 hfz13_3 hfz13_4 hfz13_5 hfz13_6 hfz13_7)
            (try clear hfz142_0 hfz142_1 hfz142_2 hfz142_3 hfz142_4 hfz142_5 hfz142_6 hfz142_7)
            (try clear hfz20_0 hfz20_1 hfz20_2 hfz20_3 hfz20_4 hfz20_5 hfz20_6 hfz20_7)
            (try clear hfz23_0 hfz23_1 hfz23_2 hfz23_3 hfz23_4 hfz23_5 hfz23_6 hfz23_7)
            (try clear hfz28_0 hfz28_1 hfz28_2 hfz28_3 hfz28_4 hfz28_5 hfz28_6 hfz28_7)
            (try clear hfz36_0 hfz36_1 hfz36_2 hfz36_3 hfz36_4 hfz36_5 hfz36_6 hfz36_7)
            (try clear hfz44_0 hfz44_1 hfz44_2 hfz44_3 hfz44_4 hfz44_5 hfz44_6 hfz44_7)
            (try clear hfz47_0 hfz47_1 hfz47_2 hfz47_3 hfz47_4 hfz47_5 hfz47_6 hfz47_7)
            (try clear hfz52_0 hfz52_1 hfz52_2 hfz52_3 hfz52_4 hfz52_5 hfz52_6 hfz52_7)
            (try clear hfz55_0 hfz55_1 hfz55_2 hfz55_3 hfz55_4 hfz55_5 hfz55_6 hfz55_7)
            (try clear hfz5_0 hfz5_1 hfz5_2 hfz5_3 hfz5_4 hfz5_5 hfz5_6 hfz5_7)
            (try clear hfz71_0 hfz71_1 hfz71_2 hfz71_3 hfz71_4 hfz71_5 hfz71_6 hfz71_7)
            (try clear hfz79_0 hfz79_1 hfz79_2 hfz79_3 hfz79_4 hfz79_5 hfz79_6 hfz79_7)
            (try clear hfz82_0 hfz82_1 hfz82_2 hfz82_3 hfz82_4 hfz82_5 hfz82_6 hfz82_7)
            (try clear hfz87_0 hfz87_1 hfz87_2 hfz87_3 hfz87_4 hfz87_5 hfz87_6 hfz87_7)
            (try clear hfz90_0 hfz90_1 hfz90_2 hfz90_3 hfz90_4 hfz90_5 hfz90_6 hfz90_7)
            try clear p2
            obtain ⟨kq, x87_98, rfl, HA, HJ98, HO_448004, HO_448005, HO_461004, HO_461005, HO_475004, HO_475005, HO_523004, HO_523005, BK420, BK447, BK460, BK474, BK522, HB⟩ := hcut
            have hl475004_98 := (Kd.R_reads' HO_475004.out).1
            rw [hl475004_98] at HO_475004
            (try simp only [hl475004_98])
            (try simp only [hl475004_98] at BK420)
            (try simp only [hl475004_98] at BK447)
            (try simp only [hl475004_98] at BK460)
            (try simp only [hl475004_98] at BK474)
            (try simp only [hl475004_98] at BK522)
            (try simp only [hl475004_98] at HO_448004)
            (try simp only [hl475004_98] at HO_448005)
            (try simp only [hl475004_98] at HO_461004)
            (try simp only [hl475004_98] at HO_461005)
            (try simp only [hl475004_98] at HO_475005)
            (try simp only [hl475004_98] at HO_523004)
            (try simp only [hl475004_98] at HO_523005)
            have hl475005_98 := (Kd.R_reads' HO_475005.out).1
            rw [hl475005_98] at HO_475005
            (try simp only [hl475005_98])
            (try simp only [hl475005_98] at BK420)
            (try simp only [hl475005_98] at BK447)
            (try simp only [hl475005_98] at BK460)
            (try simp only [hl475005_98] at BK474)
            (try simp only [hl475005_98] at BK522)
            (try simp only [hl475005_98] at HO_448004)
            (try simp only [hl475005_98] at HO_448005)
            (try simp only [hl475005_98] at HO_461004)
            (try simp only [hl475005_98] at HO_461005)
            (try simp only [hl475005_98] at HO_475004)
            (try simp only [hl475005_98] at HO_523004)
            (try simp only [hl475005_98] at HO_523005)
            cases kq with
            | zero => exact absurd HA.out (by simp [laws_FnExactAnswer.j2])
            | succ kj98 =>
             have H := HA.out
             clear HA
             simp only [laws_FnExactAnswer.j2] at H
             by_cases c144 : x87_98 = true
             ·
              subst c144
              have H1 : (some false) = some r := by rw [if_pos rfl] at H; exact H
              clear H
              have H := H1
              clear H1
              exact absurd (hr_.out ▸ H) (by simp)
             ·
              replace c144 := Bool.eq_false_iff.mpr c144
              subst c144
              have H1 : ((laws_heldSock.f kj98 t461 t462 t463 t464 t494 t495 t471 t472 1).bind fun t524 => (if t524 < 0 then (some false) else (if t524 = t493 then (some true) else (some false)))) = some r := by rw [if_neg (show ¬ (false = true) by decide)] at H; exact H
              clear H
              have H := H1
              clear H1
              replace H := Option.bind_eq_some_iff.mp H
              obtain ⟨t524, A1450, H⟩ := H
              replace H : (if t524 < 0 then (some false) else (if t524 = t493 then (some true) else (some false))) = some r := H
              have A145 := Aside0.mk A1450
              clear A1450
              by_cases c146 : t524 < 0
              ·
               rw [if_pos c146] at H
               have c146b0 : decide (t524 < 0) = true := decide_eq_true c146
               clear c146
               exact absurd (hr_.out ▸ H) (by simp)
              ·
               rw [if_neg c146] at H
               have c146b0 : decide (t524 < 0) = false := decide_eq_false c146
               clear c146
               by_cases c147 : t524 = t493
               ·
                rw [if_pos c147] at H
                have c147b0 : (t524 == t493) = true := beq_iff_eq.mpr c147
                have c147b1 : (t524 != t493) = false := bne_eq_false_iff_eq.mpr c147
                clear c147
                obtain rfl := Option.some.inj H
                have hnb148 := NB474_420.out
                have hnc148 := NB420_474.out
                have hnb149 := NB474_447.out
                have hnc149 := NB447_474.out
                have hnb150 := NB474_460.out
                have hnc150 := NB460_474.out
                have hnb151 := NB474_522.out
                have hnc151 := NB522_474.out
                obtain ⟨hcz152_0, hcz152_1, hcz152_2, hcz152_3, hcz152_4, hcz152_5, hcz152_6, hcz152_7⟩ := cz8 BK474.out
                obtain ⟨hfz152_0, hfz152_1, hfz152_2, hfz152_3, hfz152_4, hfz152_5, hfz152_6, hfz152_7⟩ := fz8 BK474.out
                go_wp2_with (first | ((with_reducible refine gate_callee (f := 23) rfl ?_); refine goesL_ (some 90) rfl rfl Try.func23 (by kernel_rfl) rfl #[.agg #[.int .i64 t461, .int .i64 t462, .int .i64 t463, .bool t464, .slice Ao37 t494.length co37, .slice Ao38 t495.length co38, .int .i64 t471, .int .i64 t472], .int .i64 1] rfl (by (try simp only [List.map_toArray, List.map_cons, List.map_nil]); first | done | rfl | (simp only [List.length_drop, List.length_take]; rfl)) ?_; (with_reducible refine (laws_heldSock.calls kj98 t461 t462 t463 t464 _ _ t494 _ _ t495 t471 t472 1 t524 _ ?side1 ?side2 ?side3 ?side4 A145.out).mono ?_); (case side1 => exact qC ((Kd.R_reads' HO_475004.out).2.2)); (case side2 => exact (Kd.R_reads' HO_475004.out).2.1); (case side3 => exact qC ((Kd.R_reads' HO_475005.out).2.2)); (case side4 => exact (Kd.R_reads' HO_475005.out).2.1); rintro e w153 ⟨rfl, hb⟩; refine ⟨_, rfl, ?_⟩; replace HO_448004 := am_ (Kd.R_below (qR HO_448004) hb); replace HO_448005 := am_ (Kd.R_below (qR HO_448005) hb); replace HO_461004 := am_ (Kd.R_below (qR HO_461004) hb); replace HO_461005 := am_ (Kd.R_below (qR HO_461005) hb); replace HO_475004 := am_ (Kd.R_below (qR HO_475004) hb); replace HO_475005 := am_ (Kd.R_below (qR HO_475005) hb); replace HO_523004 := am_ (Kd.R_below (qR HO_523004) hb); replace HO_523005 := am_ (Kd.R_below (qR HO_523005) hb); replace BK420 := am_ (blk_below (qK BK420) hb); replace BK447 := am_ (blk_below (qK BK447) hb); replace BK460 := am_ (blk_below (qK BK460) hb); replace BK474 := am_ (blk_below (qK BK474) hb); replace BK522 := am_ (blk_below (qK BK522) hb); replace HB := am_ (below_step (qB HB) hb); (try clear hb); (try clear hb2); (try clear hk); (try clear hi)))
                go_ret
                exact ⟨by first | rfl | (simp [errW_none, errW_some] <;> rfl) | (simp [*, errW_none, errW_some] <;> rfl), qB HB⟩
               ·
                rw [if_neg c147] at H
                have c147b0 : (t524 == t493) = false := beq_eq_false_iff_ne.mpr c147
                have c147b1 : (t524 != t493) = true := bne_iff_ne.mpr c147
                exact absurd (hr_.out ▸ H) (by simp)
          ·
           rw [if_neg c96] at H
           have c96b0 : (t496 == t493) = false := beq_eq_false_iff_ne.mpr c96
           have c96b1 : (t496 != t493) = true := bne_iff_ne.mpr c96
           exact absurd (hr_.out ▸ H) (by simp)
     ·
      replace c60 := Bool.eq_false_iff.mpr c60
      subst c60
      have H1 : (some false) = some r := by rw [if_neg (show ¬ (false = true) by decide)] at H; exact H
      clear H
      have H := H1
      clear H1
      exact absurd (hr_.out ▸ H) (by simp)

end Go.Proofs.Ytahfemlfdpbkkaa.PFnExactAnswer
