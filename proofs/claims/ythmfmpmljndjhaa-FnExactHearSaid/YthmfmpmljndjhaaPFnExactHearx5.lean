-- Written by a program of this session (myprint.py, over the kit's print): contracts of FnExactHear
import Derived.Test.YthmfmpmljndjhaaPFnExactHearx0
import Derived.Test.YthmfmpmljndjhaaPFnExactHearx1
import Derived.Test.YthmfmpmljndjhaaPFnExactHearx2
import Derived.Test.YthmfmpmljndjhaaPFnExactHearx3
import Derived.Test.YthmfmpmljndjhaaPFnExactHearx4
namespace Go.Proofs.Ythmfmpmljndjhaa.PFnExactHear
open Go.RowKit Go.Proofs.YthmfmpmljndjhaaW.PrintWords Go.Proofs.YthmfmpmljndjhaaW.PrintLast Go.Proofs.YthmfmpmljndjhaaW.PrintMore Go.Proofs.YthmfmpmljndjhaaV
attribute [local go_sem] max2_int min2_int max_two min_two max_three min_three max_four min_four   -- for this text's walks alone
set_option linter.unusedVariables false
set_option linter.unusedSimpArgs false

/-! ### laws_FnExactHear: function 7 -/
mutual
def laws_FnExactHear.j0 : Nat → List Int → Bool → List Int → Bool → Bool → Int → Int → Int → Bool → List Int → List Int → Int → Int → Int → Int → Int → Bool → List Int → List Int → Int → Int → Int → Int → Int → Bool → List Int → List Int → Int → Int → Int → Int → Int → Bool → List Int → List Int → Int → Int → Option (Bool)
 | 0, _, _, _, _, _, _, _, _, _, _, _, _, _, _, _, _, _, _, _, _, _, _, _, _, _, _, _, _, _, _, _, _, _, _, _, _, _ => none
 | k + 1, x1, x7, x9, x11, x51, x214000, x214001, x214002, x214003, x214004, x214005, x214006, x214007, x244000, x244001, x244002, x244003, x244004, x244005, x244006, x244007, x257000, x257001, x257002, x257003, x257004, x257005, x257006, x257007, x274000, x274001, x274002, x274003, x274004, x274005, x274006, x274007 => if x51 = true then (some false) else ((laws_toSock.f k x214000 x214001 x214002 x214003 x214004 x214005 x214006 x214007).bind fun bt275 => ((laws_eqSock.f k x257000 x257001 x257002 x257003 x257004 x257005 x257006 x257007 bt275.1 bt275.2.1 bt275.2.2.1 bt275.2.2.2.1 bt275.2.2.2.2.1 bt275.2.2.2.2.2.1 bt275.2.2.2.2.2.2.1 bt275.2.2.2.2.2.2.2).bind fun t287 => (if t287 = true then ((laws_toByteS.f k x1).bind fun t288 => ((laws_eqByteS.f k x9 t288).bind fun t291 => (if t291 = true then ((laws_markSock.f k x257000 x257001 x257002 x257003 x257004 x257005 x257006 x257007 1).bind fun bt292 => ((laws_markByteS.f k x9 bt292.1).bind fun bt295 => (if bt295.1 < 0 then (laws_FnExactHear.j1 k x1 x7 true x214000 x214001 x214002 x214003 x214004 x214005 x214006 x214007 x244000 x244001 x244002 x244003 x244004 x244005 x244006 x244007 x274000 x274001 x274002 x274003 x274004 x274005 x274006 x274007) else ((laws_eqSock.f k x274000 x274001 x274002 x274003 x274004 x274005 x274006 x274007 x244000 x244001 x244002 x244003 x244004 x244005 x244006 x244007).bind fun t297 => (if t297 = true then (laws_FnExactHear.j1 k x1 x7 (x11 != x7) x214000 x214001 x214002 x214003 x214004 x214005 x214006 x214007 x244000 x244001 x244002 x244003 x244004 x244005 x244006 x244007 x274000 x274001 x274002 x274003 x274004 x274005 x274006 x274007) else (laws_FnExactHear.j1 k x1 x7 true x214000 x214001 x214002 x214003 x214004 x214005 x214006 x214007 x244000 x244001 x244002 x244003 x244004 x244005 x244006 x244007 x274000 x274001 x274002 x274003 x274004 x274005 x274006 x274007)))))) else (some false)))) else (some false))))
def laws_FnExactHear.j1 : Nat → List Int → Bool → Bool → Int → Int → Int → Bool → List Int → List Int → Int → Int → Int → Int → Int → Bool → List Int → List Int → Int → Int → Int → Int → Int → Bool → List Int → List Int → Int → Int → Option (Bool)
 | 0, _, _, _, _, _, _, _, _, _, _, _, _, _, _, _, _, _, _, _, _, _, _, _, _, _, _, _ => none
 | k + 1, x1, x7, x80, x214000, x214001, x214002, x214003, x214004, x214005, x214006, x214007, x244000, x244001, x244002, x244003, x244004, x244005, x244006, x244007, x274000, x274001, x274002, x274003, x274004, x274005, x274006, x274007 => if x80 = true then (some false) else ((laws_markSock.f k x274000 x274001 x274002 x274003 x274004 x274005 x274006 x274007 1).bind fun bt298 => ((laws_heldSock.f k x274000 x274001 x274002 x274003 bt298.2.1 bt298.2.2 x274006 x274007 1).bind fun t301 => (if t301 < 0 then (some false) else (if t301 = bt298.1 then ((laws_toSock.f k x214000 x214001 x214002 x214003 x214004 x214005 x214006 x214007).bind fun bt302 => ((laws_toByteS.f k x1).bind fun t314 => ((impl_Hear.f k bt302.1 bt302.2.1 bt302.2.2.1 bt302.2.2.2.1 bt302.2.2.2.2.1 bt302.2.2.2.2.2.1 bt302.2.2.2.2.2.2.1 bt302.2.2.2.2.2.2.2 t314).bind fun bt317 => ((laws_eqSock.f k bt317.1 bt317.2.1 bt317.2.2.1 bt317.2.2.2.1 bt317.2.2.2.2.1 bt317.2.2.2.2.2.1 bt317.2.2.2.2.2.2.1 bt317.2.2.2.2.2.2.2.1 x244000 x244001 x244002 x244003 x244004 x244005 x244006 x244007).bind fun t331 => (if t331 = true then (laws_FnExactHear.j2 k bt298.1 (bt317.2.2.2.2.2.2.2.2 != x7) x274000 x274001 x274002 x274003 bt298.2.1 bt298.2.2 x274006 x274007) else (laws_FnExactHear.j2 k bt298.1 true x274000 x274001 x274002 x274003 bt298.2.1 bt298.2.2 x274006 x274007)))))) else (some false)))))
def laws_FnExactHear.j2 : Nat → Int → Bool → Int → Int → Int → Bool → List Int → List Int → Int → Int → Option (Bool)
 | 0, _, _, _, _, _, _, _, _, _, _ => none
 | k + 1, x13, x108, x274000, x274001, x274002, x274003, x274004, x274005, x274006, x274007 => if x108 = true then (some false) else ((laws_heldSock.f k x274000 x274001 x274002 x274003 x274004 x274005 x274006 x274007 1).bind fun t332 => (if t332 < 0 then (some false) else (if t332 = x13 then (some true) else (some false))))
end
def laws_FnExactHear.f (k : Nat) (a0_0 : Int) (a0_1 : Int) (a0_2 : Int) (a0_3 : Bool) (l0_4 : List Int) (l0_5 : List Int) (a0_6 : Int) (a0_7 : Int) (l1 : List Int) : Option (Bool) := if (l1.length : Int) > 1048576 then (some true) else ((laws_szSock.f a0_0 a0_1 a0_2 a0_3 l0_4 l0_5 a0_6 a0_7 1048576).bind fun t214 => (if t214 < 0 then (some true) else ((laws_toSock.f k a0_0 a0_1 a0_2 a0_3 l0_4 l0_5 a0_6 a0_7).bind fun bt215 => ((laws_toByteS.f k l1).bind fun t227 => ((spec_Hear.f k bt215.1 bt215.2.1 bt215.2.2.1 bt215.2.2.2.1 bt215.2.2.2.2.1 bt215.2.2.2.2.2.1 bt215.2.2.2.2.2.2.1 bt215.2.2.2.2.2.2.2 t227).bind fun bt230 => ((laws_toSock.f k a0_0 a0_1 a0_2 a0_3 l0_4 l0_5 a0_6 a0_7).bind fun bt244 => ((laws_toByteS.f k l1).bind fun t257 => ((impl_Hear.f k bt244.1 bt244.2.1 bt244.2.2.1 bt244.2.2.2.1 bt244.2.2.2.2.1 bt244.2.2.2.2.2.1 bt244.2.2.2.2.2.2.1 bt244.2.2.2.2.2.2.2 t257).bind fun bt260 => ((laws_eqSock.f k bt260.1 bt260.2.1 bt260.2.2.1 bt260.2.2.2.1 bt260.2.2.2.2.1 bt260.2.2.2.2.2.1 bt260.2.2.2.2.2.2.1 bt260.2.2.2.2.2.2.2.1 bt230.1 bt230.2.1 bt230.2.2.1 bt230.2.2.2.1 bt230.2.2.2.2.1 bt230.2.2.2.2.2.1 bt230.2.2.2.2.2.2.1 bt230.2.2.2.2.2.2.2.1).bind fun t274 => (if t274 = true then (laws_FnExactHear.j0 k l1 bt230.2.2.2.2.2.2.2.2 t257 bt260.2.2.2.2.2.2.2.2 (bt260.2.2.2.2.2.2.2.2 != bt230.2.2.2.2.2.2.2.2) a0_0 a0_1 a0_2 a0_3 l0_4 l0_5 a0_6 a0_7 bt230.1 bt230.2.1 bt230.2.2.1 bt230.2.2.2.1 bt230.2.2.2.2.1 bt230.2.2.2.2.2.1 bt230.2.2.2.2.2.2.1 bt230.2.2.2.2.2.2.2.1 bt244.1 bt244.2.1 bt244.2.2.1 bt244.2.2.2.1 bt244.2.2.2.2.1 bt244.2.2.2.2.2.1 bt244.2.2.2.2.2.2.1 bt244.2.2.2.2.2.2.2 bt260.1 bt260.2.1 bt260.2.2.1 bt260.2.2.2.1 bt260.2.2.2.2.1 bt260.2.2.2.2.2.1 bt260.2.2.2.2.2.2.1 bt260.2.2.2.2.2.2.2.1) else (laws_FnExactHear.j0 k l1 bt230.2.2.2.2.2.2.2.2 t257 bt260.2.2.2.2.2.2.2.2 true a0_0 a0_1 a0_2 a0_3 l0_4 l0_5 a0_6 a0_7 bt230.1 bt230.2.1 bt230.2.2.1 bt230.2.2.2.1 bt230.2.2.2.2.1 bt230.2.2.2.2.2.1 bt230.2.2.2.2.2.2.1 bt230.2.2.2.2.2.2.2.1 bt244.1 bt244.2.1 bt244.2.2.1 bt244.2.2.2.1 bt244.2.2.2.2.1 bt244.2.2.2.2.2.1 bt244.2.2.2.2.2.2.1 bt244.2.2.2.2.2.2.2 bt260.1 bt260.2.1 bt260.2.2.1 bt260.2.2.2.1 bt260.2.2.2.2.1 bt260.2.2.2.2.2.1 bt260.2.2.2.2.2.2.1 bt260.2.2.2.2.2.2.2.1)))))))))))
theorem laws_FnExactHear.mono_l : ∀ k, (∀ y0 y1 y2 y3 y4 y5 y6 y7 y8 y9 y10 y11 y12 y13 y14 y15 y16 y17 y18 y19 y20 y21 y22 y23 y24 y25 y26 y27 y28 y29 y30 y31 y32 y33 y34 y35 y36, LeO (laws_FnExactHear.j0 k y0 y1 y2 y3 y4 y5 y6 y7 y8 y9 y10 y11 y12 y13 y14 y15 y16 y17 y18 y19 y20 y21 y22 y23 y24 y25 y26 y27 y28 y29 y30 y31 y32 y33 y34 y35 y36) (laws_FnExactHear.j0 (k + 1) y0 y1 y2 y3 y4 y5 y6 y7 y8 y9 y10 y11 y12 y13 y14 y15 y16 y17 y18 y19 y20 y21 y22 y23 y24 y25 y26 y27 y28 y29 y30 y31 y32 y33 y34 y35 y36)) ∧ (∀ y0 y1 y2 y3 y4 y5 y6 y7 y8 y9 y10 y11 y12 y13 y14 y15 y16 y17 y18 y19 y20 y21 y22 y23 y24 y25 y26, LeO (laws_FnExactHear.j1 k y0 y1 y2 y3 y4 y5 y6 y7 y8 y9 y10 y11 y12 y13 y14 y15 y16 y17 y18 y19 y20 y21 y22 y23 y24 y25 y26) (laws_FnExactHear.j1 (k + 1) y0 y1 y2 y3 y4 y5 y6 y7 y8 y9 y10 y11 y12 y13 y14 y15 y16 y17 y18 y19 y20 y21 y22 y23 y24 y25 y26)) ∧ (∀ y0 y1 y2 y3 y4 y5 y6 y7 y8 y9, LeO (laws_FnExactHear.j2 k y0 y1 y2 y3 y4 y5 y6 y7 y8 y9) (laws_FnExactHear.j2 (k + 1) y0 y1 y2 y3 y4 y5 y6 y7 y8 y9))
 | 0 => ⟨fun _ _ _ _ _ _ _ _ _ _ _ _ _ _ _ _ _ _ _ _ _ _ _ _ _ _ _ _ _ _ _ _ _ _ _ _ _ r h => by simp [laws_FnExactHear.j0] at h, fun _ _ _ _ _ _ _ _ _ _ _ _ _ _ _ _ _ _ _ _ _ _ _ _ _ _ _ r h => by simp [laws_FnExactHear.j1] at h, fun _ _ _ _ _ _ _ _ _ _ r h => by simp [laws_FnExactHear.j2] at h⟩
 | k + 1 => by
  obtain ⟨ih0, ih1, ih2⟩ := laws_FnExactHear.mono_l k
  refine ⟨?_, ?_, ?_⟩
  ·
   intro y0 y1 y2 y3 y4 y5 y6 y7 y8 y9 y10 y11 y12 y13 y14 y15 y16 y17 y18 y19 y20 y21 y22 y23 y24 y25 y26 y27 y28 y29 y30 y31 y32 y33 y34 y35 y36
   unfold laws_FnExactHear.j0
   repeat' first
   | (with_reducible exact ih0 _ _ _ _ _ _ _ _ _ _ _ _ _ _ _ _ _ _ _ _ _ _ _ _ _ _ _ _ _ _ _ _ _ _ _ _ _)
   | (with_reducible exact ih1 _ _ _ _ _ _ _ _ _ _ _ _ _ _ _ _ _ _ _ _ _ _ _ _ _ _ _)
   | (with_reducible exact ih2 _ _ _ _ _ _ _ _ _ _)
   | (with_reducible exact impl_Hear.mono _ _ _ _ _ _ _ _ _ _)
   | (with_reducible exact laws_eqByteS.mono _ _ _)
   | (with_reducible exact laws_eqSock.mono _ _ _ _ _ _ _ _ _ _ _ _ _ _ _ _ _)
   | (with_reducible exact laws_heldSock.mono _ _ _ _ _ _ _ _ _ _)
   | (with_reducible exact laws_markByteS.mono _ _ _)
   | (with_reducible exact laws_markSock.mono _ _ _ _ _ _ _ _ _ _)
   | (with_reducible exact laws_toByteS.mono _ _)
   | (with_reducible exact laws_toSock.mono _ _ _ _ _ _ _ _ _)
   | (with_reducible exact spec_Hear.mono _ _ _ _ _ _ _ _ _ _)
   | (with_reducible exact LeO.refl _)
   | (with_reducible exact LeO.none _)
   | (with_reducible refine LeO.ite ?_ ?_)
   | (with_reducible refine LeO.bind ?_ (fun _ => ?_))
   | exact ih0 _ _ _ _ _ _ _ _ _ _ _ _ _ _ _ _ _ _ _ _ _ _ _ _ _ _ _ _ _ _ _ _ _ _ _ _ _
   | exact ih1 _ _ _ _ _ _ _ _ _ _ _ _ _ _ _ _ _ _ _ _ _ _ _ _ _ _ _
   | exact ih2 _ _ _ _ _ _ _ _ _ _
   | exact impl_Hear.mono _ _ _ _ _ _ _ _ _ _
   | exact laws_eqByteS.mono _ _ _
   | exact laws_eqSock.mono _ _ _ _ _ _ _ _ _ _ _ _ _ _ _ _ _
   | exact laws_heldSock.mono _ _ _ _ _ _ _ _ _ _
   | exact laws_markByteS.mono _ _ _
   | exact laws_markSock.mono _ _ _ _ _ _ _ _ _ _
   | exact laws_toByteS.mono _ _
   | exact laws_toSock.mono _ _ _ _ _ _ _ _ _
   | exact spec_Hear.mono _ _ _ _ _ _ _ _ _ _
   | exact LeO.none _
   | refine LeO.ite ?_ ?_
   | refine LeO.bind ?_ (fun _ => ?_)
  ·
   intro y0 y1 y2 y3 y4 y5 y6 y7 y8 y9 y10 y11 y12 y13 y14 y15 y16 y17 y18 y19 y20 y21 y22 y23 y24 y25 y26
   unfold laws_FnExactHear.j1
   repeat' first
   | (with_reducible exact ih0 _ _ _ _ _ _ _ _ _ _ _ _ _ _ _ _ _ _ _ _ _ _ _ _ _ _ _ _ _ _ _ _ _ _ _ _ _)
   | (with_reducible exact ih1 _ _ _ _ _ _ _ _ _ _ _ _ _ _ _ _ _ _ _ _ _ _ _ _ _ _ _)
   | (with_reducible exact ih2 _ _ _ _ _ _ _ _ _ _)
   | (with_reducible exact impl_Hear.mono _ _ _ _ _ _ _ _ _ _)
   | (with_reducible exact laws_eqByteS.mono _ _ _)
   | (with_reducible exact laws_eqSock.mono _ _ _ _ _ _ _ _ _ _ _ _ _ _ _ _ _)
   | (with_reducible exact laws_heldSock.mono _ _ _ _ _ _ _ _ _ _)
   | (with_reducible exact laws_markByteS.mono _ _ _)
   | (with_reducible exact laws_markSock.mono _ _ _ _ _ _ _ _ _ _)
   | (with_reducible exact laws_toByteS.mono _ _)
   | (with_reducible exact laws_toSock.mono _ _ _ _ _ _ _ _ _)
   | (with_reducible exact spec_Hear.mono _ _ _ _ _ _ _ _ _ _)
   | (with_reducible exact LeO.refl _)
   | (with_reducible exact LeO.none _)
   | (with_reducible refine LeO.ite ?_ ?_)
   | (with_reducible refine LeO.bind ?_ (fun _ => ?_))
   | exact ih0 _ _ _ _ _ _ _ _ _ _ _ _ _ _ _ _ _ _ _ _ _ _ _ _ _ _ _ _ _ _ _ _ _ _ _ _ _
   | exact ih1 _ _ _ _ _ _ _ _ _ _ _ _ _ _ _ _ _ _ _ _ _ _ _ _ _ _ _
   | exact ih2 _ _ _ _ _ _ _ _ _ _
   | exact impl_Hear.mono _ _ _ _ _ _ _ _ _ _
   | exact laws_eqByteS.mono _ _ _
   | exact laws_eqSock.mono _ _ _ _ _ _ _ _ _ _ _ _ _ _ _ _ _
   | exact laws_heldSock.mono _ _ _ _ _ _ _ _ _ _
   | exact laws_markByteS.mono _ _ _
   | exact laws_markSock.mono _ _ _ _ _ _ _ _ _ _
   | exact laws_toByteS.mono _ _
   | exact laws_toSock.mono _ _ _ _ _ _ _ _ _
   | exact spec_Hear.mono _ _ _ _ _ _ _ _ _ _
   | exact LeO.none _
   | refine LeO.ite ?_ ?_
   | refine LeO.bind ?_ (fun _ => ?_)
  ·
   intro y0 y1 y2 y3 y4 y5 y6 y7 y8 y9
   unfold laws_FnExactHear.j2
   repeat' first
   | (with_reducible exact ih0 _ _ _ _ _ _ _ _ _ _ _ _ _ _ _ _ _ _ _ _ _ _ _ _ _ _ _ _ _ _ _ _ _ _ _ _ _)
   | (with_reducible exact ih1 _ _ _ _ _ _ _ _ _ _ _ _ _ _ _ _ _ _ _ _ _ _ _ _ _ _ _)
   | (with_reducible exact ih2 _ _ _ _ _ _ _ _ _ _)
   | (with_reducible exact impl_Hear.mono _ _ _ _ _ _ _ _ _ _)
   | (with_reducible exact laws_eqByteS.mono _ _ _)
   | (with_reducible exact laws_eqSock.mono _ _ _ _ _ _ _ _ _ _ _ _ _ _ _ _ _)
   | (with_reducible exact laws_heldSock.mono _ _ _ _ _ _ _ _ _ _)
   | (with_reducible exact laws_markByteS.mono _ _ _)
   | (with_reducible exact laws_markSock.mono _ _ _ _ _ _ _ _ _ _)
   | (with_reducible exact laws_toByteS.mono _ _)
   | (with_reducible exact laws_toSock.mono _ _ _ _ _ _ _ _ _)
   | (with_reducible exact spec_Hear.mono _ _ _ _ _ _ _ _ _ _)
   | (with_reducible exact LeO.refl _)
   | (with_reducible exact LeO.none _)
   | (with_reducible refine LeO.ite ?_ ?_)
   | (with_reducible refine LeO.bind ?_ (fun _ => ?_))
   | exact ih0 _ _ _ _ _ _ _ _ _ _ _ _ _ _ _ _ _ _ _ _ _ _ _ _ _ _ _ _ _ _ _ _ _ _ _ _ _
   | exact ih1 _ _ _ _ _ _ _ _ _ _ _ _ _ _ _ _ _ _ _ _ _ _ _ _ _ _ _
   | exact ih2 _ _ _ _ _ _ _ _ _ _
   | exact impl_Hear.mono _ _ _ _ _ _ _ _ _ _
   | exact laws_eqByteS.mono _ _ _
   | exact laws_eqSock.mono _ _ _ _ _ _ _ _ _ _ _ _ _ _ _ _ _
   | exact laws_heldSock.mono _ _ _ _ _ _ _ _ _ _
   | exact laws_markByteS.mono _ _ _
   | exact laws_markSock.mono _ _ _ _ _ _ _ _ _ _
   | exact laws_toByteS.mono _ _
   | exact laws_toSock.mono _ _ _ _ _ _ _ _ _
   | exact spec_Hear.mono _ _ _ _ _ _ _ _ _ _
   | exact LeO.none _
   | refine LeO.ite ?_ ?_
   | refine LeO.bind ?_ (fun _ => ?_)
theorem laws_FnExactHear.mono : ∀ a0 a1 a2 a3 a4 a5 a6 a7 a8 k, LeO (laws_FnExactHear.f k a0 a1 a2 a3 a4 a5 a6 a7 a8) (laws_FnExactHear.f (k + 1) a0 a1 a2 a3 a4 a5 a6 a7 a8) := by
 intro a0 a1 a2 a3 a4 a5 a6 a7 a8 k
 obtain ⟨ih0, ih1, ih2⟩ := laws_FnExactHear.mono_l k
 unfold laws_FnExactHear.f
 repeat' first
   | (with_reducible exact ih0 _ _ _ _ _ _ _ _ _ _ _ _ _ _ _ _ _ _ _ _ _ _ _ _ _ _ _ _ _ _ _ _ _ _ _ _ _)
   | (with_reducible exact ih1 _ _ _ _ _ _ _ _ _ _ _ _ _ _ _ _ _ _ _ _ _ _ _ _ _ _ _)
   | (with_reducible exact ih2 _ _ _ _ _ _ _ _ _ _)
   | (with_reducible exact impl_Hear.mono _ _ _ _ _ _ _ _ _ _)
   | (with_reducible exact laws_eqByteS.mono _ _ _)
   | (with_reducible exact laws_eqSock.mono _ _ _ _ _ _ _ _ _ _ _ _ _ _ _ _ _)
   | (with_reducible exact laws_heldSock.mono _ _ _ _ _ _ _ _ _ _)
   | (with_reducible exact laws_markByteS.mono _ _ _)
   | (with_reducible exact laws_markSock.mono _ _ _ _ _ _ _ _ _ _)
   | (with_reducible exact laws_toByteS.mono _ _)
   | (with_reducible exact laws_toSock.mono _ _ _ _ _ _ _ _ _)
   | (with_reducible exact spec_Hear.mono _ _ _ _ _ _ _ _ _ _)
   | (with_reducible exact LeO.refl _)
   | (with_reducible exact LeO.none _)
   | (with_reducible refine LeO.ite ?_ ?_)
   | (with_reducible refine LeO.bind ?_ (fun _ => ?_))
   | exact ih0 _ _ _ _ _ _ _ _ _ _ _ _ _ _ _ _ _ _ _ _ _ _ _ _ _ _ _ _ _ _ _ _ _ _ _ _ _
   | exact ih1 _ _ _ _ _ _ _ _ _ _ _ _ _ _ _ _ _ _ _ _ _ _ _ _ _ _ _
   | exact ih2 _ _ _ _ _ _ _ _ _ _
   | exact impl_Hear.mono _ _ _ _ _ _ _ _ _ _
   | exact laws_eqByteS.mono _ _ _
   | exact laws_eqSock.mono _ _ _ _ _ _ _ _ _ _ _ _ _ _ _ _ _
   | exact laws_heldSock.mono _ _ _ _ _ _ _ _ _ _
   | exact laws_markByteS.mono _ _ _
   | exact laws_markSock.mono _ _ _ _ _ _ _ _ _ _
   | exact laws_toByteS.mono _ _
   | exact laws_toSock.mono _ _ _ _ _ _ _ _ _
   | exact spec_Hear.mono _ _ _ _ _ _ _ _ _ _
   | exact LeO.none _
   | refine LeO.ite ?_ ?_
   | refine LeO.bind ?_ (fun _ => ?_)
set_option maxHeartbeats 8000000 in
set_option maxRecDepth 100000 in
theorem laws_FnExactHear.calls (k : Nat) (a0_0 : Int) (a0_1 : Int) (a0_2 : Int) (a0_3 : Bool) (A0_4 : Option Addr) (c0_4 : Nat) (l0_4 : List Int) (A0_5 : Option Addr) (c0_5 : Nat) (l0_5 : List Int) (a0_6 : Int) (a0_7 : Int) (A1 : Option Addr) (c1 : Nat) (l1 : List Int) (r : Bool) (w : World) (hr0_4 : Kd.C (Kd.int .u8) w A0_4 l0_4.length l0_4) (hc0_4 : l0_4.length ≤ c0_4) (hr0_5 : Kd.C (Kd.int .u8) w A0_5 l0_5.length l0_5) (hc0_5 : l0_5.length ≤ c0_5) (hr1 : Kd.C (Kd.int .u8) w A1 l1.length l1) (hc1 : l1.length ≤ c1) (hr_ : Aside0 (r = true)) (h : laws_FnExactHear.f k a0_0 a0_1 a0_2 a0_3 l0_4 l0_5 a0_6 a0_7 l1 = some r) :
  Calls Try.prog 7 #[.agg #[.int .i64 a0_0, .int .i64 a0_1, .int .i64 a0_2, .bool a0_3, .slice A0_4 l0_4.length c0_4, .slice A0_5 l0_5.length c0_5, .int .i64 a0_6, .int .i64 a0_7], .slice A1 l1.length c1] w fun e w' => e = .returned (.bool r) ∧ Below w.heap.size w w' := by
 have hu48 := Try.underlying48
 have hu50 := Try.underlying50
 have HR0_4 := Aside0.mk hr0_4
 have HC0_4 := Aside0.mk hc0_4
 clear hr0_4 hc0_4
 have HR0_5 := Aside0.mk hr0_5
 have HC0_5 := Aside0.mk hc0_5
 clear hr0_5 hc0_5
 have HR1 := Aside0.mk hr1
 have HC1 := Aside0.mk hc1
 clear hr1 hc1
 have HB := Aside0.mk (Below.refl w.heap.size w)
 have H : (if (l1.length : Int) > 1048576 then (some true) else ((laws_szSock.f a0_0 a0_1 a0_2 a0_3 l0_4 l0_5 a0_6 a0_7 1048576).bind fun t214 => (if t214 < 0 then (some true) else ((laws_toSock.f k a0_0 a0_1 a0_2 a0_3 l0_4 l0_5 a0_6 a0_7).bind fun bt215 => ((laws_toByteS.f k l1).bind fun t227 => ((spec_Hear.f k bt215.1 bt215.2.1 bt215.2.2.1 bt215.2.2.2.1 bt215.2.2.2.2.1 bt215.2.2.2.2.2.1 bt215.2.2.2.2.2.2.1 bt215.2.2.2.2.2.2.2 t227).bind fun bt230 => ((laws_toSock.f k a0_0 a0_1 a0_2 a0_3 l0_4 l0_5 a0_6 a0_7).bind fun bt244 => ((laws_toByteS.f k l1).bind fun t257 => ((impl_Hear.f k bt244.1 bt244.2.1 bt244.2.2.1 bt244.2.2.2.1 bt244.2.2.2.2.1 bt244.2.2.2.2.2.1 bt244.2.2.2.2.2.2.1 bt244.2.2.2.2.2.2.2 t257).bind fun bt260 => ((laws_eqSock.f k bt260.1 bt260.2.1 bt260.2.2.1 bt260.2.2.2.1 bt260.2.2.2.2.1 bt260.2.2.2.2.2.1 bt260.2.2.2.2.2.2.1 bt260.2.2.2.2.2.2.2.1 bt230.1 bt230.2.1 bt230.2.2.1 bt230.2.2.2.1 bt230.2.2.2.2.1 bt230.2.2.2.2.2.1 bt230.2.2.2.2.2.2.1 bt230.2.2.2.2.2.2.2.1).bind fun t274 => (if t274 = true then (laws_FnExactHear.j0 k l1 bt230.2.2.2.2.2.2.2.2 t257 bt260.2.2.2.2.2.2.2.2 (bt260.2.2.2.2.2.2.2.2 != bt230.2.2.2.2.2.2.2.2) a0_0 a0_1 a0_2 a0_3 l0_4 l0_5 a0_6 a0_7 bt230.1 bt230.2.1 bt230.2.2.1 bt230.2.2.2.1 bt230.2.2.2.2.1 bt230.2.2.2.2.2.1 bt230.2.2.2.2.2.2.1 bt230.2.2.2.2.2.2.2.1 bt244.1 bt244.2.1 bt244.2.2.1 bt244.2.2.2.1 bt244.2.2.2.2.1 bt244.2.2.2.2.2.1 bt244.2.2.2.2.2.2.1 bt244.2.2.2.2.2.2.2 bt260.1 bt260.2.1 bt260.2.2.1 bt260.2.2.2.1 bt260.2.2.2.2.1 bt260.2.2.2.2.2.1 bt260.2.2.2.2.2.2.1 bt260.2.2.2.2.2.2.2.1) else (laws_FnExactHear.j0 k l1 bt230.2.2.2.2.2.2.2.2 t257 bt260.2.2.2.2.2.2.2.2 true a0_0 a0_1 a0_2 a0_3 l0_4 l0_5 a0_6 a0_7 bt230.1 bt230.2.1 bt230.2.2.1 bt230.2.2.2.1 bt230.2.2.2.2.1 bt230.2.2.2.2.2.1 bt230.2.2.2.2.2.2.1 bt230.2.2.2.2.2.2.2.1 bt244.1 bt244.2.1 bt244.2.2.1 bt244.2.2.2.1 bt244.2.2.2.2.1 bt244.2.2.2.2.2.1 bt244.2.2.2.2.2.2.1 bt244.2.2.2.2.2.2.2 bt260.1 bt260.2.1 bt260.2.2.1 bt260.2.2.2.1 bt260.2.2.2.2.1 bt260.2.2.2.2.2.1 bt260.2.2.2.2.2.2.1 bt260.2.2.2.2.2.2.2.1)))))))))))) = some r := h
 clear h
 have HC3 := Aside0.mk H
 clear H
 go_enter Try.func7, Try.ntmps7
 go_upto_if 19 with (first | ((with_reducible refine gate_dst (N := 2) rfl ?_); refine box_event ?hg (N := 2) ?hd (cs := #[.int .i64 a0_0, .int .i64 a0_1, .int .i64 a0_2, .bool a0_3, .slice A0_4 l0_4.length c0_4, .slice A0_5 l0_5.length c0_5, .int .i64 a0_6, .int .i64 a0_7]) (t := 48) ?hr ?_; (case hd => rfl); (case hg => rfl); (case hr => first | (go_simp; done) | (go_simp; rfl)); intro gb213 hg w4 hbox hb; have BK213 := am_ (hbox); have GW213 := am_ ((gG_ hg (qB HB))); have IGW213 := gI_ GW213; have GE213 := am_ ((gG_ hg (qB HB))); have IGE213 := gI_ GE213; replace HB := am_ (below_step (qB HB) hb); clear hb hbox hg))
 (try simp only [Act.put, List.setIfInBounds_toArray, List.set_cons_zero, List.set_cons_succ])
 have H := HC3.out
 clear HC3
 by_cases c5 : (l1.length : Int) > 1048576
 ·
  rw [if_pos c5] at H
  have c5b0 : decide (1048576 < (l1.length : Int)) = true := decide_eq_true c5
  have c5b1 : decide (1048576 < l1.length) = true := decide_eq_true (by omega)
  clear c5
  (first | rw [c5b0] | (simp only [i64_w, i32_w]; rw [c5b0]) | skip)
  obtain rfl := Option.some.inj H
  go_wp2
  go_ret
  exact ⟨by first | rfl | (simp [errW_none, errW_some] <;> rfl) | (simp [*, errW_none, errW_some] <;> rfl), qB HB⟩
 ·
  rw [if_neg c5] at H
  have c5b0 : decide (1048576 < (l1.length : Int)) = false := decide_eq_false c5
  have c5b1 : decide (1048576 < l1.length) = false := decide_eq_false (by omega)
  clear c5
  (first | rw [c5b0] | (simp only [i64_w, i32_w]; rw [c5b0]) | skip)
  obtain ⟨t214, A6, H⟩ := bd_ H
  have HC7 := Aside0.mk H
  clear H
  obtain ⟨z8_0, z8_1, z8_2, z8_3, z8_4, z8_5, z8_6, z8_7⟩ := cz8 BK213.out
  obtain ⟨f8_0, f8_1, f8_2, f8_3, f8_4, f8_5, f8_6, f8_7⟩ := fz8 BK213.out
  go_upto_if 24 with (first | ((with_reducible refine gate_callee (f := 39) rfl ?_); refine goesL_ (some 22) rfl rfl Try.func39 (by kernel_rfl) rfl #[.agg #[.int .i64 a0_0, .int .i64 a0_1, .int .i64 a0_2, .bool a0_3, .slice A0_4 l0_4.length c0_4, .slice A0_5 l0_5.length c0_5, .int .i64 a0_6, .int .i64 a0_7], .int .i64 1048576] rfl la_ ?_; (with_reducible refine (laws_szSock.calls a0_0 a0_1 a0_2 a0_3 _ _ l0_4 _ _ l0_5 a0_6 a0_7 1048576 t214 _ ?side1 ?side2 ?side3 ?side4 A6.out).mono ?_); (case side1 => exact qC (Kd.C_below HR0_4.out HB.out)); (case side2 => exact HC0_4.out); (case side3 => exact qC (Kd.C_below HR0_5.out HB.out)); (case side4 => exact HC0_5.out); rintro e w9 ⟨rfl, hb⟩; refine ⟨_, rfl, ?_⟩; replace BK213 := am_ (blk_below (qK BK213) hb); replace HB := am_ (below_step (qB HB) hb); (try clear hb); (try clear hb2); (try clear hk); (try clear hi)))
  (try simp only [Act.put, List.setIfInBounds_toArray, List.set_cons_zero, List.set_cons_succ])
  have H := HC7.out
  clear HC7
  by_cases c10 : t214 < 0
  ·
   rw [if_pos c10] at H
   have c10b0 : decide (t214 < 0) = true := decide_eq_true c10
   clear c10
   (first | rw [c10b0] | (simp only [i64_w, i32_w]; rw [c10b0]) | skip)
   obtain rfl := Option.some.inj H
   go_wp2
   go_ret
   exact ⟨by first | rfl | (simp [errW_none, errW_some] <;> rfl) | (simp [*, errW_none, errW_some] <;> rfl), qB HB⟩
  ·
   rw [if_neg c10] at H
   have c10b0 : decide (t214 < 0) = false := decide_eq_false c10
   clear c10
   (first | rw [c10b0] | (simp only [i64_w, i32_w]; rw [c10b0]) | skip)
   obtain ⟨⟨t215, t216, t217, t218, t219, t222, t225, t226⟩, A11, H⟩ := bd_ H
   (try dsimp only at H)
   obtain ⟨t227, A12, H⟩ := bd_ H
   obtain ⟨⟨t230, t231, t232, t233, t234, t237, t240, t241, t242⟩, A13, H⟩ := bd_ H
   (try dsimp only at H)
   obtain ⟨⟨t244, t245, t246, t247, t248, t251, t254, t255⟩, A14, H⟩ := bd_ H
   (try dsimp only at H)
   obtain ⟨t257, A15, H⟩ := bd_ H
   obtain ⟨⟨t260, t261, t262, t263, t264, t267, t270, t271, t272⟩, A16, H⟩ := bd_ H
   (try dsimp only at H)
   have HC17 := Aside0.mk H
   clear H
   obtain ⟨z18_0, z18_1, z18_2, z18_3, z18_4, z18_5, z18_6, z18_7⟩ := cz8 BK213.out
   obtain ⟨f18_0, f18_1, f18_2, f18_3, f18_4, f18_5, f18_6, f18_7⟩ := fz8 BK213.out
   go_upto_region 11 with (first | ((with_reducible refine gate_callee (f := 41) rfl ?_); refine goesL_ (some 27) rfl rfl Try.func41 (by kernel_rfl) rfl #[.agg #[.int .i64 a0_0, .int .i64 a0_1, .int .i64 a0_2, .bool a0_3, .slice A0_4 l0_4.length c0_4, .slice A0_5 l0_5.length c0_5, .int .i64 a0_6, .int .i64 a0_7]] rfl la_ ?_; (with_reducible refine (laws_toSock.calls k a0_0 a0_1 a0_2 a0_3 _ _ l0_4 _ _ l0_5 a0_6 a0_7 t215 t216 t217 t218 t219 t222 t225 t226 _ ?side1 ?side2 ?side3 ?side4 A11.out).mono ?_); (case side1 => exact qC (Kd.C_below HR0_4.out HB.out)); (case side2 => exact HC0_4.out); (case side3 => exact qC (Kd.C_below HR0_5.out HB.out)); (case side4 => exact HC0_5.out); rintro e w19 ⟨v220, v223, rfl, ho0, ho1, hb⟩; refine ⟨_, rfl, ?_⟩; have HO221 := am_ (Kd.R_lower ho0 (below_size (qB HB))); have HO224 := am_ (Kd.R_lower ho1 (below_size (qB HB))); replace BK213 := am_ (blk_below (qK BK213) hb); replace HB := am_ (below_step (qB HB) hb); (try clear hb); (try clear hb2); (try clear hk); (try clear hi); (try clear ho0); (try clear ho1)) | ((with_reducible refine gate_callee (f := 42) rfl ?_); refine goesL_ (some 29) rfl rfl Try.func42 (by kernel_rfl) rfl #[.slice A1 l1.length c1] rfl la_ ?_; (with_reducible refine (laws_toByteS.calls k _ _ l1 t227 _ ?side1 ?side2 A12.out).mono ?_); (case side1 => exact qC (Kd.C_below HR1.out HB.out)); (case side2 => exact HC1.out); rintro e w20 ⟨v228, rfl, ho0, hb⟩; refine ⟨_, rfl, ?_⟩; have HO229 := am_ (Kd.R_lower (Kd.R_new' (Kd.R_new' ho0 (Kd.R_lt (qR HO221))) (Kd.R_lt (qR HO224))) (below_size (qB HB))); replace HO221 := am_ (eR HO221 ho0 hb); replace HO224 := am_ (eR HO224 ho0 hb); replace BK213 := am_ (blk_below (qK BK213) hb); replace HB := am_ (below_step (qB HB) hb); (try clear hb); (try clear hb2); (try clear hk); (try clear hi); (try clear ho0); obtain ⟨Ao21, co21, eo21⟩ := Kd.R_slice HO221.out; subst eo21; obtain ⟨Ao22, co22, eo22⟩ := Kd.R_slice HO224.out; subst eo22; obtain ⟨Ao23, co23, eo23⟩ := Kd.R_slice HO229.out; subst eo23) | ((with_reducible refine gate_callee (f := 40) rfl ?_); refine goesL_ (some 30) rfl rfl Try.func40 (by kernel_rfl) rfl #[.agg #[.int .i64 t215, .int .i64 t216, .int .i64 t217, .bool t218, .slice Ao21 t219.length co21, .slice Ao22 t222.length co22, .int .i64 t225, .int .i64 t226], .slice Ao23 t227.length co23] rfl la_ ?_; (with_reducible refine (spec_Hear.calls k t215 t216 t217 t218 _ _ t219 _ _ t222 t225 t226 _ _ t227 t230 t231 t232 t233 t234 t237 t240 t241 t242 _ ?side1 ?side2 ?side3 ?side4 ?side5 ?side6 A13.out).mono ?_); (case side1 => exact qC ((Kd.R_reads' HO221.out).2.2)); (case side2 => exact (Kd.R_reads' HO221.out).2.1); (case side3 => exact qC ((Kd.R_reads' HO224.out).2.2)); (case side4 => exact (Kd.R_reads' HO224.out).2.1); (case side5 => exact qC ((Kd.R_reads' HO229.out).2.2)); (case side6 => exact (Kd.R_reads' HO229.out).2.1); rintro e w24 ⟨v235, v238, rfl, ho0, ho1, hb⟩; refine ⟨_, rfl, ?_⟩; have HO236 := am_ (Kd.R_lower (Kd.R_new' (Kd.R_new' (Kd.R_new' ho0 (Kd.R_lt (qR HO221))) (Kd.R_lt (qR HO224))) (Kd.R_lt (qR HO229))) (below_size (qB HB))); have HO239 := am_ (Kd.R_lower (Kd.R_new' (Kd.R_new' (Kd.R_new' ho1 (Kd.R_lt (qR HO221))) (Kd.R_lt (qR HO224))) (Kd.R_lt (qR HO229))) (below_size (qB HB))); replace HO221 := am_ (Kd.R_mono (Kd.R_told (Kd.R_told (Kd.R_old (qR HO221) hb) (Kd.R_base ho0)) (Kd.R_base ho1)) (fun _ h_ => h_.1)); replace HO224 := am_ (Kd.R_mono (Kd.R_told (Kd.R_told (Kd.R_old (qR HO224) hb) (Kd.R_base ho0)) (Kd.R_base ho1)) (fun _ h_ => h_.1)); replace HO229 := am_ (Kd.R_mono (Kd.R_told (Kd.R_told (Kd.R_old (qR HO229) hb) (Kd.R_base ho0)) (Kd.R_base ho1)) (fun _ h_ => h_.1)); replace BK213 := am_ (blk_below (qK BK213) hb); replace HB := am_ (below_step (qB HB) hb); (try clear hb); (try clear hb2); (try clear hk); (try clear hi); (try clear ho0); (try clear ho1)) | ((with_reducible refine gate_dst (N := 6) rfl ?_); refine box_event ?hg (N := 6) ?hd (cs := #[.int .i64 0, .int .i64 0, .int .i64 0, .bool false, .slice none 0 0, .slice none 0 0, .int .i64 0, .int .i64 0]) (t := 50) ?hr ?_; (case hd => rfl); (case hg => rfl); (case hr => first | (go_simp; done) | (go_simp; rfl)); intro gb243 hg w25 hbox hb; replace HO221 := am_ (Kd.R_below (qR HO221) hb); replace HO224 := am_ (Kd.R_below (qR HO224) hb); replace HO229 := am_ (Kd.R_below (qR HO229) hb); replace HO236 := am_ (Kd.R_below (qR HO236) hb); replace HO239 := am_ (Kd.R_below (qR HO239) hb); have BK243 := am_ (hbox); have GW243 := am_ ((gG_ hg (qB HB))); have IGW243 := gI_ GW243; have GE243 := am_ ((gG_ hg (qB HB))); have IGE243 := gI_ GE243; replace HB := am_ (below_step (qB HB) hb); have NB213_243 := am_ ((gN_ hg (qK BK213))); have NB243_213 := am_ ((gM_ hg (qK BK213))); replace BK213 := am_ (blk_below (qK BK213) hb); clear hb hbox hg; have hnb26 := NB243_213.out; have hnc26 := NB213_243.out; obtain ⟨z27_0, z27_1, z27_2, z27_3, z27_4, z27_5, z27_6, z27_7⟩ := cz8 BK243.out; obtain ⟨f27_0, f27_1, f27_2, f27_3, f27_4, f27_5, f27_6, f27_7⟩ := fz8 BK243.out; obtain ⟨Ao28, co28, eo28⟩ := Kd.R_slice HO236.out; subst eo28; obtain ⟨Ao29, co29, eo29⟩ := Kd.R_slice HO239.out; subst eo29; obtain ⟨z30_0, z30_1, z30_2, z30_3, z30_4, z30_5, z30_6, z30_7⟩ := cz8 BK213.out; obtain ⟨f30_0, f30_1, f30_2, f30_3, f30_4, f30_5, f30_6, f30_7⟩ := fz8 BK213.out) | ((with_reducible refine gate_callee (f := 41) rfl ?_); refine goesL_ (some 34) rfl rfl Try.func41 (by kernel_rfl) rfl #[.agg #[.int .i64 a0_0, .int .i64 a0_1, .int .i64 a0_2, .bool a0_3, .slice A0_4 l0_4.length c0_4, .slice A0_5 l0_5.length c0_5, .int .i64 a0_6, .int .i64 a0_7]] rfl la_ ?_; (with_reducible refine (laws_toSock.calls k a0_0 a0_1 a0_2 a0_3 _ _ l0_4 _ _ l0_5 a0_6 a0_7 t244 t245 t246 t247 t248 t251 t254 t255 _ ?side1 ?side2 ?side3 ?side4 A14.out).mono ?_); (case side1 => exact Kd.C_below HR0_4.out (qB HB)); (case side2 => exact HC0_4.out); (case side3 => exact Kd.C_below HR0_5.out (qB HB)); (case side4 => exact HC0_5.out); rintro e w31 ⟨v249, v252, rfl, ho0, ho1, hb⟩; refine ⟨_, rfl, ?_⟩; have HO250 := am_ (Kd.R_lower (Kd.R_new' (Kd.R_new' (Kd.R_new' (Kd.R_new' (Kd.R_new' ho0 (Kd.R_lt (by (with_reducible repeat (first | apply Kd.R_alloc | apply Kd.R_drewN | apply Kd.R_drew)); exact (Kd.R_mono (Go.Proofs.YthmfmpmljndjhaaV.R_far8 (g := gb243) (Kd.R_types HO221.out BK243.out (by decide)) (fun _ hk => hk.2)) (fun _ h_ => h_.1))))) (Kd.R_lt (by (with_reducible repeat (first | apply Kd.R_alloc | apply Kd.R_drewN | apply Kd.R_drew)); exact (Kd.R_mono (Go.Proofs.YthmfmpmljndjhaaV.R_far8 (g := gb243) (Kd.R_types HO224.out BK243.out (by decide)) (fun _ hk => hk.2)) (fun _ h_ => h_.1))))) (Kd.R_lt (by (with_reducible repeat (first | apply Kd.R_alloc | apply Kd.R_drewN | apply Kd.R_drew)); exact (Kd.R_mono (Go.Proofs.YthmfmpmljndjhaaV.R_far8 (g := gb243) (Kd.R_types HO229.out BK243.out (by decide)) (fun _ hk => hk.2)) (fun _ h_ => h_.1))))) (Kd.R_lt (by (with_reducible repeat (first | apply Kd.R_alloc | apply Kd.R_drewN | apply Kd.R_drew)); exact (Kd.R_mono (Go.Proofs.YthmfmpmljndjhaaV.R_far8 (g := gb243) (Kd.R_types HO236.out BK243.out (by decide)) (fun _ hk => hk.2)) (fun _ h_ => h_.1))))) (Kd.R_lt (by (with_reducible repeat (first | apply Kd.R_alloc | apply Kd.R_drewN | apply Kd.R_drew)); exact (Kd.R_mono (Go.Proofs.YthmfmpmljndjhaaV.R_far8 (g := gb243) (Kd.R_types HO239.out BK243.out (by decide)) (fun _ hk => hk.2)) (fun _ h_ => h_.1))))) (below_size (qB HB))); have HO253 := am_ (Kd.R_lower (Kd.R_new' (Kd.R_new' (Kd.R_new' (Kd.R_new' (Kd.R_new' ho1 (Kd.R_lt (by (with_reducible repeat (first | apply Kd.R_alloc | apply Kd.R_drewN | apply Kd.R_drew)); exact (Kd.R_mono (Go.Proofs.YthmfmpmljndjhaaV.R_far8 (g := gb243) (Kd.R_types HO221.out BK243.out (by decide)) (fun _ hk => hk.2)) (fun _ h_ => h_.1))))) (Kd.R_lt (by (with_reducible repeat (first | apply Kd.R_alloc | apply Kd.R_drewN | apply Kd.R_drew)); exact (Kd.R_mono (Go.Proofs.YthmfmpmljndjhaaV.R_far8 (g := gb243) (Kd.R_types HO224.out BK243.out (by decide)) (fun _ hk => hk.2)) (fun _ h_ => h_.1))))) (Kd.R_lt (by (with_reducible repeat (first | apply Kd.R_alloc | apply Kd.R_drewN | apply Kd.R_drew)); exact (Kd.R_mono (Go.Proofs.YthmfmpmljndjhaaV.R_far8 (g := gb243) (Kd.R_types HO229.out BK243.out (by decide)) (fun _ hk => hk.2)) (fun _ h_ => h_.1))))) (Kd.R_lt (by (with_reducible repeat (first | apply Kd.R_alloc | apply Kd.R_drewN | apply Kd.R_drew)); exact (Kd.R_mono (Go.Proofs.YthmfmpmljndjhaaV.R_far8 (g := gb243) (Kd.R_types HO236.out BK243.out (by decide)) (fun _ hk => hk.2)) (fun _ h_ => h_.1))))) (Kd.R_lt (by (with_reducible repeat (first | apply Kd.R_alloc | apply Kd.R_drewN | apply Kd.R_drew)); exact (Kd.R_mono (Go.Proofs.YthmfmpmljndjhaaV.R_far8 (g := gb243) (Kd.R_types HO239.out BK243.out (by decide)) (fun _ hk => hk.2)) (fun _ h_ => h_.1))))) (below_size (qB HB))); replace HO221 := am_ (Kd.R_mono (Kd.R_told (Kd.R_told (Kd.R_old (by (with_reducible repeat (first | apply Kd.R_alloc | apply Kd.R_drewN | apply Kd.R_drew)); exact (Kd.R_mono (Go.Proofs.YthmfmpmljndjhaaV.R_far8 (g := gb243) (Kd.R_types HO221.out BK243.out (by decide)) (fun _ hk => hk.2)) (fun _ h_ => h_.1))) hb) (Kd.R_base ho0)) (Kd.R_base ho1)) (fun _ h_ => h_.1)); replace HO224 := am_ (Kd.R_mono (Kd.R_told (Kd.R_told (Kd.R_old (by (with_reducible repeat (first | apply Kd.R_alloc | apply Kd.R_drewN | apply Kd.R_drew)); exact (Kd.R_mono (Go.Proofs.YthmfmpmljndjhaaV.R_far8 (g := gb243) (Kd.R_types HO224.out BK243.out (by decide)) (fun _ hk => hk.2)) (fun _ h_ => h_.1))) hb) (Kd.R_base ho0)) (Kd.R_base ho1)) (fun _ h_ => h_.1)); replace HO229 := am_ (Kd.R_mono (Kd.R_told (Kd.R_told (Kd.R_old (by (with_reducible repeat (first | apply Kd.R_alloc | apply Kd.R_drewN | apply Kd.R_drew)); exact (Kd.R_mono (Go.Proofs.YthmfmpmljndjhaaV.R_far8 (g := gb243) (Kd.R_types HO229.out BK243.out (by decide)) (fun _ hk => hk.2)) (fun _ h_ => h_.1))) hb) (Kd.R_base ho0)) (Kd.R_base ho1)) (fun _ h_ => h_.1)); replace HO236 := am_ (Kd.R_mono (Kd.R_told (Kd.R_told (Kd.R_old (by (with_reducible repeat (first | apply Kd.R_alloc | apply Kd.R_drewN | apply Kd.R_drew)); exact (Kd.R_mono (Go.Proofs.YthmfmpmljndjhaaV.R_far8 (g := gb243) (Kd.R_types HO236.out BK243.out (by decide)) (fun _ hk => hk.2)) (fun _ h_ => h_.1))) hb) (Kd.R_base ho0)) (Kd.R_base ho1)) (fun _ h_ => h_.1)); replace HO239 := am_ (Kd.R_mono (Kd.R_told (Kd.R_told (Kd.R_old (by (with_reducible repeat (first | apply Kd.R_alloc | apply Kd.R_drewN | apply Kd.R_drew)); exact (Kd.R_mono (Go.Proofs.YthmfmpmljndjhaaV.R_far8 (g := gb243) (Kd.R_types HO239.out BK243.out (by decide)) (fun _ hk => hk.2)) (fun _ h_ => h_.1))) hb) (Kd.R_base ho0)) (Kd.R_base ho1)) (fun _ h_ => h_.1)); replace BK213 := am_ (blk_below (g := gb213) (o := .cells #[.int .i64 a0_0, .int .i64 a0_1, .int .i64 a0_2, .bool a0_3, .slice A0_4 l0_4.length c0_4, .slice A0_5 l0_5.length c0_5, .int .i64 a0_6, .int .i64 a0_7] 48 (0, 0)) (by (with_reducible repeat (first | refine blk_drewN ?_ _ | refine blk_drew ?_ | refine blk_alloc ?_ _)); refine Go.Proofs.YthmfmpmljndjhaaV.blk_far8 ?_ NB213_243.out; (with_reducible repeat (first | refine blk_drewN ?_ _ | refine blk_drew ?_ | refine blk_alloc ?_ _)); exact BK213.out) hb); replace BK243 := am_ (blk_below (g := gb243) (o := .cells #[.int .i64 t230, .int .i64 t231, .int .i64 t232, .bool t233, .slice Ao28 t234.length co28, .slice Ao29 t237.length co29, .int .i64 t240, .int .i64 t241] 50 (0, 0)) (by (with_reducible repeat (first | refine blk_drewN ?_ _ | refine blk_drew ?_ | refine blk_alloc ?_ _)); refine Go.Proofs.YthmfmpmljndjhaaV.blk_all8 (show _ = some (Go.Obj.cells #[.int .i64 0, .int .i64 0, .int .i64 0, .bool false, .slice none 0 0, .slice none 0 0, .int .i64 0, .int .i64 0] _ (0, 0)) from ?_); (with_reducible repeat (first | refine blk_drewN ?_ _ | refine blk_drew ?_ | refine blk_alloc ?_ _)); exact BK243.out) hb); replace HB := am_ (below_step (qB HB) hb); (try clear hb); (try clear hb2); (try clear hk); (try clear hi); (try clear ho0); (try clear ho1)) | ((with_reducible refine gate_dst (N := 8) rfl ?_); refine box_event ?hg (N := 8) ?hd (cs := #[.int .i64 0, .int .i64 0, .int .i64 0, .bool false, .slice none 0 0, .slice none 0 0, .int .i64 0, .int .i64 0]) (t := 50) ?hr ?_; (case hd => rfl); (case hg => rfl); (case hr => first | (go_simp; done) | (go_simp; rfl)); intro gb256 hg w32 hbox hb; replace HO221 := am_ (Kd.R_below (qR HO221) hb); replace HO224 := am_ (Kd.R_below (qR HO224) hb); replace HO229 := am_ (Kd.R_below (qR HO229) hb); replace HO236 := am_ (Kd.R_below (qR HO236) hb); replace HO239 := am_ (Kd.R_below (qR HO239) hb); replace HO250 := am_ (Kd.R_below (qR HO250) hb); replace HO253 := am_ (Kd.R_below (qR HO253) hb); have BK256 := am_ (hbox); have GW256 := am_ ((gG_ hg (qB HB))); have IGW256 := gI_ GW256; have GE256 := am_ ((gG_ hg (qB HB))); have IGE256 := gI_ GE256; replace HB := am_ (below_step (qB HB) hb); have NB213_256 := am_ ((gN_ hg (qK BK213))); have NB256_213 := am_ ((gM_ hg (qK BK213))); replace BK213 := am_ (blk_below (qK BK213) hb); have NB243_256 := am_ ((gN_ hg (qK BK243))); have NB256_243 := am_ ((gM_ hg (qK BK243))); replace BK243 := am_ (blk_below (qK BK243) hb); clear hb hbox hg; have hnb33 := NB256_213.out; have hnc33 := NB213_256.out; have hnb34 := NB256_243.out; have hnc34 := NB243_256.out; obtain ⟨z35_0, z35_1, z35_2, z35_3, z35_4, z35_5, z35_6, z35_7⟩ := cz8 BK256.out; obtain ⟨f35_0, f35_1, f35_2, f35_3, f35_4, f35_5, f35_6, f35_7⟩ := fz8 BK256.out; obtain ⟨Ao36, co36, eo36⟩ := Kd.R_slice HO250.out; subst eo36; obtain ⟨Ao37, co37, eo37⟩ := Kd.R_slice HO253.out; subst eo37) | ((with_reducible refine gate_callee (f := 42) rfl ?_); refine goesL_ (some 36) rfl rfl Try.func42 (by kernel_rfl) rfl #[.slice A1 l1.length c1] rfl la_ ?_; (with_reducible refine (laws_toByteS.calls k _ _ l1 t257 _ ?side1 ?side2 A15.out).mono ?_); (case side1 => exact Kd.C_below HR1.out (qB HB)); (case side2 => exact HC1.out); rintro e w38 ⟨v258, rfl, ho0, hb⟩; refine ⟨_, rfl, ?_⟩; have HO259 := am_ (Kd.R_lower (Kd.R_new' (Kd.R_new' (Kd.R_new' (Kd.R_new' (Kd.R_new' (Kd.R_new' (Kd.R_new' ho0 (Kd.R_lt (by (with_reducible repeat (first | apply Kd.R_alloc | apply Kd.R_drewN | apply Kd.R_drew)); exact (Kd.R_mono (Go.Proofs.YthmfmpmljndjhaaV.R_far8 (g := gb256) (Kd.R_types HO221.out BK256.out (by decide)) (fun _ hk => hk.2)) (fun _ h_ => h_.1))))) (Kd.R_lt (by (with_reducible repeat (first | apply Kd.R_alloc | apply Kd.R_drewN | apply Kd.R_drew)); exact (Kd.R_mono (Go.Proofs.YthmfmpmljndjhaaV.R_far8 (g := gb256) (Kd.R_types HO224.out BK256.out (by decide)) (fun _ hk => hk.2)) (fun _ h_ => h_.1))))) (Kd.R_lt (by (with_reducible repeat (first | apply Kd.R_alloc | apply Kd.R_drewN | apply Kd.R_drew)); exact (Kd.R_mono (Go.Proofs.YthmfmpmljndjhaaV.R_far8 (g := gb256) (Kd.R_types HO229.out BK256.out (by decide)) (fun _ hk => hk.2)) (fun _ h_ => h_.1))))) (Kd.R_lt (by (with_reducible repeat (first | apply Kd.R_alloc | apply Kd.R_drewN | apply Kd.R_drew)); exact (Kd.R_mono (Go.Proofs.YthmfmpmljndjhaaV.R_far8 (g := gb256) (Kd.R_types HO236.out BK256.out (by decide)) (fun _ hk => hk.2)) (fun _ h_ => h_.1))))) (Kd.R_lt (by (with_reducible repeat (first | apply Kd.R_alloc | apply Kd.R_drewN | apply Kd.R_drew)); exact (Kd.R_mono (Go.Proofs.YthmfmpmljndjhaaV.R_far8 (g := gb256) (Kd.R_types HO239.out BK256.out (by decide)) (fun _ hk => hk.2)) (fun _ h_ => h_.1))))) (Kd.R_lt (by (with_reducible repeat (first | apply Kd.R_alloc | apply Kd.R_drewN | apply Kd.R_drew)); exact (Kd.R_mono (Go.Proofs.YthmfmpmljndjhaaV.R_far8 (g := gb256) (Kd.R_types HO250.out BK256.out (by decide)) (fun _ hk => hk.2)) (fun _ h_ => h_.1))))) (Kd.R_lt (by (with_reducible repeat (first | apply Kd.R_alloc | apply Kd.R_drewN | apply Kd.R_drew)); exact (Kd.R_mono (Go.Proofs.YthmfmpmljndjhaaV.R_far8 (g := gb256) (Kd.R_types HO253.out BK256.out (by decide)) (fun _ hk => hk.2)) (fun _ h_ => h_.1))))) (below_size (qB HB))); replace HO221 := am_ (Kd.R_elder' (by (with_reducible repeat (first | apply Kd.R_alloc | apply Kd.R_drewN | apply Kd.R_drew)); exact (Kd.R_mono (Go.Proofs.YthmfmpmljndjhaaV.R_far8 (g := gb256) (Kd.R_types HO221.out BK256.out (by decide)) (fun _ hk => hk.2)) (fun _ h_ => h_.1))) (Kd.R_base ho0) hb); replace HO224 := am_ (Kd.R_elder' (by (with_reducible repeat (first | apply Kd.R_alloc | apply Kd.R_drewN | apply Kd.R_drew)); exact (Kd.R_mono (Go.Proofs.YthmfmpmljndjhaaV.R_far8 (g := gb256) (Kd.R_types HO224.out BK256.out (by decide)) (fun _ hk => hk.2)) (fun _ h_ => h_.1))) (Kd.R_base ho0) hb); replace HO229 := am_ (Kd.R_elder' (by (with_reducible repeat (first | apply Kd.R_alloc | apply Kd.R_drewN | apply Kd.R_drew)); exact (Kd.R_mono (Go.Proofs.YthmfmpmljndjhaaV.R_far8 (g := gb256) (Kd.R_types HO229.out BK256.out (by decide)) (fun _ hk => hk.2)) (fun _ h_ => h_.1))) (Kd.R_base ho0) hb); replace HO236 := am_ (Kd.R_elder' (by (with_reducible repeat (first | apply Kd.R_alloc | apply Kd.R_drewN | apply Kd.R_drew)); exact (Kd.R_mono (Go.Proofs.YthmfmpmljndjhaaV.R_far8 (g := gb256) (Kd.R_types HO236.out BK256.out (by decide)) (fun _ hk => hk.2)) (fun _ h_ => h_.1))) (Kd.R_base ho0) hb); replace HO239 := am_ (Kd.R_elder' (by (with_reducible repeat (first | apply Kd.R_alloc | apply Kd.R_drewN | apply Kd.R_drew)); exact (Kd.R_mono (Go.Proofs.YthmfmpmljndjhaaV.R_far8 (g := gb256) (Kd.R_types HO239.out BK256.out (by decide)) (fun _ hk => hk.2)) (fun _ h_ => h_.1))) (Kd.R_base ho0) hb); replace HO250 := am_ (Kd.R_elder' (by (with_reducible repeat (first | apply Kd.R_alloc | apply Kd.R_drewN | apply Kd.R_drew)); exact (Kd.R_mono (Go.Proofs.YthmfmpmljndjhaaV.R_far8 (g := gb256) (Kd.R_types HO250.out BK256.out (by decide)) (fun _ hk => hk.2)) (fun _ h_ => h_.1))) (Kd.R_base ho0) hb); replace HO253 := am_ (Kd.R_elder' (by (with_reducible repeat (first | apply Kd.R_alloc | apply Kd.R_drewN | apply Kd.R_drew)); exact (Kd.R_mono (Go.Proofs.YthmfmpmljndjhaaV.R_far8 (g := gb256) (Kd.R_types HO253.out BK256.out (by decide)) (fun _ hk => hk.2)) (fun _ h_ => h_.1))) (Kd.R_base ho0) hb); replace BK213 := am_ (blk_below (g := gb213) (o := .cells #[.int .i64 a0_0, .int .i64 a0_1, .int .i64 a0_2, .bool a0_3, .slice A0_4 l0_4.length c0_4, .slice A0_5 l0_5.length c0_5, .int .i64 a0_6, .int .i64 a0_7] 48 (0, 0)) (by (with_reducible repeat (first | refine blk_drewN ?_ _ | refine blk_drew ?_ | refine blk_alloc ?_ _)); refine Go.Proofs.YthmfmpmljndjhaaV.blk_far8 ?_ NB213_256.out; (with_reducible repeat (first | refine blk_drewN ?_ _ | refine blk_drew ?_ | refine blk_alloc ?_ _)); exact BK213.out) hb); replace BK243 := am_ (blk_below (g := gb243) (o := .cells #[.int .i64 t230, .int .i64 t231, .int .i64 t232, .bool t233, .slice Ao28 t234.length co28, .slice Ao29 t237.length co29, .int .i64 t240, .int .i64 t241] 50 (0, 0)) (by (with_reducible repeat (first | refine blk_drewN ?_ _ | refine blk_drew ?_ | refine blk_alloc ?_ _)); refine Go.Proofs.YthmfmpmljndjhaaV.blk_far8 ?_ NB243_256.out; (with_reducible repeat (first | refine blk_drewN ?_ _ | refine blk_drew ?_ | refine blk_alloc ?_ _)); exact BK243.out) hb); replace BK256 := am_ (blk_below (g := gb256) (o := .cells #[.int .i64 t244, .int .i64 t245, .int .i64 t246, .bool t247, .slice Ao36 t248.length co36, .slice Ao37 t251.length co37, .int .i64 t254, .int .i64 t255] 50 (0, 0)) (by (with_reducible repeat (first | refine blk_drewN ?_ _ | refine blk_drew ?_ | refine blk_alloc ?_ _)); refine Go.Proofs.YthmfmpmljndjhaaV.blk_all8 (show _ = some (Go.Obj.cells #[.int .i64 0, .int .i64 0, .int .i64 0, .bool false, .slice none 0 0, .slice none 0 0, .int .i64 0, .int .i64 0] _ (0, 0)) from ?_); (with_reducible repeat (first | refine blk_drewN ?_ _ | refine blk_drew ?_ | refine blk_alloc ?_ _)); exact BK256.out) hb); replace HB := am_ (below_step (qB HB) hb); (try clear hb); (try clear hb2); (try clear hk); (try clear hi); (try clear ho0); obtain ⟨z39_0, z39_1, z39_2, z39_3, z39_4, z39_5, z39_6, z39_7⟩ := cz8 BK256.out; obtain ⟨f39_0, f39_1, f39_2, f39_3, f39_4, f39_5, f39_6, f39_7⟩ := fz8 BK256.out; obtain ⟨Ao40, co40, eo40⟩ := Kd.R_slice HO259.out; subst eo40) | ((with_reducible refine gate_callee (f := 43) rfl ?_); refine goesL_ (some 40) rfl rfl Try.func43 (by kernel_rfl) rfl #[.agg #[.int .i64 t244, .int .i64 t245, .int .i64 t246, .bool t247, .slice Ao36 t248.length co36, .slice Ao37 t251.length co37, .int .i64 t254, .int .i64 t255], .slice Ao40 t257.length co40] rfl la_ ?_; (with_reducible refine (impl_Hear.calls k t244 t245 t246 t247 _ _ t248 _ _ t251 t254 t255 _ _ t257 t260 t261 t262 t263 t264 t267 t270 t271 t272 _ ?side1 ?side2 ?side3 ?side4 ?side5 ?side6 A16.out).mono ?_); (case side1 => exact qC ((Kd.R_reads' HO250.out).2.2)); (case side2 => exact (Kd.R_reads' HO250.out).2.1); (case side3 => exact qC ((Kd.R_reads' HO253.out).2.2)); (case side4 => exact (Kd.R_reads' HO253.out).2.1); (case side5 => exact qC ((Kd.R_reads' HO259.out).2.2)); (case side6 => exact (Kd.R_reads' HO259.out).2.1); rintro e w41 ⟨v265, v268, rfl, ho0, ho1, hb⟩; refine ⟨_, rfl, ?_⟩; have HO266 := am_ (Kd.R_lower (Kd.R_new' (Kd.R_new' (Kd.R_new' (Kd.R_new' (Kd.R_new' (Kd.R_new' (Kd.R_new' (Kd.R_new' ho0 (Kd.R_lt (qR HO221))) (Kd.R_lt (qR HO224))) (Kd.R_lt (qR HO229))) (Kd.R_lt (qR HO236))) (Kd.R_lt (qR HO239))) (Kd.R_lt (qR HO250))) (Kd.R_lt (qR HO253))) (Kd.R_lt (qR HO259))) (below_size (qB HB))); have HO269 := am_ (Kd.R_lower (Kd.R_new' (Kd.R_new' (Kd.R_new' (Kd.R_new' (Kd.R_new' (Kd.R_new' (Kd.R_new' (Kd.R_new' ho1 (Kd.R_lt (qR HO221))) (Kd.R_lt (qR HO224))) (Kd.R_lt (qR HO229))) (Kd.R_lt (qR HO236))) (Kd.R_lt (qR HO239))) (Kd.R_lt (qR HO250))) (Kd.R_lt (qR HO253))) (Kd.R_lt (qR HO259))) (below_size (qB HB))); replace HO221 := am_ (Kd.R_mono (Kd.R_told (Kd.R_told (Kd.R_old (qR HO221) hb) (Kd.R_base ho0)) (Kd.R_base ho1)) (fun _ h_ => h_.1)); replace HO224 := am_ (Kd.R_mono (Kd.R_told (Kd.R_told (Kd.R_old (qR HO224) hb) (Kd.R_base ho0)) (Kd.R_base ho1)) (fun _ h_ => h_.1)); replace HO229 := am_ (Kd.R_mono (Kd.R_told (Kd.R_told (Kd.R_old (qR HO229) hb) (Kd.R_base ho0)) (Kd.R_base ho1)) (fun _ h_ => h_.1)); replace HO236 := am_ (Kd.R_mono (Kd.R_told (Kd.R_told (Kd.R_old (qR HO236) hb) (Kd.R_base ho0)) (Kd.R_base ho1)) (fun _ h_ => h_.1)); replace HO239 := am_ (Kd.R_mono (Kd.R_told (Kd.R_told (Kd.R_old (qR HO239) hb) (Kd.R_base ho0)) (Kd.R_base ho1)) (fun _ h_ => h_.1)); replace HO250 := am_ (Kd.R_mono (Kd.R_told (Kd.R_told (Kd.R_old (qR HO250) hb) (Kd.R_base ho0)) (Kd.R_base ho1)) (fun _ h_ => h_.1)); replace HO253 := am_ (Kd.R_mono (Kd.R_told (Kd.R_told (Kd.R_old (qR HO253) hb) (Kd.R_base ho0)) (Kd.R_base ho1)) (fun _ h_ => h_.1)); replace HO259 := am_ (Kd.R_mono (Kd.R_told (Kd.R_told (Kd.R_old (qR HO259) hb) (Kd.R_base ho0)) (Kd.R_base ho1)) (fun _ h_ => h_.1)); replace BK213 := am_ (blk_below (qK BK213) hb); replace BK243 := am_ (blk_below (qK BK243) hb); replace BK256 := am_ (blk_below (qK BK256) hb); replace HB := am_ (below_step (qB HB) hb); (try clear hb); (try clear hb2); (try clear hk); (try clear hi); (try clear ho0); (try clear ho1)) | ((with_reducible refine gate_dst (N := 10) rfl ?_); refine box_event ?hg (N := 10) ?hd (cs := #[.int .i64 0, .int .i64 0, .int .i64 0, .bool false, .slice none 0 0, .slice none 0 0, .int .i64 0, .int .i64 0]) (t := 50) ?hr ?_; (case hd => rfl); (case hg => rfl); (case hr => first | (go_simp; done) | (go_simp; rfl)); intro gb273 hg w42 hbox hb; replace HO221 := am_ (Kd.R_below (qR HO221) hb); replace HO224 := am_ (Kd.R_below (qR HO224) hb); replace HO229 := am_ (Kd.R_below (qR HO229) hb); replace HO236 := am_ (Kd.R_below (qR HO236) hb); replace HO239 := am_ (Kd.R_below (qR HO239) hb); replace HO250 := am_ (Kd.R_below (qR HO250) hb); replace HO253 := am_ (Kd.R_below (qR HO253) hb); replace HO259 := am_ (Kd.R_below (qR HO259) hb); replace HO266 := am_ (Kd.R_below (qR HO266) hb); replace HO269 := am_ (Kd.R_below (qR HO269) hb); have BK273 := am_ (hbox); have GW273 := am_ ((gG_ hg (qB HB))); have IGW273 := gI_ GW273; have GE273 := am_ ((gG_ hg (qB HB))); have IGE273 := gI_ GE273; replace HB := am_ (below_step (qB HB) hb); have NB213_273 := am_ ((gN_ hg (qK BK213))); have NB273_213 := am_ ((gM_ hg (qK BK213))); replace BK213 := am_ (blk_below (qK BK213) hb); have NB243_273 := am_ ((gN_ hg (qK BK243))); have NB273_243 := am_ ((gM_ hg (qK BK243))); replace BK243 := am_ (blk_below (qK BK243) hb); have NB256_273 := am_ ((gN_ hg (qK BK256))); have NB273_256 := am_ ((gM_ hg (qK BK256))); replace BK256 := am_ (blk_below (qK BK256) hb); clear hb hbox hg; have hnb43 := NB273_213.out; have hnc43 := NB213_273.out; have hnb44 := NB273_243.out; have hnc44 := NB243_273.out; have hnb45 := NB273_256.out; have hnc45 := NB256_273.out; obtain ⟨z46_0, z46_1, z46_2, z46_3, z46_4, z46_5, z46_6, z46_7⟩ := cz8 BK273.out; obtain ⟨f46_0, f46_1, f46_2, f46_3, f46_4, f46_5, f46_6, f46_7⟩ := fz8 BK273.out; obtain ⟨Ao47, co47, eo47⟩ := Kd.R_slice HO266.out; subst eo47; obtain ⟨Ao48, co48, eo48⟩ := Kd.R_slice HO269.out; subst eo48))
   (try simp only [Act.put, List.setIfInBounds_toArray, List.set_cons_zero, List.set_cons_succ])
   go_cut [51] (fun v51 wc => ∃ (kq : Nat) (x51_16 : Bool), v51 = .bool x51_16 ∧ Aside0 (laws_FnExactHear.j0 kq l1 t242 t257 t272 x51_16 a0_0 a0_1 a0_2 a0_3 l0_4 l0_5 a0_6 a0_7 t230 t231 t232 t233 t234 t237 t240 t241 t244 t245 t246 t247 t248 t251 t254 t255 t260 t261 t262 t263 t264 t267 t270 t271 = some r) ∧ Aside0 (kq ≤ k) ∧ Aside0 (Kd.R (Kd.int .u8) 5 wc w.heap.size (fun k_ => some k_ ≠ ((.slice Ao28 t234.length co28) : Value).ownBlock ∧ some k_ ≠ ((.slice Ao29 t237.length co29) : Value).ownBlock ∧ some k_ ≠ ((.slice Ao36 t248.length co36) : Value).ownBlock ∧ some k_ ≠ ((.slice Ao37 t251.length co37) : Value).ownBlock ∧ some k_ ≠ ((.slice Ao47 t264.length co47) : Value).ownBlock ∧ some k_ ≠ ((.slice Ao48 t267.length co48) : Value).ownBlock) (.slice Ao40 t257.length co40) t257) ∧ Aside0 (Kd.R (Kd.int .u8) 5 wc w.heap.size (fun k_ => some k_ ≠ ((.slice Ao40 t257.length co40) : Value).ownBlock ∧ some k_ ≠ ((.slice Ao29 t237.length co29) : Value).ownBlock ∧ some k_ ≠ ((.slice Ao36 t248.length co36) : Value).ownBlock ∧ some k_ ≠ ((.slice Ao37 t251.length co37) : Value).ownBlock ∧ some k_ ≠ ((.slice Ao47 t264.length co47) : Value).ownBlock ∧ some k_ ≠ ((.slice Ao48 t267.length co48) : Value).ownBlock) (.slice Ao28 t234.length co28) t234) ∧ Aside0 (Kd.R (Kd.int .u8) 5 wc w.heap.size (fun k_ => some k_ ≠ ((.slice Ao40 t257.length co40) : Value).ownBlock ∧ some k_ ≠ ((.slice Ao28 t234.length co28) : Value).ownBlock ∧ some k_ ≠ ((.slice Ao36 t248.length co36) : Value).ownBlock ∧ some k_ ≠ ((.slice Ao37 t251.length co37) : Value).ownBlock ∧ some k_ ≠ ((.slice Ao47 t264.length co47) : Value).ownBlock ∧ some k_ ≠ ((.slice Ao48 t267.length co48) : Value).ownBlock) (.slice Ao29 t237.length co29) t237) ∧ Aside0 (Kd.R (Kd.int .u8) 5 wc w.heap.size (fun k_ => some k_ ≠ ((.slice Ao40 t257.length co40) : Value).ownBlock ∧ some k_ ≠ ((.slice Ao28 t234.length co28) : Value).ownBlock ∧ some k_ ≠ ((.slice Ao29 t237.length co29) : Value).ownBlock ∧ some k_ ≠ ((.slice Ao37 t251.length co37) : Value).ownBlock ∧ some k_ ≠ ((.slice Ao47 t264.length co47) : Value).ownBlock ∧ some k_ ≠ ((.slice Ao48 t267.length co48) : Value).ownBlock) (.slice Ao36 t248.length co36) t248) ∧ Aside0 (Kd.R (Kd.int .u8) 5 wc w.heap.size (fun k_ => some k_ ≠ ((.slice Ao40 t257.length co40) : Value).ownBlock ∧ some k_ ≠ ((.slice Ao28 t234.length co28) : Value).ownBlock ∧ some k_ ≠ ((.slice Ao29 t237.length co29) : Value).ownBlock ∧ some k_ ≠ ((.slice Ao36 t248.length co36) : Value).ownBlock ∧ some k_ ≠ ((.slice Ao47 t264.length co47) : Value).ownBlock ∧ some k_ ≠ ((.slice Ao48 t267.length co48) : Value).ownBlock) (.slice Ao37 t251.length co37) t251) ∧ Aside0 (Kd.R (Kd.int .u8) 5 wc w.heap.size (fun k_ => some k_ ≠ ((.slice Ao40 t257.length co40) : Value).ownBlock ∧ some k_ ≠ ((.slice Ao28 t234.length co28) : Value).ownBlock ∧ some k_ ≠ ((.slice Ao29 t237.length co29) : Value).ownBlock ∧ some k_ ≠ ((.slice Ao36 t248.length co36) : Value).ownBlock ∧ some k_ ≠ ((.slice Ao37 t251.length co37) : Value).ownBlock ∧ some k_ ≠ ((.slice Ao48 t267.length co48) : Value).ownBlock) (.slice Ao47 t264.length co47) t264) ∧ Aside0 (Kd.R (Kd.int .u8) 5 wc w.heap.size (fun k_ => some k_ ≠ ((.slice Ao40 t257.length co40) : Value).ownBlock ∧ some k_ ≠ ((.slice Ao28 t234.length co28) : Value).ownBlock ∧ some k_ ≠ ((.slice Ao29 t237.length co29) : Value).ownBlock ∧ some k_ ≠ ((.slice Ao36 t248.length co36) : Value).ownBlock ∧ some k_ ≠ ((.slice Ao37 t251.length co37) : Value).ownBlock ∧ some k_ ≠ ((.slice Ao47 t264.length co47) : Value).ownBlock) (.slice Ao48 t267.length co48) t267) ∧ Aside0 (wc.heap[gb213]? = some (.cells #[.int .i64 a0_0, .int .i64 a0_1, .int .i64 a0_2, .bool a0_3, (.slice A0_4 l0_4.length c0_4), (.slice A0_5 l0_5.length c0_5), .int .i64 a0_6, .int .i64 a0_7] 48 (0, 0))) ∧ Aside0 (wc.heap[gb243]? = some (.cells #[.int .i64 t230, .int .i64 t231, .int .i64 t232, .bool t233, (.slice Ao28 t234.length co28), (.slice Ao29 t237.length co29), .int .i64 t240, .int .i64 t241] 50 (0, 0))) ∧ Aside0 (wc.heap[gb256]? = some (.cells #[.int .i64 t244, .int .i64 t245, .int .i64 t246, .bool t247, (.slice Ao36 t248.length co36), (.slice Ao37 t251.length co37), .int .i64 t254, .int .i64 t255] 50 (0, 0))) ∧ Aside0 (wc.heap[gb273]? = some (.cells #[.int .i64 t260, .int .i64 t261, .int .i64 t262, .bool t263, (.slice Ao47 t264.length co47), (.slice Ao48 t267.length co48), .int .i64 t270, .int .i64 t271] 50 (0, 0))) ∧ Aside0 (Below w.heap.size w wc))
   case first =>
    have H := HC17.out
    clear HC17
    obtain ⟨t274, A49, H⟩ := bd_ H
    by_cases c50 : t274 = true
    ·
     subst c50
     rw [if_pos rfl] at H
     have H' := Aside0.mk H
     clear H
     have hnb51 := NB273_213.out
     have hnc51 := NB213_273.out
     have hnb52 := NB273_243.out
     have hnc52 := NB243_273.out
     have hnb53 := NB273_256.out
     have hnc53 := NB256_273.out
     obtain ⟨z54_0, z54_1, z54_2, z54_3, z54_4, z54_5, z54_6, z54_7⟩ := cz8 BK273.out
     obtain ⟨f54_0, f54_1, f54_2, f54_3, f54_4, f54_5, f54_6, f54_7⟩ := fz8 BK273.out
     have hnb55 := NB243_213.out
     have hnc55 := NB213_243.out
     have hnb56 := NB243_256.out
     have hnc56 := NB256_243.out
     obtain ⟨z57_0, z57_1, z57_2, z57_3, z57_4, z57_5, z57_6, z57_7⟩ := cz8 BK243.out
     obtain ⟨f57_0, f57_1, f57_2, f57_3, f57_4, f57_5, f57_6, f57_7⟩ := fz8 BK243.out
     go_wp2_with (first | ((with_reducible refine gate_callee (f := 44) rfl ?_); refine goesL_ (some 45) rfl rfl Try.func44 (by kernel_rfl) rfl #[.agg #[.int .i64 t260, .int .i64 t261, .int .i64 t262, .bool t263, .slice Ao47 t264.length co47, .slice Ao48 t267.length co48, .int .i64 t270, .int .i64 t271], .agg #[.int .i64 t230, .int .i64 t231, .int .i64 t232, .bool t233, .slice Ao28 t234.length co28, .slice Ao29 t237.length co29, .int .i64 t240, .int .i64 t241]] rfl la_ ?_; (with_reducible refine (laws_eqSock.calls k t260 t261 t262 t263 _ _ t264 _ _ t267 t270 t271 t230 t231 t232 t233 _ _ t234 _ _ t237 t240 t241 true _ ?side1 ?side2 ?side3 ?side4 ?side5 ?side6 ?side7 ?side8 A49.out).mono ?_); (case side1 => refine (Kd.R_reads' (e := 5) (base := w.heap.size) (ok := fun k_ => ((((((((some k_ ≠ (.slice Ao48 t267.length co48 : Value).ownBlock ∧ some k_ ≠ (.slice Ao21 t219.length co21 : Value).ownBlock) ∧ some k_ ≠ (.slice Ao22 t222.length co22 : Value).ownBlock) ∧ some k_ ≠ (.slice Ao23 t227.length co23 : Value).ownBlock) ∧ some k_ ≠ (.slice Ao28 t234.length co28 : Value).ownBlock) ∧ some k_ ≠ (.slice Ao29 t237.length co29 : Value).ownBlock) ∧ some k_ ≠ (.slice Ao36 t248.length co36 : Value).ownBlock) ∧ some k_ ≠ (.slice Ao37 t251.length co37 : Value).ownBlock) ∧ some k_ ≠ (.slice Ao40 t257.length co40 : Value).ownBlock)) (n := t264.length) (c := co47) ?_).2.2; exact (by (with_reducible repeat (first | apply Kd.R_alloc | apply Kd.R_drewN | apply Kd.R_drew)); exact (Kd.R_mono (Go.Proofs.YthmfmpmljndjhaaV.R_far8 (g := gb273) (Kd.R_types HO266.out BK273.out (by decide)) (fun _ hk => hk.2)) (fun _ h_ => h_.1)))); (case side2 => exact (Kd.R_reads' HO266.out).2.1); (case side3 => refine (Kd.R_reads' (e := 5) (base := w.heap.size) (ok := fun k_ => ((((((((some k_ ≠ (.slice Ao47 t264.length co47 : Value).ownBlock ∧ some k_ ≠ (.slice Ao21 t219.length co21 : Value).ownBlock) ∧ some k_ ≠ (.slice Ao22 t222.length co22 : Value).ownBlock) ∧ some k_ ≠ (.slice Ao23 t227.length co23 : Value).ownBlock) ∧ some k_ ≠ (.slice Ao28 t234.length co28 : Value).ownBlock) ∧ some k_ ≠ (.slice Ao29 t237.length co29 : Value).ownBlock) ∧ some k_ ≠ (.slice Ao36 t248.length co36 : Value).ownBlock) ∧ some k_ ≠ (.slice Ao37 t251.length co37 : Value).ownBlock) ∧ some k_ ≠ (.slice Ao40 t257.length co40 : Value).ownBlock)) (n := t267.length) (c := co48) ?_).2.2; exact (by (with_reducible repeat (first | apply Kd.R_alloc | apply Kd.R_drewN | apply Kd.R_drew)); exact (Kd.R_mono (Go.Proofs.YthmfmpmljndjhaaV.R_far8 (g := gb273) (Kd.R_types HO269.out BK273.out (by decide)) (fun _ hk => hk.2)) (fun _ h_ => h_.1)))); (case side4 => exact (Kd.R_reads' HO269.out).2.1); (case side5 => refine (Kd.R_reads' (e := 5) (base := w.heap.size) (ok := fun k_ => ((((((((some k_ ≠ (.slice Ao29 t237.length co29 : Value).ownBlock ∧ some k_ ≠ (.slice Ao21 t219.length co21 : Value).ownBlock) ∧ some k_ ≠ (.slice Ao22 t222.length co22 : Value).ownBlock) ∧ some k_ ≠ (.slice Ao23 t227.length co23 : Value).ownBlock) ∧ some k_ ≠ (.slice Ao36 t248.length co36 : Value).ownBlock) ∧ some k_ ≠ (.slice Ao37 t251.length co37 : Value).ownBlock) ∧ some k_ ≠ (.slice Ao40 t257.length co40 : Value).ownBlock) ∧ some k_ ≠ (.slice Ao47 t264.length co47 : Value).ownBlock) ∧ some k_ ≠ (.slice Ao48 t267.length co48 : Value).ownBlock)) (n := t234.length) (c := co28) ?_).2.2; exact (by (with_reducible repeat (first | apply Kd.R_alloc | apply Kd.R_drewN | apply Kd.R_drew)); exact (Kd.R_mono (Go.Proofs.YthmfmpmljndjhaaV.R_far8 (g := gb273) (Kd.R_types HO236.out BK273.out (by decide)) (fun _ hk => hk.2)) (fun _ h_ => h_.1)))); (case side6 => exact (Kd.R_reads' HO236.out).2.1); (case side7 => refine (Kd.R_reads' (e := 5) (base := w.heap.size) (ok := fun k_ => ((((((((some k_ ≠ (.slice Ao28 t234.length co28 : Value).ownBlock ∧ some k_ ≠ (.slice Ao21 t219.length co21 : Value).ownBlock) ∧ some k_ ≠ (.slice Ao22 t222.length co22 : Value).ownBlock) ∧ some k_ ≠ (.slice Ao23 t227.length co23 : Value).ownBlock) ∧ some k_ ≠ (.slice Ao36 t248.length co36 : Value).ownBlock) ∧ some k_ ≠ (.slice Ao37 t251.length co37 : Value).ownBlock) ∧ some k_ ≠ (.slice Ao40 t257.length co40 : Value).ownBlock) ∧ some k_ ≠ (.slice Ao47 t264.length co47 : Value).ownBlock) ∧ some k_ ≠ (.slice Ao48 t267.length co48 : Value).ownBlock)) (n := t237.length) (c := co29) ?_).2.2; exact (by (with_reducible repeat (first | apply Kd.R_alloc | apply Kd.R_drewN | apply Kd.R_drew)); exact (Kd.R_mono (Go.Proofs.YthmfmpmljndjhaaV.R_far8 (g := gb273) (Kd.R_types HO239.out BK273.out (by decide)) (fun _ hk => hk.2)) (fun _ h_ => h_.1)))); (case side8 => exact (Kd.R_reads' HO239.out).2.1); rintro e w58 ⟨rfl, hb⟩; refine ⟨_, rfl, ?_⟩; replace HO221 := am_ (Kd.R_below (by (with_reducible repeat (first | apply Kd.R_alloc | apply Kd.R_drewN | apply Kd.R_drew)); exact (Kd.R_mono (Go.Proofs.YthmfmpmljndjhaaV.R_far8 (g := gb273) (Kd.R_types HO221.out BK273.out (by decide)) (fun _ hk => hk.2)) (fun _ h_ => h_.1))) hb); replace HO224 := am_ (Kd.R_below (by (with_reducible repeat (first | apply Kd.R_alloc | apply Kd.R_drewN | apply Kd.R_drew)); exact (Kd.R_mono (Go.Proofs.YthmfmpmljndjhaaV.R_far8 (g := gb273) (Kd.R_types HO224.out BK273.out (by decide)) (fun _ hk => hk.2)) (fun _ h_ => h_.1))) hb); replace HO229 := am_ (Kd.R_below (by (with_reducible repeat (first | apply Kd.R_alloc | apply Kd.R_drewN | apply Kd.R_drew)); exact (Kd.R_mono (Go.Proofs.YthmfmpmljndjhaaV.R_far8 (g := gb273) (Kd.R_types HO229.out BK273.out (by decide)) (fun _ hk => hk.2)) (fun _ h_ => h_.1))) hb); replace HO236 := am_ (Kd.R_below (by (with_reducible repeat (first | apply Kd.R_alloc | apply Kd.R_drewN | apply Kd.R_drew)); exact (Kd.R_mono (Go.Proofs.YthmfmpmljndjhaaV.R_far8 (g := gb273) (Kd.R_types HO236.out BK273.out (by decide)) (fun _ hk => hk.2)) (fun _ h_ => h_.1))) hb); replace HO239 := am_ (Kd.R_below (by (with_reducible repeat (first | apply Kd.R_alloc | apply Kd.R_drewN | apply Kd.R_drew)); exact (Kd.R_mono (Go.Proofs.YthmfmpmljndjhaaV.R_far8 (g := gb273) (Kd.R_types HO239.out BK273.out (by decide)) (fun _ hk => hk.2)) (fun _ h_ => h_.1))) hb); replace HO250 := am_ (Kd.R_below (by (with_reducible repeat (first | apply Kd.R_alloc | apply Kd.R_drewN | apply Kd.R_drew)); exact (Kd.R_mono (Go.Proofs.YthmfmpmljndjhaaV.R_far8 (g := gb273) (Kd.R_types HO250.out BK273.out (by decide)) (fun _ hk => hk.2)) (fun _ h_ => h_.1))) hb); replace HO253 := am_ (Kd.R_below (by (with_reducible repeat (first | apply Kd.R_alloc | apply Kd.R_drewN | apply Kd.R_drew)); exact (Kd.R_mono (Go.Proofs.YthmfmpmljndjhaaV.R_far8 (g := gb273) (Kd.R_types HO253.out BK273.out (by decide)) (fun _ hk => hk.2)) (fun _ h_ => h_.1))) hb); replace HO259 := am_ (Kd.R_below (by (with_reducible repeat (first | apply Kd.R_alloc | apply Kd.R_drewN | apply Kd.R_drew)); exact (Kd.R_mono (Go.Proofs.YthmfmpmljndjhaaV.R_far8 (g := gb273) (Kd.R_types HO259.out BK273.out (by decide)) (fun _ hk => hk.2)) (fun _ h_ => h_.1))) hb); replace HO266 := am_ (Kd.R_below (by (with_reducible repeat (first | apply Kd.R_alloc | apply Kd.R_drewN | apply Kd.R_drew)); exact (Kd.R_mono (Go.Proofs.YthmfmpmljndjhaaV.R_far8 (g := gb273) (Kd.R_types HO266.out BK273.out (by decide)) (fun _ hk => hk.2)) (fun _ h_ => h_.1))) hb); replace HO269 := am_ (Kd.R_below (by (with_reducible repeat (first | apply Kd.R_alloc | apply Kd.R_drewN | apply Kd.R_drew)); exact (Kd.R_mono (Go.Proofs.YthmfmpmljndjhaaV.R_far8 (g := gb273) (Kd.R_types HO269.out BK273.out (by decide)) (fun _ hk => hk.2)) (fun _ h_ => h_.1))) hb); replace BK213 := am_ (blk_below (g := gb213) (o := .cells #[.int .i64 a0_0, .int .i64 a0_1, .int .i64 a0_2, .bool a0_3, .slice A0_4 l0_4.length c0_4, .slice A0_5 l0_5.length c0_5, .int .i64 a0_6, .int .i64 a0_7] 48 (0, 0)) (by (with_reducible repeat (first | refine blk_drewN ?_ _ | refine blk_drew ?_ | refine blk_alloc ?_ _)); refine Go.Proofs.YthmfmpmljndjhaaV.blk_far8 ?_ NB213_273.out; (with_reducible repeat (first | refine blk_drewN ?_ _ | refine blk_drew ?_ | refine blk_alloc ?_ _)); exact BK213.out) hb); replace BK243 := am_ (blk_below (g := gb243) (o := .cells #[.int .i64 t230, .int .i64 t231, .int .i64 t232, .bool t233, .slice Ao28 t234.length co28, .slice Ao29 t237.length co29, .int .i64 t240, .int .i64 t241] 50 (0, 0)) (by (with_reducible repeat (first | refine blk_drewN ?_ _ | refine blk_drew ?_ | refine blk_alloc ?_ _)); refine Go.Proofs.YthmfmpmljndjhaaV.blk_far8 ?_ NB243_273.out; (with_reducible repeat (first | refine blk_drewN ?_ _ | refine blk_drew ?_ | refine blk_alloc ?_ _)); exact BK243.out) hb); replace BK256 := am_ (blk_below (g := gb256) (o := .cells #[.int .i64 t244, .int .i64 t245, .int .i64 t246, .bool t247, .slice Ao36 t248.length co36, .slice Ao37 t251.length co37, .int .i64 t254, .int .i64 t255] 50 (0, 0)) (by (with_reducible repeat (first | refine blk_drewN ?_ _ | refine blk_drew ?_ | refine blk_alloc ?_ _)); refine Go.Proofs.YthmfmpmljndjhaaV.blk_far8 ?_ NB256_273.out; (with_reducible repeat (first | refine blk_drewN ?_ _ | refine blk_drew ?_ | refine blk_alloc ?_ _)); exact BK256.out) hb); replace BK273 := am_ (blk_below (g := gb273) (o := .cells #[.int .i64 t260, .int .i64 t261, .int .i64 t262, .bool t263, .slice Ao47 t264.length co47, .slice Ao48 t267.length co48, .int .i64 t270, .int .i64 t271] 50 (0, 0)) (by (with_reducible repeat (first | refine blk_drewN ?_ _ | refine blk_drew ?_ | refine blk_alloc ?_ _)); refine Go.Proofs.YthmfmpmljndjhaaV.blk_all8 (show _ = some (Go.Obj.cells #[.int .i64 0, .int .i64 0, .int .i64 0, .bool false, .slice none 0 0, .slice none 0 0, .int .i64 0, .int .i64 0] _ (0, 0)) from ?_); (with_reducible repeat (first | refine blk_drewN ?_ _ | refine blk_drew ?_ | refine blk_alloc ?_ _)); exact BK273.out) hb); replace HB := am_ (below_step (qB HB) hb); (try clear hb); (try clear hb2); (try clear hk); (try clear hi)))
     go_meet
     case rel => exact ⟨_, ((t272 != t242)), eqq_, H', ⟨by first | omega | exact Nat.le_refl _⟩, ⟨by (with_reducible repeat (first | apply Kd.R_alloc | apply Kd.R_drewN | apply Kd.R_drew)); exact Kd.R_mono HO259.out (fun _ hk => ⟨hk.1.1.1.1.1.2, ⟨hk.1.1.1.1.2, ⟨hk.1.1.1.2, ⟨hk.1.1.2, ⟨hk.1.2, hk.2⟩⟩⟩⟩⟩)⟩, ⟨by (with_reducible repeat (first | apply Kd.R_alloc | apply Kd.R_drewN | apply Kd.R_drew)); exact Kd.R_mono HO236.out (fun _ hk => ⟨hk.1.1.2, ⟨hk.1.1.1.1.1.1.1.1, ⟨hk.1.1.1.1.2, ⟨hk.1.1.1.2, ⟨hk.1.2, hk.2⟩⟩⟩⟩⟩)⟩, ⟨by (with_reducible repeat (first | apply Kd.R_alloc | apply Kd.R_drewN | apply Kd.R_drew)); exact Kd.R_mono HO239.out (fun _ hk => ⟨hk.1.1.2, ⟨hk.1.1.1.1.1.1.1.1, ⟨hk.1.1.1.1.2, ⟨hk.1.1.1.2, ⟨hk.1.2, hk.2⟩⟩⟩⟩⟩)⟩, ⟨by (with_reducible repeat (first | apply Kd.R_alloc | apply Kd.R_drewN | apply Kd.R_drew)); exact Kd.R_mono HO250.out (fun _ hk => ⟨hk.1.1.2, ⟨hk.1.1.1.1.2, ⟨hk.1.1.1.2, ⟨hk.1.1.1.1.1.1.1.1, ⟨hk.1.2, hk.2⟩⟩⟩⟩⟩)⟩, ⟨by (with_reducible repeat (first | apply Kd.R_alloc | apply Kd.R_drewN | apply Kd.R_drew)); exact Kd.R_mono HO253.out (fun _ hk => ⟨hk.1.1.2, ⟨hk.1.1.1.1.2, ⟨hk.1.1.1.2, ⟨hk.1.1.1.1.1.1.1.1, ⟨hk.1.2, hk.2⟩⟩⟩⟩⟩)⟩, ⟨by (with_reducible repeat (first | apply Kd.R_alloc | apply Kd.R_drewN | apply Kd.R_drew)); exact Kd.R_mono HO266.out (fun _ hk => ⟨hk.2, ⟨hk.1.1.1.1.2, ⟨hk.1.1.1.2, ⟨hk.1.1.2, ⟨hk.1.2, hk.1.1.1.1.1.1.1.1⟩⟩⟩⟩⟩)⟩, ⟨by (with_reducible repeat (first | apply Kd.R_alloc | apply Kd.R_drewN | apply Kd.R_drew)); exact Kd.R_mono HO269.out (fun _ hk => ⟨hk.2, ⟨hk.1.1.1.1.2, ⟨hk.1.1.1.2, ⟨hk.1.1.2, ⟨hk.1.2, hk.1.1.1.1.1.1.1.1⟩⟩⟩⟩⟩)⟩, ⟨qK BK213⟩, ⟨qK BK243⟩, ⟨qK BK256⟩, ⟨qK BK273⟩, ⟨qB HB⟩⟩
    ·
     replace c50 := Bool.eq_false_iff.mpr c50
     subst c50
     rw [if_neg (show ¬ (false = true) by decide)] at H
     have H' := Aside0.mk H
     clear H
     have hnb59 := NB273_213.out
     have hnc59 := NB213_273.out
     have hnb60 := NB273_243.out
     have hnc60 := NB243_273.out
     have hnb61 := NB273_256.out
     have hnc61 := NB256_273.out
     obtain ⟨z62_0, z62_1, z62_2, z62_3, z62_4, z62_5, z62_6, z62_7⟩ := cz8 BK273.out
     obtain ⟨f62_0, f62_1, f62_2, f62_3, f62_4, f62_5, f62_6, f62_7⟩ := fz8 BK273.out
     have hnb63 := NB243_213.out
     have hnc63 := NB213_243.out
     have hnb64 := NB243_256.out
     have hnc64 := NB256_243.out
     obtain ⟨z65_0, z65_1, z65_2, z65_3, z65_4, z65_5, z65_6, z65_7⟩ := cz8 BK243.out
     obtain ⟨f65_0, f65_1, f65_2, f65_3, f65_4, f65_5, f65_6, f65_7⟩ := fz8 BK243.out
     go_wp2_with (first | ((with_reducible refine gate_callee (f := 44) rfl ?_); refine goesL_ (some 45) rfl rfl Try.func44 (by kernel_rfl) rfl #[.agg #[.int .i64 t260, .int .i64 t261, .int .i64 t262, .bool t263, .slice Ao47 t264.length co47, .slice Ao48 t267.length co48, .int .i64 t270, .int .i64 t271], .agg #[.int .i64 t230, .int .i64 t231, .int .i64 t232, .bool t233, .slice Ao28 t234.length co28, .slice Ao29 t237.length co29, .int .i64 t240, .int .i64 t241]] rfl la_ ?_; (with_reducible refine (laws_eqSock.calls k t260 t261 t262 t263 _ _ t264 _ _ t267 t270 t271 t230 t231 t232 t233 _ _ t234 _ _ t237 t240 t241 false _ ?side1 ?side2 ?side3 ?side4 ?side5 ?side6 ?side7 ?side8 A49.out).mono ?_); (case side1 => refine (Kd.R_reads' (e := 5) (base := w.heap.size) (ok := fun k_ => ((((((((some k_ ≠ (.slice Ao48 t267.length co48 : Value).ownBlock ∧ some k_ ≠ (.slice Ao21 t219.length co21 : Value).ownBlock) ∧ some k_ ≠ (.slice Ao22 t222.length co22 : Value).ownBlock) ∧ some k_ ≠ (.slice Ao23 t227.length co23 : Value).ownBlock) ∧ some k_ ≠ (.slice Ao28 t234.length co28 : Value).ownBlock) ∧ some k_ ≠ (.slice Ao29 t237.length co29 : Value).ownBlock) ∧ some k_ ≠ (.slice Ao36 t248.length co36 : Value).ownBlock) ∧ some k_ ≠ (.slice Ao37 t251.length co37 : Value).ownBlock) ∧ some k_ ≠ (.slice Ao40 t257.length co40 : Value).ownBlock)) (n := t264.length) (c := co47) ?_).2.2; exact (by (with_reducible repeat (first | apply Kd.R_alloc | apply Kd.R_drewN | apply Kd.R_drew)); exact (Kd.R_mono (Go.Proofs.YthmfmpmljndjhaaV.R_far8 (g := gb273) (Kd.R_types HO266.out BK273.out (by decide)) (fun _ hk => hk.2)) (fun _ h_ => h_.1)))); (case side2 => exact (Kd.R_reads' HO266.out).2.1); (case side3 => refine (Kd.R_reads' (e := 5) (base := w.heap.size) (ok := fun k_ => ((((((((some k_ ≠ (.slice Ao47 t264.length co47 : Value).ownBlock ∧ some k_ ≠ (.slice Ao21 t219.length co21 : Value).ownBlock) ∧ some k_ ≠ (.slice Ao22 t222.length co22 : Value).ownBlock) ∧ some k_ ≠ (.slice Ao23 t227.length co23 : Value).ownBlock) ∧ some k_ ≠ (.slice Ao28 t234.length co28 : Value).ownBlock) ∧ some k_ ≠ (.slice Ao29 t237.length co29 : Value).ownBlock) ∧ some k_ ≠ (.slice Ao36 t248.length co36 : Value).ownBlock) ∧ some k_ ≠ (.slice Ao37 t251.length co37 : Value).ownBlock) ∧ some k_ ≠ (.slice Ao40 t257.length co40 : Value).ownBlock)) (n := t267.length) (c := co48) ?_).2.2; exact (by (with_reducible repeat (first | apply Kd.R_alloc | apply Kd.R_drewN | apply Kd.R_drew)); exact (Kd.R_mono (Go.Proofs.YthmfmpmljndjhaaV.R_far8 (g := gb273) (Kd.R_types HO269.out BK273.out (by decide)) (fun _ hk => hk.2)) (fun _ h_ => h_.1)))); (case side4 => exact (Kd.R_reads' HO269.out).2.1); (case side5 => refine (Kd.R_reads' (e := 5) (base := w.heap.size) (ok := fun k_ => ((((((((some k_ ≠ (.slice Ao29 t237.length co29 : Value).ownBlock ∧ some k_ ≠ (.slice Ao21 t219.length co21 : Value).ownBlock) ∧ some k_ ≠ (.slice Ao22 t222.length co22 : Value).ownBlock) ∧ some k_ ≠ (.slice Ao23 t227.length co23 : Value).ownBlock) ∧ some k_ ≠ (.slice Ao36 t248.length co36 : Value).ownBlock) ∧ some k_ ≠ (.slice Ao37 t251.length co37 : Value).ownBlock) ∧ some k_ ≠ (.slice Ao40 t257.length co40 : Value).ownBlock) ∧ some k_ ≠ (.slice Ao47 t264.length co47 : Value).ownBlock) ∧ some k_ ≠ (.slice Ao48 t267.length co48 : Value).ownBlock)) (n := t234.length) (c := co28) ?_).2.2; exact (by (with_reducible repeat (first | apply Kd.R_alloc | apply Kd.R_drewN | apply Kd.R_drew)); exact (Kd.R_mono (Go.Proofs.YthmfmpmljndjhaaV.R_far8 (g := gb273) (Kd.R_types HO236.out BK273.out (by decide)) (fun _ hk => hk.2)) (fun _ h_ => h_.1)))); (case side6 => exact (Kd.R_reads' HO236.out).2.1); (case side7 => refine (Kd.R_reads' (e := 5) (base := w.heap.size) (ok := fun k_ => ((((((((some k_ ≠ (.slice Ao28 t234.length co28 : Value).ownBlock ∧ some k_ ≠ (.slice Ao21 t219.length co21 : Value).ownBlock) ∧ some k_ ≠ (.slice Ao22 t222.length co22 : Value).ownBlock) ∧ some k_ ≠ (.slice Ao23 t227.length co23 : Value).ownBlock) ∧ some k_ ≠ (.slice Ao36 t248.length co36 : Value).ownBlock) ∧ some k_ ≠ (.slice Ao37 t251.length co37 : Value).ownBlock) ∧ some k_ ≠ (.slice Ao40 t257.length co40 : Value).ownBlock) ∧ some k_ ≠ (.slice Ao47 t264.length co47 : Value).ownBlock) ∧ some k_ ≠ (.slice Ao48 t267.length co48 : Value).ownBlock)) (n := t237.length) (c := co29) ?_).2.2; exact (by (with_reducible repeat (first | apply Kd.R_alloc | apply Kd.R_drewN | apply Kd.R_drew)); exact (Kd.R_mono (Go.Proofs.YthmfmpmljndjhaaV.R_far8 (g := gb273) (Kd.R_types HO239.out BK273.out (by decide)) (fun _ hk => hk.2)) (fun _ h_ => h_.1)))); (case side8 => exact (Kd.R_reads' HO239.out).2.1); rintro e w66 ⟨rfl, hb⟩; refine ⟨_, rfl, ?_⟩; replace HO221 := am_ (Kd.R_below (by (with_reducible repeat (first | apply Kd.R_alloc | apply Kd.R_drewN | apply Kd.R_drew)); exact (Kd.R_mono (Go.Proofs.YthmfmpmljndjhaaV.R_far8 (g := gb273) (Kd.R_types HO221.out BK273.out (by decide)) (fun _ hk => hk.2)) (fun _ h_ => h_.1))) hb); replace HO224 := am_ (Kd.R_below (by (with_reducible repeat (first | apply Kd.R_alloc | apply Kd.R_drewN | apply Kd.R_drew)); exact (Kd.R_mono (Go.Proofs.YthmfmpmljndjhaaV.R_far8 (g := gb273) (Kd.R_types HO224.out BK273.out (by decide)) (fun _ hk => hk.2)) (fun _ h_ => h_.1))) hb); replace HO229 := am_ (Kd.R_below (by (with_reducible repeat (first | apply Kd.R_alloc | apply Kd.R_drewN | apply Kd.R_drew)); exact (Kd.R_mono (Go.Proofs.YthmfmpmljndjhaaV.R_far8 (g := gb273) (Kd.R_types HO229.out BK273.out (by decide)) (fun _ hk => hk.2)) (fun _ h_ => h_.1))) hb); replace HO236 := am_ (Kd.R_below (by (with_reducible repeat (first | apply Kd.R_alloc | apply Kd.R_drewN | apply Kd.R_drew)); exact (Kd.R_mono (Go.Proofs.YthmfmpmljndjhaaV.R_far8 (g := gb273) (Kd.R_types HO236.out BK273.out (by decide)) (fun _ hk => hk.2)) (fun _ h_ => h_.1))) hb); replace HO239 := am_ (Kd.R_below (by (with_reducible repeat (first | apply Kd.R_alloc | apply Kd.R_drewN | apply Kd.R_drew)); exact (Kd.R_mono (Go.Proofs.YthmfmpmljndjhaaV.R_far8 (g := gb273) (Kd.R_types HO239.out BK273.out (by decide)) (fun _ hk => hk.2)) (fun _ h_ => h_.1))) hb); replace HO250 := am_ (Kd.R_below (by (with_reducible repeat (first | apply Kd.R_alloc | apply Kd.R_drewN | apply Kd.R_drew)); exact (Kd.R_mono (Go.Proofs.YthmfmpmljndjhaaV.R_far8 (g := gb273) (Kd.R_types HO250.out BK273.out (by decide)) (fun _ hk => hk.2)) (fun _ h_ => h_.1))) hb); replace HO253 := am_ (Kd.R_below (by (with_reducible repeat (first | apply Kd.R_alloc | apply Kd.R_drewN | apply Kd.R_drew)); exact (Kd.R_mono (Go.Proofs.YthmfmpmljndjhaaV.R_far8 (g := gb273) (Kd.R_types HO253.out BK273.out (by decide)) (fun _ hk => hk.2)) (fun _ h_ => h_.1))) hb); replace HO259 := am_ (Kd.R_below (by (with_reducible repeat (first | apply Kd.R_alloc | apply Kd.R_drewN | apply Kd.R_drew)); exact (Kd.R_mono (Go.Proofs.YthmfmpmljndjhaaV.R_far8 (g := gb273) (Kd.R_types HO259.out BK273.out (by decide)) (fun _ hk => hk.2)) (fun _ h_ => h_.1))) hb); replace HO266 := am_ (Kd.R_below (by (with_reducible repeat (first | apply Kd.R_alloc | apply Kd.R_drewN | apply Kd.R_drew)); exact (Kd.R_mono (Go.Proofs.YthmfmpmljndjhaaV.R_far8 (g := gb273) (Kd.R_types HO266.out BK273.out (by decide)) (fun _ hk => hk.2)) (fun _ h_ => h_.1))) hb); replace HO269 := am_ (Kd.R_below (by (with_reducible repeat (first | apply Kd.R_alloc | apply Kd.R_drewN | apply Kd.R_drew)); exact (Kd.R_mono (Go.Proofs.YthmfmpmljndjhaaV.R_far8 (g := gb273) (Kd.R_types HO269.out BK273.out (by decide)) (fun _ hk => hk.2)) (fun _ h_ => h_.1))) hb); replace BK213 := am_ (blk_below (g := gb213) (o := .cells #[.int .i64 a0_0, .int .i64 a0_1, .int .i64 a0_2, .bool a0_3, .slice A0_4 l0_4.length c0_4, .slice A0_5 l0_5.length c0_5, .int .i64 a0_6, .int .i64 a0_7] 48 (0, 0)) (by (with_reducible repeat (first | refine blk_drewN ?_ _ | refine blk_drew ?_ | refine blk_alloc ?_ _)); refine Go.Proofs.YthmfmpmljndjhaaV.blk_far8 ?_ NB213_273.out; (with_reducible repeat (first | refine blk_drewN ?_ _ | refine blk_drew ?_ | refine blk_alloc ?_ _)); exact BK213.out) hb); replace BK243 := am_ (blk_below (g := gb243) (o := .cells #[.int .i64 t230, .int .i64 t231, .int .i64 t232, .bool t233, .slice Ao28 t234.length co28, .slice Ao29 t237.length co29, .int .i64 t240, .int .i64 t241] 50 (0, 0)) (by (with_reducible repeat (first | refine blk_drewN ?_ _ | refine blk_drew ?_ | refine blk_alloc ?_ _)); refine Go.Proofs.YthmfmpmljndjhaaV.blk_far8 ?_ NB243_273.out; (with_reducible repeat (first | refine blk_drewN ?_ _ | refine blk_drew ?_ | refine blk_alloc ?_ _)); exact BK243.out) hb); replace BK256 := am_ (blk_below (g := gb256) (o := .cells #[.int .i64 t244, .int .i64 t245, .int .i64 t246, .bool t247, .slice Ao36 t248.length co36, .slice Ao37 t251.length co37, .int .i64 t254, .int .i64 t255] 50 (0, 0)) (by (with_reducible repeat (first | refine blk_drewN ?_ _ | refine blk_drew ?_ | refine blk_alloc ?_ _)); refine Go.Proofs.YthmfmpmljndjhaaV.blk_far8 ?_ NB256_273.out; (with_reducible repeat (first | refine blk_drewN ?_ _ | refine blk_drew ?_ | refine blk_alloc ?_ _)); exact BK256.out) hb); replace BK273 := am_ (blk_below (g := gb273) (o := .cells #[.int .i64 t260, .int .i64 t261, .int .i64 t262, .bool t263, .slice Ao47 t264.length co47, .slice Ao48 t267.length co48, .int .i64 t270, .int .i64 t271] 50 (0, 0)) (by (with_reducible repeat (first | refine blk_drewN ?_ _ | refine blk_drew ?_ | refine blk_alloc ?_ _)); refine Go.Proofs.YthmfmpmljndjhaaV.blk_all8 (show _ = some (Go.Obj.cells #[.int .i64 0, .int .i64 0, .int .i64 0, .bool false, .slice none 0 0, .slice none 0 0, .int .i64 0, .int .i64 0] _ (0, 0)) from ?_); (with_reducible repeat (first | refine blk_drewN ?_ _ | refine blk_drew ?_ | refine blk_alloc ?_ _)); exact BK273.out) hb); replace HB := am_ (below_step (qB HB) hb); (try clear hb); (try clear hb2); (try clear hk); (try clear hi)))
     go_meet
     case rel => exact ⟨_, (true), eqq_, H', ⟨by first | omega | exact Nat.le_refl _⟩, ⟨by (with_reducible repeat (first | apply Kd.R_alloc | apply Kd.R_drewN | apply Kd.R_drew)); exact Kd.R_mono HO259.out (fun _ hk => ⟨hk.1.1.1.1.1.2, ⟨hk.1.1.1.1.2, ⟨hk.1.1.1.2, ⟨hk.1.1.2, ⟨hk.1.2, hk.2⟩⟩⟩⟩⟩)⟩, ⟨by (with_reducible repeat (first | apply Kd.R_alloc | apply Kd.R_drewN | apply Kd.R_drew)); exact Kd.R_mono HO236.out (fun _ hk => ⟨hk.1.1.2, ⟨hk.1.1.1.1.1.1.1.1, ⟨hk.1.1.1.1.2, ⟨hk.1.1.1.2, ⟨hk.1.2, hk.2⟩⟩⟩⟩⟩)⟩, ⟨by (with_reducible repeat (first | apply Kd.R_alloc | apply Kd.R_drewN | apply Kd.R_drew)); exact Kd.R_mono HO239.out (fun _ hk => ⟨hk.1.1.2, ⟨hk.1.1.1.1.1.1.1.1, ⟨hk.1.1.1.1.2, ⟨hk.1.1.1.2, ⟨hk.1.2, hk.2⟩⟩⟩⟩⟩)⟩, ⟨by (with_reducible repeat (first | apply Kd.R_alloc | apply Kd.R_drewN | apply Kd.R_drew)); exact Kd.R_mono HO250.out (fun _ hk => ⟨hk.1.1.2, ⟨hk.1.1.1.1.2, ⟨hk.1.1.1.2, ⟨hk.1.1.1.1.1.1.1.1, ⟨hk.1.2, hk.2⟩⟩⟩⟩⟩)⟩, ⟨by (with_reducible repeat (first | apply Kd.R_alloc | apply Kd.R_drewN | apply Kd.R_drew)); exact Kd.R_mono HO253.out (fun _ hk => ⟨hk.1.1.2, ⟨hk.1.1.1.1.2, ⟨hk.1.1.1.2, ⟨hk.1.1.1.1.1.1.1.1, ⟨hk.1.2, hk.2⟩⟩⟩⟩⟩)⟩, ⟨by (with_reducible repeat (first | apply Kd.R_alloc | apply Kd.R_drewN | apply Kd.R_drew)); exact Kd.R_mono HO266.out (fun _ hk => ⟨hk.2, ⟨hk.1.1.1.1.2, ⟨hk.1.1.1.2, ⟨hk.1.1.2, ⟨hk.1.2, hk.1.1.1.1.1.1.1.1⟩⟩⟩⟩⟩)⟩, ⟨by (with_reducible repeat (first | apply Kd.R_alloc | apply Kd.R_drewN | apply Kd.R_drew)); exact Kd.R_mono HO269.out (fun _ hk => ⟨hk.2, ⟨hk.1.1.1.1.2, ⟨hk.1.1.1.2, ⟨hk.1.1.2, ⟨hk.1.2, hk.1.1.1.1.1.1.1.1⟩⟩⟩⟩⟩)⟩, ⟨qK BK213⟩, ⟨qK BK243⟩, ⟨qK BK256⟩, ⟨qK BK273⟩, ⟨qB HB⟩⟩
   case rest =>
    clear HC17
    try clear c1
    try clear c2
    try clear p2
    try clear c3
    try clear c4
    try clear c5
    try clear c5b0
    try clear c5b1
    try clear c6
    try clear c7
    try clear c10
    try clear c10b0
    try clear c26
    try clear c33
    try clear c34
    try clear c39
    try clear c40
    try clear c41
    try clear c42
    try clear c43
    try clear c44
    try clear c45
    try clear c50
    try clear c51
    try clear c52
    try clear c53
    try clear c55
    try clear c56
    try clear c59
    try clear c60
    try clear c61
    try clear c63
    try clear c64
    (try clear z18_0 z18_1 z18_2 z18_3 z18_4 z18_5 z18_6 z18_7)
    (try clear z27_0 z27_1 z27_2 z27_3 z27_4 z27_5 z27_6 z27_7)
    (try clear z30_0 z30_1 z30_2 z30_3 z30_4 z30_5 z30_6 z30_7)
    (try clear z35_0 z35_1 z35_2 z35_3 z35_4 z35_5 z35_6 z35_7)
    (try clear z39_0 z39_1 z39_2 z39_3 z39_4 z39_5 z39_6 z39_7)
    (try clear z46_0 z46_1 z46_2 z46_3 z46_4 z46_5 z46_6 z46_7)
    (try clear z54_0 z54_1 z54_2 z54_3 z54_4 z54_5 z54_6 z54_7)
    (try clear z57_0 z57_1 z57_2 z57_3 z57_4 z57_5 z57_6 z57_7)
    (try clear z62_0 z62_1 z62_2 z62_3 z62_4 z62_5 z62_6 z62_7)
    (try clear z65_0 z65_1 z65_2 z65_3 z65_4 z65_5 z65_6 z65_7)
    (try clear z8_0 z8_1 z8_2 z8_3 z8_4 z8_5 z8_6 z8_7)
    (try clear f18_0 f18_1 f18_2 f18_3 f18_4 f18_5 f18_6 f18_7)
    (try clear f27_0 f27_1 f27_2 f27_3 f27_4 f27_5 f27_6 f27_7)
    (try clear f30_0 f30_1 f30_2 f30_3 f30_4 f30_5 f30_6 f30_7)
    (try clear f35_0 f35_1 f35_2 f35_3 f35_4 f35_5 f35_6 f35_7)
    (try clear f39_0 f39_1 f39_2 f39_3 f39_4 f39_5 f39_6 f39_7)
    (try clear f46_0 f46_1 f46_2 f46_3 f46_4 f46_5 f46_6 f46_7)
    (try clear f54_0 f54_1 f54_2 f54_3 f54_4 f54_5 f54_6 f54_7)
    (try clear f57_0 f57_1 f57_2 f57_3 f57_4 f57_5 f57_6 f57_7)
    (try clear f62_0 f62_1 f62_2 f62_3 f62_4 f62_5 f62_6 f62_7)
    (try clear f65_0 f65_1 f65_2 f65_3 f65_4 f65_5 f65_6 f65_7)
    (try clear f8_0 f8_1 f8_2 f8_3 f8_4 f8_5 f8_6 f8_7)
    obtain ⟨kq, x51_16, rfl, HA, HJ16, HO_9, HO_244004, HO_244005, HO_257004, HO_257005, HO_274004, HO_274005, BK213, BK243, BK256, BK273, HB⟩ := hcut
    cases kq with
    | zero => exact absurd HA.out (by simp [laws_FnExactHear.j0])
    | succ kj16 =>
     have H := HA.out
     clear HA
     simp only [laws_FnExactHear.j0] at H
     by_cases c67 : x51_16 = true
     ·
      subst c67
      rw [if_pos rfl] at H
      exact absurd (hr_.out ▸ H) (by simp)
     ·
      replace c67 := Bool.eq_false_iff.mpr c67
      subst c67
      rw [if_neg (show ¬ (false = true) by decide)] at H
      obtain ⟨⟨t275, t276, t277, t278, t279, t282, t285, t286⟩, A68, H⟩ := bd_ H
      (try dsimp only at H)
      obtain ⟨t287, A69, H⟩ := bd_ H
      by_cases c70 : t287 = true
      ·
       subst c70
       rw [if_pos rfl] at H
       obtain ⟨t288, A71, H⟩ := bd_ H
       obtain ⟨t291, A72, H⟩ := bd_ H
       by_cases c73 : t291 = true
       ·
        subst c73
        rw [if_pos rfl] at H
        obtain ⟨⟨t292, t293, t294⟩, A74, H⟩ := bd_ H
        (try dsimp only at H)
        obtain ⟨⟨t295, t296⟩, A75, H⟩ := bd_ H
        (try dsimp only at H)
        have HC76 := Aside0.mk H
        clear H
        try go_wp2
        replace HO_9 := am_ (Kd.R_drew HO_9.out)
        replace HO_244004 := am_ (Kd.R_drew HO_244004.out)
        replace HO_244005 := am_ (Kd.R_drew HO_244005.out)
        replace HO_257004 := am_ (Kd.R_drew HO_257004.out)
        replace HO_257005 := am_ (Kd.R_drew HO_257005.out)
        replace HO_274004 := am_ (Kd.R_drew HO_274004.out)
        replace HO_274005 := am_ (Kd.R_drew HO_274005.out)
        replace BK213 := am_ (blk_drew BK213.out)
        replace BK243 := am_ (blk_drew BK243.out)
        replace BK256 := am_ (blk_drew BK256.out)
        replace BK273 := am_ (blk_drew BK273.out)
        replace HB := am_ (below_drew1 HB.out)
        refine start_ (n := 5) (S := fun w' => w'.cell? ⟨gb256, 0, none⟩ = some (.int .i64 t244) ∧ w'.cell? ⟨gb256, 1, none⟩ = some (.int .i64 t245) ∧ w'.cell? ⟨gb256, 2, none⟩ = some (.int .i64 t246) ∧ w'.cell? ⟨gb256, 3, none⟩ = some (.bool t247) ∧ w'.cell? ⟨gb256, 4, none⟩ = some (.slice Ao36 t248.length co36) ∧ w'.cell? ⟨gb256, 5, none⟩ = some (.slice Ao37 t251.length co37) ∧ w'.cell? ⟨gb256, 6, none⟩ = some (.int .i64 t254) ∧ w'.cell? ⟨gb256, 7, none⟩ = some (.int .i64 t255) ∧ w'.cell? ⟨gb213, 0, none⟩ = some (.int .i64 a0_0) ∧ w'.cell? ⟨gb213, 1, none⟩ = some (.int .i64 a0_1) ∧ w'.cell? ⟨gb213, 2, none⟩ = some (.int .i64 a0_2) ∧ w'.cell? ⟨gb213, 3, none⟩ = some (.bool a0_3) ∧ w'.cell? ⟨gb213, 4, none⟩ = some (.slice A0_4 l0_4.length c0_4) ∧ w'.cell? ⟨gb213, 5, none⟩ = some (.slice A0_5 l0_5.length c0_5) ∧ w'.cell? ⟨gb213, 6, none⟩ = some (.int .i64 a0_6) ∧ w'.cell? ⟨gb213, 7, none⟩ = some (.int .i64 a0_7)) (ds := []) #[oo,oo,oo,oo,oo] (by kernel_rfl) rfl rfl (cw8 BK256.out (cz8 BK213.out)) (fun hHeld => ?_)
        generalize wc.drew = w77 at HO_9 HO_244004 HO_244005 HO_257004 HO_257005 HO_274004 HO_274005 BK213 BK243 BK256 BK273 HB hHeld ⊢
        refine take_ (i := 0) (N := some 52) (v := ?_) (a' := ?_) #[ii,oo,oo,oo,oo] rfl rfl (by kernel_rfl) (fun _ _ _ h => h) (Or.inl ⟨by rfl, ?_⟩) hHeld ?_ ?_
        rotate_left
        ·
         rintro w' ⟨s0, s1, s2, s3, s4, s5, s6, s7, s8, s9, s10, s11, s12, s13, s14, s15⟩
         go_simp
         with_reducible rfl
        rotate_left
        ·
         exact ap_
        refine take_ (i := 1) (N := some 53) (v := ?_) (a' := ?_) #[ii,ii,oo,oo,oo] rfl rfl (by kernel_rfl) (fun _ _ _ h => h) (Or.inl ⟨by rfl, ?_⟩) hHeld ?_ ?_
        rotate_left
        ·
         rintro w' ⟨s0, s1, s2, s3, s4, s5, s6, s7, s8, s9, s10, s11, s12, s13, s14, s15⟩
         go_simp
         with_reducible rfl
        rotate_left
        ·
         exact ap_
        refine one_ (i := 2) (N := some 54) #[ii,ii,ii,oo,oo] rfl rfl (by kernel_rfl) (by decide) (fun K hK => ?_)
        refine goes_ Try.func41 (by kernel_rfl) rfl #[.agg #[.int .i64 a0_0, .int .i64 a0_1, .int .i64 a0_2, .bool a0_3, .slice A0_4 l0_4.length c0_4, .slice A0_5 l0_5.length c0_5, .int .i64 a0_6, .int .i64 a0_7]] (by rfl) rfl rfl la_ ?_
        with_reducible refine (laws_toSock.calls kj16 a0_0 a0_1 a0_2 a0_3 _ _ l0_4 _ _ l0_5 a0_6 a0_7 t275 t276 t277 t278 t279 t282 t285 t286 _ ?side1 ?side2 ?side3 ?side4 A68.out).mono ?_
        (case side1 => exact qC (Kd.C_below HR0_4.out HB.out))
        (case side2 => exact HC0_4.out)
        (case side3 => exact qC (Kd.C_below HR0_5.out HB.out))
        (case side4 => exact HC0_5.out)
        rintro e w78 ⟨v280, v283, rfl, ho0, ho1, hb⟩
        refine ⟨_, rfl, ?_⟩
        have HO281 := am_ (Kd.R_lower (Kd.R_new' (Kd.R_new' (Kd.R_new' (Kd.R_new' (Kd.R_new' (Kd.R_new' (Kd.R_new' ho0 (Kd.R_lt (qR HO_9))) (Kd.R_lt (qR HO_244004))) (Kd.R_lt (qR HO_244005))) (Kd.R_lt (qR HO_257004))) (Kd.R_lt (qR HO_257005))) (Kd.R_lt (qR HO_274004))) (Kd.R_lt (qR HO_274005))) (below_size (qB HB)))
        have HO284 := am_ (Kd.R_lower (Kd.R_new' (Kd.R_new' (Kd.R_new' (Kd.R_new' (Kd.R_new' (Kd.R_new' (Kd.R_new' ho1 (Kd.R_lt (qR HO_9))) (Kd.R_lt (qR HO_244004))) (Kd.R_lt (qR HO_244005))) (Kd.R_lt (qR HO_257004))) (Kd.R_lt (qR HO_257005))) (Kd.R_lt (qR HO_274004))) (Kd.R_lt (qR HO_274005))) (below_size (qB HB)))
        replace HO_9 := am_ (Kd.R_mono (Kd.R_told (Kd.R_told (Kd.R_old (qR HO_9) hb) (Kd.R_base ho0)) (Kd.R_base ho1)) (fun _ h_ => h_.1))
        replace HO_244004 := am_ (Kd.R_mono (Kd.R_told (Kd.R_told (Kd.R_old (qR HO_244004) hb) (Kd.R_base ho0)) (Kd.R_base ho1)) (fun _ h_ => h_.1))
        replace HO_244005 := am_ (Kd.R_mono (Kd.R_told (Kd.R_told (Kd.R_old (qR HO_244005) hb) (Kd.R_base ho0)) (Kd.R_base ho1)) (fun _ h_ => h_.1))
        replace HO_257004 := am_ (Kd.R_mono (Kd.R_told (Kd.R_told (Kd.R_old (qR HO_257004) hb) (Kd.R_base ho0)) (Kd.R_base ho1)) (fun _ h_ => h_.1))
        replace HO_257005 := am_ (Kd.R_mono (Kd.R_told (Kd.R_told (Kd.R_old (qR HO_257005) hb) (Kd.R_base ho0)) (Kd.R_base ho1)) (fun _ h_ => h_.1))
        replace HO_274004 := am_ (Kd.R_mono (Kd.R_told (Kd.R_told (Kd.R_old (qR HO_274004) hb) (Kd.R_base ho0)) (Kd.R_base ho1)) (fun _ h_ => h_.1))
        replace HO_274005 := am_ (Kd.R_mono (Kd.R_told (Kd.R_told (Kd.R_old (qR HO_274005) hb) (Kd.R_base ho0)) (Kd.R_base ho1)) (fun _ h_ => h_.1))
        replace BK213 := am_ (blk_below (qK BK213) hb)
        replace BK243 := am_ (blk_below (qK BK243) hb)
        replace BK256 := am_ (blk_below (qK BK256) hb)
        replace BK273 := am_ (blk_below (qK BK273) hb)
        replace HB := am_ (below_step (qB HB) hb)
        (try clear hb ho0 ho1)
        obtain ⟨Ao79, co79, eo79⟩ := Kd.R_slice HO281.out
        (first | subst eo79 | (injection eo79 with f1_ f2_ f3_; have f4_ := f1_.symm; have f5_ := f3_.symm; clear f1_ f2_ f3_; subst f4_; subst f5_))
        obtain ⟨Ao80, co80, eo80⟩ := Kd.R_slice HO284.out
        (first | subst eo80 | (injection eo80 with f1_ f2_ f3_; have f4_ := f1_.symm; have f5_ := f3_.symm; clear f1_ f2_ f3_; subst f4_; subst f5_))
        refine hK.out _ _ (cw8 BK256.out (cz8 BK213.out)) (fun hHeld => ?_)
        clear hK K
        refine norm_ (a' := ?_) ?_ ?_
        rotate_left
        ·
         show Act.put _ (some 54) _ = _
         exact ap_
        refine one_ (i := 3) (N := some 55) #[ii,ii,ii,ii,oo] rfl rfl (by kernel_rfl) (by decide) (fun K hK => ?_)
        refine goes_ Try.func44 (by kernel_rfl) rfl #[.agg #[.int .i64 t244, .int .i64 t245, .int .i64 t246, .bool t247, .slice Ao36 t248.length co36, .slice Ao37 t251.length co37, .int .i64 t254, .int .i64 t255], .agg #[.int .i64 t275, .int .i64 t276, .int .i64 t277, .bool t278, .slice Ao79 t279.length co79, .slice Ao80 t282.length co80, .int .i64 t285, .int .i64 t286]] (by rfl) rfl rfl la_ ?_
        with_reducible refine (laws_eqSock.calls kj16 t244 t245 t246 t247 _ _ t248 _ _ t251 t254 t255 t275 t276 t277 t278 _ _ t279 _ _ t282 t285 t286 true _ ?side1 ?side2 ?side3 ?side4 ?side5 ?side6 ?side7 ?side8 A69.out).mono ?_
        (case side1 => exact qC ((Kd.R_reads' HO_257004.out).2.2))
        (case side2 => exact (Kd.R_reads' HO_257004.out).2.1)
        (case side3 => exact qC ((Kd.R_reads' HO_257005.out).2.2))
        (case side4 => exact (Kd.R_reads' HO_257005.out).2.1)
        (case side5 => exact qC ((Kd.R_reads' HO281.out).2.2))
        (case side6 => exact (Kd.R_reads' HO281.out).2.1)
        (case side7 => exact qC ((Kd.R_reads' HO284.out).2.2))
        (case side8 => exact (Kd.R_reads' HO284.out).2.1)
        rintro e w81 ⟨rfl, hb⟩
        refine ⟨_, rfl, ?_⟩
        replace HO_9 := am_ (Kd.R_below (qR HO_9) hb)
        replace HO_244004 := am_ (Kd.R_below (qR HO_244004) hb)
        replace HO_244005 := am_ (Kd.R_below (qR HO_244005) hb)
        replace HO_257004 := am_ (Kd.R_below (qR HO_257004) hb)
        replace HO_257005 := am_ (Kd.R_below (qR HO_257005) hb)
        replace HO_274004 := am_ (Kd.R_below (qR HO_274004) hb)
        replace HO_274005 := am_ (Kd.R_below (qR HO_274005) hb)
        replace HO281 := am_ (Kd.R_below (qR HO281) hb)
        replace HO284 := am_ (Kd.R_below (qR HO284) hb)
        replace BK213 := am_ (blk_below (qK BK213) hb)
        replace BK243 := am_ (blk_below (qK BK243) hb)
        replace BK256 := am_ (blk_below (qK BK256) hb)
        replace BK273 := am_ (blk_below (qK BK273) hb)
        replace HB := am_ (below_step (qB HB) hb)
        (try clear hb)
        refine hK.out _ _ (cw8 BK256.out (cz8 BK213.out)) (fun hHeld => ?_)
        clear hK K
        refine norm_ (a' := ?_) ?_ ?_
        rotate_left
        ·
         show Act.put _ (some 55) _ = _
         exact ap_
        refine pure_ (i := 4) (N := some 56) (v := ?_) (a' := ?_) #[ii,ii,ii,ii,ii] rfl rfl (by kernel_rfl) (fun _ _ _ h => h) (Or.inl ⟨by rfl, ?_⟩) ?_ ?_
        rotate_left
        ·
         intro w'
         go_simp
         with_reducible rfl
        rotate_left
        ·
         exact ap_
        refine done_ (by kernel_rfl) ?_
        go_upto_region 20 with (first | ((with_reducible refine gate_callee (f := 42) rfl ?_); refine goesL_ (some 59) rfl rfl Try.func42 (by kernel_rfl) rfl #[.slice A1 l1.length c1] rfl la_ ?_; (with_reducible refine (laws_toByteS.calls kj16 _ _ l1 t288 _ ?side1 ?side2 A71.out).mono ?_); (case side1 => exact qC (Kd.C_below HR1.out HB.out)); (case side2 => exact HC1.out); rintro e w82 ⟨v289, rfl, ho0, hb⟩; refine ⟨_, rfl, ?_⟩; have HO290 := am_ (Kd.R_lower (Kd.R_new' (Kd.R_new' (Kd.R_new' (Kd.R_new' (Kd.R_new' (Kd.R_new' (Kd.R_new' (Kd.R_new' (Kd.R_new' ho0 (Kd.R_lt (qR HO_9))) (Kd.R_lt (qR HO_244004))) (Kd.R_lt (qR HO_244005))) (Kd.R_lt (qR HO_257004))) (Kd.R_lt (qR HO_257005))) (Kd.R_lt (qR HO_274004))) (Kd.R_lt (qR HO_274005))) (Kd.R_lt (qR HO281))) (Kd.R_lt (qR HO284))) (below_size (qB HB))); replace HO_9 := am_ (eR HO_9 ho0 hb); replace HO_244004 := am_ (eR HO_244004 ho0 hb); replace HO_244005 := am_ (eR HO_244005 ho0 hb); replace HO_257004 := am_ (eR HO_257004 ho0 hb); replace HO_257005 := am_ (eR HO_257005 ho0 hb); replace HO_274004 := am_ (eR HO_274004 ho0 hb); replace HO_274005 := am_ (eR HO_274005 ho0 hb); replace HO281 := am_ (eR HO281 ho0 hb); replace HO284 := am_ (eR HO284 ho0 hb); replace BK213 := am_ (blk_below (qK BK213) hb); replace BK243 := am_ (blk_below (qK BK243) hb); replace BK256 := am_ (blk_below (qK BK256) hb); replace BK273 := am_ (blk_below (qK BK273) hb); replace HB := am_ (below_step (qB HB) hb); (try clear hb); (try clear hb2); (try clear hk); (try clear hi); (try clear ho0); obtain ⟨Ao83, co83, eo83⟩ := Kd.R_slice HO290.out; subst eo83) | ((with_reducible refine gate_callee (f := 45) rfl ?_); refine goesL_ (some 60) rfl rfl Try.func45 (by kernel_rfl) rfl #[.slice Ao40 t257.length co40, .slice Ao83 t288.length co83] rfl la_ ?_; (with_reducible refine (laws_eqByteS.calls kj16 _ _ t257 _ _ t288 true _ ?side1 ?side2 ?side3 ?side4 A72.out).mono ?_); (case side1 => exact qC ((Kd.R_reads' HO_9.out).2.2)); (case side2 => exact (Kd.R_reads' HO_9.out).2.1); (case side3 => exact qC ((Kd.R_reads' HO290.out).2.2)); (case side4 => exact (Kd.R_reads' HO290.out).2.1); rintro e w' ⟨rfl, ⟨nd, rfl⟩⟩; refine ⟨_, rfl, ?_⟩; have hnb84 := NB256_213.out; have hnc84 := NB213_256.out; have hnb85 := NB256_243.out; have hnc85 := NB243_256.out; have hnb86 := NB256_273.out; have hnc86 := NB273_256.out; obtain ⟨z87_0, z87_1, z87_2, z87_3, z87_4, z87_5, z87_6, z87_7⟩ := cz8 BK256.out; obtain ⟨f87_0, f87_1, f87_2, f87_3, f87_4, f87_5, f87_6, f87_7⟩ := fz8 BK256.out) | ((with_reducible refine gate_callee (f := 46) rfl ?_); refine goesL_ (some 64) rfl rfl Try.func46 (by kernel_rfl) rfl #[.agg #[.int .i64 t244, .int .i64 t245, .int .i64 t246, .bool t247, .slice Ao36 t248.length co36, .slice Ao37 t251.length co37, .int .i64 t254, .int .i64 t255], .int .i64 1] rfl la_ ?_; (with_reducible refine (laws_markSock.calls kj16 t244 t245 t246 t247 (fun k_ => some k_ = (.slice Ao36 t248.length co36 : Value).ownBlock) (.slice Ao36 t248.length co36) t248 (fun k_ => some k_ = (.slice Ao37 t251.length co37 : Value).ownBlock) (.slice Ao37 t251.length co37) t251 t254 t255 1 t292 t293 t294 w _ ?side1 ?side2 ?side3 ?side4 ?side5 A74.out).mono ?_); (case side1 => repeat (first | (with_reducible first | exact HB.out | apply below_alloc | apply pw_below_drewN | apply below_drew1 | refine below_set ?_ GE213.out | refine below_set ?_ GE243.out | refine below_set ?_ GE256.out | refine below_set ?_ GE273.out) | exact HB.out)); (case side2 => exact Kd.R_tight rfl HO_257004.out); (case side3 => exact fun k_ e_ => (HO_257004.out.1 k_ e_.symm).1.1.1.2.2.2.1); (case side4 => exact Kd.R_tight rfl HO_257005.out); (case side5 => exact fun k_ e_ => (HO_257005.out.1 k_ e_.symm).1.1.1.2.2.2.1); rintro e w88 ⟨rfl, hy0, hy1, hb, hkp⟩; refine ⟨_, rfl, ?_⟩; replace HO_9 := am_ (Kd.R_mono (ok' := fun k_ => some k_ ≠ (.slice Ao28 t234.length co28 : Value).ownBlock ∧ some k_ ≠ (.slice Ao29 t237.length co29 : Value).ownBlock ∧ some k_ ≠ (.slice Ao36 t248.length co36 : Value).ownBlock ∧ some k_ ≠ (.slice Ao37 t251.length co37 : Value).ownBlock ∧ some k_ ≠ (.slice Ao47 t264.length co47 : Value).ownBlock ∧ some k_ ≠ (.slice Ao48 t267.length co48 : Value).ownBlock ∧ some k_ ≠ (.slice Ao79 t279.length co79 : Value).ownBlock ∧ some k_ ≠ (.slice Ao80 t282.length co80 : Value).ownBlock ∧ some k_ ≠ (.slice Ao83 t288.length co83 : Value).ownBlock) (Kd.R_keptB (HO_9.out) hkp (fun k_ hk_ hs_ => Or.elim hs_ (fun e_ => (hk_.1.1.1.2.2.1) e_) (fun e_ => (hk_.1.1.1.2.2.2.1) e_))) (fun k_ hk_ => ⟨hk_.1.1.1.1.1, hk_.1.1.1.1.2.1, hk_.1.1.1.1.2.2.1, hk_.1.1.1.1.2.2.2.1, hk_.1.1.1.1.2.2.2.2.1, hk_.1.1.1.1.2.2.2.2.2, hk_.1.1.1.2, hk_.1.1.2, hk_.1.2⟩)); replace HO_244004 := am_ (Kd.R_mono (ok' := fun k_ => some k_ ≠ (.slice Ao40 t257.length co40 : Value).ownBlock ∧ some k_ ≠ (.slice Ao29 t237.length co29 : Value).ownBlock ∧ some k_ ≠ (.slice Ao36 t248.length co36 : Value).ownBlock ∧ some k_ ≠ (.slice Ao37 t251.length co37 : Value).ownBlock ∧ some k_ ≠ (.slice Ao47 t264.length co47 : Value).ownBlock ∧ some k_ ≠ (.slice Ao48 t267.length co48 : Value).ownBlock ∧ some k_ ≠ (.slice Ao79 t279.length co79 : Value).ownBlock ∧ some k_ ≠ (.slice Ao80 t282.length co80 : Value).ownBlock ∧ some k_ ≠ (.slice Ao83 t288.length co83 : Value).ownBlock) (Kd.R_keptB (HO_244004.out) hkp (fun k_ hk_ hs_ => Or.elim hs_ (fun e_ => (hk_.1.1.1.2.2.1) e_) (fun e_ => (hk_.1.1.1.2.2.2.1) e_))) (fun k_ hk_ => ⟨hk_.1.1.1.1.1, hk_.1.1.1.1.2.1, hk_.1.1.1.1.2.2.1, hk_.1.1.1.1.2.2.2.1, hk_.1.1.1.1.2.2.2.2.1, hk_.1.1.1.1.2.2.2.2.2, hk_.1.1.1.2, hk_.1.1.2, hk_.1.2⟩)); replace HO_244005 := am_ (Kd.R_mono (ok' := fun k_ => some k_ ≠ (.slice Ao40 t257.length co40 : Value).ownBlock ∧ some k_ ≠ (.slice Ao28 t234.length co28 : Value).ownBlock ∧ some k_ ≠ (.slice Ao36 t248.length co36 : Value).ownBlock ∧ some k_ ≠ (.slice Ao37 t251.length co37 : Value).ownBlock ∧ some k_ ≠ (.slice Ao47 t264.length co47 : Value).ownBlock ∧ some k_ ≠ (.slice Ao48 t267.length co48 : Value).ownBlock ∧ some k_ ≠ (.slice Ao79 t279.length co79 : Value).ownBlock ∧ some k_ ≠ (.slice Ao80 t282.length co80 : Value).ownBlock ∧ some k_ ≠ (.slice Ao83 t288.length co83 : Value).ownBlock) (Kd.R_keptB (HO_244005.out) hkp (fun k_ hk_ hs_ => Or.elim hs_ (fun e_ => (hk_.1.1.1.2.2.1) e_) (fun e_ => (hk_.1.1.1.2.2.2.1) e_))) (fun k_ hk_ => ⟨hk_.1.1.1.1.1, hk_.1.1.1.1.2.1, hk_.1.1.1.1.2.2.1, hk_.1.1.1.1.2.2.2.1, hk_.1.1.1.1.2.2.2.2.1, hk_.1.1.1.1.2.2.2.2.2, hk_.1.1.1.2, hk_.1.1.2, hk_.1.2⟩)); replace HO_274004 := am_ (Kd.R_mono (ok' := fun k_ => some k_ ≠ (.slice Ao40 t257.length co40 : Value).ownBlock ∧ some k_ ≠ (.slice Ao28 t234.length co28 : Value).ownBlock ∧ some k_ ≠ (.slice Ao29 t237.length co29 : Value).ownBlock ∧ some k_ ≠ (.slice Ao36 t248.length co36 : Value).ownBlock ∧ some k_ ≠ (.slice Ao37 t251.length co37 : Value).ownBlock ∧ some k_ ≠ (.slice Ao48 t267.length co48 : Value).ownBlock ∧ some k_ ≠ (.slice Ao79 t279.length co79 : Value).ownBlock ∧ some k_ ≠ (.slice Ao80 t282.length co80 : Value).ownBlock ∧ some k_ ≠ (.slice Ao83 t288.length co83 : Value).ownBlock) (Kd.R_keptB (HO_274004.out) hkp (fun k_ hk_ hs_ => Or.elim hs_ (fun e_ => (hk_.1.1.1.2.2.2.1) e_) (fun e_ => (hk_.1.1.1.2.2.2.2.1) e_))) (fun k_ hk_ => ⟨hk_.1.1.1.1.1, hk_.1.1.1.1.2.1, hk_.1.1.1.1.2.2.1, hk_.1.1.1.1.2.2.2.1, hk_.1.1.1.1.2.2.2.2.1, hk_.1.1.1.1.2.2.2.2.2, hk_.1.1.1.2, hk_.1.1.2, hk_.1.2⟩)); replace HO_274005 := am_ (Kd.R_mono (ok' := fun k_ => some k_ ≠ (.slice Ao40 t257.length co40 : Value).ownBlock ∧ some k_ ≠ (.slice Ao28 t234.length co28 : Value).ownBlock ∧ some k_ ≠ (.slice Ao29 t237.length co29 : Value).ownBlock ∧ some k_ ≠ (.slice Ao36 t248.length co36 : Value).ownBlock ∧ some k_ ≠ (.slice Ao37 t251.length co37 : Value).ownBlock ∧ some k_ ≠ (.slice Ao47 t264.length co47 : Value).ownBlock ∧ some k_ ≠ (.slice Ao79 t279.length co79 : Value).ownBlock ∧ some k_ ≠ (.slice Ao80 t282.length co80 : Value).ownBlock ∧ some k_ ≠ (.slice Ao83 t288.length co83 : Value).ownBlock) (Kd.R_keptB (HO_274005.out) hkp (fun k_ hk_ hs_ => Or.elim hs_ (fun e_ => (hk_.1.1.1.2.2.2.1) e_) (fun e_ => (hk_.1.1.1.2.2.2.2.1) e_))) (fun k_ hk_ => ⟨hk_.1.1.1.1.1, hk_.1.1.1.1.2.1, hk_.1.1.1.1.2.2.1, hk_.1.1.1.1.2.2.2.1, hk_.1.1.1.1.2.2.2.2.1, hk_.1.1.1.1.2.2.2.2.2, hk_.1.1.1.2, hk_.1.1.2, hk_.1.2⟩)); replace BK213 := am_ (blk_kept (qK BK213) hkp (fun hs_ => Or.elim hs_ (fun e_ => (fun e_ => (Kd.R_ne HO_257004.out BK213.out (by decide)) e_) e_) (fun e_ => (fun e_ => (Kd.R_ne HO_257005.out BK213.out (by decide)) e_) e_))); replace BK243 := am_ (blk_kept (qK BK243) hkp (fun hs_ => Or.elim hs_ (fun e_ => (fun e_ => (Kd.R_ne HO_257004.out BK243.out (by decide)) e_) e_) (fun e_ => (fun e_ => (Kd.R_ne HO_257005.out BK243.out (by decide)) e_) e_))); replace BK256 := am_ (blk_kept (qK BK256) hkp (fun hs_ => Or.elim hs_ (fun e_ => (fun e_ => (Kd.R_ne HO_257004.out BK256.out (by decide)) e_) e_) (fun e_ => (fun e_ => (Kd.R_ne HO_257005.out BK256.out (by decide)) e_) e_))); replace BK273 := am_ (blk_kept (qK BK273) hkp (fun hs_ => Or.elim hs_ (fun e_ => (fun e_ => (Kd.R_ne HO_257004.out BK273.out (by decide)) e_) e_) (fun e_ => (fun e_ => (Kd.R_ne HO_257005.out BK273.out (by decide)) e_) e_))); replace HO_257004 := am_ (Kd.R_reok rfl hy0 (fun k_ e_ => HO_257004.out.1 k_ e_)); replace HO_257005 := am_ (Kd.R_reok rfl hy1 (fun k_ e_ => HO_257005.out.1 k_ e_)); replace HO281 := am_ (Kd.R_mono (ok' := fun k_ => some k_ ≠ (.slice Ao40 t257.length co40 : Value).ownBlock ∧ some k_ ≠ (.slice Ao28 t234.length co28 : Value).ownBlock ∧ some k_ ≠ (.slice Ao29 t237.length co29 : Value).ownBlock ∧ some k_ ≠ (.slice Ao36 t248.length co36 : Value).ownBlock ∧ some k_ ≠ (.slice Ao37 t251.length co37 : Value).ownBlock ∧ some k_ ≠ (.slice Ao47 t264.length co47 : Value).ownBlock ∧ some k_ ≠ (.slice Ao48 t267.length co48 : Value).ownBlock ∧ some k_ ≠ (.slice Ao80 t282.length co80 : Value).ownBlock ∧ some k_ ≠ (.slice Ao83 t288.length co83 : Value).ownBlock) (Kd.R_keptB (HO281.out) hkp (fun k_ hk_ hs_ => Or.elim hs_ (fun e_ => (hk_.1.1.1.1.2) e_) (fun e_ => (hk_.1.1.1.2) e_))) (fun k_ hk_ => ⟨hk_.1.1.1.1.1.1.1.1.2, hk_.1.1.1.1.1.1.1.2, hk_.1.1.1.1.1.1.2, hk_.1.1.1.1.1.2, hk_.1.1.1.1.2, hk_.1.1.1.2, hk_.1.1.2, hk_.1.1.1.1.1.1.1.1.1, hk_.1.2⟩)); replace HO284 := am_ (Kd.R_mono (ok' := fun k_ => some k_ ≠ (.slice Ao40 t257.length co40 : Value).ownBlock ∧ some k_ ≠ (.slice Ao28 t234.length co28 : Value).ownBlock ∧ some k_ ≠ (.slice Ao29 t237.length co29 : Value).ownBlock ∧ some k_ ≠ (.slice Ao36 t248.length co36 : Value).ownBlock ∧ some k_ ≠ (.slice Ao37 t251.length co37 : Value).ownBlock ∧ some k_ ≠ (.slice Ao47 t264.length co47 : Value).ownBlock ∧ some k_ ≠ (.slice Ao48 t267.length co48 : Value).ownBlock ∧ some k_ ≠ (.slice Ao79 t279.length co79 : Value).ownBlock ∧ some k_ ≠ (.slice Ao83 t288.length co83 : Value).ownBlock) (Kd.R_keptB (HO284.out) hkp (fun k_ hk_ hs_ => Or.elim hs_ (fun e_ => (hk_.1.1.1.1.2) e_) (fun e_ => (hk_.1.1.1.2) e_))) (fun k_ hk_ => ⟨hk_.1.1.1.1.1.1.1.1.2, hk_.1.1.1.1.1.1.1.2, hk_.1.1.1.1.1.1.2, hk_.1.1.1.1.1.2, hk_.1.1.1.1.2, hk_.1.1.1.2, hk_.1.1.2, hk_.1.1.1.1.1.1.1.1.1, hk_.1.2⟩)); replace HO290 := am_ (Kd.R_mono (ok' := fun k_ => some k_ ≠ (.slice Ao40 t257.length co40 : Value).ownBlock ∧ some k_ ≠ (.slice Ao28 t234.length co28 : Value).ownBlock ∧ some k_ ≠ (.slice Ao29 t237.length co29 : Value).ownBlock ∧ some k_ ≠ (.slice Ao36 t248.length co36 : Value).ownBlock ∧ some k_ ≠ (.slice Ao37 t251.length co37 : Value).ownBlock ∧ some k_ ≠ (.slice Ao47 t264.length co47 : Value).ownBlock ∧ some k_ ≠ (.slice Ao48 t267.length co48 : Value).ownBlock ∧ some k_ ≠ (.slice Ao79 t279.length co79 : Value).ownBlock ∧ some k_ ≠ (.slice Ao80 t282.length co80 : Value).ownBlock) (Kd.R_keptB (HO290.out) hkp (fun k_ hk_ hs_ => Or.elim hs_ (fun e_ => (hk_.1.1.1.1.1.2) e_) (fun e_ => (hk_.1.1.1.1.2) e_))) (fun k_ hk_ => ⟨hk_.1.1.1.1.1.1.1.1.1.2, hk_.1.1.1.1.1.1.1.1.2, hk_.1.1.1.1.1.1.1.2, hk_.1.1.1.1.1.1.2, hk_.1.1.1.1.1.2, hk_.1.1.1.1.2, hk_.1.1.1.2, hk_.1.1.2, hk_.1.2⟩)); replace HB := am_ (hb); (try clear hb); (try clear hkp); (try clear hy0); (try clear hy1)) | ((with_reducible refine gate_callee (f := 47) rfl ?_); refine goesL_ (some 67) rfl rfl Try.func47 (by kernel_rfl) rfl #[.slice Ao40 t257.length co40, .int .i64 t292] rfl la_ ?_; (with_reducible refine (laws_markByteS.calls kj16 (fun k_ => some k_ = (.slice Ao40 t257.length co40 : Value).ownBlock) (.slice Ao40 t257.length co40) t257 t292 t295 t296 w _ ?side1 ?side2 A75.out).mono ?_); (case side1 => repeat (first | (with_reducible first | exact HB.out | apply below_alloc | apply pw_below_drewN | apply below_drew1 | refine below_set ?_ GE213.out | refine below_set ?_ GE243.out | refine below_set ?_ GE256.out | refine below_set ?_ GE273.out) | exact HB.out)); (case side2 => exact Kd.R_tight rfl HO_9.out); rintro e w89 ⟨rfl, hy0, hb, hkp⟩; refine ⟨_, rfl, ?_⟩; replace HO_244004 := am_ (Kd.R_mono (ok' := fun k_ => some k_ ≠ (.slice Ao40 t257.length co40 : Value).ownBlock ∧ some k_ ≠ (.slice Ao29 t237.length co29 : Value).ownBlock ∧ some k_ ≠ (.slice Ao36 t248.length co36 : Value).ownBlock ∧ some k_ ≠ (.slice Ao37 t251.length co37 : Value).ownBlock ∧ some k_ ≠ (.slice Ao47 t264.length co47 : Value).ownBlock ∧ some k_ ≠ (.slice Ao48 t267.length co48 : Value).ownBlock ∧ some k_ ≠ (.slice Ao79 t279.length co79 : Value).ownBlock ∧ some k_ ≠ (.slice Ao80 t282.length co80 : Value).ownBlock ∧ some k_ ≠ (.slice Ao83 t288.length co83 : Value).ownBlock) (Kd.R_keptB (HO_244004.out) hkp (fun k_ hk_ hs_ => (hk_.1) hs_)) (fun k_ hk_ => ⟨hk_.1.1, hk_.1.2.1, hk_.1.2.2.1, hk_.1.2.2.2.1, hk_.1.2.2.2.2.1, hk_.1.2.2.2.2.2.1, hk_.1.2.2.2.2.2.2.1, hk_.1.2.2.2.2.2.2.2.1, hk_.1.2.2.2.2.2.2.2.2⟩)); replace HO_244005 := am_ (Kd.R_mono (ok' := fun k_ => some k_ ≠ (.slice Ao40 t257.length co40 : Value).ownBlock ∧ some k_ ≠ (.slice Ao28 t234.length co28 : Value).ownBlock ∧ some k_ ≠ (.slice Ao36 t248.length co36 : Value).ownBlock ∧ some k_ ≠ (.slice Ao37 t251.length co37 : Value).ownBlock ∧ some k_ ≠ (.slice Ao47 t264.length co47 : Value).ownBlock ∧ some k_ ≠ (.slice Ao48 t267.length co48 : Value).ownBlock ∧ some k_ ≠ (.slice Ao79 t279.length co79 : Value).ownBlock ∧ some k_ ≠ (.slice Ao80 t282.length co80 : Value).ownBlock ∧ some k_ ≠ (.slice Ao83 t288.length co83 : Value).ownBlock) (Kd.R_keptB (HO_244005.out) hkp (fun k_ hk_ hs_ => (hk_.1) hs_)) (fun k_ hk_ => ⟨hk_.1.1, hk_.1.2.1, hk_.1.2.2.1, hk_.1.2.2.2.1, hk_.1.2.2.2.2.1, hk_.1.2.2.2.2.2.1, hk_.1.2.2.2.2.2.2.1, hk_.1.2.2.2.2.2.2.2.1, hk_.1.2.2.2.2.2.2.2.2⟩)); replace HO_257004 := am_ (Kd.R_mono (ok' := fun k_ => some k_ ≠ (.slice Ao40 t257.length co40 : Value).ownBlock ∧ some k_ ≠ (.slice Ao28 t234.length co28 : Value).ownBlock ∧ some k_ ≠ (.slice Ao29 t237.length co29 : Value).ownBlock ∧ some k_ ≠ (.slice Ao37 t251.length co37 : Value).ownBlock ∧ some k_ ≠ (.slice Ao47 t264.length co47 : Value).ownBlock ∧ some k_ ≠ (.slice Ao48 t267.length co48 : Value).ownBlock ∧ some k_ ≠ (.slice Ao79 t279.length co79 : Value).ownBlock ∧ some k_ ≠ (.slice Ao80 t282.length co80 : Value).ownBlock ∧ some k_ ≠ (.slice Ao83 t288.length co83 : Value).ownBlock) (Kd.R_keptB (HO_257004.out) hkp (fun k_ hk_ hs_ => (hk_.1.1.1.1) hs_)) (fun k_ hk_ => ⟨hk_.1.1.1.1.1, hk_.1.1.1.1.2.1, hk_.1.1.1.1.2.2.1, hk_.1.1.1.1.2.2.2.1, hk_.1.1.1.1.2.2.2.2.1, hk_.1.1.1.1.2.2.2.2.2, hk_.1.1.1.2, hk_.1.1.2, hk_.1.2⟩)); replace HO_257005 := am_ (Kd.R_mono (ok' := fun k_ => some k_ ≠ (.slice Ao40 t257.length co40 : Value).ownBlock ∧ some k_ ≠ (.slice Ao28 t234.length co28 : Value).ownBlock ∧ some k_ ≠ (.slice Ao29 t237.length co29 : Value).ownBlock ∧ some k_ ≠ (.slice Ao36 t248.length co36 : Value).ownBlock ∧ some k_ ≠ (.slice Ao47 t264.length co47 : Value).ownBlock ∧ some k_ ≠ (.slice Ao48 t267.length co48 : Value).ownBlock ∧ some k_ ≠ (.slice Ao79 t279.length co79 : Value).ownBlock ∧ some k_ ≠ (.slice Ao80 t282.length co80 : Value).ownBlock ∧ some k_ ≠ (.slice Ao83 t288.length co83 : Value).ownBlock) (Kd.R_keptB (HO_257005.out) hkp (fun k_ hk_ hs_ => (hk_.1.1.1.1) hs_)) (fun k_ hk_ => ⟨hk_.1.1.1.1.1, hk_.1.1.1.1.2.1, hk_.1.1.1.1.2.2.1, hk_.1.1.1.1.2.2.2.1, hk_.1.1.1.1.2.2.2.2.1, hk_.1.1.1.1.2.2.2.2.2, hk_.1.1.1.2, hk_.1.1.2, hk_.1.2⟩)); replace HO_274004 := am_ (Kd.R_mono (ok' := fun k_ => some k_ ≠ (.slice Ao40 t257.length co40 : Value).ownBlock ∧ some k_ ≠ (.slice Ao28 t234.length co28 : Value).ownBlock ∧ some k_ ≠ (.slice Ao29 t237.length co29 : Value).ownBlock ∧ some k_ ≠ (.slice Ao36 t248.length co36 : Value).ownBlock ∧ some k_ ≠ (.slice Ao37 t251.length co37 : Value).ownBlock ∧ some k_ ≠ (.slice Ao48 t267.length co48 : Value).ownBlock ∧ some k_ ≠ (.slice Ao79 t279.length co79 : Value).ownBlock ∧ some k_ ≠ (.slice Ao80 t282.length co80 : Value).ownBlock ∧ some k_ ≠ (.slice Ao83 t288.length co83 : Value).ownBlock) (Kd.R_keptB (HO_274004.out) hkp (fun k_ hk_ hs_ => (hk_.1) hs_)) (fun k_ hk_ => ⟨hk_.1.1, hk_.1.2.1, hk_.1.2.2.1, hk_.1.2.2.2.1, hk_.1.2.2.2.2.1, hk_.1.2.2.2.2.2.1, hk_.1.2.2.2.2.2.2.1, hk_.1.2.2.2.2.2.2.2.1, hk_.1.2.2.2.2.2.2.2.2⟩)); replace HO_274005 := am_ (Kd.R_mono (ok' := fun k_ => some k_ ≠ (.slice Ao40 t257.length co40 : Value).ownBlock ∧ some k_ ≠ (.slice Ao28 t234.length co28 : Value).ownBlock ∧ some k_ ≠ (.slice Ao29 t237.length co29 : Value).ownBlock ∧ some k_ ≠ (.slice Ao36 t248.length co36 : Value).ownBlock ∧ some k_ ≠ (.slice Ao37 t251.length co37 : Value).ownBlock ∧ some k_ ≠ (.slice Ao47 t264.length co47 : Value).ownBlock ∧ some k_ ≠ (.slice Ao79 t279.length co79 : Value).ownBlock ∧ some k_ ≠ (.slice Ao80 t282.length co80 : Value).ownBlock ∧ some k_ ≠ (.slice Ao83 t288.length co83 : Value).ownBlock) (Kd.R_keptB (HO_274005.out) hkp (fun k_ hk_ hs_ => (hk_.1) hs_)) (fun k_ hk_ => ⟨hk_.1.1, hk_.1.2.1, hk_.1.2.2.1, hk_.1.2.2.2.1, hk_.1.2.2.2.2.1, hk_.1.2.2.2.2.2.1, hk_.1.2.2.2.2.2.2.1, hk_.1.2.2.2.2.2.2.2.1, hk_.1.2.2.2.2.2.2.2.2⟩)); replace BK213 := am_ (blk_kept (qK BK213) hkp (fun hs_ => (fun e_ => (Kd.R_ne HO_9.out BK213.out (by decide)) e_) hs_)); replace BK243 := am_ (blk_kept (qK BK243) hkp (fun hs_ => (fun e_ => (Kd.R_ne HO_9.out BK243.out (by decide)) e_) hs_)); replace BK256 := am_ (blk_kept (qK BK256) hkp (fun hs_ => (fun e_ => (Kd.R_ne HO_9.out BK256.out (by decide)) e_) hs_)); replace BK273 := am_ (blk_kept (qK BK273) hkp (fun hs_ => (fun e_ => (Kd.R_ne HO_9.out BK273.out (by decide)) e_) hs_)); replace HO_9 := am_ (Kd.R_reok rfl hy0 (fun k_ e_ => HO_9.out.1 k_ e_)); replace HO281 := am_ (Kd.R_mono (ok' := fun k_ => some k_ ≠ (.slice Ao40 t257.length co40 : Value).ownBlock ∧ some k_ ≠ (.slice Ao28 t234.length co28 : Value).ownBlock ∧ some k_ ≠ (.slice Ao29 t237.length co29 : Value).ownBlock ∧ some k_ ≠ (.slice Ao36 t248.length co36 : Value).ownBlock ∧ some k_ ≠ (.slice Ao37 t251.length co37 : Value).ownBlock ∧ some k_ ≠ (.slice Ao47 t264.length co47 : Value).ownBlock ∧ some k_ ≠ (.slice Ao48 t267.length co48 : Value).ownBlock ∧ some k_ ≠ (.slice Ao80 t282.length co80 : Value).ownBlock ∧ some k_ ≠ (.slice Ao83 t288.length co83 : Value).ownBlock) (Kd.R_keptB (HO281.out) hkp (fun k_ hk_ hs_ => (hk_.1) hs_)) (fun k_ hk_ => ⟨hk_.1.1, hk_.1.2.1, hk_.1.2.2.1, hk_.1.2.2.2.1, hk_.1.2.2.2.2.1, hk_.1.2.2.2.2.2.1, hk_.1.2.2.2.2.2.2.1, hk_.1.2.2.2.2.2.2.2.1, hk_.1.2.2.2.2.2.2.2.2⟩)); replace HO284 := am_ (Kd.R_mono (ok' := fun k_ => some k_ ≠ (.slice Ao40 t257.length co40 : Value).ownBlock ∧ some k_ ≠ (.slice Ao28 t234.length co28 : Value).ownBlock ∧ some k_ ≠ (.slice Ao29 t237.length co29 : Value).ownBlock ∧ some k_ ≠ (.slice Ao36 t248.length co36 : Value).ownBlock ∧ some k_ ≠ (.slice Ao37 t251.length co37 : Value).ownBlock ∧ some k_ ≠ (.slice Ao47 t264.length co47 : Value).ownBlock ∧ some k_ ≠ (.slice Ao48 t267.length co48 : Value).ownBlock ∧ some k_ ≠ (.slice Ao79 t279.length co79 : Value).ownBlock ∧ some k_ ≠ (.slice Ao83 t288.length co83 : Value).ownBlock) (Kd.R_keptB (HO284.out) hkp (fun k_ hk_ hs_ => (hk_.1) hs_)) (fun k_ hk_ => ⟨hk_.1.1, hk_.1.2.1, hk_.1.2.2.1, hk_.1.2.2.2.1, hk_.1.2.2.2.2.1, hk_.1.2.2.2.2.2.1, hk_.1.2.2.2.2.2.2.1, hk_.1.2.2.2.2.2.2.2.1, hk_.1.2.2.2.2.2.2.2.2⟩)); replace HO290 := am_ (Kd.R_mono (ok' := fun k_ => some k_ ≠ (.slice Ao40 t257.length co40 : Value).ownBlock ∧ some k_ ≠ (.slice Ao28 t234.length co28 : Value).ownBlock ∧ some k_ ≠ (.slice Ao29 t237.length co29 : Value).ownBlock ∧ some k_ ≠ (.slice Ao36 t248.length co36 : Value).ownBlock ∧ some k_ ≠ (.slice Ao37 t251.length co37 : Value).ownBlock ∧ some k_ ≠ (.slice Ao47 t264.length co47 : Value).ownBlock ∧ some k_ ≠ (.slice Ao48 t267.length co48 : Value).ownBlock ∧ some k_ ≠ (.slice Ao79 t279.length co79 : Value).ownBlock ∧ some k_ ≠ (.slice Ao80 t282.length co80 : Value).ownBlock) (Kd.R_keptB (HO290.out) hkp (fun k_ hk_ hs_ => (hk_.1) hs_)) (fun k_ hk_ => ⟨hk_.1.1, hk_.1.2.1, hk_.1.2.2.1, hk_.1.2.2.2.1, hk_.1.2.2.2.2.1, hk_.1.2.2.2.2.2.1, hk_.1.2.2.2.2.2.2.1, hk_.1.2.2.2.2.2.2.2.1, hk_.1.2.2.2.2.2.2.2.2⟩)); replace HB := am_ (hb); (try clear hb); (try clear hkp); (try clear hy0)))
        (try simp only [Act.put, List.setIfInBounds_toArray, List.set_cons_zero, List.set_cons_succ])
        go_cut [80] (fun v80 wc => ∃ (kq : Nat) (x80_75 : Bool), v80 = .bool x80_75 ∧ Aside0 (laws_FnExactHear.j1 kq l1 t242 x80_75 a0_0 a0_1 a0_2 a0_3 l0_4 l0_5 a0_6 a0_7 t230 t231 t232 t233 t234 t237 t240 t241 t260 t261 t262 t263 t264 t267 t270 t271 = some r) ∧ Aside0 (kq ≤ kj16) ∧ Aside0 (Kd.R (Kd.int .u8) 5 wc w.heap.size (fun k_ => some k_ ≠ ((.slice Ao29 t237.length co29) : Value).ownBlock ∧ some k_ ≠ ((.slice Ao36 t248.length co36) : Value).ownBlock ∧ some k_ ≠ ((.slice Ao37 t251.length co37) : Value).ownBlock ∧ some k_ ≠ ((.slice Ao47 t264.length co47) : Value).ownBlock ∧ some k_ ≠ ((.slice Ao48 t267.length co48) : Value).ownBlock) (.slice Ao28 t234.length co28) t234) ∧ Aside0 (Kd.R (Kd.int .u8) 5 wc w.heap.size (fun k_ => some k_ ≠ ((.slice Ao28 t234.length co28) : Value).ownBlock ∧ some k_ ≠ ((.slice Ao36 t248.length co36) : Value).ownBlock ∧ some k_ ≠ ((.slice Ao37 t251.length co37) : Value).ownBlock ∧ some k_ ≠ ((.slice Ao47 t264.length co47) : Value).ownBlock ∧ some k_ ≠ ((.slice Ao48 t267.length co48) : Value).ownBlock) (.slice Ao29 t237.length co29) t237) ∧ Aside0 (Kd.R (Kd.int .u8) 5 wc w.heap.size (fun k_ => some k_ ≠ ((.slice Ao28 t234.length co28) : Value).ownBlock ∧ some k_ ≠ ((.slice Ao29 t237.length co29) : Value).ownBlock ∧ some k_ ≠ ((.slice Ao37 t251.length co37) : Value).ownBlock ∧ some k_ ≠ ((.slice Ao47 t264.length co47) : Value).ownBlock ∧ some k_ ≠ ((.slice Ao48 t267.length co48) : Value).ownBlock) (.slice Ao36 t248.length co36) t293) ∧ Aside0 (Kd.R (Kd.int .u8) 5 wc w.heap.size (fun k_ => some k_ ≠ ((.slice Ao28 t234.length co28) : Value).ownBlock ∧ some k_ ≠ ((.slice Ao29 t237.length co29) : Value).ownBlock ∧ some k_ ≠ ((.slice Ao36 t248.length co36) : Value).ownBlock ∧ some k_ ≠ ((.slice Ao47 t264.length co47) : Value).ownBlock ∧ some k_ ≠ ((.slice Ao48 t267.length co48) : Value).ownBlock) (.slice Ao37 t251.length co37) t294) ∧ Aside0 (Kd.R (Kd.int .u8) 5 wc w.heap.size (fun k_ => some k_ ≠ ((.slice Ao28 t234.length co28) : Value).ownBlock ∧ some k_ ≠ ((.slice Ao29 t237.length co29) : Value).ownBlock ∧ some k_ ≠ ((.slice Ao36 t248.length co36) : Value).ownBlock ∧ some k_ ≠ ((.slice Ao37 t251.length co37) : Value).ownBlock ∧ some k_ ≠ ((.slice Ao48 t267.length co48) : Value).ownBlock) (.slice Ao47 t264.length co47) t264) ∧ Aside0 (Kd.R (Kd.int .u8) 5 wc w.heap.size (fun k_ => some k_ ≠ ((.slice Ao28 t234.length co28) : Value).ownBlock ∧ some k_ ≠ ((.slice Ao29 t237.length co29) : Value).ownBlock ∧ some k_ ≠ ((.slice Ao36 t248.length co36) : Value).ownBlock ∧ some k_ ≠ ((.slice Ao37 t251.length co37) : Value).ownBlock ∧ some k_ ≠ ((.slice Ao47 t264.length co47) : Value).ownBlock) (.slice Ao48 t267.length co48) t267) ∧ Aside0 (wc.heap[gb213]? = some (.cells #[.int .i64 a0_0, .int .i64 a0_1, .int .i64 a0_2, .bool a0_3, (.slice A0_4 l0_4.length c0_4), (.slice A0_5 l0_5.length c0_5), .int .i64 a0_6, .int .i64 a0_7] 48 (0, 0))) ∧ Aside0 (wc.heap[gb243]? = some (.cells #[.int .i64 t230, .int .i64 t231, .int .i64 t232, .bool t233, (.slice Ao28 t234.length co28), (.slice Ao29 t237.length co29), .int .i64 t240, .int .i64 t241] 50 (0, 0))) ∧ Aside0 (wc.heap[gb256]? = some (.cells #[.int .i64 t244, .int .i64 t245, .int .i64 t246, .bool t247, (.slice Ao36 t248.length co36), (.slice Ao37 t251.length co37), .int .i64 t254, .int .i64 t255] 50 (0, 0))) ∧ Aside0 (wc.heap[gb273]? = some (.cells #[.int .i64 t260, .int .i64 t261, .int .i64 t262, .bool t263, (.slice Ao47 t264.length co47), (.slice Ao48 t267.length co48), .int .i64 t270, .int .i64 t271] 50 (0, 0))) ∧ Aside0 (Below w.heap.size w wc))
        case first =>
         have H := HC76.out
         clear HC76
         by_cases c90 : t295 < 0
         ·
          rw [if_pos c90] at H
          have c90b0 : decide (t295 < 0) = true := decide_eq_true c90
          clear c90
          (first | rw [c90b0] | (simp only [i64_w, i32_w]; rw [c90b0]) | skip)
          have H' := Aside0.mk H
          clear H
          go_wp2
          go_meet
          case rel => exact ⟨_, (true), eqq_, H', ⟨by have := HJ16.out; first | omega | exact Nat.le_refl _⟩, ⟨by (with_reducible repeat (first | apply Kd.R_alloc | apply Kd.R_drewN | apply Kd.R_drew)); exact Kd.R_mono HO_244004.out (fun _ hk => ⟨hk.2.1, ⟨hk.2.2.1, ⟨hk.2.2.2.1, ⟨hk.2.2.2.2.1, hk.2.2.2.2.2.1⟩⟩⟩⟩)⟩, ⟨by (with_reducible repeat (first | apply Kd.R_alloc | apply Kd.R_drewN | apply Kd.R_drew)); exact Kd.R_mono HO_244005.out (fun _ hk => ⟨hk.2.1, ⟨hk.2.2.1, ⟨hk.2.2.2.1, ⟨hk.2.2.2.2.1, hk.2.2.2.2.2.1⟩⟩⟩⟩)⟩, ⟨by (with_reducible repeat (first | apply Kd.R_alloc | apply Kd.R_drewN | apply Kd.R_drew)); exact Kd.R_mono HO_257004.out (fun _ hk => ⟨hk.2.1, ⟨hk.2.2.1, ⟨hk.2.2.2.1, ⟨hk.2.2.2.2.1, hk.2.2.2.2.2.1⟩⟩⟩⟩)⟩, ⟨by (with_reducible repeat (first | apply Kd.R_alloc | apply Kd.R_drewN | apply Kd.R_drew)); exact Kd.R_mono HO_257005.out (fun _ hk => ⟨hk.2.1, ⟨hk.2.2.1, ⟨hk.2.2.2.1, ⟨hk.2.2.2.2.1, hk.2.2.2.2.2.1⟩⟩⟩⟩)⟩, ⟨by (with_reducible repeat (first | apply Kd.R_alloc | apply Kd.R_drewN | apply Kd.R_drew)); exact Kd.R_mono HO_274004.out (fun _ hk => ⟨hk.2.1, ⟨hk.2.2.1, ⟨hk.2.2.2.1, ⟨hk.2.2.2.2.1, hk.2.2.2.2.2.1⟩⟩⟩⟩)⟩, ⟨by (with_reducible repeat (first | apply Kd.R_alloc | apply Kd.R_drewN | apply Kd.R_drew)); exact Kd.R_mono HO_274005.out (fun _ hk => ⟨hk.2.1, ⟨hk.2.2.1, ⟨hk.2.2.2.1, ⟨hk.2.2.2.2.1, hk.2.2.2.2.2.1⟩⟩⟩⟩)⟩, ⟨qK BK213⟩, ⟨qK BK243⟩, ⟨qK BK256⟩, ⟨qK BK273⟩, ⟨qB HB⟩⟩
         ·
          rw [if_neg c90] at H
          have c90b0 : decide (t295 < 0) = false := decide_eq_false c90
          clear c90
          (first | rw [c90b0] | (simp only [i64_w, i32_w]; rw [c90b0]) | skip)
          obtain ⟨t297, A91, H⟩ := bd_ H
          by_cases c92 : t297 = true
          ·
           subst c92
           rw [if_pos rfl] at H
           have H' := Aside0.mk H
           clear H
           have hnb93 := NB273_213.out
           have hnc93 := NB213_273.out
           have hnb94 := NB273_243.out
           have hnc94 := NB243_273.out
           have hnb95 := NB273_256.out
           have hnc95 := NB256_273.out
           obtain ⟨z96_0, z96_1, z96_2, z96_3, z96_4, z96_5, z96_6, z96_7⟩ := cz8 BK273.out
           obtain ⟨f96_0, f96_1, f96_2, f96_3, f96_4, f96_5, f96_6, f96_7⟩ := fz8 BK273.out
           have hnb97 := NB243_213.out
           have hnc97 := NB213_243.out
           have hnb98 := NB243_256.out
           have hnc98 := NB256_243.out
           obtain ⟨z99_0, z99_1, z99_2, z99_3, z99_4, z99_5, z99_6, z99_7⟩ := cz8 BK243.out
           obtain ⟨f99_0, f99_1, f99_2, f99_3, f99_4, f99_5, f99_6, f99_7⟩ := fz8 BK243.out
           go_wp2_with (first | (go_at_call 44; (with_reducible refine (laws_eqSock.calls kj16 t260 t261 t262 t263 _ _ t264 _ _ t267 t270 t271 t230 t231 t232 t233 _ _ t234 _ _ t237 t240 t241 true _ ?side1 ?side2 ?side3 ?side4 ?side5 ?side6 ?side7 ?side8 A91.out).mono ?_); (case side1 => exact qC ((Kd.R_reads' HO_274004.out).2.2)); (case side2 => exact (Kd.R_reads' HO_274004.out).2.1); (case side3 => exact qC ((Kd.R_reads' HO_274005.out).2.2)); (case side4 => exact (Kd.R_reads' HO_274005.out).2.1); (case side5 => exact qC ((Kd.R_reads' HO_244004.out).2.2)); (case side6 => exact (Kd.R_reads' HO_244004.out).2.1); (case side7 => exact qC ((Kd.R_reads' HO_244005.out).2.2)); (case side8 => exact (Kd.R_reads' HO_244005.out).2.1); rintro e w100 ⟨rfl, hb⟩; replace HO_9 := am_ (Kd.R_below (qR HO_9) hb); replace HO_244004 := am_ (Kd.R_below (qR HO_244004) hb); replace HO_244005 := am_ (Kd.R_below (qR HO_244005) hb); replace HO_257004 := am_ (Kd.R_below (qR HO_257004) hb); replace HO_257005 := am_ (Kd.R_below (qR HO_257005) hb); replace HO_274004 := am_ (Kd.R_below (qR HO_274004) hb); replace HO_274005 := am_ (Kd.R_below (qR HO_274005) hb); replace HO281 := am_ (Kd.R_below (qR HO281) hb); replace HO284 := am_ (Kd.R_below (qR HO284) hb); replace HO290 := am_ (Kd.R_below (qR HO290) hb); replace BK213 := am_ (blk_below (qK BK213) hb); replace BK243 := am_ (blk_below (qK BK243) hb); replace BK256 := am_ (blk_below (qK BK256) hb); replace BK273 := am_ (blk_below (qK BK273) hb); replace HB := am_ (below_step (qB HB) hb); (try clear hb); (try clear hb2); (try clear hk); (try clear hi)))
           go_meet
           case rel => exact ⟨_, ((t272 != t242)), eqq_, H', ⟨by have := HJ16.out; first | omega | exact Nat.le_refl _⟩, ⟨by (with_reducible repeat (first | apply Kd.R_alloc | apply Kd.R_drewN | apply Kd.R_drew)); exact Kd.R_mono HO_244004.out (fun _ hk => ⟨hk.2.1, ⟨hk.2.2.1, ⟨hk.2.2.2.1, ⟨hk.2.2.2.2.1, hk.2.2.2.2.2.1⟩⟩⟩⟩)⟩, ⟨by (with_reducible repeat (first | apply Kd.R_alloc | apply Kd.R_drewN | apply Kd.R_drew)); exact Kd.R_mono HO_244005.out (fun _ hk => ⟨hk.2.1, ⟨hk.2.2.1, ⟨hk.2.2.2.1, ⟨hk.2.2.2.2.1, hk.2.2.2.2.2.1⟩⟩⟩⟩)⟩, ⟨by (with_reducible repeat (first | apply Kd.R_alloc | apply Kd.R_drewN | apply Kd.R_drew)); exact Kd.R_mono HO_257004.out (fun _ hk => ⟨hk.2.1, ⟨hk.2.2.1, ⟨hk.2.2.2.1, ⟨hk.2.2.2.2.1, hk.2.2.2.2.2.1⟩⟩⟩⟩)⟩, ⟨by (with_reducible repeat (first | apply Kd.R_alloc | apply Kd.R_drewN | apply Kd.R_drew)); exact Kd.R_mono HO_257005.out (fun _ hk => ⟨hk.2.1, ⟨hk.2.2.1, ⟨hk.2.2.2.1, ⟨hk.2.2.2.2.1, hk.2.2.2.2.2.1⟩⟩⟩⟩)⟩, ⟨by (with_reducible repeat (first | apply Kd.R_alloc | apply Kd.R_drewN | apply Kd.R_drew)); exact Kd.R_mono HO_274004.out (fun _ hk => ⟨hk.2.1, ⟨hk.2.2.1, ⟨hk.2.2.2.1, ⟨hk.2.2.2.2.1, hk.2.2.2.2.2.1⟩⟩⟩⟩)⟩, ⟨by (with_reducible repeat (first | apply Kd.R_alloc | apply Kd.R_drewN | apply Kd.R_drew)); exact Kd.R_mono HO_274005.out (fun _ hk => ⟨hk.2.1, ⟨hk.2.2.1, ⟨hk.2.2.2.1, ⟨hk.2.2.2.2.1, hk.2.2.2.2.2.1⟩⟩⟩⟩)⟩, ⟨qK BK213⟩, ⟨qK BK243⟩, ⟨qK BK256⟩, ⟨qK BK273⟩, ⟨qB HB⟩⟩
          ·
           replace c92 := Bool.eq_false_iff.mpr c92
           subst c92
           rw [if_neg (show ¬ (false = true) by decide)] at H
           have H' := Aside0.mk H
           clear H
           have hnb101 := NB273_213.out
           have hnc101 := NB213_273.out
           have hnb102 := NB273_243.out
           have hnc102 := NB243_273.out
           have hnb103 := NB273_256.out
           have hnc103 := NB256_273.out
           obtain ⟨z104_0, z104_1, z104_2, z104_3, z104_4, z104_5, z104_6, z104_7⟩ := cz8 BK273.out
           obtain ⟨f104_0, f104_1, f104_2, f104_3, f104_4, f104_5, f104_6, f104_7⟩ := fz8 BK273.out
           have hnb105 := NB243_213.out
           have hnc105 := NB213_243.out
           have hnb106 := NB243_256.out
           have hnc106 := NB256_243.out
           obtain ⟨z107_0, z107_1, z107_2, z107_3, z107_4, z107_5, z107_6, z107_7⟩ := cz8 BK243.out
           obtain ⟨f107_0, f107_1, f107_2, f107_3, f107_4, f107_5, f107_6, f107_7⟩ := fz8 BK243.out
           go_wp2_with (first | (go_at_call 44; (with_reducible refine (laws_eqSock.calls kj16 t260 t261 t262 t263 _ _ t264 _ _ t267 t270 t271 t230 t231 t232 t233 _ _ t234 _ _ t237 t240 t241 false _ ?side1 ?side2 ?side3 ?side4 ?side5 ?side6 ?side7 ?side8 A91.out).mono ?_); (case side1 => exact qC ((Kd.R_reads' HO_274004.out).2.2)); (case side2 => exact (Kd.R_reads' HO_274004.out).2.1); (case side3 => exact qC ((Kd.R_reads' HO_274005.out).2.2)); (case side4 => exact (Kd.R_reads' HO_274005.out).2.1); (case side5 => exact qC ((Kd.R_reads' HO_244004.out).2.2)); (case side6 => exact (Kd.R_reads' HO_244004.out).2.1); (case side7 => exact qC ((Kd.R_reads' HO_244005.out).2.2)); (case side8 => exact (Kd.R_reads' HO_244005.out).2.1); rintro e w108 ⟨rfl, hb⟩; replace HO_9 := am_ (Kd.R_below (qR HO_9) hb); replace HO_244004 := am_ (Kd.R_below (qR HO_244004) hb); replace HO_244005 := am_ (Kd.R_below (qR HO_244005) hb); replace HO_257004 := am_ (Kd.R_below (qR HO_257004) hb); replace HO_257005 := am_ (Kd.R_below (qR HO_257005) hb); replace HO_274004 := am_ (Kd.R_below (qR HO_274004) hb); replace HO_274005 := am_ (Kd.R_below (qR HO_274005) hb); replace HO281 := am_ (Kd.R_below (qR HO281) hb); replace HO284 := am_ (Kd.R_below (qR HO284) hb); replace HO290 := am_ (Kd.R_below (qR HO290) hb); replace BK213 := am_ (blk_below (qK BK213) hb); replace BK243 := am_ (blk_below (qK BK243) hb); replace BK256 := am_ (blk_below (qK BK256) hb); replace BK273 := am_ (blk_below (qK BK273) hb); replace HB := am_ (below_step (qB HB) hb); (try clear hb); (try clear hb2); (try clear hk); (try clear hi)))
           go_meet
           case rel => exact ⟨_, (true), eqq_, H', ⟨by have := HJ16.out; first | omega | exact Nat.le_refl _⟩, ⟨by (with_reducible repeat (first | apply Kd.R_alloc | apply Kd.R_drewN | apply Kd.R_drew)); exact Kd.R_mono HO_244004.out (fun _ hk => ⟨hk.2.1, ⟨hk.2.2.1, ⟨hk.2.2.2.1, ⟨hk.2.2.2.2.1, hk.2.2.2.2.2.1⟩⟩⟩⟩)⟩, ⟨by (with_reducible repeat (first | apply Kd.R_alloc | apply Kd.R_drewN | apply Kd.R_drew)); exact Kd.R_mono HO_244005.out (fun _ hk => ⟨hk.2.1, ⟨hk.2.2.1, ⟨hk.2.2.2.1, ⟨hk.2.2.2.2.1, hk.2.2.2.2.2.1⟩⟩⟩⟩)⟩, ⟨by (with_reducible repeat (first | apply Kd.R_alloc | apply Kd.R_drewN | apply Kd.R_drew)); exact Kd.R_mono HO_257004.out (fun _ hk => ⟨hk.2.1, ⟨hk.2.2.1, ⟨hk.2.2.2.1, ⟨hk.2.2.2.2.1, hk.2.2.2.2.2.1⟩⟩⟩⟩)⟩, ⟨by (with_reducible repeat (first | apply Kd.R_alloc | apply Kd.R_drewN | apply Kd.R_drew)); exact Kd.R_mono HO_257005.out (fun _ hk => ⟨hk.2.1, ⟨hk.2.2.1, ⟨hk.2.2.2.1, ⟨hk.2.2.2.2.1, hk.2.2.2.2.2.1⟩⟩⟩⟩)⟩, ⟨by (with_reducible repeat (first | apply Kd.R_alloc | apply Kd.R_drewN | apply Kd.R_drew)); exact Kd.R_mono HO_274004.out (fun _ hk => ⟨hk.2.1, ⟨hk.2.2.1, ⟨hk.2.2.2.1, ⟨hk.2.2.2.2.1, hk.2.2.2.2.2.1⟩⟩⟩⟩)⟩, ⟨by (with_reducible repeat (first | apply Kd.R_alloc | apply Kd.R_drewN | apply Kd.R_drew)); exact Kd.R_mono HO_274005.out (fun _ hk => ⟨hk.2.1, ⟨hk.2.2.1, ⟨hk.2.2.2.1, ⟨hk.2.2.2.2.1, hk.2.2.2.2.2.1⟩⟩⟩⟩)⟩, ⟨qK BK213⟩, ⟨qK BK243⟩, ⟨qK BK256⟩, ⟨qK BK273⟩, ⟨qB HB⟩⟩
        case rest =>
         clear HC76
         try clear c1
         try clear c2
         try clear p2
         try clear c3
         try clear c4
         try clear c5
         try clear c5b0
         try clear c5b1
         try clear c6
         try clear c7
         try clear c8
         try clear c9
         try clear c10
         try clear c10b0
         try clear c26
         try clear c33
         try clear c34
         try clear c39
         try clear c40
         try clear c41
         try clear c42
         try clear c43
         try clear c44
         try clear c45
         try clear c46
         try clear c47
         try clear c50
         try clear c51
         try clear c52
         try clear c53
         try clear c55
         try clear c56
         try clear c59
         try clear c60
         try clear c61
         try clear c63
         try clear c64
         try clear c67
         try clear c70
         try clear c73
         try clear c84
         try clear c85
         try clear c86
         try clear c90
         try clear c90b0
         try clear c92
         try clear c93
         try clear c94
         try clear c95
         try clear c97
         try clear c98
         try clear c101
         try clear c102
         try clear c103
         try clear c105
         try clear c106
         (try clear z104_0 z104_1 z104_2 z104_3 z104_4 z104_5 z104_6 z104_7)
         (try clear z107_0 z107_1 z107_2 z107_3 z107_4 z107_5 z107_6 z107_7)
         (try clear z18_0 z18_1 z18_2 z18_3 z18_4 z18_5 z18_6 z18_7)
         (try clear z27_0 z27_1 z27_2 z27_3 z27_4 z27_5 z27_6 z27_7)
         (try clear z30_0 z30_1 z30_2 z30_3 z30_4 z30_5 z30_6 z30_7)
         (try clear z35_0 z35_1 z35_2 z35_3 z35_4 z35_5 z35_6 z35_7)
         (try clear z39_0 z39_1 z39_2 z39_3 z39_4 z39_5 z39_6 z39_7)
         (try clear z46_0 z46_1 z46_2 z46_3 z46_4 z46_5 z46_6 z46_7)
         (try clear z54_0 z54_1 z54_2 z54_3 z54_4 z54_5 z54_6 z54_7)
         (try clear z57_0 z57_1 z57_2 z57_3 z57_4 z57_5 z57_6 z57_7)
         (try clear z62_0 z62_1 z62_2 z62_3 z62_4 z62_5 z62_6 z62_7)
         (try clear z65_0 z65_1 z65_2 z65_3 z65_4 z65_5 z65_6 z65_7)
         (try clear z87_0 z87_1 z87_2 z87_3 z87_4 z87_5 z87_6 z87_7)
         (try clear z8_0 z8_1 z8_2 z8_3 z8_4 z8_5 z8_6 z8_7)
         (try clear z96_0 z96_1 z96_2 z96_3 z96_4 z96_5 z96_6 z96_7)
         (try clear z99_0 z99_1 z99_2 z99_3 z99_4 z99_5 z99_6 z99_7)
         (try clear f104_0 f104_1 f104_2 f104_3 f104_4 f104_5 f104_6 f104_7)
         (try clear f107_0 f107_1 f107_2 f107_3 f107_4 f107_5 f107_6 f107_7)
         (try clear f18_0 f18_1 f18_2 f18_3 f18_4 f18_5 f18_6 f18_7)
         (try clear f27_0 f27_1 f27_2 f27_3 f27_4 f27_5 f27_6 f27_7)
         (try clear f30_0 f30_1 f30_2 f30_3 f30_4 f30_5 f30_6 f30_7)
         (try clear f35_0 f35_1 f35_2 f35_3 f35_4 f35_5 f35_6 f35_7)
         (try clear f39_0 f39_1 f39_2 f39_3 f39_4 f39_5 f39_6 f39_7)
         (try clear f46_0 f46_1 f46_2 f46_3 f46_4 f46_5 f46_6 f46_7)
         (try clear f54_0 f54_1 f54_2 f54_3 f54_4 f54_5 f54_6 f54_7)
         (try clear f57_0 f57_1 f57_2 f57_3 f57_4 f57_5 f57_6 f57_7)
         (try clear f62_0 f62_1 f62_2 f62_3 f62_4 f62_5 f62_6 f62_7)
         (try clear f65_0 f65_1 f65_2 f65_3 f65_4 f65_5 f65_6 f65_7)
         (try clear f87_0 f87_1 f87_2 f87_3 f87_4 f87_5 f87_6 f87_7)
         (try clear f8_0 f8_1 f8_2 f8_3 f8_4 f8_5 f8_6 f8_7)
         (try clear f96_0 f96_1 f96_2 f96_3 f96_4 f96_5 f96_6 f96_7)
         (try clear f99_0 f99_1 f99_2 f99_3 f99_4 f99_5 f99_6 f99_7)
         try clear p2
         obtain ⟨kq, x80_75, rfl, HA, HJ75, HO_244004, HO_244005, HO_257004, HO_257005, HO_274004, HO_274005, BK213, BK243, BK256, BK273, HB⟩ := hcut
         have hl257004_75 := (Kd.R_reads' HO_257004.out).1
         rw [hl257004_75] at HO_257004
         (try simp only [hl257004_75])
         (try simp only [hl257004_75] at BK213)
         (try simp only [hl257004_75] at BK243)
         (try simp only [hl257004_75] at BK256)
         (try simp only [hl257004_75] at BK273)
         (try simp only [hl257004_75] at HO_244004)
         (try simp only [hl257004_75] at HO_244005)
         (try simp only [hl257004_75] at HO_257005)
         (try simp only [hl257004_75] at HO_274004)
         (try simp only [hl257004_75] at HO_274005)
         have hl257005_75 := (Kd.R_reads' HO_257005.out).1
         rw [hl257005_75] at HO_257005
         (try simp only [hl257005_75])
         (try simp only [hl257005_75] at BK213)
         (try simp only [hl257005_75] at BK243)
         (try simp only [hl257005_75] at BK256)
         (try simp only [hl257005_75] at BK273)
         (try simp only [hl257005_75] at HO_244004)
         (try simp only [hl257005_75] at HO_244005)
         (try simp only [hl257005_75] at HO_257004)
         (try simp only [hl257005_75] at HO_274004)
         (try simp only [hl257005_75] at HO_274005)
         cases kq with
         | zero => exact absurd HA.out (by simp [laws_FnExactHear.j1])
         | succ kj75 =>
          have H := HA.out
          clear HA
          simp only [laws_FnExactHear.j1] at H
          by_cases c109 : x80_75 = true
          ·
           subst c109
           rw [if_pos rfl] at H
           exact absurd (hr_.out ▸ H) (by simp)
          ·
           replace c109 := Bool.eq_false_iff.mpr c109
           subst c109
           rw [if_neg (show ¬ (false = true) by decide)] at H
           obtain ⟨⟨t298, t299, t300⟩, A110, H⟩ := bd_ H
           (try dsimp only at H)
           obtain ⟨t301, A111, H⟩ := bd_ H
           by_cases c112 : t301 < 0
           ·
            rw [if_pos c112] at H
            have c112b0 : decide (t301 < 0) = true := decide_eq_true c112
            clear c112
            exact absurd (hr_.out ▸ H) (by simp)
           ·
            rw [if_neg c112] at H
            have c112b0 : decide (t301 < 0) = false := decide_eq_false c112
            clear c112
            by_cases c113 : t301 = t298
            ·
             rw [if_pos c113] at H
             have c113b0 : (t301 == t298) = true := beq_iff_eq.mpr c113
             have c113b1 : (t301 != t298) = false := bne_eq_false_iff_eq.mpr c113
             clear c113
             obtain ⟨⟨t302, t303, t304, t305, t306, t309, t312, t313⟩, A114, H⟩ := bd_ H
             (try dsimp only at H)
             obtain ⟨t314, A115, H⟩ := bd_ H
             obtain ⟨⟨t317, t318, t319, t320, t321, t324, t327, t328, t329⟩, A116, H⟩ := bd_ H
             (try dsimp only at H)
             have HC117 := Aside0.mk H
             clear H
             have hnb118 := NB273_213.out
             have hnc118 := NB213_273.out
             have hnb119 := NB273_243.out
             have hnc119 := NB243_273.out
             have hnb120 := NB273_256.out
             have hnc120 := NB256_273.out
             obtain ⟨z121_0, z121_1, z121_2, z121_3, z121_4, z121_5, z121_6, z121_7⟩ := cz8 BK273.out
             obtain ⟨f121_0, f121_1, f121_2, f121_3, f121_4, f121_5, f121_6, f121_7⟩ := fz8 BK273.out
             go_upto_region 31 with (first | ((with_reducible refine gate_callee (f := 46) rfl ?_); refine goesL_ (some 83) rfl rfl Try.func46 (by kernel_rfl) rfl #[.agg #[.int .i64 t260, .int .i64 t261, .int .i64 t262, .bool t263, .slice Ao47 t264.length co47, .slice Ao48 t267.length co48, .int .i64 t270, .int .i64 t271], .int .i64 1] rfl la_ ?_; (with_reducible refine (laws_markSock.calls kj75 t260 t261 t262 t263 (fun k_ => some k_ = (.slice Ao47 t264.length co47 : Value).ownBlock) (.slice Ao47 t264.length co47) t264 (fun k_ => some k_ = (.slice Ao48 t267.length co48 : Value).ownBlock) (.slice Ao48 t267.length co48) t267 t270 t271 1 t298 t299 t300 w _ ?side1 ?side2 ?side3 ?side4 ?side5 A110.out).mono ?_); (case side1 => repeat (first | (with_reducible first | exact HB.out | apply below_alloc | apply pw_below_drewN | apply below_drew1 | refine below_set ?_ GE213.out | refine below_set ?_ GE243.out | refine below_set ?_ GE256.out | refine below_set ?_ GE273.out) | exact HB.out)); (case side2 => exact Kd.R_tight rfl HO_274004.out); (case side3 => exact fun k_ e_ => (HO_274004.out.1 k_ e_.symm).2.2.2.2); (case side4 => exact Kd.R_tight rfl HO_274005.out); (case side5 => exact fun k_ e_ => (HO_274005.out.1 k_ e_.symm).2.2.2.2); rintro e w122 ⟨rfl, hy0, hy1, hb, hkp⟩; refine ⟨_, rfl, ?_⟩; replace HO_244004 := am_ (Kd.R_mono (ok' := fun k_ => some k_ ≠ (.slice Ao29 t237.length co29 : Value).ownBlock ∧ some k_ ≠ (.slice Ao36 t293.length co36 : Value).ownBlock ∧ some k_ ≠ (.slice Ao37 t294.length co37 : Value).ownBlock ∧ some k_ ≠ (.slice Ao47 t264.length co47 : Value).ownBlock ∧ some k_ ≠ (.slice Ao48 t267.length co48 : Value).ownBlock) (Kd.R_keptB (HO_244004.out) hkp (fun k_ hk_ hs_ => Or.elim hs_ (fun e_ => (hk_.2.2.2.1) e_) (fun e_ => (hk_.2.2.2.2) e_))) (fun k_ hk_ => ⟨hk_.1.1, hk_.1.2.1, hk_.1.2.2.1, hk_.1.2.2.2.1, hk_.1.2.2.2.2⟩)); replace HO_244005 := am_ (Kd.R_mono (ok' := fun k_ => some k_ ≠ (.slice Ao28 t234.length co28 : Value).ownBlock ∧ some k_ ≠ (.slice Ao36 t293.length co36 : Value).ownBlock ∧ some k_ ≠ (.slice Ao37 t294.length co37 : Value).ownBlock ∧ some k_ ≠ (.slice Ao47 t264.length co47 : Value).ownBlock ∧ some k_ ≠ (.slice Ao48 t267.length co48 : Value).ownBlock) (Kd.R_keptB (HO_244005.out) hkp (fun k_ hk_ hs_ => Or.elim hs_ (fun e_ => (hk_.2.2.2.1) e_) (fun e_ => (hk_.2.2.2.2) e_))) (fun k_ hk_ => ⟨hk_.1.1, hk_.1.2.1, hk_.1.2.2.1, hk_.1.2.2.2.1, hk_.1.2.2.2.2⟩)); replace HO_257004 := am_ (Kd.R_mono (ok' := fun k_ => some k_ ≠ (.slice Ao28 t234.length co28 : Value).ownBlock ∧ some k_ ≠ (.slice Ao29 t237.length co29 : Value).ownBlock ∧ some k_ ≠ (.slice Ao37 t294.length co37 : Value).ownBlock ∧ some k_ ≠ (.slice Ao47 t264.length co47 : Value).ownBlock ∧ some k_ ≠ (.slice Ao48 t267.length co48 : Value).ownBlock) (Kd.R_keptB (HO_257004.out) hkp (fun k_ hk_ hs_ => Or.elim hs_ (fun e_ => (hk_.2.2.2.1) e_) (fun e_ => (hk_.2.2.2.2) e_))) (fun k_ hk_ => ⟨hk_.1.1, hk_.1.2.1, hk_.1.2.2.1, hk_.1.2.2.2.1, hk_.1.2.2.2.2⟩)); replace HO_257005 := am_ (Kd.R_mono (ok' := fun k_ => some k_ ≠ (.slice Ao28 t234.length co28 : Value).ownBlock ∧ some k_ ≠ (.slice Ao29 t237.length co29 : Value).ownBlock ∧ some k_ ≠ (.slice Ao36 t293.length co36 : Value).ownBlock ∧ some k_ ≠ (.slice Ao47 t264.length co47 : Value).ownBlock ∧ some k_ ≠ (.slice Ao48 t267.length co48 : Value).ownBlock) (Kd.R_keptB (HO_257005.out) hkp (fun k_ hk_ hs_ => Or.elim hs_ (fun e_ => (hk_.2.2.2.1) e_) (fun e_ => (hk_.2.2.2.2) e_))) (fun k_ hk_ => ⟨hk_.1.1, hk_.1.2.1, hk_.1.2.2.1, hk_.1.2.2.2.1, hk_.1.2.2.2.2⟩)); replace BK213 := am_ (blk_kept (qK BK213) hkp (fun hs_ => Or.elim hs_ (fun e_ => (fun e_ => (Kd.R_ne HO_274004.out BK213.out (by decide)) e_) e_) (fun e_ => (fun e_ => (Kd.R_ne HO_274005.out BK213.out (by decide)) e_) e_))); replace BK243 := am_ (blk_kept (qK BK243) hkp (fun hs_ => Or.elim hs_ (fun e_ => (fun e_ => (Kd.R_ne HO_274004.out BK243.out (by decide)) e_) e_) (fun e_ => (fun e_ => (Kd.R_ne HO_274005.out BK243.out (by decide)) e_) e_))); replace BK256 := am_ (blk_kept (qK BK256) hkp (fun hs_ => Or.elim hs_ (fun e_ => (fun e_ => (Kd.R_ne HO_274004.out BK256.out (by decide)) e_) e_) (fun e_ => (fun e_ => (Kd.R_ne HO_274005.out BK256.out (by decide)) e_) e_))); replace BK273 := am_ (blk_kept (qK BK273) hkp (fun hs_ => Or.elim hs_ (fun e_ => (fun e_ => (Kd.R_ne HO_274004.out BK273.out (by decide)) e_) e_) (fun e_ => (fun e_ => (Kd.R_ne HO_274005.out BK273.out (by decide)) e_) e_))); replace HO_274004 := am_ (Kd.R_reok rfl hy0 (fun k_ e_ => HO_274004.out.1 k_ e_)); replace HO_274005 := am_ (Kd.R_reok rfl hy1 (fun k_ e_ => HO_274005.out.1 k_ e_)); replace HB := am_ (hb); (try clear hb); (try clear hkp); (try clear hy0); (try clear hy1); obtain ⟨z123_0, z123_1, z123_2, z123_3, z123_4, z123_5, z123_6, z123_7⟩ := cz8 BK273.out; obtain ⟨f123_0, f123_1, f123_2, f123_3, f123_4, f123_5, f123_6, f123_7⟩ := fz8 BK273.out) | ((with_reducible refine gate_callee (f := 48) rfl ?_); refine goesL_ (some 86) rfl rfl Try.func48 (by kernel_rfl) rfl #[.agg #[.int .i64 t260, .int .i64 t261, .int .i64 t262, .bool t263, .slice Ao47 t299.length co47, .slice Ao48 t300.length co48, .int .i64 t270, .int .i64 t271], .int .i64 1] rfl (by (try simp only [List.map_toArray, List.map_cons, List.map_nil]); first | done | (rw [show t299.length = t264.length from (Kd.R_reads' HO_274004.out).1.symm, show t300.length = t267.length from (Kd.R_reads' HO_274005.out).1.symm] <;> rfl) | rfl | (simp only [List.length_drop, List.length_take]; rfl)) ?_; (with_reducible refine (laws_heldSock.calls kj75 t260 t261 t262 t263 _ _ t299 _ _ t300 t270 t271 1 t301 _ ?side1 ?side2 ?side3 ?side4 A111.out).mono ?_); (case side1 => exact qC ((Kd.R_reads' HO_274004.out).2.2)); (case side2 => rw [show t299.length = t264.length from (Kd.R_reads' HO_274004.out).1.symm]; exact (Kd.R_reads' HO_274004.out).2.1); (case side3 => exact qC ((Kd.R_reads' HO_274005.out).2.2)); (case side4 => rw [show t300.length = t267.length from (Kd.R_reads' HO_274005.out).1.symm]; exact (Kd.R_reads' HO_274005.out).2.1); rintro e w124 ⟨rfl, hb⟩; refine ⟨_, rfl, ?_⟩; replace HO_244004 := am_ (Kd.R_below (qR HO_244004) hb); replace HO_244005 := am_ (Kd.R_below (qR HO_244005) hb); replace HO_257004 := am_ (Kd.R_below (qR HO_257004) hb); replace HO_257005 := am_ (Kd.R_below (qR HO_257005) hb); replace HO_274004 := am_ (Kd.R_below (qR HO_274004) hb); replace HO_274005 := am_ (Kd.R_below (qR HO_274005) hb); replace BK213 := am_ (blk_below (qK BK213) hb); replace BK243 := am_ (blk_below (qK BK243) hb); replace BK256 := am_ (blk_below (qK BK256) hb); replace BK273 := am_ (blk_below (qK BK273) hb); replace HB := am_ (below_step (qB HB) hb); (try clear hb); (try clear hb2); (try clear hk); (try clear hi); have hnb125 := NB213_243.out; have hnc125 := NB243_213.out; have hnb126 := NB213_256.out; have hnc126 := NB256_213.out; obtain ⟨z127_0, z127_1, z127_2, z127_3, z127_4, z127_5, z127_6, z127_7⟩ := cz8 BK213.out; obtain ⟨f127_0, f127_1, f127_2, f127_3, f127_4, f127_5, f127_6, f127_7⟩ := fz8 BK213.out) | ((with_reducible refine gate_callee (f := 41) rfl ?_); refine goesL_ (some 94) rfl rfl Try.func41 (by kernel_rfl) rfl #[.agg #[.int .i64 a0_0, .int .i64 a0_1, .int .i64 a0_2, .bool a0_3, .slice A0_4 l0_4.length c0_4, .slice A0_5 l0_5.length c0_5, .int .i64 a0_6, .int .i64 a0_7]] rfl la_ ?_; (with_reducible refine (laws_toSock.calls kj75 a0_0 a0_1 a0_2 a0_3 _ _ l0_4 _ _ l0_5 a0_6 a0_7 t302 t303 t304 t305 t306 t309 t312 t313 _ ?side1 ?side2 ?side3 ?side4 A114.out).mono ?_); (case side1 => exact qC (Kd.C_below HR0_4.out HB.out)); (case side2 => exact HC0_4.out); (case side3 => exact qC (Kd.C_below HR0_5.out HB.out)); (case side4 => exact HC0_5.out); rintro e w128 ⟨v307, v310, rfl, ho0, ho1, hb⟩; refine ⟨_, rfl, ?_⟩; have HO308 := am_ (Kd.R_lower (Kd.R_new' (Kd.R_new' (Kd.R_new' (Kd.R_new' (Kd.R_new' (Kd.R_new' ho0 (Kd.R_lt (qR HO_244004))) (Kd.R_lt (qR HO_244005))) (Kd.R_lt (qR HO_257004))) (Kd.R_lt (qR HO_257005))) (Kd.R_lt (qR HO_274004))) (Kd.R_lt (qR HO_274005))) (below_size (qB HB))); have HO311 := am_ (Kd.R_lower (Kd.R_new' (Kd.R_new' (Kd.R_new' (Kd.R_new' (Kd.R_new' (Kd.R_new' ho1 (Kd.R_lt (qR HO_244004))) (Kd.R_lt (qR HO_244005))) (Kd.R_lt (qR HO_257004))) (Kd.R_lt (qR HO_257005))) (Kd.R_lt (qR HO_274004))) (Kd.R_lt (qR HO_274005))) (below_size (qB HB))); replace HO_244004 := am_ (Kd.R_mono (Kd.R_told (Kd.R_told (Kd.R_old (qR HO_244004) hb) (Kd.R_base ho0)) (Kd.R_base ho1)) (fun _ h_ => h_.1)); replace HO_244005 := am_ (Kd.R_mono (Kd.R_told (Kd.R_told (Kd.R_old (qR HO_244005) hb) (Kd.R_base ho0)) (Kd.R_base ho1)) (fun _ h_ => h_.1)); replace HO_257004 := am_ (Kd.R_mono (Kd.R_told (Kd.R_told (Kd.R_old (qR HO_257004) hb) (Kd.R_base ho0)) (Kd.R_base ho1)) (fun _ h_ => h_.1)); replace HO_257005 := am_ (Kd.R_mono (Kd.R_told (Kd.R_told (Kd.R_old (qR HO_257005) hb) (Kd.R_base ho0)) (Kd.R_base ho1)) (fun _ h_ => h_.1)); replace HO_274004 := am_ (Kd.R_mono (Kd.R_told (Kd.R_told (Kd.R_old (qR HO_274004) hb) (Kd.R_base ho0)) (Kd.R_base ho1)) (fun _ h_ => h_.1)); replace HO_274005 := am_ (Kd.R_mono (Kd.R_told (Kd.R_told (Kd.R_old (qR HO_274005) hb) (Kd.R_base ho0)) (Kd.R_base ho1)) (fun _ h_ => h_.1)); replace BK213 := am_ (blk_below (qK BK213) hb); replace BK243 := am_ (blk_below (qK BK243) hb); replace BK256 := am_ (blk_below (qK BK256) hb); replace BK273 := am_ (blk_below (qK BK273) hb); replace HB := am_ (below_step (qB HB) hb); (try clear hb); (try clear hb2); (try clear hk); (try clear hi); (try clear ho0); (try clear ho1)) | ((with_reducible refine gate_callee (f := 42) rfl ?_); refine goesL_ (some 96) rfl rfl Try.func42 (by kernel_rfl) rfl #[.slice A1 l1.length c1] rfl la_ ?_; (with_reducible refine (laws_toByteS.calls kj75 _ _ l1 t314 _ ?side1 ?side2 A115.out).mono ?_); (case side1 => exact qC (Kd.C_below HR1.out HB.out)); (case side2 => exact HC1.out); rintro e w129 ⟨v315, rfl, ho0, hb⟩; refine ⟨_, rfl, ?_⟩; have HO316 := am_ (Kd.R_lower (Kd.R_new' (Kd.R_new' (Kd.R_new' (Kd.R_new' (Kd.R_new' (Kd.R_new' (Kd.R_new' (Kd.R_new' ho0 (Kd.R_lt (qR HO_244004))) (Kd.R_lt (qR HO_244005))) (Kd.R_lt (qR HO_257004))) (Kd.R_lt (qR HO_257005))) (Kd.R_lt (qR HO_274004))) (Kd.R_lt (qR HO_274005))) (Kd.R_lt (qR HO308))) (Kd.R_lt (qR HO311))) (below_size (qB HB))); replace HO_244004 := am_ (eR HO_244004 ho0 hb); replace HO_244005 := am_ (eR HO_244005 ho0 hb); replace HO_257004 := am_ (eR HO_257004 ho0 hb); replace HO_257005 := am_ (eR HO_257005 ho0 hb); replace HO_274004 := am_ (eR HO_274004 ho0 hb); replace HO_274005 := am_ (eR HO_274005 ho0 hb); replace HO308 := am_ (eR HO308 ho0 hb); replace HO311 := am_ (eR HO311 ho0 hb); replace BK213 := am_ (blk_below (qK BK213) hb); replace BK243 := am_ (blk_below (qK BK243) hb); replace BK256 := am_ (blk_below (qK BK256) hb); replace BK273 := am_ (blk_below (qK BK273) hb); replace HB := am_ (below_step (qB HB) hb); (try clear hb); (try clear hb2); (try clear hk); (try clear hi); (try clear ho0); obtain ⟨Ao130, co130, eo130⟩ := Kd.R_slice HO308.out; subst eo130; obtain ⟨Ao131, co131, eo131⟩ := Kd.R_slice HO311.out; subst eo131; obtain ⟨Ao132, co132, eo132⟩ := Kd.R_slice HO316.out; subst eo132) | ((with_reducible refine gate_callee (f := 43) rfl ?_); refine goesL_ (some 97) rfl rfl Try.func43 (by kernel_rfl) rfl #[.agg #[.int .i64 t302, .int .i64 t303, .int .i64 t304, .bool t305, .slice Ao130 t306.length co130, .slice Ao131 t309.length co131, .int .i64 t312, .int .i64 t313], .slice Ao132 t314.length co132] rfl la_ ?_; (with_reducible refine (impl_Hear.calls kj75 t302 t303 t304 t305 _ _ t306 _ _ t309 t312 t313 _ _ t314 t317 t318 t319 t320 t321 t324 t327 t328 t329 _ ?side1 ?side2 ?side3 ?side4 ?side5 ?side6 A116.out).mono ?_); (case side1 => exact qC ((Kd.R_reads' HO308.out).2.2)); (case side2 => exact (Kd.R_reads' HO308.out).2.1); (case side3 => exact qC ((Kd.R_reads' HO311.out).2.2)); (case side4 => exact (Kd.R_reads' HO311.out).2.1); (case side5 => exact qC ((Kd.R_reads' HO316.out).2.2)); (case side6 => exact (Kd.R_reads' HO316.out).2.1); rintro e w133 ⟨v322, v325, rfl, ho0, ho1, hb⟩; refine ⟨_, rfl, ?_⟩; have HO323 := am_ (Kd.R_lower (Kd.R_new' (Kd.R_new' (Kd.R_new' (Kd.R_new' (Kd.R_new' (Kd.R_new' (Kd.R_new' (Kd.R_new' (Kd.R_new' ho0 (Kd.R_lt (qR HO_244004))) (Kd.R_lt (qR HO_244005))) (Kd.R_lt (qR HO_257004))) (Kd.R_lt (qR HO_257005))) (Kd.R_lt (qR HO_274004))) (Kd.R_lt (qR HO_274005))) (Kd.R_lt (qR HO308))) (Kd.R_lt (qR HO311))) (Kd.R_lt (qR HO316))) (below_size (qB HB))); have HO326 := am_ (Kd.R_lower (Kd.R_new' (Kd.R_new' (Kd.R_new' (Kd.R_new' (Kd.R_new' (Kd.R_new' (Kd.R_new' (Kd.R_new' (Kd.R_new' ho1 (Kd.R_lt (qR HO_244004))) (Kd.R_lt (qR HO_244005))) (Kd.R_lt (qR HO_257004))) (Kd.R_lt (qR HO_257005))) (Kd.R_lt (qR HO_274004))) (Kd.R_lt (qR HO_274005))) (Kd.R_lt (qR HO308))) (Kd.R_lt (qR HO311))) (Kd.R_lt (qR HO316))) (below_size (qB HB))); replace HO_244004 := am_ (Kd.R_mono (Kd.R_told (Kd.R_told (Kd.R_old (qR HO_244004) hb) (Kd.R_base ho0)) (Kd.R_base ho1)) (fun _ h_ => h_.1)); replace HO_244005 := am_ (Kd.R_mono (Kd.R_told (Kd.R_told (Kd.R_old (qR HO_244005) hb) (Kd.R_base ho0)) (Kd.R_base ho1)) (fun _ h_ => h_.1)); replace HO_257004 := am_ (Kd.R_mono (Kd.R_told (Kd.R_told (Kd.R_old (qR HO_257004) hb) (Kd.R_base ho0)) (Kd.R_base ho1)) (fun _ h_ => h_.1)); replace HO_257005 := am_ (Kd.R_mono (Kd.R_told (Kd.R_told (Kd.R_old (qR HO_257005) hb) (Kd.R_base ho0)) (Kd.R_base ho1)) (fun _ h_ => h_.1)); replace HO_274004 := am_ (Kd.R_mono (Kd.R_told (Kd.R_told (Kd.R_old (qR HO_274004) hb) (Kd.R_base ho0)) (Kd.R_base ho1)) (fun _ h_ => h_.1)); replace HO_274005 := am_ (Kd.R_mono (Kd.R_told (Kd.R_told (Kd.R_old (qR HO_274005) hb) (Kd.R_base ho0)) (Kd.R_base ho1)) (fun _ h_ => h_.1)); replace HO308 := am_ (Kd.R_mono (Kd.R_told (Kd.R_told (Kd.R_old (qR HO308) hb) (Kd.R_base ho0)) (Kd.R_base ho1)) (fun _ h_ => h_.1)); replace HO311 := am_ (Kd.R_mono (Kd.R_told (Kd.R_told (Kd.R_old (qR HO311) hb) (Kd.R_base ho0)) (Kd.R_base ho1)) (fun _ h_ => h_.1)); replace HO316 := am_ (Kd.R_mono (Kd.R_told (Kd.R_told (Kd.R_old (qR HO316) hb) (Kd.R_base ho0)) (Kd.R_base ho1)) (fun _ h_ => h_.1)); replace BK213 := am_ (blk_below (qK BK213) hb); replace BK243 := am_ (blk_below (qK BK243) hb); replace BK256 := am_ (blk_below (qK BK256) hb); replace BK273 := am_ (blk_below (qK BK273) hb); replace HB := am_ (below_step (qB HB) hb); (try clear hb); (try clear hb2); (try clear hk); (try clear hi); (try clear ho0); (try clear ho1)) | ((with_reducible refine gate_dst (N := 15) rfl ?_); refine box_event ?hg (N := 15) ?hd (cs := #[.int .i64 0, .int .i64 0, .int .i64 0, .bool false, .slice none 0 0, .slice none 0 0, .int .i64 0, .int .i64 0]) (t := 50) ?hr ?_; (case hd => rfl); (case hg => rfl); (case hr => first | (go_simp; done) | (go_simp; rfl)); intro gb330 hg w134 hbox hb; replace HO_244004 := am_ (Kd.R_below (qR HO_244004) hb); replace HO_244005 := am_ (Kd.R_below (qR HO_244005) hb); replace HO_257004 := am_ (Kd.R_below (qR HO_257004) hb); replace HO_257005 := am_ (Kd.R_below (qR HO_257005) hb); replace HO_274004 := am_ (Kd.R_below (qR HO_274004) hb); replace HO_274005 := am_ (Kd.R_below (qR HO_274005) hb); replace HO308 := am_ (Kd.R_below (qR HO308) hb); replace HO311 := am_ (Kd.R_below (qR HO311) hb); replace HO316 := am_ (Kd.R_below (qR HO316) hb); replace HO323 := am_ (Kd.R_below (qR HO323) hb); replace HO326 := am_ (Kd.R_below (qR HO326) hb); have BK330 := am_ (hbox); have GW330 := am_ ((gG_ hg (qB HB))); have IGW330 := gI_ GW330; have GE330 := am_ ((gG_ hg (qB HB))); have IGE330 := gI_ GE330; replace HB := am_ (below_step (qB HB) hb); have NB213_330 := am_ ((gN_ hg (qK BK213))); have NB330_213 := am_ ((gM_ hg (qK BK213))); replace BK213 := am_ (blk_below (qK BK213) hb); have NB243_330 := am_ ((gN_ hg (qK BK243))); have NB330_243 := am_ ((gM_ hg (qK BK243))); replace BK243 := am_ (blk_below (qK BK243) hb); have NB256_330 := am_ ((gN_ hg (qK BK256))); have NB330_256 := am_ ((gM_ hg (qK BK256))); replace BK256 := am_ (blk_below (qK BK256) hb); have NB273_330 := am_ ((gN_ hg (qK BK273))); have NB330_273 := am_ ((gM_ hg (qK BK273))); replace BK273 := am_ (blk_below (qK BK273) hb); clear hb hbox hg; have hnb135 := NB330_213.out; have hnc135 := NB213_330.out; have hnb136 := NB330_243.out; have hnc136 := NB243_330.out; have hnb137 := NB330_256.out; have hnc137 := NB256_330.out; have hnb138 := NB330_273.out; have hnc138 := NB273_330.out; obtain ⟨z139_0, z139_1, z139_2, z139_3, z139_4, z139_5, z139_6, z139_7⟩ := cz8 BK330.out; obtain ⟨f139_0, f139_1, f139_2, f139_3, f139_4, f139_5, f139_6, f139_7⟩ := fz8 BK330.out; obtain ⟨Ao140, co140, eo140⟩ := Kd.R_slice HO323.out; subst eo140; obtain ⟨Ao141, co141, eo141⟩ := Kd.R_slice HO326.out; subst eo141))
             (try simp only [Act.put, List.setIfInBounds_toArray, List.set_cons_zero, List.set_cons_succ])
             go_cut [108] (fun v108 wc => ∃ (kq : Nat) (x108_116 : Bool), v108 = .bool x108_116 ∧ Aside0 (laws_FnExactHear.j2 kq t298 x108_116 t260 t261 t262 t263 t299 t300 t270 t271 = some r) ∧ Aside0 (kq ≤ kj75) ∧ Aside0 (Kd.R (Kd.int .u8) 5 wc w.heap.size (fun k_ => some k_ ≠ ((.slice Ao29 t237.length co29) : Value).ownBlock ∧ some k_ ≠ ((.slice Ao36 t293.length co36) : Value).ownBlock ∧ some k_ ≠ ((.slice Ao37 t294.length co37) : Value).ownBlock ∧ some k_ ≠ ((.slice Ao47 t264.length co47) : Value).ownBlock ∧ some k_ ≠ ((.slice Ao48 t267.length co48) : Value).ownBlock ∧ some k_ ≠ ((.slice Ao140 t321.length co140) : Value).ownBlock ∧ some k_ ≠ ((.slice Ao141 t324.length co141) : Value).ownBlock) (.slice Ao28 t234.length co28) t234) ∧ Aside0 (Kd.R (Kd.int .u8) 5 wc w.heap.size (fun k_ => some k_ ≠ ((.slice Ao28 t234.length co28) : Value).ownBlock ∧ some k_ ≠ ((.slice Ao36 t293.length co36) : Value).ownBlock ∧ some k_ ≠ ((.slice Ao37 t294.length co37) : Value).ownBlock ∧ some k_ ≠ ((.slice Ao47 t264.length co47) : Value).ownBlock ∧ some k_ ≠ ((.slice Ao48 t267.length co48) : Value).ownBlock ∧ some k_ ≠ ((.slice Ao140 t321.length co140) : Value).ownBlock ∧ some k_ ≠ ((.slice Ao141 t324.length co141) : Value).ownBlock) (.slice Ao29 t237.length co29) t237) ∧ Aside0 (Kd.R (Kd.int .u8) 5 wc w.heap.size (fun k_ => some k_ ≠ ((.slice Ao28 t234.length co28) : Value).ownBlock ∧ some k_ ≠ ((.slice Ao29 t237.length co29) : Value).ownBlock ∧ some k_ ≠ ((.slice Ao37 t294.length co37) : Value).ownBlock ∧ some k_ ≠ ((.slice Ao47 t264.length co47) : Value).ownBlock ∧ some k_ ≠ ((.slice Ao48 t267.length co48) : Value).ownBlock ∧ some k_ ≠ ((.slice Ao140 t321.length co140) : Value).ownBlock ∧ some k_ ≠ ((.slice Ao141 t324.length co141) : Value).ownBlock) (.slice Ao36 t293.length co36) t293) ∧ Aside0 (Kd.R (Kd.int .u8) 5 wc w.heap.size (fun k_ => some k_ ≠ ((.slice Ao28 t234.length co28) : Value).ownBlock ∧ some k_ ≠ ((.slice Ao29 t237.length co29) : Value).ownBlock ∧ some k_ ≠ ((.slice Ao36 t293.length co36) : Value).ownBlock ∧ some k_ ≠ ((.slice Ao47 t264.length co47) : Value).ownBlock ∧ some k_ ≠ ((.slice Ao48 t267.length co48) : Value).ownBlock ∧ some k_ ≠ ((.slice Ao140 t321.length co140) : Value).ownBlock ∧ some k_ ≠ ((.slice Ao141 t324.length co141) : Value).ownBlock) (.slice Ao37 t294.length co37) t294) ∧ Aside0 (Kd.R (Kd.int .u8) 5 wc w.heap.size (fun k_ => some k_ ≠ ((.slice Ao28 t234.length co28) : Value).ownBlock ∧ some k_ ≠ ((.slice Ao29 t237.length co29) : Value).ownBlock ∧ some k_ ≠ ((.slice Ao36 t293.length co36) : Value).ownBlock ∧ some k_ ≠ ((.slice Ao37 t294.length co37) : Value).ownBlock ∧ some k_ ≠ ((.slice Ao48 t267.length co48) : Value).ownBlock ∧ some k_ ≠ ((.slice Ao140 t321.length co140) : Value).ownBlock ∧ some k_ ≠ ((.slice Ao141 t324.length co141) : Value).ownBlock) (.slice Ao47 t264.length co47) t299) ∧ Aside0 (Kd.R (Kd.int .u8) 5 wc w.heap.size (fun k_ => some k_ ≠ ((.slice Ao28 t234.length co28) : Value).ownBlock ∧ some k_ ≠ ((.slice Ao29 t237.length co29) : Value).ownBlock ∧ some k_ ≠ ((.slice Ao36 t293.length co36) : Value).ownBlock ∧ some k_ ≠ ((.slice Ao37 t294.length co37) : Value).ownBlock ∧ some k_ ≠ ((.slice Ao47 t264.length co47) : Value).ownBlock ∧ some k_ ≠ ((.slice Ao140 t321.length co140) : Value).ownBlock ∧ some k_ ≠ ((.slice Ao141 t324.length co141) : Value).ownBlock) (.slice Ao48 t267.length co48) t300) ∧ Aside0 (Kd.R (Kd.int .u8) 5 wc w.heap.size (fun k_ => some k_ ≠ ((.slice Ao28 t234.length co28) : Value).ownBlock ∧ some k_ ≠ ((.slice Ao29 t237.length co29) : Value).ownBlock ∧ some k_ ≠ ((.slice Ao36 t293.length co36) : Value).ownBlock ∧ some k_ ≠ ((.slice Ao37 t294.length co37) : Value).ownBlock ∧ some k_ ≠ ((.slice Ao47 t264.length co47) : Value).ownBlock ∧ some k_ ≠ ((.slice Ao48 t267.length co48) : Value).ownBlock ∧ some k_ ≠ ((.slice Ao141 t324.length co141) : Value).ownBlock) (.slice Ao140 t321.length co140) t321) ∧ Aside0 (Kd.R (Kd.int .u8) 5 wc w.heap.size (fun k_ => some k_ ≠ ((.slice Ao28 t234.length co28) : Value).ownBlock ∧ some k_ ≠ ((.slice Ao29 t237.length co29) : Value).ownBlock ∧ some k_ ≠ ((.slice Ao36 t293.length co36) : Value).ownBlock ∧ some k_ ≠ ((.slice Ao37 t294.length co37) : Value).ownBlock ∧ some k_ ≠ ((.slice Ao47 t264.length co47) : Value).ownBlock ∧ some k_ ≠ ((.slice Ao48 t267.length co48) : Value).ownBlock ∧ some k_ ≠ ((.slice Ao140 t321.length co140) : Value).ownBlock) (.slice Ao141 t324.length co141) t324) ∧ Aside0 (wc.heap[gb213]? = some (.cells #[.int .i64 a0_0, .int .i64 a0_1, .int .i64 a0_2, .bool a0_3, (.slice A0_4 l0_4.length c0_4), (.slice A0_5 l0_5.length c0_5), .int .i64 a0_6, .int .i64 a0_7] 48 (0, 0))) ∧ Aside0 (wc.heap[gb243]? = some (.cells #[.int .i64 t230, .int .i64 t231, .int .i64 t232, .bool t233, (.slice Ao28 t234.length co28), (.slice Ao29 t237.length co29), .int .i64 t240, .int .i64 t241] 50 (0, 0))) ∧ Aside0 (wc.heap[gb256]? = some (.cells #[.int .i64 t244, .int .i64 t245, .int .i64 t246, .bool t247, (.slice Ao36 t293.length co36), (.slice Ao37 t294.length co37), .int .i64 t254, .int .i64 t255] 50 (0, 0))) ∧ Aside0 (wc.heap[gb273]? = some (.cells #[.int .i64 t260, .int .i64 t261, .int .i64 t262, .bool t263, (.slice Ao47 t264.length co47), (.slice Ao48 t267.length co48), .int .i64 t270, .int .i64 t271] 50 (0, 0))) ∧ Aside0 (wc.heap[gb330]? = some (.cells #[.int .i64 t317, .int .i64 t318, .int .i64 t319, .bool t320, (.slice Ao140 t321.length co140), (.slice Ao141 t324.length co141), .int .i64 t327, .int .i64 t328] 50 (0, 0))) ∧ Aside0 (Below w.heap.size w wc))
             case first =>
              have H := HC117.out
              clear HC117
              obtain ⟨t331, A142, H⟩ := bd_ H
              by_cases c143 : t331 = true
              ·
               subst c143
               rw [if_pos rfl] at H
               have H' := Aside0.mk H
               clear H
               have hnb144 := NB330_213.out
               have hnc144 := NB213_330.out
               have hnb145 := NB330_243.out
               have hnc145 := NB243_330.out
               have hnb146 := NB330_256.out
               have hnc146 := NB256_330.out
               have hnb147 := NB330_273.out
               have hnc147 := NB273_330.out
               obtain ⟨z148_0, z148_1, z148_2, z148_3, z148_4, z148_5, z148_6, z148_7⟩ := cz8 BK330.out
               obtain ⟨f148_0, f148_1, f148_2, f148_3, f148_4, f148_5, f148_6, f148_7⟩ := fz8 BK330.out
               have hnb149 := NB243_213.out
               have hnc149 := NB213_243.out
               have hnb150 := NB243_256.out
               have hnc150 := NB256_243.out
               have hnb151 := NB243_273.out
               have hnc151 := NB273_243.out
               obtain ⟨z152_0, z152_1, z152_2, z152_3, z152_4, z152_5, z152_6, z152_7⟩ := cz8 BK243.out
               obtain ⟨f152_0, f152_1, f152_2, f152_3, f152_4, f152_5, f152_6, f152_7⟩ := fz8 BK243.out
               go_wp2_with (first | ((with_reducible refine gate_callee (f := 44) rfl ?_); refine goesL_ (some 102) rfl rfl Try.func44 (by kernel_rfl) rfl #[.agg #[.int .i64 t317, .int .i64 t318, .int .i64 t319, .bool t320, .slice Ao140 t321.length co140, .slice Ao141 t324.length co141, .int .i64 t327, .int .i64 t328], .agg #[.int .i64 t230, .int .i64 t231, .int .i64 t232, .bool t233, .slice Ao28 t234.length co28, .slice Ao29 t237.length co29, .int .i64 t240, .int .i64 t241]] rfl la_ ?_; (with_reducible refine (laws_eqSock.calls kj75 t317 t318 t319 t320 _ _ t321 _ _ t324 t327 t328 t230 t231 t232 t233 _ _ t234 _ _ t237 t240 t241 true _ ?side1 ?side2 ?side3 ?side4 ?side5 ?side6 ?side7 ?side8 A142.out).mono ?_); (case side1 => refine (Kd.R_reads' (e := 5) (base := w.heap.size) (ok := fun k_ => (((((((((some k_ ≠ (.slice Ao141 t324.length co141 : Value).ownBlock ∧ some k_ ≠ (.slice Ao28 t234.length co28 : Value).ownBlock) ∧ some k_ ≠ (.slice Ao29 t237.length co29 : Value).ownBlock) ∧ some k_ ≠ (.slice Ao36 t293.length co36 : Value).ownBlock) ∧ some k_ ≠ (.slice Ao37 t294.length co37 : Value).ownBlock) ∧ some k_ ≠ (.slice Ao47 t264.length co47 : Value).ownBlock) ∧ some k_ ≠ (.slice Ao48 t267.length co48 : Value).ownBlock) ∧ some k_ ≠ (.slice Ao130 t306.length co130 : Value).ownBlock) ∧ some k_ ≠ (.slice Ao131 t309.length co131 : Value).ownBlock) ∧ some k_ ≠ (.slice Ao132 t314.length co132 : Value).ownBlock)) (n := t321.length) (c := co140) ?_).2.2; exact (by (with_reducible repeat (first | apply Kd.R_alloc | apply Kd.R_drewN | apply Kd.R_drew)); exact (Kd.R_mono (Go.Proofs.YthmfmpmljndjhaaV.R_far8 (g := gb330) (Kd.R_types HO323.out BK330.out (by decide)) (fun _ hk => hk.2)) (fun _ h_ => h_.1)))); (case side2 => exact (Kd.R_reads' HO323.out).2.1); (case side3 => refine (Kd.R_reads' (e := 5) (base := w.heap.size) (ok := fun k_ => (((((((((some k_ ≠ (.slice Ao140 t321.length co140 : Value).ownBlock ∧ some k_ ≠ (.slice Ao28 t234.length co28 : Value).ownBlock) ∧ some k_ ≠ (.slice Ao29 t237.length co29 : Value).ownBlock) ∧ some k_ ≠ (.slice Ao36 t293.length co36 : Value).ownBlock) ∧ some k_ ≠ (.slice Ao37 t294.length co37 : Value).ownBlock) ∧ some k_ ≠ (.slice Ao47 t264.length co47 : Value).ownBlock) ∧ some k_ ≠ (.slice Ao48 t267.length co48 : Value).ownBlock) ∧ some k_ ≠ (.slice Ao130 t306.length co130 : Value).ownBlock) ∧ some k_ ≠ (.slice Ao131 t309.length co131 : Value).ownBlock) ∧ some k_ ≠ (.slice Ao132 t314.length co132 : Value).ownBlock)) (n := t324.length) (c := co141) ?_).2.2; exact (by (with_reducible repeat (first | apply Kd.R_alloc | apply Kd.R_drewN | apply Kd.R_drew)); exact (Kd.R_mono (Go.Proofs.YthmfmpmljndjhaaV.R_far8 (g := gb330) (Kd.R_types HO326.out BK330.out (by decide)) (fun _ hk => hk.2)) (fun _ h_ => h_.1)))); (case side4 => exact (Kd.R_reads' HO326.out).2.1); (case side5 => refine (Kd.R_reads' (e := 5) (base := w.heap.size) (ok := fun k_ => ((((((some k_ ≠ (.slice Ao29 t237.length co29 : Value).ownBlock ∧ (some k_ ≠ (.slice Ao36 t293.length co36 : Value).ownBlock ∧ (some k_ ≠ (.slice Ao37 t294.length co37 : Value).ownBlock ∧ (some k_ ≠ (.slice Ao47 t264.length co47 : Value).ownBlock ∧ some k_ ≠ (.slice Ao48 t267.length co48 : Value).ownBlock)))) ∧ some k_ ≠ (.slice Ao130 t306.length co130 : Value).ownBlock) ∧ some k_ ≠ (.slice Ao131 t309.length co131 : Value).ownBlock) ∧ some k_ ≠ (.slice Ao132 t314.length co132 : Value).ownBlock) ∧ some k_ ≠ (.slice Ao140 t321.length co140 : Value).ownBlock) ∧ some k_ ≠ (.slice Ao141 t324.length co141 : Value).ownBlock)) (n := t234.length) (c := co28) ?_).2.2; exact (by (with_reducible repeat (first | apply Kd.R_alloc | apply Kd.R_drewN | apply Kd.R_drew)); exact (Kd.R_mono (Go.Proofs.YthmfmpmljndjhaaV.R_far8 (g := gb330) (Kd.R_types HO_244004.out BK330.out (by decide)) (fun _ hk => hk.2)) (fun _ h_ => h_.1)))); (case side6 => exact (Kd.R_reads' HO_244004.out).2.1); (case side7 => refine (Kd.R_reads' (e := 5) (base := w.heap.size) (ok := fun k_ => ((((((some k_ ≠ (.slice Ao28 t234.length co28 : Value).ownBlock ∧ (some k_ ≠ (.slice Ao36 t293.length co36 : Value).ownBlock ∧ (some k_ ≠ (.slice Ao37 t294.length co37 : Value).ownBlock ∧ (some k_ ≠ (.slice Ao47 t264.length co47 : Value).ownBlock ∧ some k_ ≠ (.slice Ao48 t267.length co48 : Value).ownBlock)))) ∧ some k_ ≠ (.slice Ao130 t306.length co130 : Value).ownBlock) ∧ some k_ ≠ (.slice Ao131 t309.length co131 : Value).ownBlock) ∧ some k_ ≠ (.slice Ao132 t314.length co132 : Value).ownBlock) ∧ some k_ ≠ (.slice Ao140 t321.length co140 : Value).ownBlock) ∧ some k_ ≠ (.slice Ao141 t324.length co141 : Value).ownBlock)) (n := t237.length) (c := co29) ?_).2.2; exact (by (with_reducible repeat (first | apply Kd.R_alloc | apply Kd.R_drewN | apply Kd.R_drew)); exact (Kd.R_mono (Go.Proofs.YthmfmpmljndjhaaV.R_far8 (g := gb330) (Kd.R_types HO_244005.out BK330.out (by decide)) (fun _ hk => hk.2)) (fun _ h_ => h_.1)))); (case side8 => exact (Kd.R_reads' HO_244005.out).2.1); rintro e w153 ⟨rfl, hb⟩; refine ⟨_, rfl, ?_⟩; replace HO_244004 := am_ (Kd.R_below (by (with_reducible repeat (first | apply Kd.R_alloc | apply Kd.R_drewN | apply Kd.R_drew)); exact (Kd.R_mono (Go.Proofs.YthmfmpmljndjhaaV.R_far8 (g := gb330) (Kd.R_types HO_244004.out BK330.out (by decide)) (fun _ hk => hk.2)) (fun _ h_ => h_.1))) hb); replace HO_244005 := am_ (Kd.R_below (by (with_reducible repeat (first | apply Kd.R_alloc | apply Kd.R_drewN | apply Kd.R_drew)); exact (Kd.R_mono (Go.Proofs.YthmfmpmljndjhaaV.R_far8 (g := gb330) (Kd.R_types HO_244005.out BK330.out (by decide)) (fun _ hk => hk.2)) (fun _ h_ => h_.1))) hb); replace HO_257004 := am_ (Kd.R_below (by (with_reducible repeat (first | apply Kd.R_alloc | apply Kd.R_drewN | apply Kd.R_drew)); exact (Kd.R_mono (Go.Proofs.YthmfmpmljndjhaaV.R_far8 (g := gb330) (Kd.R_types HO_257004.out BK330.out (by decide)) (fun _ hk => hk.2)) (fun _ h_ => h_.1))) hb); replace HO_257005 := am_ (Kd.R_below (by (with_reducible repeat (first | apply Kd.R_alloc | apply Kd.R_drewN | apply Kd.R_drew)); exact (Kd.R_mono (Go.Proofs.YthmfmpmljndjhaaV.R_far8 (g := gb330) (Kd.R_types HO_257005.out BK330.out (by decide)) (fun _ hk => hk.2)) (fun _ h_ => h_.1))) hb); replace HO_274004 := am_ (Kd.R_below (by (with_reducible repeat (first | apply Kd.R_alloc | apply Kd.R_drewN | apply Kd.R_drew)); exact (Kd.R_mono (Go.Proofs.YthmfmpmljndjhaaV.R_far8 (g := gb330) (Kd.R_types HO_274004.out BK330.out (by decide)) (fun _ hk => hk.2)) (fun _ h_ => h_.1))) hb); replace HO_274005 := am_ (Kd.R_below (by (with_reducible repeat (first | apply Kd.R_alloc | apply Kd.R_drewN | apply Kd.R_drew)); exact (Kd.R_mono (Go.Proofs.YthmfmpmljndjhaaV.R_far8 (g := gb330) (Kd.R_types HO_274005.out BK330.out (by decide)) (fun _ hk => hk.2)) (fun _ h_ => h_.1))) hb); replace HO308 := am_ (Kd.R_below (by (with_reducible repeat (first | apply Kd.R_alloc | apply Kd.R_drewN | apply Kd.R_drew)); exact (Kd.R_mono (Go.Proofs.YthmfmpmljndjhaaV.R_far8 (g := gb330) (Kd.R_types HO308.out BK330.out (by decide)) (fun _ hk => hk.2)) (fun _ h_ => h_.1))) hb); replace HO311 := am_ (Kd.R_below (by (with_reducible repeat (first | apply Kd.R_alloc | apply Kd.R_drewN | apply Kd.R_drew)); exact (Kd.R_mono (Go.Proofs.YthmfmpmljndjhaaV.R_far8 (g := gb330) (Kd.R_types HO311.out BK330.out (by decide)) (fun _ hk => hk.2)) (fun _ h_ => h_.1))) hb); replace HO316 := am_ (Kd.R_below (by (with_reducible repeat (first | apply Kd.R_alloc | apply Kd.R_drewN | apply Kd.R_drew)); exact (Kd.R_mono (Go.Proofs.YthmfmpmljndjhaaV.R_far8 (g := gb330) (Kd.R_types HO316.out BK330.out (by decide)) (fun _ hk => hk.2)) (fun _ h_ => h_.1))) hb); replace HO323 := am_ (Kd.R_below (by (with_reducible repeat (first | apply Kd.R_alloc | apply Kd.R_drewN | apply Kd.R_drew)); exact (Kd.R_mono (Go.Proofs.YthmfmpmljndjhaaV.R_far8 (g := gb330) (Kd.R_types HO323.out BK330.out (by decide)) (fun _ hk => hk.2)) (fun _ h_ => h_.1))) hb); replace HO326 := am_ (Kd.R_below (by (with_reducible repeat (first | apply Kd.R_alloc | apply Kd.R_drewN | apply Kd.R_drew)); exact (Kd.R_mono (Go.Proofs.YthmfmpmljndjhaaV.R_far8 (g := gb330) (Kd.R_types HO326.out BK330.out (by decide)) (fun _ hk => hk.2)) (fun _ h_ => h_.1))) hb); replace BK213 := am_ (blk_below (g := gb213) (o := .cells #[.int .i64 a0_0, .int .i64 a0_1, .int .i64 a0_2, .bool a0_3, .slice A0_4 l0_4.length c0_4, .slice A0_5 l0_5.length c0_5, .int .i64 a0_6, .int .i64 a0_7] 48 (0, 0)) (by (with_reducible repeat (first | refine blk_drewN ?_ _ | refine blk_drew ?_ | refine blk_alloc ?_ _)); refine Go.Proofs.YthmfmpmljndjhaaV.blk_far8 ?_ NB213_330.out; (with_reducible repeat (first | refine blk_drewN ?_ _ | refine blk_drew ?_ | refine blk_alloc ?_ _)); exact BK213.out) hb); replace BK243 := am_ (blk_below (g := gb243) (o := .cells #[.int .i64 t230, .int .i64 t231, .int .i64 t232, .bool t233, .slice Ao28 t234.length co28, .slice Ao29 t237.length co29, .int .i64 t240, .int .i64 t241] 50 (0, 0)) (by (with_reducible repeat (first | refine blk_drewN ?_ _ | refine blk_drew ?_ | refine blk_alloc ?_ _)); refine Go.Proofs.YthmfmpmljndjhaaV.blk_far8 ?_ NB243_330.out; (with_reducible repeat (first | refine blk_drewN ?_ _ | refine blk_drew ?_ | refine blk_alloc ?_ _)); exact BK243.out) hb); replace BK256 := am_ (blk_below (g := gb256) (o := .cells #[.int .i64 t244, .int .i64 t245, .int .i64 t246, .bool t247, .slice Ao36 t293.length co36, .slice Ao37 t294.length co37, .int .i64 t254, .int .i64 t255] 50 (0, 0)) (by (with_reducible repeat (first | refine blk_drewN ?_ _ | refine blk_drew ?_ | refine blk_alloc ?_ _)); refine Go.Proofs.YthmfmpmljndjhaaV.blk_far8 ?_ NB256_330.out; (with_reducible repeat (first | refine blk_drewN ?_ _ | refine blk_drew ?_ | refine blk_alloc ?_ _)); exact BK256.out) hb); replace BK273 := am_ (blk_below (g := gb273) (o := .cells #[.int .i64 t260, .int .i64 t261, .int .i64 t262, .bool t263, .slice Ao47 t264.length co47, .slice Ao48 t267.length co48, .int .i64 t270, .int .i64 t271] 50 (0, 0)) (by (with_reducible repeat (first | refine blk_drewN ?_ _ | refine blk_drew ?_ | refine blk_alloc ?_ _)); refine Go.Proofs.YthmfmpmljndjhaaV.blk_far8 ?_ NB273_330.out; (with_reducible repeat (first | refine blk_drewN ?_ _ | refine blk_drew ?_ | refine blk_alloc ?_ _)); exact BK273.out) hb); replace BK330 := am_ (blk_below (g := gb330) (o := .cells #[.int .i64 t317, .int .i64 t318, .int .i64 t319, .bool t320, .slice Ao140 t321.length co140, .slice Ao141 t324.length co141, .int .i64 t327, .int .i64 t328] 50 (0, 0)) (by (with_reducible repeat (first | refine blk_drewN ?_ _ | refine blk_drew ?_ | refine blk_alloc ?_ _)); refine Go.Proofs.YthmfmpmljndjhaaV.blk_all8 (show _ = some (Go.Obj.cells #[.int .i64 0, .int .i64 0, .int .i64 0, .bool false, .slice none 0 0, .slice none 0 0, .int .i64 0, .int .i64 0] _ (0, 0)) from ?_); (with_reducible repeat (first | refine blk_drewN ?_ _ | refine blk_drew ?_ | refine blk_alloc ?_ _)); exact BK330.out) hb); replace HB := am_ (below_step (qB HB) hb); (try clear hb); (try clear hb2); (try clear hk); (try clear hi)))
               go_meet
               case rel => exact ⟨_, ((t329 != t242)), eqq_, H', ⟨by have := HJ16.out; have := HJ75.out; first | omega | exact Nat.le_refl _⟩, ⟨by (try simp only [hl257004_75]); (try simp only [hl257005_75]); (with_reducible repeat (first | apply Kd.R_alloc | apply Kd.R_drewN | apply Kd.R_drew)); exact Kd.R_mono HO_244004.out (fun _ hk => ⟨hk.1.1.1.1.1.1, ⟨hk.1.1.1.1.1.2.1, ⟨hk.1.1.1.1.1.2.2.1, ⟨hk.1.1.1.1.1.2.2.2.1, ⟨hk.1.1.1.1.1.2.2.2.2, ⟨hk.1.2, hk.2⟩⟩⟩⟩⟩⟩)⟩, ⟨by (try simp only [hl257004_75]); (try simp only [hl257005_75]); (with_reducible repeat (first | apply Kd.R_alloc | apply Kd.R_drewN | apply Kd.R_drew)); exact Kd.R_mono HO_244005.out (fun _ hk => ⟨hk.1.1.1.1.1.1, ⟨hk.1.1.1.1.1.2.1, ⟨hk.1.1.1.1.1.2.2.1, ⟨hk.1.1.1.1.1.2.2.2.1, ⟨hk.1.1.1.1.1.2.2.2.2, ⟨hk.1.2, hk.2⟩⟩⟩⟩⟩⟩)⟩, ⟨by (try simp only [hl257004_75]); (try simp only [hl257005_75]); (with_reducible repeat (first | apply Kd.R_alloc | apply Kd.R_drewN | apply Kd.R_drew)); exact Kd.R_mono HO_257004.out (fun _ hk => ⟨hk.1.1.1.1.1.1, ⟨hk.1.1.1.1.1.2.1, ⟨hk.1.1.1.1.1.2.2.1, ⟨hk.1.1.1.1.1.2.2.2.1, ⟨hk.1.1.1.1.1.2.2.2.2, ⟨hk.1.2, hk.2⟩⟩⟩⟩⟩⟩)⟩, ⟨by (try simp only [hl257004_75]); (try simp only [hl257005_75]); (with_reducible repeat (first | apply Kd.R_alloc | apply Kd.R_drewN | apply Kd.R_drew)); exact Kd.R_mono HO_257005.out (fun _ hk => ⟨hk.1.1.1.1.1.1, ⟨hk.1.1.1.1.1.2.1, ⟨hk.1.1.1.1.1.2.2.1, ⟨hk.1.1.1.1.1.2.2.2.1, ⟨hk.1.1.1.1.1.2.2.2.2, ⟨hk.1.2, hk.2⟩⟩⟩⟩⟩⟩)⟩, ⟨by (try simp only [hl257004_75]); (try simp only [hl257005_75]); (with_reducible repeat (first | apply Kd.R_alloc | apply Kd.R_drewN | apply Kd.R_drew)); exact Kd.R_mono HO_274004.out (fun _ hk => ⟨hk.1.1.1.1.1.1, ⟨hk.1.1.1.1.1.2.1, ⟨hk.1.1.1.1.1.2.2.1, ⟨hk.1.1.1.1.1.2.2.2.1, ⟨hk.1.1.1.1.1.2.2.2.2, ⟨hk.1.2, hk.2⟩⟩⟩⟩⟩⟩)⟩, ⟨by (try simp only [hl257004_75]); (try simp only [hl257005_75]); (with_reducible repeat (first | apply Kd.R_alloc | apply Kd.R_drewN | apply Kd.R_drew)); exact Kd.R_mono HO_274005.out (fun _ hk => ⟨hk.1.1.1.1.1.1, ⟨hk.1.1.1.1.1.2.1, ⟨hk.1.1.1.1.1.2.2.1, ⟨hk.1.1.1.1.1.2.2.2.1, ⟨hk.1.1.1.1.1.2.2.2.2, ⟨hk.1.2, hk.2⟩⟩⟩⟩⟩⟩)⟩, ⟨by (try simp only [hl257004_75]); (try simp only [hl257005_75]); (with_reducible repeat (first | apply Kd.R_alloc | apply Kd.R_drewN | apply Kd.R_drew)); exact Kd.R_mono HO323.out (fun _ hk => ⟨hk.1.1.1.1.1.1.1.1.2, ⟨hk.1.1.1.1.1.1.1.2, ⟨hk.1.1.1.1.1.1.2, ⟨hk.1.1.1.1.1.2, ⟨hk.1.1.1.1.2, ⟨hk.1.1.1.2, hk.1.1.1.1.1.1.1.1.1⟩⟩⟩⟩⟩⟩)⟩, ⟨by (try simp only [hl257004_75]); (try simp only [hl257005_75]); (with_reducible repeat (first | apply Kd.R_alloc | apply Kd.R_drewN | apply Kd.R_drew)); exact Kd.R_mono HO326.out (fun _ hk => ⟨hk.1.1.1.1.1.1.1.1.2, ⟨hk.1.1.1.1.1.1.1.2, ⟨hk.1.1.1.1.1.1.2, ⟨hk.1.1.1.1.1.2, ⟨hk.1.1.1.1.2, ⟨hk.1.1.1.2, hk.1.1.1.1.1.1.1.1.1⟩⟩⟩⟩⟩⟩)⟩, ⟨by (try simp only [hl257004_75]); (try simp only [hl257005_75]); (with_reducible repeat (first | refine blk_drewN ?_ _ | refine blk_drew ?_ | refine blk_alloc ?_ _)); exact BK213.out⟩, ⟨by (try simp only [hl257004_75]); (try simp only [hl257005_75]); (with_reducible repeat (first | refine blk_drewN ?_ _ | refine blk_drew ?_ | refine blk_alloc ?_ _)); exact BK243.out⟩, ⟨by (try simp only [hl257004_75]); (try simp only [hl257005_75]); (with_reducible repeat (first | refine blk_drewN ?_ _ | refine blk_drew ?_ | refine blk_alloc ?_ _)); exact BK256.out⟩, ⟨by (try simp only [hl257004_75]); (try simp only [hl257005_75]); (with_reducible repeat (first | refine blk_drewN ?_ _ | refine blk_drew ?_ | refine blk_alloc ?_ _)); exact BK273.out⟩, ⟨by (try simp only [hl257004_75]); (try simp only [hl257005_75]); (with_reducible repeat (first | refine blk_drewN ?_ _ | refine blk_drew ?_ | refine blk_alloc ?_ _)); exact BK330.out⟩, ⟨qB HB⟩⟩
              ·
               replace c143 := Bool.eq_false_iff.mpr c143
               subst c143
               rw [if_neg (show ¬ (false = true) by decide)] at H
               have H' := Aside0.mk H
               clear H
               have hnb154 := NB330_213.out
               have hnc154 := NB213_330.out
               have hnb155 := NB330_243.out
               have hnc155 := NB243_330.out
               have hnb156 := NB330_256.out
               have hnc156 := NB256_330.out
               have hnb157 := NB330_273.out
               have hnc157 := NB273_330.out
               obtain ⟨z158_0, z158_1, z158_2, z158_3, z158_4, z158_5, z158_6, z158_7⟩ := cz8 BK330.out
               obtain ⟨f158_0, f158_1, f158_2, f158_3, f158_4, f158_5, f158_6, f158_7⟩ := fz8 BK330.out
               have hnb159 := NB243_213.out
               have hnc159 := NB213_243.out
               have hnb160 := NB243_256.out
               have hnc160 := NB256_243.out
               have hnb161 := NB243_273.out
               have hnc161 := NB273_243.out
               obtain ⟨z162_0, z162_1, z162_2, z162_3, z162_4, z162_5, z162_6, z162_7⟩ := cz8 BK243.out
               obtain ⟨f162_0, f162_1, f162_2, f162_3, f162_4, f162_5, f162_6, f162_7⟩ := fz8 BK243.out
               go_wp2_with (first | ((with_reducible refine gate_callee (f := 44) rfl ?_); refine goesL_ (some 102) rfl rfl Try.func44 (by kernel_rfl) rfl #[.agg #[.int .i64 t317, .int .i64 t318, .int .i64 t319, .bool t320, .slice Ao140 t321.length co140, .slice Ao141 t324.length co141, .int .i64 t327, .int .i64 t328], .agg #[.int .i64 t230, .int .i64 t231, .int .i64 t232, .bool t233, .slice Ao28 t234.length co28, .slice Ao29 t237.length co29, .int .i64 t240, .int .i64 t241]] rfl la_ ?_; (with_reducible refine (laws_eqSock.calls kj75 t317 t318 t319 t320 _ _ t321 _ _ t324 t327 t328 t230 t231 t232 t233 _ _ t234 _ _ t237 t240 t241 false _ ?side1 ?side2 ?side3 ?side4 ?side5 ?side6 ?side7 ?side8 A142.out).mono ?_); (case side1 => refine (Kd.R_reads' (e := 5) (base := w.heap.size) (ok := fun k_ => (((((((((some k_ ≠ (.slice Ao141 t324.length co141 : Value).ownBlock ∧ some k_ ≠ (.slice Ao28 t234.length co28 : Value).ownBlock) ∧ some k_ ≠ (.slice Ao29 t237.length co29 : Value).ownBlock) ∧ some k_ ≠ (.slice Ao36 t293.length co36 : Value).ownBlock) ∧ some k_ ≠ (.slice Ao37 t294.length co37 : Value).ownBlock) ∧ some k_ ≠ (.slice Ao47 t264.length co47 : Value).ownBlock) ∧ some k_ ≠ (.slice Ao48 t267.length co48 : Value).ownBlock) ∧ some k_ ≠ (.slice Ao130 t306.length co130 : Value).ownBlock) ∧ some k_ ≠ (.slice Ao131 t309.length co131 : Value).ownBlock) ∧ some k_ ≠ (.slice Ao132 t314.length co132 : Value).ownBlock)) (n := t321.length) (c := co140) ?_).2.2; exact (by (with_reducible repeat (first | apply Kd.R_alloc | apply Kd.R_drewN | apply Kd.R_drew)); exact (Kd.R_mono (Go.Proofs.YthmfmpmljndjhaaV.R_far8 (g := gb330) (Kd.R_types HO323.out BK330.out (by decide)) (fun _ hk => hk.2)) (fun _ h_ => h_.1)))); (case side2 => exact (Kd.R_reads' HO323.out).2.1); (case side3 => refine (Kd.R_reads' (e := 5) (base := w.heap.size) (ok := fun k_ => (((((((((some k_ ≠ (.slice Ao140 t321.length co140 : Value).ownBlock ∧ some k_ ≠ (.slice Ao28 t234.length co28 : Value).ownBlock) ∧ some k_ ≠ (.slice Ao29 t237.length co29 : Value).ownBlock) ∧ some k_ ≠ (.slice Ao36 t293.length co36 : Value).ownBlock) ∧ some k_ ≠ (.slice Ao37 t294.length co37 : Value).ownBlock) ∧ some k_ ≠ (.slice Ao47 t264.length co47 : Value).ownBlock) ∧ some k_ ≠ (.slice Ao48 t267.length co48 : Value).ownBlock) ∧ some k_ ≠ (.slice Ao130 t306.length co130 : Value).ownBlock) ∧ some k_ ≠ (.slice Ao131 t309.length co131 : Value).ownBlock) ∧ some k_ ≠ (.slice Ao132 t314.length co132 : Value).ownBlock)) (n := t324.length) (c := co141) ?_).2.2; exact (by (with_reducible repeat (first | apply Kd.R_alloc | apply Kd.R_drewN | apply Kd.R_drew)); exact (Kd.R_mono (Go.Proofs.YthmfmpmljndjhaaV.R_far8 (g := gb330) (Kd.R_types HO326.out BK330.out (by decide)) (fun _ hk => hk.2)) (fun _ h_ => h_.1)))); (case side4 => exact (Kd.R_reads' HO326.out).2.1); (case side5 => refine (Kd.R_reads' (e := 5) (base := w.heap.size) (ok := fun k_ => ((((((some k_ ≠ (.slice Ao29 t237.length co29 : Value).ownBlock ∧ (some k_ ≠ (.slice Ao36 t293.length co36 : Value).ownBlock ∧ (some k_ ≠ (.slice Ao37 t294.length co37 : Value).ownBlock ∧ (some k_ ≠ (.slice Ao47 t264.length co47 : Value).ownBlock ∧ some k_ ≠ (.slice Ao48 t267.length co48 : Value).ownBlock)))) ∧ some k_ ≠ (.slice Ao130 t306.length co130 : Value).ownBlock) ∧ some k_ ≠ (.slice Ao131 t309.length co131 : Value).ownBlock) ∧ some k_ ≠ (.slice Ao132 t314.length co132 : Value).ownBlock) ∧ some k_ ≠ (.slice Ao140 t321.length co140 : Value).ownBlock) ∧ some k_ ≠ (.slice Ao141 t324.length co141 : Value).ownBlock)) (n := t234.length) (c := co28) ?_).2.2; exact (by (with_reducible repeat (first | apply Kd.R_alloc | apply Kd.R_drewN | apply Kd.R_drew)); exact (Kd.R_mono (Go.Proofs.YthmfmpmljndjhaaV.R_far8 (g := gb330) (Kd.R_types HO_244004.out BK330.out (by decide)) (fun _ hk => hk.2)) (fun _ h_ => h_.1)))); (case side6 => exact (Kd.R_reads' HO_244004.out).2.1); (case side7 => refine (Kd.R_reads' (e := 5) (base := w.heap.size) (ok := fun k_ => ((((((some k_ ≠ (.slice Ao28 t234.length co28 : Value).ownBlock ∧ (some k_ ≠ (.slice Ao36 t293.length co36 : Value).ownBlock ∧ (some k_ ≠ (.slice Ao37 t294.length co37 : Value).ownBlock ∧ (some k_ ≠ (.slice Ao47 t264.length co47 : Value).ownBlock ∧ some k_ ≠ (.slice Ao48 t267.length co48 : Value).ownBlock)))) ∧ some k_ ≠ (.slice Ao130 t306.length co130 : Value).ownBlock) ∧ some k_ ≠ (.slice Ao131 t309.length co131 : Value).ownBlock) ∧ some k_ ≠ (.slice Ao132 t314.length co132 : Value).ownBlock) ∧ some k_ ≠ (.slice Ao140 t321.length co140 : Value).ownBlock) ∧ some k_ ≠ (.slice Ao141 t324.length co141 : Value).ownBlock)) (n := t237.length) (c := co29) ?_).2.2; exact (by (with_reducible repeat (first | apply Kd.R_alloc | apply Kd.R_drewN | apply Kd.R_drew)); exact (Kd.R_mono (Go.Proofs.YthmfmpmljndjhaaV.R_far8 (g := gb330) (Kd.R_types HO_244005.out BK330.out (by decide)) (fun _ hk => hk.2)) (fun _ h_ => h_.1)))); (case side8 => exact (Kd.R_reads' HO_244005.out).2.1); rintro e w163 ⟨rfl, hb⟩; refine ⟨_, rfl, ?_⟩; replace HO_244004 := am_ (Kd.R_below (by (with_reducible repeat (first | apply Kd.R_alloc | apply Kd.R_drewN | apply Kd.R_drew)); exact (Kd.R_mono (Go.Proofs.YthmfmpmljndjhaaV.R_far8 (g := gb330) (Kd.R_types HO_244004.out BK330.out (by decide)) (fun _ hk => hk.2)) (fun _ h_ => h_.1))) hb); replace HO_244005 := am_ (Kd.R_below (by (with_reducible repeat (first | apply Kd.R_alloc | apply Kd.R_drewN | apply Kd.R_drew)); exact (Kd.R_mono (Go.Proofs.YthmfmpmljndjhaaV.R_far8 (g := gb330) (Kd.R_types HO_244005.out BK330.out (by decide)) (fun _ hk => hk.2)) (fun _ h_ => h_.1))) hb); replace HO_257004 := am_ (Kd.R_below (by (with_reducible repeat (first | apply Kd.R_alloc | apply Kd.R_drewN | apply Kd.R_drew)); exact (Kd.R_mono (Go.Proofs.YthmfmpmljndjhaaV.R_far8 (g := gb330) (Kd.R_types HO_257004.out BK330.out (by decide)) (fun _ hk => hk.2)) (fun _ h_ => h_.1))) hb); replace HO_257005 := am_ (Kd.R_below (by (with_reducible repeat (first | apply Kd.R_alloc | apply Kd.R_drewN | apply Kd.R_drew)); exact (Kd.R_mono (Go.Proofs.YthmfmpmljndjhaaV.R_far8 (g := gb330) (Kd.R_types HO_257005.out BK330.out (by decide)) (fun _ hk => hk.2)) (fun _ h_ => h_.1))) hb); replace HO_274004 := am_ (Kd.R_below (by (with_reducible repeat (first | apply Kd.R_alloc | apply Kd.R_drewN | apply Kd.R_drew)); exact (Kd.R_mono (Go.Proofs.YthmfmpmljndjhaaV.R_far8 (g := gb330) (Kd.R_types HO_274004.out BK330.out (by decide)) (fun _ hk => hk.2)) (fun _ h_ => h_.1))) hb); replace HO_274005 := am_ (Kd.R_below (by (with_reducible repeat (first | apply Kd.R_alloc | apply Kd.R_drewN | apply Kd.R_drew)); exact (Kd.R_mono (Go.Proofs.YthmfmpmljndjhaaV.R_far8 (g := gb330) (Kd.R_types HO_274005.out BK330.out (by decide)) (fun _ hk => hk.2)) (fun _ h_ => h_.1))) hb); replace HO308 := am_ (Kd.R_below (by (with_reducible repeat (first | apply Kd.R_alloc | apply Kd.R_drewN | apply Kd.R_drew)); exact (Kd.R_mono (Go.Proofs.YthmfmpmljndjhaaV.R_far8 (g := gb330) (Kd.R_types HO308.out BK330.out (by decide)) (fun _ hk => hk.2)) (fun _ h_ => h_.1))) hb); replace HO311 := am_ (Kd.R_below (by (with_reducible repeat (first | apply Kd.R_alloc | apply Kd.R_drewN | apply Kd.R_drew)); exact (Kd.R_mono (Go.Proofs.YthmfmpmljndjhaaV.R_far8 (g := gb330) (Kd.R_types HO311.out BK330.out (by decide)) (fun _ hk => hk.2)) (fun _ h_ => h_.1))) hb); replace HO316 := am_ (Kd.R_below (by (with_reducible repeat (first | apply Kd.R_alloc | apply Kd.R_drewN | apply Kd.R_drew)); exact (Kd.R_mono (Go.Proofs.YthmfmpmljndjhaaV.R_far8 (g := gb330) (Kd.R_types HO316.out BK330.out (by decide)) (fun _ hk => hk.2)) (fun _ h_ => h_.1))) hb); replace HO323 := am_ (Kd.R_below (by (with_reducible repeat (first | apply Kd.R_alloc | apply Kd.R_drewN | apply Kd.R_drew)); exact (Kd.R_mono (Go.Proofs.YthmfmpmljndjhaaV.R_far8 (g := gb330) (Kd.R_types HO323.out BK330.out (by decide)) (fun _ hk => hk.2)) (fun _ h_ => h_.1))) hb); replace HO326 := am_ (Kd.R_below (by (with_reducible repeat (first | apply Kd.R_alloc | apply Kd.R_drewN | apply Kd.R_drew)); exact (Kd.R_mono (Go.Proofs.YthmfmpmljndjhaaV.R_far8 (g := gb330) (Kd.R_types HO326.out BK330.out (by decide)) (fun _ hk => hk.2)) (fun _ h_ => h_.1))) hb); replace BK213 := am_ (blk_below (g := gb213) (o := .cells #[.int .i64 a0_0, .int .i64 a0_1, .int .i64 a0_2, .bool a0_3, .slice A0_4 l0_4.length c0_4, .slice A0_5 l0_5.length c0_5, .int .i64 a0_6, .int .i64 a0_7] 48 (0, 0)) (by (with_reducible repeat (first | refine blk_drewN ?_ _ | refine blk_drew ?_ | refine blk_alloc ?_ _)); refine Go.Proofs.YthmfmpmljndjhaaV.blk_far8 ?_ NB213_330.out; (with_reducible repeat (first | refine blk_drewN ?_ _ | refine blk_drew ?_ | refine blk_alloc ?_ _)); exact BK213.out) hb); replace BK243 := am_ (blk_below (g := gb243) (o := .cells #[.int .i64 t230, .int .i64 t231, .int .i64 t232, .bool t233, .slice Ao28 t234.length co28, .slice Ao29 t237.length co29, .int .i64 t240, .int .i64 t241] 50 (0, 0)) (by (with_reducible repeat (first | refine blk_drewN ?_ _ | refine blk_drew ?_ | refine blk_alloc ?_ _)); refine Go.Proofs.YthmfmpmljndjhaaV.blk_far8 ?_ NB243_330.out; (with_reducible repeat (first | refine blk_drewN ?_ _ | refine blk_drew ?_ | refine blk_alloc ?_ _)); exact BK243.out) hb); replace BK256 := am_ (blk_below (g := gb256) (o := .cells #[.int .i64 t244, .int .i64 t245, .int .i64 t246, .bool t247, .slice Ao36 t293.length co36, .slice Ao37 t294.length co37, .int .i64 t254, .int .i64 t255] 50 (0, 0)) (by (with_reducible repeat (first | refine blk_drewN ?_ _ | refine blk_drew ?_ | refine blk_alloc ?_ _)); refine Go.Proofs.YthmfmpmljndjhaaV.blk_far8 ?_ NB256_330.out; (with_reducible repeat (first | refine blk_drewN ?_ _ | refine blk_drew ?_ | refine blk_alloc ?_ _)); exact BK256.out) hb); replace BK273 := am_ (blk_below (g := gb273) (o := .cells #[.int .i64 t260, .int .i64 t261, .int .i64 t262, .bool t263, .slice Ao47 t264.length co47, .slice Ao48 t267.length co48, .int .i64 t270, .int .i64 t271] 50 (0, 0)) (by (with_reducible repeat (first | refine blk_drewN ?_ _ | refine blk_drew ?_ | refine blk_alloc ?_ _)); refine Go.Proofs.YthmfmpmljndjhaaV.blk_far8 ?_ NB273_330.out; (with_reducible repeat (first | refine blk_drewN ?_ _ | refine blk_drew ?_ | refine blk_alloc ?_ _)); exact BK273.out) hb); replace BK330 := am_ (blk_below (g := gb330) (o := .cells #[.int .i64 t317, .int .i64 t318, .int .i64 t319, .bool t320, .slice Ao140 t321.length co140, .slice Ao141 t324.length co141, .int .i64 t327, .int .i64 t328] 50 (0, 0)) (by (with_reducible repeat (first | refine blk_drewN ?_ _ | refine blk_drew ?_ | refine blk_alloc ?_ _)); refine Go.Proofs.YthmfmpmljndjhaaV.blk_all8 (show _ = some (Go.Obj.cells #[.int .i64 0, .int .i64 0, .int .i64 0, .bool false, .slice none 0 0, .slice none 0 0, .int .i64 0, .int .i64 0] _ (0, 0)) from ?_); (with_reducible repeat (first | refine blk_drewN ?_ _ | refine blk_drew ?_ | refine blk_alloc ?_ _)); exact BK330.out) hb); replace HB := am_ (below_step (qB HB) hb); (try clear hb); (try clear hb2); (try clear hk); (try clear hi)))
               go_meet
               case rel => exact ⟨_, (true), eqq_, H', ⟨by have := HJ16.out; have := HJ75.out; first | omega | exact Nat.le_refl _⟩, ⟨by (try simp only [hl257004_75]); (try simp only [hl257005_75]); (with_reducible repeat (first | apply Kd.R_alloc | apply Kd.R_drewN | apply Kd.R_drew)); exact Kd.R_mono HO_244004.out (fun _ hk => ⟨hk.1.1.1.1.1.1, ⟨hk.1.1.1.1.1.2.1, ⟨hk.1.1.1.1.1.2.2.1, ⟨hk.1.1.1.1.1.2.2.2.1, ⟨hk.1.1.1.1.1.2.2.2.2, ⟨hk.1.2, hk.2⟩⟩⟩⟩⟩⟩)⟩, ⟨by (try simp only [hl257004_75]); (try simp only [hl257005_75]); (with_reducible repeat (first | apply Kd.R_alloc | apply Kd.R_drewN | apply Kd.R_drew)); exact Kd.R_mono HO_244005.out (fun _ hk => ⟨hk.1.1.1.1.1.1, ⟨hk.1.1.1.1.1.2.1, ⟨hk.1.1.1.1.1.2.2.1, ⟨hk.1.1.1.1.1.2.2.2.1, ⟨hk.1.1.1.1.1.2.2.2.2, ⟨hk.1.2, hk.2⟩⟩⟩⟩⟩⟩)⟩, ⟨by (try simp only [hl257004_75]); (try simp only [hl257005_75]); (with_reducible repeat (first | apply Kd.R_alloc | apply Kd.R_drewN | apply Kd.R_drew)); exact Kd.R_mono HO_257004.out (fun _ hk => ⟨hk.1.1.1.1.1.1, ⟨hk.1.1.1.1.1.2.1, ⟨hk.1.1.1.1.1.2.2.1, ⟨hk.1.1.1.1.1.2.2.2.1, ⟨hk.1.1.1.1.1.2.2.2.2, ⟨hk.1.2, hk.2⟩⟩⟩⟩⟩⟩)⟩, ⟨by (try simp only [hl257004_75]); (try simp only [hl257005_75]); (with_reducible repeat (first | apply Kd.R_alloc | apply Kd.R_drewN | apply Kd.R_drew)); exact Kd.R_mono HO_257005.out (fun _ hk => ⟨hk.1.1.1.1.1.1, ⟨hk.1.1.1.1.1.2.1, ⟨hk.1.1.1.1.1.2.2.1, ⟨hk.1.1.1.1.1.2.2.2.1, ⟨hk.1.1.1.1.1.2.2.2.2, ⟨hk.1.2, hk.2⟩⟩⟩⟩⟩⟩)⟩, ⟨by (try simp only [hl257004_75]); (try simp only [hl257005_75]); (with_reducible repeat (first | apply Kd.R_alloc | apply Kd.R_drewN | apply Kd.R_drew)); exact Kd.R_mono HO_274004.out (fun _ hk => ⟨hk.1.1.1.1.1.1, ⟨hk.1.1.1.1.1.2.1, ⟨hk.1.1.1.1.1.2.2.1, ⟨hk.1.1.1.1.1.2.2.2.1, ⟨hk.1.1.1.1.1.2.2.2.2, ⟨hk.1.2, hk.2⟩⟩⟩⟩⟩⟩)⟩, ⟨by (try simp only [hl257004_75]); (try simp only [hl257005_75]); (with_reducible repeat (first | apply Kd.R_alloc | apply Kd.R_drewN | apply Kd.R_drew)); exact Kd.R_mono HO_274005.out (fun _ hk => ⟨hk.1.1.1.1.1.1, ⟨hk.1.1.1.1.1.2.1, ⟨hk.1.1.1.1.1.2.2.1, ⟨hk.1.1.1.1.1.2.2.2.1, ⟨hk.1.1.1.1.1.2.2.2.2, ⟨hk.1.2, hk.2⟩⟩⟩⟩⟩⟩)⟩, ⟨by (try simp only [hl257004_75]); (try simp only [hl257005_75]); (with_reducible repeat (first | apply Kd.R_alloc | apply Kd.R_drewN | apply Kd.R_drew)); exact Kd.R_mono HO323.out (fun _ hk => ⟨hk.1.1.1.1.1.1.1.1.2, ⟨hk.1.1.1.1.1.1.1.2, ⟨hk.1.1.1.1.1.1.2, ⟨hk.1.1.1.1.1.2, ⟨hk.1.1.1.1.2, ⟨hk.1.1.1.2, hk.1.1.1.1.1.1.1.1.1⟩⟩⟩⟩⟩⟩)⟩, ⟨by (try simp only [hl257004_75]); (try simp only [hl257005_75]); (with_reducible repeat (first | apply Kd.R_alloc | apply Kd.R_drewN | apply Kd.R_drew)); exact Kd.R_mono HO326.out (fun _ hk => ⟨hk.1.1.1.1.1.1.1.1.2, ⟨hk.1.1.1.1.1.1.1.2, ⟨hk.1.1.1.1.1.1.2, ⟨hk.1.1.1.1.1.2, ⟨hk.1.1.1.1.2, ⟨hk.1.1.1.2, hk.1.1.1.1.1.1.1.1.1⟩⟩⟩⟩⟩⟩)⟩, ⟨by (try simp only [hl257004_75]); (try simp only [hl257005_75]); (with_reducible repeat (first | refine blk_drewN ?_ _ | refine blk_drew ?_ | refine blk_alloc ?_ _)); exact BK213.out⟩, ⟨by (try simp only [hl257004_75]); (try simp only [hl257005_75]); (with_reducible repeat (first | refine blk_drewN ?_ _ | refine blk_drew ?_ | refine blk_alloc ?_ _)); exact BK243.out⟩, ⟨by (try simp only [hl257004_75]); (try simp only [hl257005_75]); (with_reducible repeat (first | refine blk_drewN ?_ _ | refine blk_drew ?_ | refine blk_alloc ?_ _)); exact BK256.out⟩, ⟨by (try simp only [hl257004_75]); (try simp only [hl257005_75]); (with_reducible repeat (first | refine blk_drewN ?_ _ | refine blk_drew ?_ | refine blk_alloc ?_ _)); exact BK273.out⟩, ⟨by (try simp only [hl257004_75]); (try simp only [hl257005_75]); (with_reducible repeat (first | refine blk_drewN ?_ _ | refine blk_drew ?_ | refine blk_alloc ?_ _)); exact BK330.out⟩, ⟨qB HB⟩⟩
             case rest =>
              clear HC117
              try clear c1
              try clear c2
              try clear p2
              try clear c3
              try clear c4
              try clear c5
              try clear c5b0
              try clear c5b1
              try clear c6
              try clear c7
              try clear c8
              try clear c9
              try clear c10
              try clear c10b0
              try clear c11
              try clear c12
              try clear c13
              try clear c14
              try clear c15
              try clear c16
              try clear c26
              try clear c33
              try clear c34
              try clear c39
              try clear c40
              try clear c41
              try clear c42
              try clear c43
              try clear c44
              try clear c45
              try clear c46
              try clear c47
              try clear c48
              try clear c50
              try clear c51
              try clear c52
              try clear c53
              try clear c55
              try clear c56
              try clear c59
              try clear c60
              try clear c61
              try clear c63
              try clear c64
              try clear c67
              try clear c70
              try clear c73
              try clear c84
              try clear c85
              try clear c86
              try clear c90
              try clear c90b0
              try clear c92
              try clear c93
              try clear c94
              try clear c95
              try clear c97
              try clear c98
              try clear c101
              try clear c102
              try clear c103
              try clear c105
              try clear c106
              try clear c109
              try clear c112
              try clear c112b0
              try clear c113
              try clear c113b0
              try clear c113b1
              try clear c118
              try clear c119
              try clear c120
              try clear c125
              try clear c126
              try clear c135
              try clear c136
              try clear c137
              try clear c138
              try clear c143
              try clear c144
              try clear c145
              try clear c146
              try clear c147
              try clear c149
              try clear c150
              try clear c151
              try clear c154
              try clear c155
              try clear c156
              try clear c157
              try clear c159
              try clear c160
              try clear c161
              (try clear z104_0 z104_1 z104_2 z104_3 z104_4 z104_5 z104_6 z104_7)
              (try clear z107_0 z107_1 z107_2 z107_3 z107_4 z107_5 z107_6 z107_7)
              (try clear z121_0 z121_1 z121_2 z121_3 z121_4 z121_5 z121_6 z121_7)
              (try clear z123_0 z123_1 z123_2 z123_3 z123_4 z123_5 z123_6 z123_7)
              (try clear z127_0 z127_1 z127_2 z127_3 z127_4 z127_5 z127_6 z127_7)
              (try clear z139_0 z139_1 z139_2 z139_3 z139_4 z139_5 z139_6 z139_7)
              (try clear z148_0 z148_1 z148_2 z148_3 z148_4 z148_5 z148_6 z148_7)
              (try clear z152_0 z152_1 z152_2 z152_3 z152_4 z152_5 z152_6 z152_7)
              (try clear z158_0 z158_1 z158_2 z158_3 z158_4 z158_5 z158_6 z158_7)
              (try clear z162_0 z162_1 z162_2 z162_3 z162_4 z162_5 z162_6 z162_7)
              (try clear z18_0 z18_1 z18_2 z18_3 z18_4 z18_5 z18_6 z18_7)
              (try clear z27_0 z27_1 z27_2 z27_3 z27_4 z27_5 z27_6 z27_7)
              (try clear z30_0 z30_1 z30_2 z30_3 z30_4 z30_5 z30_6 z30_7)
              (try clear z35_0 z35_1 z35_2 z35_3 z35_4 z35_5 z35_6 z35_7)
              (try clear z39_0 z39_1 z39_2 z39_3 z39_4 z39_5 z39_6 z39_7)
              (try clear z46_0 z46_1 z46_2 z46_3 z46_4 z46_5 z46_6 z46_7)
              (try clear z54_0 z54_1 z54_2 z54_3 z54_4 z54_5 z54_6 z54_7)
              (try clear z57_0 z57_1 z57_2 z57_3 z57_4 z57_5 z57_6 z57_7)
              (try clear z62_0 z62_1 z62_2 z62_3 z62_4 z62_5 z62_6 z62_7)
              (try clear z65_0 z65_1 z65_2 z65_3 z65_4 z65_5 z65_6 z65_7)
              (try clear z87_0 z87_1 z87_2 z87_3 z87_4 z87_5 z87_6 z87_7)
              (try clear z8_0 z8_1 z8_2 z8_3 z8_4 z8_5 z8_6 z8_7)
              (try clear z96_0 z96_1 z96_2 z96_3 z96_4 z96_5 z96_6 z96_7)
              (try clear z99_0 z99_1 z99_2 z99_3 z99_4 z99_5 z99_6 z99_7)
              (try clear f104_0 f104_1 f104_2 f104_3 f104_4 f104_5 f104_6 f104_7)
              (try clear f107_0 f107_1 f107_2 f107_3 f107_4 f107_5 f107_6 f107_7)
              (try clear f121_0 f121_1 f121_2 f121_3 f121_4 f121_5 f121_6 f121_7)
              (try clear f123_0 f123_1 f123_2 f123_3 f123_4 f123_5 f123_6 f123_7)
              (try clear f127_0 f127_1 f127_2 f127_3 f127_4 f127_5 f127_6 f127_7)
              (try clear f139_0 f139_1 f139_2 f139_3 f139_4 f139_5 f139_6 f139_7)
              (try clear f148_0 f148_1 f148_2 f148_3 f148_4 f148_5 f148_6 f148_7)
              (try clear f152_0 f152_1 f152_2 f152_3 f152_4 f152_5 f152_6 f152_7)
              (try clear f158_0 f158_1 f158_2 f158_3 f158_4 f158_5 f158_6 f158_7)
              (try clear f162_0 f162_1 f162_2 f162_3 f162_4 f162_5 f162_6 f162_7)
              (try clear f18_0 f18_1 f18_2 f18_3 f18_4 f18_5 f18_6 f18_7)
              (try clear f27_0 f27_1 f27_2 f27_3 f27_4 f27_5 f27_6 f27_7)
              (try clear f30_0 f30_1 f30_2 f30_3 f30_4 f30_5 f30_6 f30_7)
              (try clear f35_0 f35_1 f35_2 f35_3 f35_4 f35_5 f35_6 f35_7)
              (try clear f39_0 f39_1 f39_2 f39_3 f39_4 f39_5 f39_6 f39_7)
              (try clear f46_0 f46_1 f46_2 f46_3 f46_4 f46_5 f46_6 f46_7)
              (try clear f54_0 f54_1 f54_2 f54_3 f54_4 f54_5 f54_6 f54_7)
              (try clear f57_0 f57_1 f57_2 f57_3 f57_4 f57_5 f57_6 f57_7)
              (try clear f62_0 f62_1 f62_2 f62_3 f62_4 f62_5 f62_6 f62_7)
              (try clear f65_0 f65_1 f65_2 f65_3 f65_4 f65_5 f65_6 f65_7)
              (try clear f87_0 f87_1 f87_2 f87_3 f87_4 f87_5 f87_6 f87_7)
              (try clear f8_0 f8_1 f8_2 f8_3 f8_4 f8_5 f8_6 f8_7)
              (try clear f96_0 f96_1 f96_2 f96_3 f96_4 f96_5 f96_6 f96_7)
              (try clear f99_0 f99_1 f99_2 f99_3 f99_4 f99_5 f99_6 f99_7)
              try clear p2
              obtain ⟨kq, x108_116, rfl, HA, HJ116, HO_244004, HO_244005, HO_257004, HO_257005, HO_274004, HO_274005, HO_331004, HO_331005, BK213, BK243, BK256, BK273, BK330, HB⟩ := hcut
              have hl274004_116 := (Kd.R_reads' HO_274004.out).1
              rw [hl274004_116] at HO_274004
              (try simp only [hl274004_116])
              (try simp only [hl274004_116] at BK213)
              (try simp only [hl274004_116] at BK243)
              (try simp only [hl274004_116] at BK256)
              (try simp only [hl274004_116] at BK273)
              (try simp only [hl274004_116] at BK330)
              (try simp only [hl274004_116] at HO_244004)
              (try simp only [hl274004_116] at HO_244005)
              (try simp only [hl274004_116] at HO_257004)
              (try simp only [hl274004_116] at HO_257005)
              (try simp only [hl274004_116] at HO_274005)
              (try simp only [hl274004_116] at HO_331004)
              (try simp only [hl274004_116] at HO_331005)
              have hl274005_116 := (Kd.R_reads' HO_274005.out).1
              rw [hl274005_116] at HO_274005
              (try simp only [hl274005_116])
              (try simp only [hl274005_116] at BK213)
              (try simp only [hl274005_116] at BK243)
              (try simp only [hl274005_116] at BK256)
              (try simp only [hl274005_116] at BK273)
              (try simp only [hl274005_116] at BK330)
              (try simp only [hl274005_116] at HO_244004)
              (try simp only [hl274005_116] at HO_244005)
              (try simp only [hl274005_116] at HO_257004)
              (try simp only [hl274005_116] at HO_257005)
              (try simp only [hl274005_116] at HO_274004)
              (try simp only [hl274005_116] at HO_331004)
              (try simp only [hl274005_116] at HO_331005)
              cases kq with
              | zero => exact absurd HA.out (by simp [laws_FnExactHear.j2])
              | succ kj116 =>
               have H := HA.out
               clear HA
               simp only [laws_FnExactHear.j2] at H
               by_cases c164 : x108_116 = true
               ·
                subst c164
                rw [if_pos rfl] at H
                exact absurd (hr_.out ▸ H) (by simp)
               ·
                replace c164 := Bool.eq_false_iff.mpr c164
                subst c164
                rw [if_neg (show ¬ (false = true) by decide)] at H
                obtain ⟨t332, A165, H⟩ := bd_ H
                by_cases c166 : t332 < 0
                ·
                 rw [if_pos c166] at H
                 have c166b0 : decide (t332 < 0) = true := decide_eq_true c166
                 clear c166
                 exact absurd (hr_.out ▸ H) (by simp)
                ·
                 rw [if_neg c166] at H
                 have c166b0 : decide (t332 < 0) = false := decide_eq_false c166
                 clear c166
                 by_cases c167 : t332 = t298
                 ·
                  rw [if_pos c167] at H
                  have c167b0 : (t332 == t298) = true := beq_iff_eq.mpr c167
                  have c167b1 : (t332 != t298) = false := bne_eq_false_iff_eq.mpr c167
                  clear c167
                  obtain rfl := Option.some.inj H
                  have hnb168 := NB273_213.out
                  have hnc168 := NB213_273.out
                  have hnb169 := NB273_243.out
                  have hnc169 := NB243_273.out
                  have hnb170 := NB273_256.out
                  have hnc170 := NB256_273.out
                  have hnb171 := NB273_330.out
                  have hnc171 := NB330_273.out
                  obtain ⟨z172_0, z172_1, z172_2, z172_3, z172_4, z172_5, z172_6, z172_7⟩ := cz8 BK273.out
                  obtain ⟨f172_0, f172_1, f172_2, f172_3, f172_4, f172_5, f172_6, f172_7⟩ := fz8 BK273.out
                  go_wp2_with (first | ((with_reducible refine gate_callee (f := 48) rfl ?_); refine goesL_ (some 111) rfl rfl Try.func48 (by kernel_rfl) rfl #[.agg #[.int .i64 t260, .int .i64 t261, .int .i64 t262, .bool t263, .slice Ao47 t299.length co47, .slice Ao48 t300.length co48, .int .i64 t270, .int .i64 t271], .int .i64 1] rfl la_ ?_; (with_reducible refine (laws_heldSock.calls kj116 t260 t261 t262 t263 _ _ t299 _ _ t300 t270 t271 1 t332 _ ?side1 ?side2 ?side3 ?side4 A165.out).mono ?_); (case side1 => exact qC ((Kd.R_reads' HO_274004.out).2.2)); (case side2 => exact (Kd.R_reads' HO_274004.out).2.1); (case side3 => exact qC ((Kd.R_reads' HO_274005.out).2.2)); (case side4 => exact (Kd.R_reads' HO_274005.out).2.1); rintro e w173 ⟨rfl, hb⟩; refine ⟨_, rfl, ?_⟩; replace HO_244004 := am_ (Kd.R_below (qR HO_244004) hb); replace HO_244005 := am_ (Kd.R_below (qR HO_244005) hb); replace HO_257004 := am_ (Kd.R_below (qR HO_257004) hb); replace HO_257005 := am_ (Kd.R_below (qR HO_257005) hb); replace HO_274004 := am_ (Kd.R_below (qR HO_274004) hb); replace HO_274005 := am_ (Kd.R_below (qR HO_274005) hb); replace HO_331004 := am_ (Kd.R_below (qR HO_331004) hb); replace HO_331005 := am_ (Kd.R_below (qR HO_331005) hb); replace BK213 := am_ (blk_below (qK BK213) hb); replace BK243 := am_ (blk_below (qK BK243) hb); replace BK256 := am_ (blk_below (qK BK256) hb); replace BK273 := am_ (blk_below (qK BK273) hb); replace BK330 := am_ (blk_below (qK BK330) hb); replace HB := am_ (below_step (qB HB) hb); (try clear hb); (try clear hb2); (try clear hk); (try clear hi)))
                  go_ret
                  exact ⟨by first | rfl | (simp [errW_none, errW_some] <;> rfl) | (simp [*, errW_none, errW_some] <;> rfl), qB HB⟩
                 ·
                  rw [if_neg c167] at H
                  have c167b0 : (t332 == t298) = false := beq_eq_false_iff_ne.mpr c167
                  have c167b1 : (t332 != t298) = true := bne_iff_ne.mpr c167
                  exact absurd (hr_.out ▸ H) (by simp)
            ·
             rw [if_neg c113] at H
             have c113b0 : (t301 == t298) = false := beq_eq_false_iff_ne.mpr c113
             have c113b1 : (t301 != t298) = true := bne_iff_ne.mpr c113
             exact absurd (hr_.out ▸ H) (by simp)
       ·
        replace c73 := Bool.eq_false_iff.mpr c73
        subst c73
        rw [if_neg (show ¬ (false = true) by decide)] at H
        exact absurd (hr_.out ▸ H) (by simp)
      ·
       replace c70 := Bool.eq_false_iff.mpr c70
       subst c70
       rw [if_neg (show ¬ (false = true) by decide)] at H
       exact absurd (hr_.out ▸ H) (by simp)

end Go.Proofs.Ythmfmpmljndjhaa.PFnExactHear
