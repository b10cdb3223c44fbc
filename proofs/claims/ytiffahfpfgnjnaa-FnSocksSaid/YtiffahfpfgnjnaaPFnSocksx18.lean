-- Written by a program of this session (myprint.py, over the kit's print): contracts of FnSocks
import Derived.Test.YtiffahfpfgnjnaaPFnSocksx0
import Derived.Test.YtiffahfpfgnjnaaPFnSocksx1
import Derived.Test.YtiffahfpfgnjnaaPFnSocksx2
import Derived.Test.YtiffahfpfgnjnaaPFnSocksx6
import Derived.Test.YtiffahfpfgnjnaaPFnSocksx7
import Derived.Test.YtiffahfpfgnjnaaPFnSocksx8
import Derived.Test.YtiffahfpfgnjnaaPFnSocksx9
import Derived.Test.YtiffahfpfgnjnaaPFnSocksx10
import Derived.Test.YtiffahfpfgnjnaaPFnSocksx11
import Derived.Test.YtiffahfpfgnjnaaPFnSocksx12
import Derived.Test.YtiffahfpfgnjnaaPFnSocksx13
import Derived.Test.YtiffahfpfgnjnaaPFnSocksx14
import Derived.Test.YtiffahfpfgnjnaaPFnSocksx15
import Derived.Test.YtiffahfpfgnjnaaPFnSocksx16
import Derived.Test.YtiffahfpfgnjnaaPFnSocksx17
namespace Go.Proofs.Ytiffahfpfgnjnaa.PFnSocks
open Go.RowKit Go.Proofs.YtiffahfpfgnjnaaW.PrintWords Go.Proofs.YtiffahfpfgnjnaaW.PrintLast Go.Proofs.YtiffahfpfgnjnaaW.PrintMore Go.Proofs.YtiffahfpfgnjnaaV
attribute [local go_sem] max2_int min2_int max_two min_two max_three min_three max_four min_four   -- for this text's walks alone
set_option linter.unusedVariables false
set_option linter.unusedSimpArgs false

attribute [local go_sem high] eqA49
/-! ### laws_FnSocks: function 4 -/
mutual
def laws_FnSocks.j0 : Nat → List Int → List Int → Bool → Int → List (S41) → List (S41) → Bool → Int → Int → Int → Bool → List Int → List Int → Int → Int → Int → Int → Int → Bool → List Int → List Int → Int → Int → Int → Int → Int → Bool → List Int → List Int → Int → Int → Int → Int → Int → Bool → List Int → List Int → Int → Int → Int → ByteArray → Int → Option (Bool)
 | 0, _, _, _, _, _, _, _, _, _, _, _, _, _, _, _, _, _, _, _, _, _, _, _, _, _, _, _, _, _, _, _, _, _, _, _, _, _, _, _, _, _, _ => none
 | k + 1, x0, x4, x6, x12, x15, x18, x100, x826000, x826001, x826002, x826003, x826004, x826005, x826006, x826007, x840000, x840001, x840002, x840003, x840004, x840005, x840006, x840007, x867000, x867001, x867002, x867003, x867004, x867005, x867006, x867007, x880000, x880001, x880002, x880003, x880004, x880005, x880006, x880007, x885000, x885001, x885002 => if x100 = true then (some false) else (if x6 = true then ((some (([] : List Int) : List Int)).bind fun y906 => (if y906.length + x826004.length < 140737488355328 then ((some (y906 ++ x826004 : List Int)).bind fun y909 => (if y909.length + x4.length < 140737488355328 then ((laws_same.f x840004 (y909 ++ x4)).bind fun t915 => (if t915 = true then (laws_FnSocks.j1 k x0 x12 x15 x18 false x867000 x867001 x867002 x867003 x867004 x867005 x867006 x867007 x880000 x880001 x880002 x880003 x880004 x880005 x880006 x880007 x885000 x885001 x885002) else (laws_FnSocks.j1 k x0 x12 x15 x18 true x867000 x867001 x867002 x867003 x867004 x867005 x867006 x867007 x880000 x880001 x880002 x880003 x880004 x880005 x880006 x880007 x885000 x885001 x885002))) else (none))) else (none))) else ((laws_sameSock.f x840000 x840001 x840002 x840003 x840004 x840005 x840006 x840007 x826000 x826001 x826002 x826003 x826004 x826005 x826006 x826007).bind fun t916 => (laws_FnSocks.j1 k x0 x12 x15 x18 (!t916) x867000 x867001 x867002 x867003 x867004 x867005 x867006 x867007 x880000 x880001 x880002 x880003 x880004 x880005 x880006 x880007 x885000 x885001 x885002)))
def laws_FnSocks.j1 : Nat → List Int → Int → List (S41) → List (S41) → Bool → Int → Int → Int → Bool → List Int → List Int → Int → Int → Int → Int → Int → Bool → List Int → List Int → Int → Int → Int → ByteArray → Int → Option (Bool)
 | 0, _, _, _, _, _, _, _, _, _, _, _, _, _, _, _, _, _, _, _, _, _, _, _, _ => none
 | k + 1, x0, x12, x15, x18, x123, x867000, x867001, x867002, x867003, x867004, x867005, x867006, x867007, x880000, x880001, x880002, x880003, x880004, x880005, x880006, x880007, x885000, x885001, x885002 => if x123 = true then (some false) else (if x12 = 0 then ((impl_PutFrame.f k x885000 x885001 x885002).bind fun t917 => (if t917.length + x880004.length < 140737488355328 then ((laws_same.f (t917 ++ x880004) x867004).bind fun t923 => (if t923 = true then (laws_FnSocks.j2 k x0 x15 x18 false) else (laws_FnSocks.j2 k x0 x15 x18 true))) else (none))) else ((laws_same.f x880004 x867004).bind fun t924 => (laws_FnSocks.j2 k x0 x15 x18 (!t924))))
def laws_FnSocks.j2 : Nat → List Int → List (S41) → List (S41) → Bool → Option (Bool)
 | 0, _, _, _, _ => none
 | k + 1, x0, x15, x18, x148 => if x148 = true then (some false) else ((spec_DrawTell.f k x0).bind fun bt925 => ((impl_Tell.f k bt925.1 bt925.2.1 bt925.2.2.1 bt925.2.2.2.1 bt925.2.2.2.2.1 bt925.2.2.2.2.2.1 bt925.2.2.2.2.2.2.1 bt925.2.2.2.2.2.2.2.1 bt925.2.2.2.2.2.2.2.2.1 bt925.2.2.2.2.2.2.2.2.2.1 bt925.2.2.2.2.2.2.2.2.2.2).bind fun bt942 => ((impl_SockOk.f k bt925.1 bt925.2.1 bt925.2.2.1 bt925.2.2.2.1 bt925.2.2.2.2.1 bt925.2.2.2.2.2.1 bt925.2.2.2.2.2.2.1 bt925.2.2.2.2.2.2.2.1).bind fun t955 => (if t955 = true then ((some (([] : List Int) : List Int)).bind fun y956 => (if y956.length + bt925.2.2.2.2.2.1.length < 140737488355328 then ((some (y956 ++ bt925.2.2.2.2.2.1 : List Int)).bind fun y959 => ((impl_PutFrame.f k bt925.2.2.2.2.2.2.2.2.1 bt925.2.2.2.2.2.2.2.2.2.1 bt925.2.2.2.2.2.2.2.2.2.2).bind fun t962 => (if y959.length + t962.length < 140737488355328 then ((laws_same.f bt942.2.2.2.2.2.1 (y959 ++ t962)).bind fun t968 => (if t968 = true then ((impl_SocksOk.f k x15).bind fun t969 => (if t969 = true then ((impl_SocksOk.f k x18).bind fun t970 => (if t970 = true then (some (decide ((x18.length : Int) ≤ (x15.length : Int)))) else (some false))) else (some (decide ((x18.length : Int) ≤ (x15.length : Int)))))) else (some false))) else (none)))) else (none))) else ((impl_SocksOk.f k x15).bind fun t971 => (if t971 = true then ((impl_SocksOk.f k x18).bind fun t972 => (if t972 = true then (some (decide ((x18.length : Int) ≤ (x15.length : Int)))) else (some false))) else (some (decide ((x18.length : Int) ≤ (x15.length : Int))))))))))
end
def laws_FnSocks.f (k : Nat) (l0 : List Int) : Option (Bool) := (laws_big.f l0).bind fun t809 => (if t809 = true then (some true) else ((spec_DrawHear.f k l0).bind fun bt810 => ((impl_Hear.f k bt810.1 bt810.2.1 bt810.2.2.1 bt810.2.2.2.1 bt810.2.2.2.2.1 bt810.2.2.2.2.2.1 bt810.2.2.2.2.2.2.1 bt810.2.2.2.2.2.2.2.1 bt810.2.2.2.2.2.2.2.2).bind fun bt826 => ((spec_Hear.f k bt810.1 bt810.2.1 bt810.2.2.1 bt810.2.2.2.1 bt810.2.2.2.2.1 bt810.2.2.2.2.2.1 bt810.2.2.2.2.2.2.1 bt810.2.2.2.2.2.2.2.1 bt810.2.2.2.2.2.2.2.2).bind fun bt840 => ((spec_DrawEat.f k l0).bind fun bt854 => ((impl_Eat.f k bt854.1 bt854.2.1 bt854.2.2.1 bt854.2.2.2.1 bt854.2.2.2.2.1 bt854.2.2.2.2.2.1 bt854.2.2.2.2.2.2.1 bt854.2.2.2.2.2.2.2).bind fun bt867 => ((impl_Peek.f k bt854.1 bt854.2.1 bt854.2.2.1 bt854.2.2.2.1 bt854.2.2.2.2.1 bt854.2.2.2.2.2.1 bt854.2.2.2.2.2.2.1 bt854.2.2.2.2.2.2.2).bind fun bt880 => ((spec_Peek.f k bt854.1 bt854.2.1 bt854.2.2.1 bt854.2.2.2.1 bt854.2.2.2.2.1 bt854.2.2.2.2.2.1 bt854.2.2.2.2.2.2.1 bt854.2.2.2.2.2.2.2).bind fun bt885 => ((spec_DrawFree.f k l0).bind fun bt890 => ((impl_Free.f k bt890.1 bt890.2.1 bt890.2.2).bind fun t895 => (if (bt826.2.2.2.2.2.2.2.2 != bt840.2.2.2.2.2.2.2.2) = true then (laws_FnSocks.j0 k l0 bt810.2.2.2.2.2.2.2.2 bt826.2.2.2.2.2.2.2.2 bt880.2.2.2 bt890.1 t895 true bt810.1 bt810.2.1 bt810.2.2.1 bt810.2.2.2.1 bt810.2.2.2.2.1 bt810.2.2.2.2.2.1 bt810.2.2.2.2.2.2.1 bt810.2.2.2.2.2.2.2.1 bt826.1 bt826.2.1 bt826.2.2.1 bt826.2.2.2.1 bt826.2.2.2.2.1 bt826.2.2.2.2.2.1 bt826.2.2.2.2.2.2.1 bt826.2.2.2.2.2.2.2.1 bt854.1 bt854.2.1 bt854.2.2.1 bt854.2.2.2.1 bt854.2.2.2.2.1 bt854.2.2.2.2.2.1 bt854.2.2.2.2.2.2.1 bt854.2.2.2.2.2.2.2 bt867.1 bt867.2.1 bt867.2.2.1 bt867.2.2.2.1 bt867.2.2.2.2.1 bt867.2.2.2.2.2.1 bt867.2.2.2.2.2.2.1 bt867.2.2.2.2.2.2.2 bt880.1 bt880.2.1 bt880.2.2.1) else ((impl_SockOk.f k bt810.1 bt810.2.1 bt810.2.2.1 bt810.2.2.2.1 bt810.2.2.2.2.1 bt810.2.2.2.2.2.1 bt810.2.2.2.2.2.2.1 bt810.2.2.2.2.2.2.2.1).bind fun t898 => ((spec_SockOk.f k bt810.1 bt810.2.1 bt810.2.2.1 bt810.2.2.2.1 bt810.2.2.2.2.1 bt810.2.2.2.2.2.1 bt810.2.2.2.2.2.2.1 bt810.2.2.2.2.2.2.2.1).bind fun t899 => (if (t898 != t899) = true then (laws_FnSocks.j0 k l0 bt810.2.2.2.2.2.2.2.2 bt826.2.2.2.2.2.2.2.2 bt880.2.2.2 bt890.1 t895 true bt810.1 bt810.2.1 bt810.2.2.1 bt810.2.2.2.1 bt810.2.2.2.2.1 bt810.2.2.2.2.2.1 bt810.2.2.2.2.2.2.1 bt810.2.2.2.2.2.2.2.1 bt826.1 bt826.2.1 bt826.2.2.1 bt826.2.2.2.1 bt826.2.2.2.2.1 bt826.2.2.2.2.2.1 bt826.2.2.2.2.2.2.1 bt826.2.2.2.2.2.2.2.1 bt854.1 bt854.2.1 bt854.2.2.1 bt854.2.2.2.1 bt854.2.2.2.2.1 bt854.2.2.2.2.2.1 bt854.2.2.2.2.2.2.1 bt854.2.2.2.2.2.2.2 bt867.1 bt867.2.1 bt867.2.2.1 bt867.2.2.2.1 bt867.2.2.2.2.1 bt867.2.2.2.2.2.1 bt867.2.2.2.2.2.2.1 bt867.2.2.2.2.2.2.2 bt880.1 bt880.2.1 bt880.2.2.1) else (if (!(bt880.1 == bt885.1) || (!(bt880.2.1.toList == bt885.2.1.toList) || (!(bt880.2.2.1 == bt885.2.2.1)))) = true then (laws_FnSocks.j0 k l0 bt810.2.2.2.2.2.2.2.2 bt826.2.2.2.2.2.2.2.2 bt880.2.2.2 bt890.1 t895 true bt810.1 bt810.2.1 bt810.2.2.1 bt810.2.2.2.1 bt810.2.2.2.2.1 bt810.2.2.2.2.2.1 bt810.2.2.2.2.2.2.1 bt810.2.2.2.2.2.2.2.1 bt826.1 bt826.2.1 bt826.2.2.1 bt826.2.2.2.1 bt826.2.2.2.2.1 bt826.2.2.2.2.2.1 bt826.2.2.2.2.2.2.1 bt826.2.2.2.2.2.2.2.1 bt854.1 bt854.2.1 bt854.2.2.1 bt854.2.2.2.1 bt854.2.2.2.2.1 bt854.2.2.2.2.2.1 bt854.2.2.2.2.2.2.1 bt854.2.2.2.2.2.2.2 bt867.1 bt867.2.1 bt867.2.2.1 bt867.2.2.2.1 bt867.2.2.2.2.1 bt867.2.2.2.2.2.1 bt867.2.2.2.2.2.2.1 bt867.2.2.2.2.2.2.2 bt880.1 bt880.2.1 bt880.2.2.1) else (if bt880.2.2.2 = bt885.2.2.2 then ((spec_Free.f k bt890.1 bt890.2.1 bt890.2.2).bind fun t900 => ((laws_sameSocks.f k t895 t900).bind fun t903 => (if t903 = true then ((impl_SocksOk.f k bt890.1).bind fun t904 => ((spec_SocksOk.f k bt890.1).bind fun t905 => (laws_FnSocks.j0 k l0 bt810.2.2.2.2.2.2.2.2 bt826.2.2.2.2.2.2.2.2 bt880.2.2.2 bt890.1 t895 (t904 != t905) bt810.1 bt810.2.1 bt810.2.2.1 bt810.2.2.2.1 bt810.2.2.2.2.1 bt810.2.2.2.2.2.1 bt810.2.2.2.2.2.2.1 bt810.2.2.2.2.2.2.2.1 bt826.1 bt826.2.1 bt826.2.2.1 bt826.2.2.2.1 bt826.2.2.2.2.1 bt826.2.2.2.2.2.1 bt826.2.2.2.2.2.2.1 bt826.2.2.2.2.2.2.2.1 bt854.1 bt854.2.1 bt854.2.2.1 bt854.2.2.2.1 bt854.2.2.2.2.1 bt854.2.2.2.2.2.1 bt854.2.2.2.2.2.2.1 bt854.2.2.2.2.2.2.2 bt867.1 bt867.2.1 bt867.2.2.1 bt867.2.2.2.1 bt867.2.2.2.2.1 bt867.2.2.2.2.2.1 bt867.2.2.2.2.2.2.1 bt867.2.2.2.2.2.2.2 bt880.1 bt880.2.1 bt880.2.2.1))) else (laws_FnSocks.j0 k l0 bt810.2.2.2.2.2.2.2.2 bt826.2.2.2.2.2.2.2.2 bt880.2.2.2 bt890.1 t895 true bt810.1 bt810.2.1 bt810.2.2.1 bt810.2.2.2.1 bt810.2.2.2.2.1 bt810.2.2.2.2.2.1 bt810.2.2.2.2.2.2.1 bt810.2.2.2.2.2.2.2.1 bt826.1 bt826.2.1 bt826.2.2.1 bt826.2.2.2.1 bt826.2.2.2.2.1 bt826.2.2.2.2.2.1 bt826.2.2.2.2.2.2.1 bt826.2.2.2.2.2.2.2.1 bt854.1 bt854.2.1 bt854.2.2.1 bt854.2.2.2.1 bt854.2.2.2.2.1 bt854.2.2.2.2.2.1 bt854.2.2.2.2.2.2.1 bt854.2.2.2.2.2.2.2 bt867.1 bt867.2.1 bt867.2.2.1 bt867.2.2.2.1 bt867.2.2.2.2.1 bt867.2.2.2.2.2.1 bt867.2.2.2.2.2.2.1 bt867.2.2.2.2.2.2.2 bt880.1 bt880.2.1 bt880.2.2.1)))) else (laws_FnSocks.j0 k l0 bt810.2.2.2.2.2.2.2.2 bt826.2.2.2.2.2.2.2.2 bt880.2.2.2 bt890.1 t895 true bt810.1 bt810.2.1 bt810.2.2.1 bt810.2.2.2.1 bt810.2.2.2.2.1 bt810.2.2.2.2.2.1 bt810.2.2.2.2.2.2.1 bt810.2.2.2.2.2.2.2.1 bt826.1 bt826.2.1 bt826.2.2.1 bt826.2.2.2.1 bt826.2.2.2.2.1 bt826.2.2.2.2.2.1 bt826.2.2.2.2.2.2.1 bt826.2.2.2.2.2.2.2.1 bt854.1 bt854.2.1 bt854.2.2.1 bt854.2.2.2.1 bt854.2.2.2.2.1 bt854.2.2.2.2.2.1 bt854.2.2.2.2.2.2.1 bt854.2.2.2.2.2.2.2 bt867.1 bt867.2.1 bt867.2.2.1 bt867.2.2.2.1 bt867.2.2.2.2.1 bt867.2.2.2.2.2.1 bt867.2.2.2.2.2.2.1 bt867.2.2.2.2.2.2.2 bt880.1 bt880.2.1 bt880.2.2.1)))))))))))))))))
theorem laws_FnSocks.mono_l : ∀ k, (∀ y0 y1 y2 y3 y4 y5 y6 y7 y8 y9 y10 y11 y12 y13 y14 y15 y16 y17 y18 y19 y20 y21 y22 y23 y24 y25 y26 y27 y28 y29 y30 y31 y32 y33 y34 y35 y36 y37 y38 y39 y40 y41, LeO (laws_FnSocks.j0 k y0 y1 y2 y3 y4 y5 y6 y7 y8 y9 y10 y11 y12 y13 y14 y15 y16 y17 y18 y19 y20 y21 y22 y23 y24 y25 y26 y27 y28 y29 y30 y31 y32 y33 y34 y35 y36 y37 y38 y39 y40 y41) (laws_FnSocks.j0 (k + 1) y0 y1 y2 y3 y4 y5 y6 y7 y8 y9 y10 y11 y12 y13 y14 y15 y16 y17 y18 y19 y20 y21 y22 y23 y24 y25 y26 y27 y28 y29 y30 y31 y32 y33 y34 y35 y36 y37 y38 y39 y40 y41)) ∧ (∀ y0 y1 y2 y3 y4 y5 y6 y7 y8 y9 y10 y11 y12 y13 y14 y15 y16 y17 y18 y19 y20 y21 y22 y23, LeO (laws_FnSocks.j1 k y0 y1 y2 y3 y4 y5 y6 y7 y8 y9 y10 y11 y12 y13 y14 y15 y16 y17 y18 y19 y20 y21 y22 y23) (laws_FnSocks.j1 (k + 1) y0 y1 y2 y3 y4 y5 y6 y7 y8 y9 y10 y11 y12 y13 y14 y15 y16 y17 y18 y19 y20 y21 y22 y23)) ∧ (∀ y0 y1 y2 y3, LeO (laws_FnSocks.j2 k y0 y1 y2 y3) (laws_FnSocks.j2 (k + 1) y0 y1 y2 y3))
 | 0 => ⟨fun _ _ _ _ _ _ _ _ _ _ _ _ _ _ _ _ _ _ _ _ _ _ _ _ _ _ _ _ _ _ _ _ _ _ _ _ _ _ _ _ _ _ r h => by simp [laws_FnSocks.j0] at h, fun _ _ _ _ _ _ _ _ _ _ _ _ _ _ _ _ _ _ _ _ _ _ _ _ r h => by simp [laws_FnSocks.j1] at h, fun _ _ _ _ r h => by simp [laws_FnSocks.j2] at h⟩
 | k + 1 => by
  obtain ⟨ih0, ih1, ih2⟩ := laws_FnSocks.mono_l k
  refine ⟨?_, ?_, ?_⟩
  ·
   intro y0 y1 y2 y3 y4 y5 y6 y7 y8 y9 y10 y11 y12 y13 y14 y15 y16 y17 y18 y19 y20 y21 y22 y23 y24 y25 y26 y27 y28 y29 y30 y31 y32 y33 y34 y35 y36 y37 y38 y39 y40 y41
   unfold laws_FnSocks.j0
   repeat' first
   | (with_reducible exact ih0 _ _ _ _ _ _ _ _ _ _ _ _ _ _ _ _ _ _ _ _ _ _ _ _ _ _ _ _ _ _ _ _ _ _ _ _ _ _ _ _ _ _)
   | (with_reducible exact ih1 _ _ _ _ _ _ _ _ _ _ _ _ _ _ _ _ _ _ _ _ _ _ _ _)
   | (with_reducible exact ih2 _ _ _ _)
   | (with_reducible exact impl_Eat.mono _ _ _ _ _ _ _ _ _)
   | (with_reducible exact impl_Free.mono _ _ _ _)
   | (with_reducible exact impl_Hear.mono _ _ _ _ _ _ _ _ _ _)
   | (with_reducible exact impl_Peek.mono _ _ _ _ _ _ _ _ _)
   | (with_reducible exact impl_PutFrame.mono _ _ _ _)
   | (with_reducible exact impl_SockOk.mono _ _ _ _ _ _ _ _ _)
   | (with_reducible exact impl_SocksOk.mono _ _)
   | (with_reducible exact impl_Tell.mono _ _ _ _ _ _ _ _ _ _ _ _)
   | (with_reducible exact laws_sameSocks.mono _ _ _)
   | (with_reducible exact spec_DrawEat.mono _ _)
   | (with_reducible exact spec_DrawFree.mono _ _)
   | (with_reducible exact spec_DrawHear.mono _ _)
   | (with_reducible exact spec_DrawTell.mono _ _)
   | (with_reducible exact spec_Free.mono _ _ _ _)
   | (with_reducible exact spec_Hear.mono _ _ _ _ _ _ _ _ _ _)
   | (with_reducible exact spec_Peek.mono _ _ _ _ _ _ _ _ _)
   | (with_reducible exact spec_SockOk.mono _ _ _ _ _ _ _ _ _)
   | (with_reducible exact spec_SocksOk.mono _ _)
   | (with_reducible exact LeO.refl _)
   | (with_reducible exact LeO.none _)
   | (with_reducible refine LeO.ite ?_ ?_)
   | (with_reducible refine LeO.bind ?_ (fun _ => ?_))
  ·
   intro y0 y1 y2 y3 y4 y5 y6 y7 y8 y9 y10 y11 y12 y13 y14 y15 y16 y17 y18 y19 y20 y21 y22 y23
   unfold laws_FnSocks.j1
   repeat' first
   | (with_reducible exact ih0 _ _ _ _ _ _ _ _ _ _ _ _ _ _ _ _ _ _ _ _ _ _ _ _ _ _ _ _ _ _ _ _ _ _ _ _ _ _ _ _ _ _)
   | (with_reducible exact ih1 _ _ _ _ _ _ _ _ _ _ _ _ _ _ _ _ _ _ _ _ _ _ _ _)
   | (with_reducible exact ih2 _ _ _ _)
   | (with_reducible exact impl_Eat.mono _ _ _ _ _ _ _ _ _)
   | (with_reducible exact impl_Free.mono _ _ _ _)
   | (with_reducible exact impl_Hear.mono _ _ _ _ _ _ _ _ _ _)
   | (with_reducible exact impl_Peek.mono _ _ _ _ _ _ _ _ _)
   | (with_reducible exact impl_PutFrame.mono _ _ _ _)
   | (with_reducible exact impl_SockOk.mono _ _ _ _ _ _ _ _ _)
   | (with_reducible exact impl_SocksOk.mono _ _)
   | (with_reducible exact impl_Tell.mono _ _ _ _ _ _ _ _ _ _ _ _)
   | (with_reducible exact laws_sameSocks.mono _ _ _)
   | (with_reducible exact spec_DrawEat.mono _ _)
   | (with_reducible exact spec_DrawFree.mono _ _)
   | (with_reducible exact spec_DrawHear.mono _ _)
   | (with_reducible exact spec_DrawTell.mono _ _)
   | (with_reducible exact spec_Free.mono _ _ _ _)
   | (with_reducible exact spec_Hear.mono _ _ _ _ _ _ _ _ _ _)
   | (with_reducible exact spec_Peek.mono _ _ _ _ _ _ _ _ _)
   | (with_reducible exact spec_SockOk.mono _ _ _ _ _ _ _ _ _)
   | (with_reducible exact spec_SocksOk.mono _ _)
   | (with_reducible exact LeO.refl _)
   | (with_reducible exact LeO.none _)
   | (with_reducible refine LeO.ite ?_ ?_)
   | (with_reducible refine LeO.bind ?_ (fun _ => ?_))
  ·
   intro y0 y1 y2 y3
   unfold laws_FnSocks.j2
   repeat' first
   | (with_reducible exact ih0 _ _ _ _ _ _ _ _ _ _ _ _ _ _ _ _ _ _ _ _ _ _ _ _ _ _ _ _ _ _ _ _ _ _ _ _ _ _ _ _ _ _)
   | (with_reducible exact ih1 _ _ _ _ _ _ _ _ _ _ _ _ _ _ _ _ _ _ _ _ _ _ _ _)
   | (with_reducible exact ih2 _ _ _ _)
   | (with_reducible exact impl_Eat.mono _ _ _ _ _ _ _ _ _)
   | (with_reducible exact impl_Free.mono _ _ _ _)
   | (with_reducible exact impl_Hear.mono _ _ _ _ _ _ _ _ _ _)
   | (with_reducible exact impl_Peek.mono _ _ _ _ _ _ _ _ _)
   | (with_reducible exact impl_PutFrame.mono _ _ _ _)
   | (with_reducible exact impl_SockOk.mono _ _ _ _ _ _ _ _ _)
   | (with_reducible exact impl_SocksOk.mono _ _)
   | (with_reducible exact impl_Tell.mono _ _ _ _ _ _ _ _ _ _ _ _)
   | (with_reducible exact laws_sameSocks.mono _ _ _)
   | (with_reducible exact spec_DrawEat.mono _ _)
   | (with_reducible exact spec_DrawFree.mono _ _)
   | (with_reducible exact spec_DrawHear.mono _ _)
   | (with_reducible exact spec_DrawTell.mono _ _)
   | (with_reducible exact spec_Free.mono _ _ _ _)
   | (with_reducible exact spec_Hear.mono _ _ _ _ _ _ _ _ _ _)
   | (with_reducible exact spec_Peek.mono _ _ _ _ _ _ _ _ _)
   | (with_reducible exact spec_SockOk.mono _ _ _ _ _ _ _ _ _)
   | (with_reducible exact spec_SocksOk.mono _ _)
   | (with_reducible exact LeO.refl _)
   | (with_reducible exact LeO.none _)
   | (with_reducible refine LeO.ite ?_ ?_)
   | (with_reducible refine LeO.bind ?_ (fun _ => ?_))
theorem laws_FnSocks.mono : ∀ a0 k, LeO (laws_FnSocks.f k a0) (laws_FnSocks.f (k + 1) a0) := by
 intro a0 k
 obtain ⟨ih0, ih1, ih2⟩ := laws_FnSocks.mono_l k
 unfold laws_FnSocks.f
 repeat' first
   | (with_reducible exact ih0 _ _ _ _ _ _ _ _ _ _ _ _ _ _ _ _ _ _ _ _ _ _ _ _ _ _ _ _ _ _ _ _ _ _ _ _ _ _ _ _ _ _)
   | (with_reducible exact ih1 _ _ _ _ _ _ _ _ _ _ _ _ _ _ _ _ _ _ _ _ _ _ _ _)
   | (with_reducible exact ih2 _ _ _ _)
   | (with_reducible exact impl_Eat.mono _ _ _ _ _ _ _ _ _)
   | (with_reducible exact impl_Free.mono _ _ _ _)
   | (with_reducible exact impl_Hear.mono _ _ _ _ _ _ _ _ _ _)
   | (with_reducible exact impl_Peek.mono _ _ _ _ _ _ _ _ _)
   | (with_reducible exact impl_PutFrame.mono _ _ _ _)
   | (with_reducible exact impl_SockOk.mono _ _ _ _ _ _ _ _ _)
   | (with_reducible exact impl_SocksOk.mono _ _)
   | (with_reducible exact impl_Tell.mono _ _ _ _ _ _ _ _ _ _ _ _)
   | (with_reducible exact laws_sameSocks.mono _ _ _)
   | (with_reducible exact spec_DrawEat.mono _ _)
   | (with_reducible exact spec_DrawFree.mono _ _)
   | (with_reducible exact spec_DrawHear.mono _ _)
   | (with_reducible exact spec_DrawTell.mono _ _)
   | (with_reducible exact spec_Free.mono _ _ _ _)
   | (with_reducible exact spec_Hear.mono _ _ _ _ _ _ _ _ _ _)
   | (with_reducible exact spec_Peek.mono _ _ _ _ _ _ _ _ _)
   | (with_reducible exact spec_SockOk.mono _ _ _ _ _ _ _ _ _)
   | (with_reducible exact spec_SocksOk.mono _ _)
   | (with_reducible exact LeO.refl _)
   | (with_reducible exact LeO.none _)
   | (with_reducible refine LeO.ite ?_ ?_)
   | (with_reducible refine LeO.bind ?_ (fun _ => ?_))
def laws_FnSocks.T12 : Bool × List (List Nat × List Nat) := (true, [([], []), ([], []), ([0, 1], [0, 1]), ([2], [2]), ([3], [3]), ([4, 3, 3], [3, 4]), ([3], [3]), ([6, 5, 3], [3, 6]), ([5, 7, 3], [3, 5, 7]), ([3, 8], [3, 8]), ([9, 7], [9]), ([10], [10]), ([10], [10]), ([11, 12, 10], [10, 11, 12]), ([10, 13], [10, 13]), ([14, 10], [14]), ([15], [15]), ([15], [15]), ([16, 17, 15], [15, 16, 17]), ([15, 18], [15, 18]), ([19, 15], [19]), ([20], [20]), ([20], [20]), ([20], [20]), ([20], [20]), ([22, 23, 24, 20, 20], [20, 22, 23, 24]), ([21, 25, 25, 20], [20, 21, 25]), ([26, 20], [20, 26]), ([20, 27], [20, 27]), ([28, 26], [28]), ([29], [29]), ([30, 29, 29], [29, 30]), ([29], [29]), ([32, 31, 29], [29, 32]), ([31, 33, 29], [29, 31, 33]), ([29, 34], [29, 34])])
def laws_FnSocks.B12 : List Nat := [0, 0, 3, 7, 15, 31, 15, 127, 255, 511, 1023, 2047, 2047, 8191, 16383, 32767, 65535, 65535, 262143, 524287, 1048575, 2097151, 2097151, 2097151, 2097151, 31457279, 67108863, 134217727, 268435455, 536870911, 1073741823, 2147483647, 1073741823, 8589934591, 17179869183, 34359738367]
theorem laws_FnSocks.tab12 : rtab .any (opsOf Try.f4 12) = laws_FnSocks.T12 := by kernel_rfl
theorem laws_FnSocks.bits12 : waitsOk laws_FnSocks.T12.2 laws_FnSocks.B12 = true := by kernel_rfl
def laws_FnSocks.T14 : Bool × List (List Nat × List Nat) := (true, [([], []), ([0], [0]), ([1], [1]), ([2, 1], [1, 2]), ([1], [1]), ([1], [1]), ([5, 1], [1, 5]), ([4, 6, 1, 1], [1, 4, 6]), ([1], [1]), ([7, 8, 7, 1], [1, 7, 8]), ([3, 9, 9, 1], [1, 3, 9]), ([10, 1], [1, 10]), ([1, 11], [1, 11]), ([12, 10], [12]), ([13], [13]), ([14, 13], [13, 14]), ([15, 13, 13], [13, 15]), ([16], [16]), ([16], [16]), ([17, 18, 16, 16], [16, 17, 18]), ([19, 16], [16, 19]), ([16, 20, 13], [13, 16, 20]), ([13, 21], [13, 21])])
def laws_FnSocks.B14 : List Nat := [0, 1, 3, 7, 3, 3, 35, 115, 3, 499, 1023, 2047, 4095, 8191, 16383, 32767, 65535, 131071, 131071, 524287, 1048575, 2097151, 4194303]
theorem laws_FnSocks.tab14 : rtab .any (opsOf Try.f4 14) = laws_FnSocks.T14 := by kernel_rfl
theorem laws_FnSocks.bits14 : waitsOk laws_FnSocks.T14.2 laws_FnSocks.B14 = true := by kernel_rfl
def laws_FnSocks.T16 : Bool × List (List Nat × List Nat) := (true, [([], []), ([0], [0]), ([1], [1]), ([2], [2]), ([3, 2, 2], [2, 3]), ([2], [2]), ([5, 2], [2, 5]), ([4, 6, 4, 2], [2, 4, 6]), ([2], [2]), ([8, 2], [2, 8]), ([7, 9, 7, 2], [2, 7, 9]), ([10, 2], [2, 10]), ([2, 11], [2, 11]), ([12, 10], [12]), ([13], [13]), ([14, 13], [13, 14]), ([15, 13, 13], [13, 15]), ([16], [16]), ([17, 16], [16, 17]), ([16], [16]), ([19, 16], [16, 19]), ([18, 20, 16, 16], [16, 18, 20]), ([21, 16], [16, 21]), ([16, 22, 13], [13, 16, 22]), ([13, 23], [13, 23])])
def laws_FnSocks.B16 : List Nat := [0, 1, 3, 7, 15, 7, 39, 127, 7, 263, 1023, 2047, 4095, 8191, 16383, 32767, 65535, 131071, 262143, 131071, 655359, 2097151, 4194303, 8388607, 16777215]
theorem laws_FnSocks.tab16 : rtab .any (opsOf Try.f4 16) = laws_FnSocks.T16 := by kernel_rfl
theorem laws_FnSocks.bits16 : waitsOk laws_FnSocks.T16.2 laws_FnSocks.B16 = true := by kernel_rfl
def laws_FnSocks.T20 : Bool × List (List Nat × List Nat) := (true, [([], []), ([0], [0]), ([1], [1]), ([2, 1], [2]), ([3], [3]), ([4, 3], [3, 4]), ([3], [3]), ([3], [3]), ([7, 3], [3, 7]), ([6, 8, 3, 3], [3, 6, 8]), ([3], [3]), ([10, 9, 3], [3, 10]), ([9, 11, 11, 3], [3, 9, 11]), ([5, 12, 12, 3], [3, 5, 12]), ([3, 13], [3, 13]), ([14, 13], [14]), ([15], [15]), ([16, 15, 15], [15, 16]), ([17, 15], [15, 17]), ([18, 17, 15], [15, 18]), ([19], [19]), ([20, 19, 19], [19, 20]), ([19, 21, 15], [15, 19, 21]), ([15, 22], [15, 22]), ([23, 21], [23]), ([24], [24]), ([25, 24], [24, 25]), ([24], [24]), ([27, 24], [24, 27]), ([26, 28, 24], [24, 26, 28]), ([24, 29], [24, 29]), ([30, 24, 0, 1, 2, 3, 4, 5, 6, 7, 8, 9, 10, 11, 12, 13, 14, 15, 16, 17, 18, 19, 20, 21, 22, 23, 24, 25, 26, 27, 28, 29, 30], [30])])
def laws_FnSocks.B20 : List Nat := [0, 1, 3, 7, 15, 31, 15, 15, 143, 463, 15, 1999, 4047, 8191, 16383, 32767, 65535, 131071, 262143, 524287, 1048575, 2097151, 4194303, 8388607, 16777215, 33554431, 67108863, 33554431, 167772159, 536870911, 1073741823, 2147483647]
theorem laws_FnSocks.tab20 : rtab .any (opsOf Try.f4 20) = laws_FnSocks.T20 := by kernel_rfl
theorem laws_FnSocks.bits20 : waitsOk laws_FnSocks.T20.2 laws_FnSocks.B20 = true := by kernel_rfl
set_option maxHeartbeats 8000000 in
set_option maxRecDepth 100000 in
theorem laws_FnSocks.calls (k : Nat) (A0 : Option Addr) (c0 : Nat) (l0 : List Int) (r : Bool) (w : World) (hr0 : Kd.C (Kd.int .u8) w A0 l0.length l0) (hc0 : l0.length ≤ c0) (hr_ : Aside0 (r = true)) (h : laws_FnSocks.f k l0 = some r) :
  Calls Try.prog 4 #[.slice A0 l0.length c0] w fun e w' => e = .returned (.bool r) ∧ Below w.heap.size w w' := by
 have hu41 := Try.underlying41
 have hu49 := Try.underlying49
 have HR0 := Aside0.mk hr0
 have HC0 := Aside0.mk hc0
 clear hr0 hc0
 have HB := Aside0.mk (Below.refl w.heap.size w)
 have H := h
 unfold laws_FnSocks.f at H
 clear h
 replace H := bd_ H
 obtain ⟨t809, A2, H⟩ := H
 have HC3 := Aside0.mk H
 clear H
 go_enter Try.func4, Try.ntmps4
 go_upto_if 23 with (first | ((with_reducible refine gate_ld rfl ?_); first | refine ld_ ?_ | fail) | ((with_reducible refine gate_callee (f := 7) rfl ?_); refine gl_ (some 23) Try.func7 #[.slice A0 l0.length c0] ?_; (with_reducible refine (laws_big.calls _ _ l0 t809 _ ?side1 ?side2 A2.out).mono ?_); (case side1 => exact qC (HR0.out)); (case side2 => exact HC0.out); rintro e w' ⟨rfl, ⟨nd, rfl⟩⟩; refine ⟨_, rfl, ?_⟩))
 (try simp only [Act.put, List.setIfInBounds_toArray, List.set_cons_zero, List.set_cons_succ])
 have H := HC3.out
 clear HC3
 by_cases c4 : t809 = true
 ·
  subst c4
  rw [if_pos rfl] at H
  obtain rfl := Option.some.inj H
  go_wp2_with ((with_reducible refine gate_ld rfl ?_); first | refine ld_ ?_ | fail)
  go_ret
  exact ⟨er_, qB HB⟩
 replace c4 := Bool.eq_false_iff.mpr c4
 subst c4
 rw [if_neg (show ¬ (false = true) by decide)] at H
 replace H := bf_ H
 obtain ⟨f_, hf_, ⟨t810, t811, t812, t813, t814, t817, t820, t821, t822⟩, A5, H⟩ := H
 subst hf_
 (try dsimp only at H)
 replace H := bf_ H
 obtain ⟨f_, hf_, ⟨t826, t827, t828, t829, t830, t833, t836, t837, t838⟩, A6, H⟩ := H
 subst hf_
 (try dsimp only at H)
 replace H := bf_ H
 obtain ⟨f_, hf_, ⟨t840, t841, t842, t843, t844, t847, t850, t851, t852⟩, A7, H⟩ := H
 subst hf_
 (try dsimp only at H)
 replace H := bf_ H
 obtain ⟨f_, hf_, ⟨t854, t855, t856, t857, t858, t861, t864, t865⟩, A8, H⟩ := H
 subst hf_
 (try dsimp only at H)
 replace H := bf_ H
 obtain ⟨f_, hf_, ⟨t867, t868, t869, t870, t871, t874, t877, t878⟩, A9, H⟩ := H
 subst hf_
 (try dsimp only at H)
 replace H := bf_ H
 obtain ⟨f_, hf_, ⟨t880, t881, t882, t883⟩, A10, H⟩ := H
 subst hf_
 (try dsimp only at H)
 replace H := bf_ H
 obtain ⟨f_, hf_, ⟨t885, t886, t887, t888⟩, A11, H⟩ := H
 subst hf_
 (try dsimp only at H)
 replace H := bf_ H
 obtain ⟨f_, hf_, ⟨t890, t891, t892⟩, A12, H⟩ := H
 subst hf_
 (try dsimp only at H)
 replace H := bd_ H
 obtain ⟨t895, A13, H⟩ := H
 have HC14 := Aside0.mk H
 clear H
 go_upto_region 12 with (first | ((with_reducible refine gate_ld rfl ?_); first | refine ld_ ?_ | fail) | ((with_reducible refine gate_callee (f := 21) rfl ?_); refine gl_ (some 26) Try.func21 #[.slice A0 l0.length c0] ?_; (with_reducible refine (spec_DrawHear.calls k _ _ l0 t810 t811 t812 t813 t814 t817 t820 t821 t822 _ ?side1 ?side2 A5.out).mono ?_); (case side1 => exact qC (Kd.C_below HR0.out HB.out)); (case side2 => exact HC0.out); rintro e w15 ⟨v815, v818, v823, rfl, ho0, ho1, ho2, hb⟩; refine ⟨_, rfl, ?_⟩; have HO816 := am_ (Kd.R_lower ho0 (below_size (qB HB))); have HO819 := am_ (Kd.R_lower ho1 (below_size (qB HB))); have HO824 := am_ (Kd.R_lower ho2 (below_size (qB HB))); replace HB := bS_ HB hb; (try clear hb); (try clear ho0); (try clear ho1); (try clear ho2)) | ((with_reducible refine gate_dst (N := 3) rfl ?_); (try (refine gate_guard (by rfl) ?_; dsimp only)); refine box_event ?hg (N := 3) ?hd (cs := #[.int .i64 0, .int .i64 0, .int .i64 0, .bool false, .slice none 0 0, .slice none 0 0, .int .i64 0, .int .i64 0]) (t := 41) ?hr ?_; (case hd => rfl); (case hg => rfl); (case hr => first | (go_simp; done) | (go_simp; rfl) | ((try (obtain ⟨_, _, rfl⟩ := Kd.R_slice HO816.out)); (try (obtain ⟨_, _, rfl⟩ := Kd.R_slice HO819.out)); (try (obtain ⟨_, _, rfl⟩ := Kd.R_slice HO824.out)); (try (obtain ⟨_, _, rfl⟩ := Kd.R_slice HO832.out)); (try (obtain ⟨_, _, rfl⟩ := Kd.R_slice HO835.out)); (try (obtain ⟨_, _, rfl⟩ := Kd.R_slice HO846.out)); (try (obtain ⟨_, _, rfl⟩ := Kd.R_slice HO849.out)); (try (obtain ⟨_, _, rfl⟩ := Kd.R_slice HO860.out)); (try (obtain ⟨_, _, rfl⟩ := Kd.R_slice HO863.out)); (try (obtain ⟨_, _, rfl⟩ := Kd.R_slice HO873.out)); (try (obtain ⟨_, _, rfl⟩ := Kd.R_slice HO876.out)); (try (obtain ⟨_, _, rfl⟩ := Kd.R_slice HO894.out)); (try (obtain ⟨_, _, rfl⟩ := Kd.R_slice HO897.out)); first | (go_simp; done) | (go_simp; rfl))); intro gb825 hg w16 hbox hb; replace HO816 := rB_ HO816 hb; replace HO819 := rB_ HO819 hb; replace HO824 := rB_ HO824 hb; have BK825 := am_ (hbox); have GW825 := gA_ hg HB; have GE825 := GW825; have IGE825 := gI_ GE825; replace HB := bS_ HB hb; clear hb hbox hg; (try clear zK825); have zK825 := cz8 BK825.out; (try clear fK825); have fK825 := fz8 BK825.out; obtain ⟨Ao18, co18, eo18⟩ := Kd.R_slice HO816.out; subst eo18; obtain ⟨Ao19, co19, eo19⟩ := Kd.R_slice HO819.out; subst eo19) | ((with_reducible refine gate_store (t := 41) (p := 3) rfl ?_); refine store_evs (t := 41) (p := 3) (j := 0) (cs := [.int .i64 t810, .int .i64 t811, .int .i64 t812, .bool t813, .slice Ao18 t814.length co18, .slice Ao19 t817.length co19, .int .i64 t820, .int .i64 t821]) (qK BK825) ?_; intro w20 hw; have n0_ := fR0_ hw HO816 BK825; have n1_ := fR0_ hw HO819 BK825; have n2_ := fR0_ hw HO824 BK825; replace HB := sB_ hw HB; replace BK825 := sW_ hw BK825; clear hw; clear HO816 HO819 HO824; have HO816 := n0_; have HO819 := n1_; have HO824 := n2_; clear n0_ n1_ n2_; (try clear zK825); have zK825 := cz8 BK825.out; (try clear fK825); have fK825 := fz8 BK825.out; obtain ⟨Ao22, co22, eo22⟩ := Kd.R_slice HO824.out; subst eo22) | ((with_reducible refine gate_callee (f := 22) rfl ?_); refine gl_ (some 32) Try.func22 #[.agg #[.int .i64 t810, .int .i64 t811, .int .i64 t812, .bool t813, .slice Ao18 t814.length co18, .slice Ao19 t817.length co19, .int .i64 t820, .int .i64 t821], .slice Ao22 t822.length co22] ?_; (with_reducible refine (impl_Hear.calls k t810 t811 t812 t813 _ _ t814 _ _ t817 t820 t821 _ _ t822 t826 t827 t828 t829 t830 t833 t836 t837 t838 _ ?side1 ?side2 ?side3 ?side4 ?side5 ?side6 A6.out).mono ?_); (case side1 => exact qC ((Kd.R_reads' HO816.out).2.2)); (case side2 => exact (Kd.R_reads' HO816.out).2.1); (case side3 => exact qC ((Kd.R_reads' HO819.out).2.2)); (case side4 => exact (Kd.R_reads' HO819.out).2.1); (case side5 => exact qC ((Kd.R_reads' HO824.out).2.2)); (case side6 => exact (Kd.R_reads' HO824.out).2.1); rintro e w23 ⟨v831, v834, rfl, ho0, ho1, hb⟩; refine ⟨_, rfl, ?_⟩; have HO832 := am_ (Kd.R_lower (Kd.R_new' (Kd.R_new' (Kd.R_new' ho0 (Kd.R_lt (qR HO816))) (Kd.R_lt (qR HO819))) (Kd.R_lt (qR HO824))) (below_size (qB HB))); have HO835 := am_ (Kd.R_lower (Kd.R_new' (Kd.R_new' (Kd.R_new' ho1 (Kd.R_lt (qR HO816))) (Kd.R_lt (qR HO819))) (Kd.R_lt (qR HO824))) (below_size (qB HB))); replace HO816 := am_ (Kd.R_mono (Kd.R_told (Kd.R_told (Kd.R_old (qR HO816) hb) (Kd.R_base ho0)) (Kd.R_base ho1)) (fun _ h_ => h_.1)); replace HO819 := am_ (Kd.R_mono (Kd.R_told (Kd.R_told (Kd.R_old (qR HO819) hb) (Kd.R_base ho0)) (Kd.R_base ho1)) (fun _ h_ => h_.1)); replace HO824 := am_ (Kd.R_mono (Kd.R_told (Kd.R_told (Kd.R_old (qR HO824) hb) (Kd.R_base ho0)) (Kd.R_base ho1)) (fun _ h_ => h_.1)); replace BK825 := bK_ BK825 hb; replace HB := bS_ HB hb; (try clear hb); (try clear ho0); (try clear ho1)) | ((with_reducible refine gate_dst (N := 5) rfl ?_); (try (refine gate_guard (by rfl) ?_; dsimp only)); refine box_event ?hg (N := 5) ?hd (cs := #[.int .i64 0, .int .i64 0, .int .i64 0, .bool false, .slice none 0 0, .slice none 0 0, .int .i64 0, .int .i64 0]) (t := 41) ?hr ?_; (case hd => rfl); (case hg => rfl); (case hr => first | (go_simp; done) | (go_simp; rfl) | ((try (obtain ⟨_, _, rfl⟩ := Kd.R_slice HO816.out)); (try (obtain ⟨_, _, rfl⟩ := Kd.R_slice HO819.out)); (try (obtain ⟨_, _, rfl⟩ := Kd.R_slice HO824.out)); (try (obtain ⟨_, _, rfl⟩ := Kd.R_slice HO832.out)); (try (obtain ⟨_, _, rfl⟩ := Kd.R_slice HO835.out)); (try (obtain ⟨_, _, rfl⟩ := Kd.R_slice HO846.out)); (try (obtain ⟨_, _, rfl⟩ := Kd.R_slice HO849.out)); (try (obtain ⟨_, _, rfl⟩ := Kd.R_slice HO860.out)); (try (obtain ⟨_, _, rfl⟩ := Kd.R_slice HO863.out)); (try (obtain ⟨_, _, rfl⟩ := Kd.R_slice HO873.out)); (try (obtain ⟨_, _, rfl⟩ := Kd.R_slice HO876.out)); (try (obtain ⟨_, _, rfl⟩ := Kd.R_slice HO894.out)); (try (obtain ⟨_, _, rfl⟩ := Kd.R_slice HO897.out)); first | (go_simp; done) | (go_simp; rfl))); intro gb839 hg w24 hbox hb; replace HO816 := rB_ HO816 hb; replace HO819 := rB_ HO819 hb; replace HO824 := rB_ HO824 hb; replace HO832 := rB_ HO832 hb; replace HO835 := rB_ HO835 hb; have BK839 := am_ (hbox); have GW839 := gA_ hg HB; have GE839 := GW839; have IGE839 := gI_ GE839; replace HB := bS_ HB hb; have NB825_839 := am_ ((gN_ hg (qK BK825))); have NB839_825 := am_ ((gM_ hg (qK BK825))); replace BK825 := bK_ BK825 hb; clear hb hbox hg; have hnb25 := NB839_825.out; have hnc25 := NB825_839.out; (try clear zK839); have zK839 := cz8 BK839.out; (try clear fK839); have fK839 := fz8 BK839.out; obtain ⟨Ao27, co27, eo27⟩ := Kd.R_slice HO832.out; subst eo27; obtain ⟨Ao28, co28, eo28⟩ := Kd.R_slice HO835.out; subst eo28) | ((with_reducible refine gate_store (t := 41) (p := 5) rfl ?_); refine store_evs (t := 41) (p := 5) (j := 0) (cs := [.int .i64 t826, .int .i64 t827, .int .i64 t828, .bool t829, .slice Ao27 t830.length co27, .slice Ao28 t833.length co28, .int .i64 t836, .int .i64 t837]) (qK BK839) ?_; intro w29 hw; have n0_ : Aside0 (Kd.R (Kd.int .u8) 5 w29 w.heap.size (fun k_ => nb Ao19 t817.length co19 k_ ∧ nb Ao22 t822.length co22 k_ ∧ nb Ao27 t830.length co27 k_ ∧ nb Ao28 t833.length co28 k_) (.slice Ao18 t814.length co18) t814) := ⟨(by rw [hw]; exact (fR1_ HO816 BK839))⟩; have n1_ : Aside0 (Kd.R (Kd.int .u8) 5 w29 w.heap.size (fun k_ => nb Ao18 t814.length co18 k_ ∧ nb Ao22 t822.length co22 k_ ∧ nb Ao27 t830.length co27 k_ ∧ nb Ao28 t833.length co28 k_) (.slice Ao19 t817.length co19) t817) := ⟨(by rw [hw]; exact (fR1_ HO819 BK839))⟩; have n2_ : Aside0 (Kd.R (Kd.int .u8) 5 w29 w.heap.size (fun k_ => nb Ao18 t814.length co18 k_ ∧ nb Ao19 t817.length co19 k_ ∧ nb Ao27 t830.length co27 k_ ∧ nb Ao28 t833.length co28 k_) (.slice Ao22 t822.length co22) t822) := ⟨(by rw [hw]; exact (fR1_ HO824 BK839))⟩; have n3_ : Aside0 (Kd.R (Kd.int .u8) 5 w29 w.heap.size (fun k_ => nb Ao18 t814.length co18 k_ ∧ nb Ao19 t817.length co19 k_ ∧ nb Ao22 t822.length co22 k_ ∧ nb Ao28 t833.length co28 k_) (.slice Ao27 t830.length co27) t830) := ⟨(by rw [hw]; exact (fR1_ HO832 BK839))⟩; have n4_ : Aside0 (Kd.R (Kd.int .u8) 5 w29 w.heap.size (fun k_ => nb Ao18 t814.length co18 k_ ∧ nb Ao19 t817.length co19 k_ ∧ nb Ao22 t822.length co22 k_ ∧ nb Ao27 t830.length co27 k_) (.slice Ao28 t833.length co28) t833) := ⟨(by rw [hw]; exact (fR1_ HO835 BK839))⟩; replace BK825 := sK_ hw BK825 NB825_839; replace HB := sB_ hw HB; replace BK839 := sW_ hw BK839; clear hw; clear HO816 HO819 HO824 HO832 HO835; have HO816 := n0_; have HO819 := n1_; have HO824 := n2_; have HO832 := n3_; have HO835 := n4_; clear n0_ n1_ n2_ n3_ n4_; (try clear zK825); have zK825 := cz8 BK825.out; (try clear fK825); have fK825 := fz8 BK825.out) | ((with_reducible refine gate_callee (f := 23) rfl ?_); refine gl_ (some 38) Try.func23 #[.agg #[.int .i64 t810, .int .i64 t811, .int .i64 t812, .bool t813, .slice Ao18 t814.length co18, .slice Ao19 t817.length co19, .int .i64 t820, .int .i64 t821], .slice Ao22 t822.length co22] ?_; (with_reducible refine (spec_Hear.calls k t810 t811 t812 t813 _ _ t814 _ _ t817 t820 t821 _ _ t822 t840 t841 t842 t843 t844 t847 t850 t851 t852 _ ?side1 ?side2 ?side3 ?side4 ?side5 ?side6 A7.out).mono ?_); (case side1 => exact qC ((Kd.R_reads' HO816.out).2.2)); (case side2 => exact (Kd.R_reads' HO816.out).2.1); (case side3 => exact qC ((Kd.R_reads' HO819.out).2.2)); (case side4 => exact (Kd.R_reads' HO819.out).2.1); (case side5 => exact qC ((Kd.R_reads' HO824.out).2.2)); (case side6 => exact (Kd.R_reads' HO824.out).2.1); rintro e w31 ⟨v845, v848, rfl, ho0, ho1, hb⟩; refine ⟨_, rfl, ?_⟩; have HO846 := am_ (Kd.R_lower (Kd.R_new' (Kd.R_new' (Kd.R_new' (Kd.R_new' (Kd.R_new' ho0 (Kd.R_lt (qR HO816))) (Kd.R_lt (qR HO819))) (Kd.R_lt (qR HO824))) (Kd.R_lt (qR HO832))) (Kd.R_lt (qR HO835))) (below_size (qB HB))); have HO849 := am_ (Kd.R_lower (Kd.R_new' (Kd.R_new' (Kd.R_new' (Kd.R_new' (Kd.R_new' ho1 (Kd.R_lt (qR HO816))) (Kd.R_lt (qR HO819))) (Kd.R_lt (qR HO824))) (Kd.R_lt (qR HO832))) (Kd.R_lt (qR HO835))) (below_size (qB HB))); replace HO816 := am_ (Kd.R_mono (Kd.R_told (Kd.R_told (Kd.R_old (qR HO816) hb) (Kd.R_base ho0)) (Kd.R_base ho1)) (fun _ h_ => h_.1)); replace HO819 := am_ (Kd.R_mono (Kd.R_told (Kd.R_told (Kd.R_old (qR HO819) hb) (Kd.R_base ho0)) (Kd.R_base ho1)) (fun _ h_ => h_.1)); replace HO824 := am_ (Kd.R_mono (Kd.R_told (Kd.R_told (Kd.R_old (qR HO824) hb) (Kd.R_base ho0)) (Kd.R_base ho1)) (fun _ h_ => h_.1)); replace HO832 := am_ (Kd.R_mono (Kd.R_told (Kd.R_told (Kd.R_old (qR HO832) hb) (Kd.R_base ho0)) (Kd.R_base ho1)) (fun _ h_ => h_.1)); replace HO835 := am_ (Kd.R_mono (Kd.R_told (Kd.R_told (Kd.R_old (qR HO835) hb) (Kd.R_base ho0)) (Kd.R_base ho1)) (fun _ h_ => h_.1)); replace BK825 := bK_ BK825 hb; replace BK839 := bK_ BK839 hb; replace HB := bS_ HB hb; (try clear hb); (try clear ho0); (try clear ho1)) | ((with_reducible refine gate_dst (N := 7) rfl ?_); (try (refine gate_guard (by rfl) ?_; dsimp only)); refine box_event ?hg (N := 7) ?hd (cs := #[.int .i64 0, .int .i64 0, .int .i64 0, .bool false, .slice none 0 0, .slice none 0 0, .int .i64 0, .int .i64 0]) (t := 41) ?hr ?_; (case hd => rfl); (case hg => rfl); (case hr => first | (go_simp; done) | (go_simp; rfl) | ((try (obtain ⟨_, _, rfl⟩ := Kd.R_slice HO816.out)); (try (obtain ⟨_, _, rfl⟩ := Kd.R_slice HO819.out)); (try (obtain ⟨_, _, rfl⟩ := Kd.R_slice HO824.out)); (try (obtain ⟨_, _, rfl⟩ := Kd.R_slice HO832.out)); (try (obtain ⟨_, _, rfl⟩ := Kd.R_slice HO835.out)); (try (obtain ⟨_, _, rfl⟩ := Kd.R_slice HO846.out)); (try (obtain ⟨_, _, rfl⟩ := Kd.R_slice HO849.out)); (try (obtain ⟨_, _, rfl⟩ := Kd.R_slice HO860.out)); (try (obtain ⟨_, _, rfl⟩ := Kd.R_slice HO863.out)); (try (obtain ⟨_, _, rfl⟩ := Kd.R_slice HO873.out)); (try (obtain ⟨_, _, rfl⟩ := Kd.R_slice HO876.out)); (try (obtain ⟨_, _, rfl⟩ := Kd.R_slice HO894.out)); (try (obtain ⟨_, _, rfl⟩ := Kd.R_slice HO897.out)); first | (go_simp; done) | (go_simp; rfl))); intro gb853 hg w32 hbox hb; replace HO816 := rB_ HO816 hb; replace HO819 := rB_ HO819 hb; replace HO824 := rB_ HO824 hb; replace HO832 := rB_ HO832 hb; replace HO835 := rB_ HO835 hb; replace HO846 := rB_ HO846 hb; replace HO849 := rB_ HO849 hb; have BK853 := am_ (hbox); have GW853 := gA_ hg HB; have GE853 := GW853; have IGE853 := gI_ GE853; replace HB := bS_ HB hb; have NB825_853 := am_ ((gN_ hg (qK BK825))); have NB853_825 := am_ ((gM_ hg (qK BK825))); replace BK825 := bK_ BK825 hb; have NB839_853 := am_ ((gN_ hg (qK BK839))); have NB853_839 := am_ ((gM_ hg (qK BK839))); replace BK839 := bK_ BK839 hb; clear hb hbox hg; have hnb33 := NB853_825.out; have hnc33 := NB825_853.out; have hnb34 := NB853_839.out; have hnc34 := NB839_853.out; (try clear zK853); have zK853 := cz8 BK853.out; (try clear fK853); have fK853 := fz8 BK853.out; obtain ⟨Ao36, co36, eo36⟩ := Kd.R_slice HO846.out; subst eo36; obtain ⟨Ao37, co37, eo37⟩ := Kd.R_slice HO849.out; subst eo37) | ((with_reducible refine gate_store (t := 41) (p := 7) rfl ?_); refine store_evs (t := 41) (p := 7) (j := 0) (cs := [.int .i64 t840, .int .i64 t841, .int .i64 t842, .bool t843, .slice Ao36 t844.length co36, .slice Ao37 t847.length co37, .int .i64 t850, .int .i64 t851]) (qK BK853) ?_; intro w38 hw; have n0_ : Aside0 (Kd.R (Kd.int .u8) 5 w38 w.heap.size (fun k_ => nb Ao19 t817.length co19 k_ ∧ nb Ao22 t822.length co22 k_ ∧ nb Ao27 t830.length co27 k_ ∧ nb Ao28 t833.length co28 k_ ∧ nb Ao36 t844.length co36 k_ ∧ nb Ao37 t847.length co37 k_) (.slice Ao18 t814.length co18) t814) := ⟨(by rw [hw]; exact (fR1_ HO816 BK853))⟩; have n1_ : Aside0 (Kd.R (Kd.int .u8) 5 w38 w.heap.size (fun k_ => nb Ao18 t814.length co18 k_ ∧ nb Ao22 t822.length co22 k_ ∧ nb Ao27 t830.length co27 k_ ∧ nb Ao28 t833.length co28 k_ ∧ nb Ao36 t844.length co36 k_ ∧ nb Ao37 t847.length co37 k_) (.slice Ao19 t817.length co19) t817) := ⟨(by rw [hw]; exact (fR1_ HO819 BK853))⟩; have n2_ : Aside0 (Kd.R (Kd.int .u8) 5 w38 w.heap.size (fun k_ => nb Ao18 t814.length co18 k_ ∧ nb Ao19 t817.length co19 k_ ∧ nb Ao27 t830.length co27 k_ ∧ nb Ao28 t833.length co28 k_ ∧ nb Ao36 t844.length co36 k_ ∧ nb Ao37 t847.length co37 k_) (.slice Ao22 t822.length co22) t822) := ⟨(by rw [hw]; exact (fR1_ HO824 BK853))⟩; have n3_ : Aside0 (Kd.R (Kd.int .u8) 5 w38 w.heap.size (fun k_ => nb Ao18 t814.length co18 k_ ∧ nb Ao19 t817.length co19 k_ ∧ nb Ao22 t822.length co22 k_ ∧ nb Ao28 t833.length co28 k_ ∧ nb Ao36 t844.length co36 k_ ∧ nb Ao37 t847.length co37 k_) (.slice Ao27 t830.length co27) t830) := ⟨(by rw [hw]; exact (fR1_ HO832 BK853))⟩; have n4_ : Aside0 (Kd.R (Kd.int .u8) 5 w38 w.heap.size (fun k_ => nb Ao18 t814.length co18 k_ ∧ nb Ao19 t817.length co19 k_ ∧ nb Ao22 t822.length co22 k_ ∧ nb Ao27 t830.length co27 k_ ∧ nb Ao36 t844.length co36 k_ ∧ nb Ao37 t847.length co37 k_) (.slice Ao28 t833.length co28) t833) := ⟨(by rw [hw]; exact (fR1_ HO835 BK853))⟩; have n5_ : Aside0 (Kd.R (Kd.int .u8) 5 w38 w.heap.size (fun k_ => nb Ao18 t814.length co18 k_ ∧ nb Ao19 t817.length co19 k_ ∧ nb Ao22 t822.length co22 k_ ∧ nb Ao27 t830.length co27 k_ ∧ nb Ao28 t833.length co28 k_ ∧ nb Ao37 t847.length co37 k_) (.slice Ao36 t844.length co36) t844) := ⟨(by rw [hw]; exact (fR1_ HO846 BK853))⟩; have n6_ : Aside0 (Kd.R (Kd.int .u8) 5 w38 w.heap.size (fun k_ => nb Ao18 t814.length co18 k_ ∧ nb Ao19 t817.length co19 k_ ∧ nb Ao22 t822.length co22 k_ ∧ nb Ao27 t830.length co27 k_ ∧ nb Ao28 t833.length co28 k_ ∧ nb Ao36 t844.length co36 k_) (.slice Ao37 t847.length co37) t847) := ⟨(by rw [hw]; exact (fR1_ HO849 BK853))⟩; replace BK825 := sK_ hw BK825 NB825_853; replace BK839 := sK_ hw BK839 NB839_853; replace HB := sB_ hw HB; replace BK853 := sW_ hw BK853; clear hw; clear HO816 HO819 HO824 HO832 HO835 HO846 HO849; have HO816 := n0_; have HO819 := n1_; have HO824 := n2_; have HO832 := n3_; have HO835 := n4_; have HO846 := n5_; have HO849 := n6_; clear n0_ n1_ n2_ n3_ n4_ n5_ n6_) | ((with_reducible refine gate_callee (f := 24) rfl ?_); refine gl_ (some 42) Try.func24 #[.slice A0 l0.length c0] ?_; (with_reducible refine (spec_DrawEat.calls k _ _ l0 t854 t855 t856 t857 t858 t861 t864 t865 _ ?side1 ?side2 A8.out).mono ?_); (case side1 => exact qC (Kd.C_below HR0.out HB.out)); (case side2 => exact HC0.out); rintro e w39 ⟨v859, v862, rfl, ho0, ho1, hb⟩; refine ⟨_, rfl, ?_⟩; have HO860 := am_ (Kd.R_lower (Kd.R_new' (Kd.R_new' (Kd.R_new' (Kd.R_new' (Kd.R_new' (Kd.R_new' (Kd.R_new' ho0 (Kd.R_lt (qR HO816))) (Kd.R_lt (qR HO819))) (Kd.R_lt (qR HO824))) (Kd.R_lt (qR HO832))) (Kd.R_lt (qR HO835))) (Kd.R_lt (qR HO846))) (Kd.R_lt (qR HO849))) (below_size (qB HB))); have HO863 := am_ (Kd.R_lower (Kd.R_new' (Kd.R_new' (Kd.R_new' (Kd.R_new' (Kd.R_new' (Kd.R_new' (Kd.R_new' ho1 (Kd.R_lt (qR HO816))) (Kd.R_lt (qR HO819))) (Kd.R_lt (qR HO824))) (Kd.R_lt (qR HO832))) (Kd.R_lt (qR HO835))) (Kd.R_lt (qR HO846))) (Kd.R_lt (qR HO849))) (below_size (qB HB))); replace HO816 := am_ (Kd.R_mono (Kd.R_told (Kd.R_told (Kd.R_old (qR HO816) hb) (Kd.R_base ho0)) (Kd.R_base ho1)) (fun _ h_ => h_.1)); replace HO819 := am_ (Kd.R_mono (Kd.R_told (Kd.R_told (Kd.R_old (qR HO819) hb) (Kd.R_base ho0)) (Kd.R_base ho1)) (fun _ h_ => h_.1)); replace HO824 := am_ (Kd.R_mono (Kd.R_told (Kd.R_told (Kd.R_old (qR HO824) hb) (Kd.R_base ho0)) (Kd.R_base ho1)) (fun _ h_ => h_.1)); replace HO832 := am_ (Kd.R_mono (Kd.R_told (Kd.R_told (Kd.R_old (qR HO832) hb) (Kd.R_base ho0)) (Kd.R_base ho1)) (fun _ h_ => h_.1)); replace HO835 := am_ (Kd.R_mono (Kd.R_told (Kd.R_told (Kd.R_old (qR HO835) hb) (Kd.R_base ho0)) (Kd.R_base ho1)) (fun _ h_ => h_.1)); replace HO846 := am_ (Kd.R_mono (Kd.R_told (Kd.R_told (Kd.R_old (qR HO846) hb) (Kd.R_base ho0)) (Kd.R_base ho1)) (fun _ h_ => h_.1)); replace HO849 := am_ (Kd.R_mono (Kd.R_told (Kd.R_told (Kd.R_old (qR HO849) hb) (Kd.R_base ho0)) (Kd.R_base ho1)) (fun _ h_ => h_.1)); replace BK825 := bK_ BK825 hb; replace BK839 := bK_ BK839 hb; replace BK853 := bK_ BK853 hb; replace HB := bS_ HB hb; (try clear hb); (try clear ho0); (try clear ho1)) | ((with_reducible refine gate_dst (N := 9) rfl ?_); (try (refine gate_guard (by rfl) ?_; dsimp only)); refine box_event ?hg (N := 9) ?hd (cs := #[.int .i64 0, .int .i64 0, .int .i64 0, .bool false, .slice none 0 0, .slice none 0 0, .int .i64 0, .int .i64 0]) (t := 41) ?hr ?_; (case hd => rfl); (case hg => rfl); (case hr => first | (go_simp; done) | (go_simp; rfl) | ((try (obtain ⟨_, _, rfl⟩ := Kd.R_slice HO816.out)); (try (obtain ⟨_, _, rfl⟩ := Kd.R_slice HO819.out)); (try (obtain ⟨_, _, rfl⟩ := Kd.R_slice HO824.out)); (try (obtain ⟨_, _, rfl⟩ := Kd.R_slice HO832.out)); (try (obtain ⟨_, _, rfl⟩ := Kd.R_slice HO835.out)); (try (obtain ⟨_, _, rfl⟩ := Kd.R_slice HO846.out)); (try (obtain ⟨_, _, rfl⟩ := Kd.R_slice HO849.out)); (try (obtain ⟨_, _, rfl⟩ := Kd.R_slice HO860.out)); (try (obtain ⟨_, _, rfl⟩ := Kd.R_slice HO863.out)); (try (obtain ⟨_, _, rfl⟩ := Kd.R_slice HO873.out)); (try (obtain ⟨_, _, rfl⟩ := Kd.R_slice HO876.out)); (try (obtain ⟨_, _, rfl⟩ := Kd.R_slice HO894.out)); (try (obtain ⟨_, _, rfl⟩ := Kd.R_slice HO897.out)); first | (go_simp; done) | (go_simp; rfl))); intro gb866 hg w40 hbox hb; replace HO816 := rB_ HO816 hb; replace HO819 := rB_ HO819 hb; replace HO824 := rB_ HO824 hb; replace HO832 := rB_ HO832 hb; replace HO835 := rB_ HO835 hb; replace HO846 := rB_ HO846 hb; replace HO849 := rB_ HO849 hb; replace HO860 := rB_ HO860 hb; replace HO863 := rB_ HO863 hb; have BK866 := am_ (hbox); have GW866 := gA_ hg HB; have GE866 := GW866; have IGE866 := gI_ GE866; replace HB := bS_ HB hb; have NB825_866 := am_ ((gN_ hg (qK BK825))); have NB866_825 := am_ ((gM_ hg (qK BK825))); replace BK825 := bK_ BK825 hb; have NB839_866 := am_ ((gN_ hg (qK BK839))); have NB866_839 := am_ ((gM_ hg (qK BK839))); replace BK839 := bK_ BK839 hb; have NB853_866 := am_ ((gN_ hg (qK BK853))); have NB866_853 := am_ ((gM_ hg (qK BK853))); replace BK853 := bK_ BK853 hb; clear hb hbox hg; have hnb41 := NB866_825.out; have hnc41 := NB825_866.out; have hnb42 := NB866_839.out; have hnc42 := NB839_866.out; have hnb43 := NB866_853.out; have hnc43 := NB853_866.out; (try clear zK866); have zK866 := cz8 BK866.out; (try clear fK866); have fK866 := fz8 BK866.out; obtain ⟨Ao45, co45, eo45⟩ := Kd.R_slice HO860.out; subst eo45; obtain ⟨Ao46, co46, eo46⟩ := Kd.R_slice HO863.out; subst eo46) | ((with_reducible refine gate_store (t := 41) (p := 9) rfl ?_); refine store_evs (t := 41) (p := 9) (j := 0) (cs := [.int .i64 t854, .int .i64 t855, .int .i64 t856, .bool t857, .slice Ao45 t858.length co45, .slice Ao46 t861.length co46, .int .i64 t864, .int .i64 t865]) (qK BK866) ?_; intro w47 hw; have n0_ : Aside0 (Kd.R (Kd.int .u8) 5 w47 w.heap.size (fun k_ => nb Ao19 t817.length co19 k_ ∧ nb Ao22 t822.length co22 k_ ∧ nb Ao27 t830.length co27 k_ ∧ nb Ao28 t833.length co28 k_ ∧ nb Ao36 t844.length co36 k_ ∧ nb Ao37 t847.length co37 k_ ∧ nb Ao45 t858.length co45 k_ ∧ nb Ao46 t861.length co46 k_) (.slice Ao18 t814.length co18) t814) := ⟨(by rw [hw]; exact (fR1_ HO816 BK866))⟩; have n1_ : Aside0 (Kd.R (Kd.int .u8) 5 w47 w.heap.size (fun k_ => nb Ao18 t814.length co18 k_ ∧ nb Ao22 t822.length co22 k_ ∧ nb Ao27 t830.length co27 k_ ∧ nb Ao28 t833.length co28 k_ ∧ nb Ao36 t844.length co36 k_ ∧ nb Ao37 t847.length co37 k_ ∧ nb Ao45 t858.length co45 k_ ∧ nb Ao46 t861.length co46 k_) (.slice Ao19 t817.length co19) t817) := ⟨(by rw [hw]; exact (fR1_ HO819 BK866))⟩; have n2_ : Aside0 (Kd.R (Kd.int .u8) 5 w47 w.heap.size (fun k_ => nb Ao18 t814.length co18 k_ ∧ nb Ao19 t817.length co19 k_ ∧ nb Ao27 t830.length co27 k_ ∧ nb Ao28 t833.length co28 k_ ∧ nb Ao36 t844.length co36 k_ ∧ nb Ao37 t847.length co37 k_ ∧ nb Ao45 t858.length co45 k_ ∧ nb Ao46 t861.length co46 k_) (.slice Ao22 t822.length co22) t822) := ⟨(by rw [hw]; exact (fR1_ HO824 BK866))⟩; have n3_ : Aside0 (Kd.R (Kd.int .u8) 5 w47 w.heap.size (fun k_ => nb Ao18 t814.length co18 k_ ∧ nb Ao19 t817.length co19 k_ ∧ nb Ao22 t822.length co22 k_ ∧ nb Ao28 t833.length co28 k_ ∧ nb Ao36 t844.length co36 k_ ∧ nb Ao37 t847.length co37 k_ ∧ nb Ao45 t858.length co45 k_ ∧ nb Ao46 t861.length co46 k_) (.slice Ao27 t830.length co27) t830) := ⟨(by rw [hw]; exact (fR1_ HO832 BK866))⟩; have n4_ : Aside0 (Kd.R (Kd.int .u8) 5 w47 w.heap.size (fun k_ => nb Ao18 t814.length co18 k_ ∧ nb Ao19 t817.length co19 k_ ∧ nb Ao22 t822.length co22 k_ ∧ nb Ao27 t830.length co27 k_ ∧ nb Ao36 t844.length co36 k_ ∧ nb Ao37 t847.length co37 k_ ∧ nb Ao45 t858.length co45 k_ ∧ nb Ao46 t861.length co46 k_) (.slice Ao28 t833.length co28) t833) := ⟨(by rw [hw]; exact (fR1_ HO835 BK866))⟩; have n5_ : Aside0 (Kd.R (Kd.int .u8) 5 w47 w.heap.size (fun k_ => nb Ao18 t814.length co18 k_ ∧ nb Ao19 t817.length co19 k_ ∧ nb Ao22 t822.length co22 k_ ∧ nb Ao27 t830.length co27 k_ ∧ nb Ao28 t833.length co28 k_ ∧ nb Ao37 t847.length co37 k_ ∧ nb Ao45 t858.length co45 k_ ∧ nb Ao46 t861.length co46 k_) (.slice Ao36 t844.length co36) t844) := ⟨(by rw [hw]; exact (fR1_ HO846 BK866))⟩; have n6_ : Aside0 (Kd.R (Kd.int .u8) 5 w47 w.heap.size (fun k_ => nb Ao18 t814.length co18 k_ ∧ nb Ao19 t817.length co19 k_ ∧ nb Ao22 t822.length co22 k_ ∧ nb Ao27 t830.length co27 k_ ∧ nb Ao28 t833.length co28 k_ ∧ nb Ao36 t844.length co36 k_ ∧ nb Ao45 t858.length co45 k_ ∧ nb Ao46 t861.length co46 k_) (.slice Ao37 t847.length co37) t847) := ⟨(by rw [hw]; exact (fR1_ HO849 BK866))⟩; have n7_ : Aside0 (Kd.R (Kd.int .u8) 5 w47 w.heap.size (fun k_ => nb Ao18 t814.length co18 k_ ∧ nb Ao19 t817.length co19 k_ ∧ nb Ao22 t822.length co22 k_ ∧ nb Ao27 t830.length co27 k_ ∧ nb Ao28 t833.length co28 k_ ∧ nb Ao36 t844.length co36 k_ ∧ nb Ao37 t847.length co37 k_ ∧ nb Ao46 t861.length co46 k_) (.slice Ao45 t858.length co45) t858) := ⟨(by rw [hw]; exact (fR1_ HO860 BK866))⟩; have n8_ : Aside0 (Kd.R (Kd.int .u8) 5 w47 w.heap.size (fun k_ => nb Ao18 t814.length co18 k_ ∧ nb Ao19 t817.length co19 k_ ∧ nb Ao22 t822.length co22 k_ ∧ nb Ao27 t830.length co27 k_ ∧ nb Ao28 t833.length co28 k_ ∧ nb Ao36 t844.length co36 k_ ∧ nb Ao37 t847.length co37 k_ ∧ nb Ao45 t858.length co45 k_) (.slice Ao46 t861.length co46) t861) := ⟨(by rw [hw]; exact (fR1_ HO863 BK866))⟩; replace BK825 := sK_ hw BK825 NB825_866; replace BK839 := sK_ hw BK839 NB839_866; replace BK853 := sK_ hw BK853 NB853_866; replace HB := sB_ hw HB; replace BK866 := sW_ hw BK866; clear hw; clear HO816 HO819 HO824 HO832 HO835 HO846 HO849 HO860 HO863; have HO816 := n0_; have HO819 := n1_; have HO824 := n2_; have HO832 := n3_; have HO835 := n4_; have HO846 := n5_; have HO849 := n6_; have HO860 := n7_; have HO863 := n8_; clear n0_ n1_ n2_ n3_ n4_ n5_ n6_ n7_ n8_; (try clear zK866); have zK866 := cz8 BK866.out; (try clear fK866); have fK866 := fz8 BK866.out) | ((with_reducible refine gate_callee (f := 25) rfl ?_); refine gl_ (some 44) Try.func25 #[.agg #[.int .i64 t854, .int .i64 t855, .int .i64 t856, .bool t857, .slice Ao45 t858.length co45, .slice Ao46 t861.length co46, .int .i64 t864, .int .i64 t865]] ?_; (with_reducible refine (impl_Eat.calls k t854 t855 t856 t857 _ _ t858 _ _ t861 t864 t865 t867 t868 t869 t870 t871 t874 t877 t878 _ ?side1 ?side2 ?side3 ?side4 A9.out).mono ?_); (case side1 => exact qC ((Kd.R_reads' HO860.out).2.2)); (case side2 => exact (Kd.R_reads' HO860.out).2.1); (case side3 => exact qC ((Kd.R_reads' HO863.out).2.2)); (case side4 => exact (Kd.R_reads' HO863.out).2.1); rintro e w49 ⟨v872, v875, rfl, ho0, ho1, hb⟩; refine ⟨_, rfl, ?_⟩; have HO873 := am_ (Kd.Q_lower (Kd.Q_new' (Kd.Q_new' (Kd.Q_new' (Kd.Q_new' (Kd.Q_new' (Kd.Q_new' (Kd.Q_new' (Kd.Q_new' (Kd.Q_new' ho0 (Kd.R_lt (qR HO816))) (Kd.R_lt (qR HO819))) (Kd.R_lt (qR HO824))) (Kd.R_lt (qR HO832))) (Kd.R_lt (qR HO835))) (Kd.R_lt (qR HO846))) (Kd.R_lt (qR HO849))) (Kd.R_lt (qR HO860))) (Kd.R_lt (qR HO863))) (below_size (qB HB))); have HO876 := am_ (Kd.R_lower (Kd.R_new' (Kd.R_new' (Kd.R_new' (Kd.R_new' (Kd.R_new' (Kd.R_new' (Kd.R_new' (Kd.R_new' (Kd.R_new' ho1 (Kd.R_lt (qR HO816))) (Kd.R_lt (qR HO819))) (Kd.R_lt (qR HO824))) (Kd.R_lt (qR HO832))) (Kd.R_lt (qR HO835))) (Kd.R_lt (qR HO846))) (Kd.R_lt (qR HO849))) (Kd.R_lt (qR HO860))) (Kd.R_lt (qR HO863))) (below_size (qB HB))); replace HO816 := am_ (Kd.R_mono (Kd.R_told (Kd.R_told (Kd.R_old (qR HO816) hb) (Kd.Q_base ho0)) (Kd.R_base ho1)) (fun _ h_ => h_.1)); replace HO819 := am_ (Kd.R_mono (Kd.R_told (Kd.R_told (Kd.R_old (qR HO819) hb) (Kd.Q_base ho0)) (Kd.R_base ho1)) (fun _ h_ => h_.1)); replace HO824 := am_ (Kd.R_mono (Kd.R_told (Kd.R_told (Kd.R_old (qR HO824) hb) (Kd.Q_base ho0)) (Kd.R_base ho1)) (fun _ h_ => h_.1)); replace HO832 := am_ (Kd.R_mono (Kd.R_told (Kd.R_told (Kd.R_old (qR HO832) hb) (Kd.Q_base ho0)) (Kd.R_base ho1)) (fun _ h_ => h_.1)); replace HO835 := am_ (Kd.R_mono (Kd.R_told (Kd.R_told (Kd.R_old (qR HO835) hb) (Kd.Q_base ho0)) (Kd.R_base ho1)) (fun _ h_ => h_.1)); replace HO846 := am_ (Kd.R_mono (Kd.R_told (Kd.R_told (Kd.R_old (qR HO846) hb) (Kd.Q_base ho0)) (Kd.R_base ho1)) (fun _ h_ => h_.1)); replace HO849 := am_ (Kd.R_mono (Kd.R_told (Kd.R_told (Kd.R_old (qR HO849) hb) (Kd.Q_base ho0)) (Kd.R_base ho1)) (fun _ h_ => h_.1)); replace HO860 := am_ (Kd.R_mono (Kd.R_told (Kd.R_told (Kd.R_old (qR HO860) hb) (Kd.Q_base ho0)) (Kd.R_base ho1)) (fun _ h_ => h_.1)); replace HO863 := am_ (Kd.R_mono (Kd.R_told (Kd.R_told (Kd.R_old (qR HO863) hb) (Kd.Q_base ho0)) (Kd.R_base ho1)) (fun _ h_ => h_.1)); replace BK825 := bK_ BK825 hb; replace BK839 := bK_ BK839 hb; replace BK853 := bK_ BK853 hb; replace BK866 := bK_ BK866 hb; replace HB := bS_ HB hb; (try clear hb); (try clear ho0); (try clear ho1)) | ((with_reducible refine gate_dst (N := 10) rfl ?_); (try (refine gate_guard (by rfl) ?_; dsimp only)); refine box_event ?hg (N := 10) ?hd (cs := #[.int .i64 0, .int .i64 0, .int .i64 0, .bool false, .slice none 0 0, .slice none 0 0, .int .i64 0, .int .i64 0]) (t := 41) ?hr ?_; (case hd => rfl); (case hg => rfl); (case hr => first | (go_simp; done) | (go_simp; rfl) | ((try (obtain ⟨_, _, rfl⟩ := Kd.R_slice HO816.out)); (try (obtain ⟨_, _, rfl⟩ := Kd.R_slice HO819.out)); (try (obtain ⟨_, _, rfl⟩ := Kd.R_slice HO824.out)); (try (obtain ⟨_, _, rfl⟩ := Kd.R_slice HO832.out)); (try (obtain ⟨_, _, rfl⟩ := Kd.R_slice HO835.out)); (try (obtain ⟨_, _, rfl⟩ := Kd.R_slice HO846.out)); (try (obtain ⟨_, _, rfl⟩ := Kd.R_slice HO849.out)); (try (obtain ⟨_, _, rfl⟩ := Kd.R_slice HO860.out)); (try (obtain ⟨_, _, rfl⟩ := Kd.R_slice HO863.out)); (try (obtain ⟨_, _, rfl⟩ := Kd.R_slice HO873.out)); (try (obtain ⟨_, _, rfl⟩ := Kd.R_slice HO876.out)); (try (obtain ⟨_, _, rfl⟩ := Kd.R_slice HO894.out)); (try (obtain ⟨_, _, rfl⟩ := Kd.R_slice HO897.out)); first | (go_simp; done) | (go_simp; rfl))); intro gb879 hg w50 hbox hb; replace HO816 := rB_ HO816 hb; replace HO819 := rB_ HO819 hb; replace HO824 := rB_ HO824 hb; replace HO832 := rB_ HO832 hb; replace HO835 := rB_ HO835 hb; replace HO846 := rB_ HO846 hb; replace HO849 := rB_ HO849 hb; replace HO860 := rB_ HO860 hb; replace HO863 := rB_ HO863 hb; replace HO873 := lQ_ HO873 hb; replace HO876 := rB_ HO876 hb; have BK879 := am_ (hbox); have GW879 := gA_ hg HB; have GE879 := GW879; have IGE879 := gI_ GE879; replace HB := bS_ HB hb; have NB825_879 := am_ ((gN_ hg (qK BK825))); have NB879_825 := am_ ((gM_ hg (qK BK825))); replace BK825 := bK_ BK825 hb; have NB839_879 := am_ ((gN_ hg (qK BK839))); have NB879_839 := am_ ((gM_ hg (qK BK839))); replace BK839 := bK_ BK839 hb; have NB853_879 := am_ ((gN_ hg (qK BK853))); have NB879_853 := am_ ((gM_ hg (qK BK853))); replace BK853 := bK_ BK853 hb; have NB866_879 := am_ ((gN_ hg (qK BK866))); have NB879_866 := am_ ((gM_ hg (qK BK866))); replace BK866 := bK_ BK866 hb; clear hb hbox hg; have hnb51 := NB879_825.out; have hnc51 := NB825_879.out; have hnb52 := NB879_839.out; have hnc52 := NB839_879.out; have hnb53 := NB879_853.out; have hnc53 := NB853_879.out; have hnb54 := NB879_866.out; have hnc54 := NB866_879.out; (try clear zK879); have zK879 := cz8 BK879.out; (try clear fK879); have fK879 := fz8 BK879.out; obtain ⟨Ao56, co56, eo56, _⟩ := Kd.Q_slice HO873.out; subst eo56; obtain ⟨Ao57, co57, eo57⟩ := Kd.R_slice HO876.out; subst eo57) | ((with_reducible refine gate_store (t := 41) (p := 10) rfl ?_); refine store_evs (t := 41) (p := 10) (j := 0) (cs := [.int .i64 t867, .int .i64 t868, .int .i64 t869, .bool t870, .slice Ao56 t871.length co56, .slice Ao57 t874.length co57, .int .i64 t877, .int .i64 t878]) (qK BK879) ?_; intro w58 hw; have n0_ : Aside0 (Kd.R (Kd.int .u8) 5 w58 w.heap.size (fun k_ => nb Ao19 t817.length co19 k_ ∧ nb Ao22 t822.length co22 k_ ∧ nb Ao27 t830.length co27 k_ ∧ nb Ao28 t833.length co28 k_ ∧ nb Ao36 t844.length co36 k_ ∧ nb Ao37 t847.length co37 k_ ∧ nb Ao45 t858.length co45 k_ ∧ nb Ao46 t861.length co46 k_ ∧ nb Ao56 t871.length co56 k_ ∧ nb Ao57 t874.length co57 k_) (.slice Ao18 t814.length co18) t814) := ⟨(by rw [hw]; exact (fR1_ HO816 BK879))⟩; have n1_ : Aside0 (Kd.R (Kd.int .u8) 5 w58 w.heap.size (fun k_ => nb Ao18 t814.length co18 k_ ∧ nb Ao22 t822.length co22 k_ ∧ nb Ao27 t830.length co27 k_ ∧ nb Ao28 t833.length co28 k_ ∧ nb Ao36 t844.length co36 k_ ∧ nb Ao37 t847.length co37 k_ ∧ nb Ao45 t858.length co45 k_ ∧ nb Ao46 t861.length co46 k_ ∧ nb Ao56 t871.length co56 k_ ∧ nb Ao57 t874.length co57 k_) (.slice Ao19 t817.length co19) t817) := ⟨(by rw [hw]; exact (fR1_ HO819 BK879))⟩; have n2_ : Aside0 (Kd.R (Kd.int .u8) 5 w58 w.heap.size (fun k_ => nb Ao18 t814.length co18 k_ ∧ nb Ao19 t817.length co19 k_ ∧ nb Ao27 t830.length co27 k_ ∧ nb Ao28 t833.length co28 k_ ∧ nb Ao36 t844.length co36 k_ ∧ nb Ao37 t847.length co37 k_ ∧ nb Ao45 t858.length co45 k_ ∧ nb Ao46 t861.length co46 k_ ∧ nb Ao56 t871.length co56 k_ ∧ nb Ao57 t874.length co57 k_) (.slice Ao22 t822.length co22) t822) := ⟨(by rw [hw]; exact (fR1_ HO824 BK879))⟩; have n3_ : Aside0 (Kd.R (Kd.int .u8) 5 w58 w.heap.size (fun k_ => nb Ao18 t814.length co18 k_ ∧ nb Ao19 t817.length co19 k_ ∧ nb Ao22 t822.length co22 k_ ∧ nb Ao28 t833.length co28 k_ ∧ nb Ao36 t844.length co36 k_ ∧ nb Ao37 t847.length co37 k_ ∧ nb Ao45 t858.length co45 k_ ∧ nb Ao46 t861.length co46 k_ ∧ nb Ao56 t871.length co56 k_ ∧ nb Ao57 t874.length co57 k_) (.slice Ao27 t830.length co27) t830) := ⟨(by rw [hw]; exact (fR1_ HO832 BK879))⟩; have n4_ : Aside0 (Kd.R (Kd.int .u8) 5 w58 w.heap.size (fun k_ => nb Ao18 t814.length co18 k_ ∧ nb Ao19 t817.length co19 k_ ∧ nb Ao22 t822.length co22 k_ ∧ nb Ao27 t830.length co27 k_ ∧ nb Ao36 t844.length co36 k_ ∧ nb Ao37 t847.length co37 k_ ∧ nb Ao45 t858.length co45 k_ ∧ nb Ao46 t861.length co46 k_ ∧ nb Ao56 t871.length co56 k_ ∧ nb Ao57 t874.length co57 k_) (.slice Ao28 t833.length co28) t833) := ⟨(by rw [hw]; exact (fR1_ HO835 BK879))⟩; have n5_ : Aside0 (Kd.R (Kd.int .u8) 5 w58 w.heap.size (fun k_ => nb Ao18 t814.length co18 k_ ∧ nb Ao19 t817.length co19 k_ ∧ nb Ao22 t822.length co22 k_ ∧ nb Ao27 t830.length co27 k_ ∧ nb Ao28 t833.length co28 k_ ∧ nb Ao37 t847.length co37 k_ ∧ nb Ao45 t858.length co45 k_ ∧ nb Ao46 t861.length co46 k_ ∧ nb Ao56 t871.length co56 k_ ∧ nb Ao57 t874.length co57 k_) (.slice Ao36 t844.length co36) t844) := ⟨(by rw [hw]; exact (fR1_ HO846 BK879))⟩; have n6_ : Aside0 (Kd.R (Kd.int .u8) 5 w58 w.heap.size (fun k_ => nb Ao18 t814.length co18 k_ ∧ nb Ao19 t817.length co19 k_ ∧ nb Ao22 t822.length co22 k_ ∧ nb Ao27 t830.length co27 k_ ∧ nb Ao28 t833.length co28 k_ ∧ nb Ao36 t844.length co36 k_ ∧ nb Ao45 t858.length co45 k_ ∧ nb Ao46 t861.length co46 k_ ∧ nb Ao56 t871.length co56 k_ ∧ nb Ao57 t874.length co57 k_) (.slice Ao37 t847.length co37) t847) := ⟨(by rw [hw]; exact (fR1_ HO849 BK879))⟩; have n7_ : Aside0 (Kd.R (Kd.int .u8) 5 w58 w.heap.size (fun k_ => nb Ao18 t814.length co18 k_ ∧ nb Ao19 t817.length co19 k_ ∧ nb Ao22 t822.length co22 k_ ∧ nb Ao27 t830.length co27 k_ ∧ nb Ao28 t833.length co28 k_ ∧ nb Ao36 t844.length co36 k_ ∧ nb Ao37 t847.length co37 k_ ∧ nb Ao46 t861.length co46 k_ ∧ nb Ao56 t871.length co56 k_ ∧ nb Ao57 t874.length co57 k_) (.slice Ao45 t858.length co45) t858) := ⟨(by rw [hw]; exact (fR1_ HO860 BK879))⟩; have n8_ : Aside0 (Kd.R (Kd.int .u8) 5 w58 w.heap.size (fun k_ => nb Ao18 t814.length co18 k_ ∧ nb Ao19 t817.length co19 k_ ∧ nb Ao22 t822.length co22 k_ ∧ nb Ao27 t830.length co27 k_ ∧ nb Ao28 t833.length co28 k_ ∧ nb Ao36 t844.length co36 k_ ∧ nb Ao37 t847.length co37 k_ ∧ nb Ao45 t858.length co45 k_ ∧ nb Ao56 t871.length co56 k_ ∧ nb Ao57 t874.length co57 k_) (.slice Ao46 t861.length co46) t861) := ⟨(by rw [hw]; exact (fR1_ HO863 BK879))⟩; have n9_ : Aside0 (Kd.Q (Kd.int .u8) 5 w58 w.heap.size (fun k_ => nb Ao18 t814.length co18 k_ ∧ nb Ao19 t817.length co19 k_ ∧ nb Ao22 t822.length co22 k_ ∧ nb Ao27 t830.length co27 k_ ∧ nb Ao28 t833.length co28 k_ ∧ nb Ao36 t844.length co36 k_ ∧ nb Ao37 t847.length co37 k_ ∧ nb Ao45 t858.length co45 k_ ∧ nb Ao46 t861.length co46 k_ ∧ nb Ao57 t874.length co57 k_) (.slice Ao56 t871.length co56) t871) := ⟨(by rw [hw]; exact (fQ1_ HO873 BK879))⟩; have n10_ : Aside0 (Kd.R (Kd.int .u8) 5 w58 w.heap.size (fun k_ => nb Ao18 t814.length co18 k_ ∧ nb Ao19 t817.length co19 k_ ∧ nb Ao22 t822.length co22 k_ ∧ nb Ao27 t830.length co27 k_ ∧ nb Ao28 t833.length co28 k_ ∧ nb Ao36 t844.length co36 k_ ∧ nb Ao37 t847.length co37 k_ ∧ nb Ao45 t858.length co45 k_ ∧ nb Ao46 t861.length co46 k_ ∧ nb Ao56 t871.length co56 k_) (.slice Ao57 t874.length co57) t874) := ⟨(by rw [hw]; exact (fR1_ HO876 BK879))⟩; replace BK825 := sK_ hw BK825 NB825_879; replace BK839 := sK_ hw BK839 NB839_879; replace BK853 := sK_ hw BK853 NB853_879; replace BK866 := sK_ hw BK866 NB866_879; replace HB := sB_ hw HB; replace BK879 := sW_ hw BK879; clear hw; clear HO816 HO819 HO824 HO832 HO835 HO846 HO849 HO860 HO863 HO873 HO876; have HO816 := n0_; have HO819 := n1_; have HO824 := n2_; have HO832 := n3_; have HO835 := n4_; have HO846 := n5_; have HO849 := n6_; have HO860 := n7_; have HO863 := n8_; have HO873 := n9_; have HO876 := n10_; clear n0_ n1_ n2_ n3_ n4_ n5_ n6_ n7_ n8_ n9_ n10_; (try clear zK866); have zK866 := cz8 BK866.out; (try clear fK866); have fK866 := fz8 BK866.out) | ((with_reducible refine gate_callee (f := 26) rfl ?_); refine gl_ (some 47) Try.func26 #[.agg #[.int .i64 t854, .int .i64 t855, .int .i64 t856, .bool t857, .slice Ao45 t858.length co45, .slice Ao46 t861.length co46, .int .i64 t864, .int .i64 t865]] ?_; (with_reducible refine (impl_Peek.calls k t854 t855 t856 t857 _ _ t858 _ _ t861 t864 t865 t880 t881 t882 t883 _ ?side1 ?side2 ?side3 ?side4 A10.out).mono ?_); (case side1 => exact qC ((Kd.R_reads' HO860.out).2.2)); (case side2 => exact (Kd.R_reads' HO860.out).2.1); (case side3 => exact qC ((Kd.R_reads' HO863.out).2.2)); (case side4 => exact (Kd.R_reads' HO863.out).2.1); rintro e w60 ⟨rfl, hb⟩; refine ⟨_, rfl, ?_⟩; replace HO816 := rB_ HO816 hb; replace HO819 := rB_ HO819 hb; replace HO824 := rB_ HO824 hb; replace HO832 := rB_ HO832 hb; replace HO835 := rB_ HO835 hb; replace HO846 := rB_ HO846 hb; replace HO849 := rB_ HO849 hb; replace HO860 := rB_ HO860 hb; replace HO863 := rB_ HO863 hb; replace HO873 := lQ_ HO873 hb; replace HO876 := rB_ HO876 hb; replace BK825 := bK_ BK825 hb; replace BK839 := bK_ BK839 hb; replace BK853 := bK_ BK853 hb; replace BK866 := bK_ BK866 hb; replace BK879 := bK_ BK879 hb; replace HB := bS_ HB hb; (try clear hb)) | ((with_reducible refine gate_dst (N := 11) rfl ?_); (try (refine gate_guard (by rfl) ?_; dsimp only)); refine box_event ?hg (N := 11) ?hd (cs := #[.int .i64 0, .string (⟨#[]⟩ : ByteArray), .int .i64 0]) (t := 49) ?hr ?_; (case hd => rfl); (case hg => rfl); (case hr => first | (go_simp; done) | (go_simp; rfl) | ((try (obtain ⟨_, _, rfl⟩ := Kd.R_slice HO816.out)); (try (obtain ⟨_, _, rfl⟩ := Kd.R_slice HO819.out)); (try (obtain ⟨_, _, rfl⟩ := Kd.R_slice HO824.out)); (try (obtain ⟨_, _, rfl⟩ := Kd.R_slice HO832.out)); (try (obtain ⟨_, _, rfl⟩ := Kd.R_slice HO835.out)); (try (obtain ⟨_, _, rfl⟩ := Kd.R_slice HO846.out)); (try (obtain ⟨_, _, rfl⟩ := Kd.R_slice HO849.out)); (try (obtain ⟨_, _, rfl⟩ := Kd.R_slice HO860.out)); (try (obtain ⟨_, _, rfl⟩ := Kd.R_slice HO863.out)); (try (obtain ⟨_, _, rfl⟩ := Kd.R_slice HO873.out)); (try (obtain ⟨_, _, rfl⟩ := Kd.R_slice HO876.out)); (try (obtain ⟨_, _, rfl⟩ := Kd.R_slice HO894.out)); (try (obtain ⟨_, _, rfl⟩ := Kd.R_slice HO897.out)); first | (go_simp; done) | (go_simp; rfl))); intro gb884 hg w61 hbox hb; replace HO816 := rB_ HO816 hb; replace HO819 := rB_ HO819 hb; replace HO824 := rB_ HO824 hb; replace HO832 := rB_ HO832 hb; replace HO835 := rB_ HO835 hb; replace HO846 := rB_ HO846 hb; replace HO849 := rB_ HO849 hb; replace HO860 := rB_ HO860 hb; replace HO863 := rB_ HO863 hb; replace HO873 := lQ_ HO873 hb; replace HO876 := rB_ HO876 hb; have BK884 := am_ (hbox); have GW884 := gA_ hg HB; have GE884 := GW884; have IGE884 := gI_ GE884; replace HB := bS_ HB hb; have NB825_884 := am_ ((gN_ hg (qK BK825))); have NB884_825 := am_ ((gM_ hg (qK BK825))); replace BK825 := bK_ BK825 hb; have NB839_884 := am_ ((gN_ hg (qK BK839))); have NB884_839 := am_ ((gM_ hg (qK BK839))); replace BK839 := bK_ BK839 hb; have NB853_884 := am_ ((gN_ hg (qK BK853))); have NB884_853 := am_ ((gM_ hg (qK BK853))); replace BK853 := bK_ BK853 hb; have NB866_884 := am_ ((gN_ hg (qK BK866))); have NB884_866 := am_ ((gM_ hg (qK BK866))); replace BK866 := bK_ BK866 hb; have NB879_884 := am_ ((gN_ hg (qK BK879))); have NB884_879 := am_ ((gM_ hg (qK BK879))); replace BK879 := bK_ BK879 hb; clear hb hbox hg; have hnb62 := NB884_825.out; have hnc62 := NB825_884.out; have hnb63 := NB884_839.out; have hnc63 := NB839_884.out; have hnb64 := NB884_853.out; have hnc64 := NB853_884.out; have hnb65 := NB884_866.out; have hnc65 := NB866_884.out; have hnb66 := NB884_879.out; have hnc66 := NB879_884.out; (try clear zK884); have zK884 := cz3 BK884.out; (try clear fK884); have fK884 := fz3 BK884.out) | ((with_reducible refine gate_store (t := 49) (p := 11) rfl ?_); refine store_evs (t := 49) (p := 11) (j := 0) (cs := [.int .i64 t880, .string t881, .int .i64 t882]) (qK BK884) ?_; intro w68 hw; have n0_ := fR0_ hw HO816 BK884; have n1_ := fR0_ hw HO819 BK884; have n2_ := fR0_ hw HO824 BK884; have n3_ := fR0_ hw HO832 BK884; have n4_ := fR0_ hw HO835 BK884; have n5_ := fR0_ hw HO846 BK884; have n6_ := fR0_ hw HO849 BK884; have n7_ := fR0_ hw HO860 BK884; have n8_ := fR0_ hw HO863 BK884; have n9_ := fQ0_ hw HO873 BK884; have n10_ := fR0_ hw HO876 BK884; replace BK825 := sK_ hw BK825 NB825_884; replace BK839 := sK_ hw BK839 NB839_884; replace BK853 := sK_ hw BK853 NB853_884; replace BK866 := sK_ hw BK866 NB866_884; replace BK879 := sK_ hw BK879 NB879_884; replace HB := sB_ hw HB; replace BK884 := sW_ hw BK884; clear hw; clear HO816 HO819 HO824 HO832 HO835 HO846 HO849 HO860 HO863 HO873 HO876; have HO816 := n0_; have HO819 := n1_; have HO824 := n2_; have HO832 := n3_; have HO835 := n4_; have HO846 := n5_; have HO849 := n6_; have HO860 := n7_; have HO863 := n8_; have HO873 := n9_; have HO876 := n10_; clear n0_ n1_ n2_ n3_ n4_ n5_ n6_ n7_ n8_ n9_ n10_; (try clear zK866); have zK866 := cz8 BK866.out; (try clear fK866); have fK866 := fz8 BK866.out) | ((with_reducible refine gate_callee (f := 27) rfl ?_); refine gl_ (some 52) Try.func27 #[.agg #[.int .i64 t854, .int .i64 t855, .int .i64 t856, .bool t857, .slice Ao45 t858.length co45, .slice Ao46 t861.length co46, .int .i64 t864, .int .i64 t865]] ?_; (with_reducible refine (spec_Peek.calls k t854 t855 t856 t857 _ _ t858 _ _ t861 t864 t865 t885 t886 t887 t888 _ ?side1 ?side2 ?side3 ?side4 A11.out).mono ?_); (case side1 => exact qC ((Kd.R_reads' HO860.out).2.2)); (case side2 => exact (Kd.R_reads' HO860.out).2.1); (case side3 => exact qC ((Kd.R_reads' HO863.out).2.2)); (case side4 => exact (Kd.R_reads' HO863.out).2.1); rintro e w70 ⟨rfl, hb⟩; refine ⟨_, rfl, ?_⟩; replace HO816 := rB_ HO816 hb; replace HO819 := rB_ HO819 hb; replace HO824 := rB_ HO824 hb; replace HO832 := rB_ HO832 hb; replace HO835 := rB_ HO835 hb; replace HO846 := rB_ HO846 hb; replace HO849 := rB_ HO849 hb; replace HO860 := rB_ HO860 hb; replace HO863 := rB_ HO863 hb; replace HO873 := lQ_ HO873 hb; replace HO876 := rB_ HO876 hb; replace BK825 := bK_ BK825 hb; replace BK839 := bK_ BK839 hb; replace BK853 := bK_ BK853 hb; replace BK866 := bK_ BK866 hb; replace BK879 := bK_ BK879 hb; replace BK884 := bK_ BK884 hb; replace HB := bS_ HB hb; (try clear hb)) | ((with_reducible refine gate_dst (N := 13) rfl ?_); (try (refine gate_guard (by rfl) ?_; dsimp only)); refine box_event ?hg (N := 13) ?hd (cs := #[.int .i64 0, .string (⟨#[]⟩ : ByteArray), .int .i64 0]) (t := 49) ?hr ?_; (case hd => rfl); (case hg => rfl); (case hr => first | (go_simp; done) | (go_simp; rfl) | ((try (obtain ⟨_, _, rfl⟩ := Kd.R_slice HO816.out)); (try (obtain ⟨_, _, rfl⟩ := Kd.R_slice HO819.out)); (try (obtain ⟨_, _, rfl⟩ := Kd.R_slice HO824.out)); (try (obtain ⟨_, _, rfl⟩ := Kd.R_slice HO832.out)); (try (obtain ⟨_, _, rfl⟩ := Kd.R_slice HO835.out)); (try (obtain ⟨_, _, rfl⟩ := Kd.R_slice HO846.out)); (try (obtain ⟨_, _, rfl⟩ := Kd.R_slice HO849.out)); (try (obtain ⟨_, _, rfl⟩ := Kd.R_slice HO860.out)); (try (obtain ⟨_, _, rfl⟩ := Kd.R_slice HO863.out)); (try (obtain ⟨_, _, rfl⟩ := Kd.R_slice HO873.out)); (try (obtain ⟨_, _, rfl⟩ := Kd.R_slice HO876.out)); (try (obtain ⟨_, _, rfl⟩ := Kd.R_slice HO894.out)); (try (obtain ⟨_, _, rfl⟩ := Kd.R_slice HO897.out)); first | (go_simp; done) | (go_simp; rfl))); intro gb889 hg w71 hbox hb; replace HO816 := rB_ HO816 hb; replace HO819 := rB_ HO819 hb; replace HO824 := rB_ HO824 hb; replace HO832 := rB_ HO832 hb; replace HO835 := rB_ HO835 hb; replace HO846 := rB_ HO846 hb; replace HO849 := rB_ HO849 hb; replace HO860 := rB_ HO860 hb; replace HO863 := rB_ HO863 hb; replace HO873 := lQ_ HO873 hb; replace HO876 := rB_ HO876 hb; have BK889 := am_ (hbox); have GW889 := gA_ hg HB; have GE889 := GW889; have IGE889 := gI_ GE889; replace HB := bS_ HB hb; have NB825_889 := am_ ((gN_ hg (qK BK825))); have NB889_825 := am_ ((gM_ hg (qK BK825))); replace BK825 := bK_ BK825 hb; have NB839_889 := am_ ((gN_ hg (qK BK839))); have NB889_839 := am_ ((gM_ hg (qK BK839))); replace BK839 := bK_ BK839 hb; have NB853_889 := am_ ((gN_ hg (qK BK853))); have NB889_853 := am_ ((gM_ hg (qK BK853))); replace BK853 := bK_ BK853 hb; have NB866_889 := am_ ((gN_ hg (qK BK866))); have NB889_866 := am_ ((gM_ hg (qK BK866))); replace BK866 := bK_ BK866 hb; have NB879_889 := am_ ((gN_ hg (qK BK879))); have NB889_879 := am_ ((gM_ hg (qK BK879))); replace BK879 := bK_ BK879 hb; have NB884_889 := am_ ((gN_ hg (qK BK884))); have NB889_884 := am_ ((gM_ hg (qK BK884))); replace BK884 := bK_ BK884 hb; clear hb hbox hg; have hnb72 := NB889_825.out; have hnc72 := NB825_889.out; have hnb73 := NB889_839.out; have hnc73 := NB839_889.out; have hnb74 := NB889_853.out; have hnc74 := NB853_889.out; have hnb75 := NB889_866.out; have hnc75 := NB866_889.out; have hnb76 := NB889_879.out; have hnc76 := NB879_889.out; have hnb77 := NB889_884.out; have hnc77 := NB884_889.out; (try clear zK889); have zK889 := cz3 BK889.out; (try clear fK889); have fK889 := fz3 BK889.out) | ((with_reducible refine gate_store (t := 49) (p := 13) rfl ?_); refine store_evs (t := 49) (p := 13) (j := 0) (cs := [.int .i64 t885, .string t886, .int .i64 t887]) (qK BK889) ?_; intro w79 hw; have n0_ := fR0_ hw HO816 BK889; have n1_ := fR0_ hw HO819 BK889; have n2_ := fR0_ hw HO824 BK889; have n3_ := fR0_ hw HO832 BK889; have n4_ := fR0_ hw HO835 BK889; have n5_ := fR0_ hw HO846 BK889; have n6_ := fR0_ hw HO849 BK889; have n7_ := fR0_ hw HO860 BK889; have n8_ := fR0_ hw HO863 BK889; have n9_ := fQ0_ hw HO873 BK889; have n10_ := fR0_ hw HO876 BK889; replace BK825 := sK_ hw BK825 NB825_889; replace BK839 := sK_ hw BK839 NB839_889; replace BK853 := sK_ hw BK853 NB853_889; replace BK866 := sK_ hw BK866 NB866_889; replace BK879 := sK_ hw BK879 NB879_889; replace BK884 := sK_ hw BK884 NB884_889; replace HB := sB_ hw HB; replace BK889 := sW_ hw BK889; clear hw; clear HO816 HO819 HO824 HO832 HO835 HO846 HO849 HO860 HO863 HO873 HO876; have HO816 := n0_; have HO819 := n1_; have HO824 := n2_; have HO832 := n3_; have HO835 := n4_; have HO846 := n5_; have HO849 := n6_; have HO860 := n7_; have HO863 := n8_; have HO873 := n9_; have HO876 := n10_; clear n0_ n1_ n2_ n3_ n4_ n5_ n6_ n7_ n8_ n9_ n10_) | ((with_reducible refine gate_callee (f := 28) rfl ?_); refine gl_ (some 57) Try.func28 #[.slice A0 l0.length c0] ?_; (with_reducible refine (spec_DrawFree.calls k _ _ l0 t890 t891 t892 _ ?side1 ?side2 A12.out).mono ?_); (case side1 => exact qC (Kd.C_below HR0.out HB.out)); (case side2 => exact HC0.out); rintro e w80 ⟨v893, rfl, ho0, hb⟩; refine ⟨_, rfl, ?_⟩; have HO894 := am_ (Kd.S_lower (Kd.S_newB (Kd.S_newB (Kd.S_newB (Kd.S_newB (Kd.S_newB (Kd.S_new' (Kd.S_new' (Kd.S_new' (Kd.S_new' (Kd.S_new' (Kd.S_new' (Kd.S_new' (Kd.S_new' (Kd.S_new' (Kd.S_new' (Kd.S_new' ho0 (Kd.R_lt (qR HO816))) (Kd.R_lt (qR HO819))) (Kd.R_lt (qR HO824))) (Kd.R_lt (qR HO832))) (Kd.R_lt (qR HO835))) (Kd.R_lt (qR HO846))) (Kd.R_lt (qR HO849))) (Kd.R_lt (qR HO860))) (Kd.R_lt (qR HO863))) (Kd.Q_lt (qQ HO873))) (Kd.R_lt (qR HO876))) (qK BK825)) (qK BK839)) (qK BK853)) (qK BK866)) (qK BK879)) (below_size (qB HB))); replace HO816 := rB_ HO816 hb; replace HO819 := rB_ HO819 hb; replace HO824 := rB_ HO824 hb; replace HO832 := rB_ HO832 hb; replace HO835 := rB_ HO835 hb; replace HO846 := rB_ HO846 hb; replace HO849 := rB_ HO849 hb; replace HO860 := rB_ HO860 hb; replace HO863 := rB_ HO863 hb; replace HO873 := lQ_ HO873 hb; replace HO876 := rB_ HO876 hb; replace BK825 := bK_ BK825 hb; replace BK839 := bK_ BK839 hb; replace BK853 := bK_ BK853 hb; replace BK866 := bK_ BK866 hb; replace BK879 := bK_ BK879 hb; replace BK884 := bK_ BK884 hb; replace BK889 := bK_ BK889 hb; replace HB := bS_ HB hb; (try clear hb); (try clear ho0); obtain ⟨Ao81, co81, eo81⟩ := Kd.S_slice HO894.out; subst eo81) | ((with_reducible refine gate_callee (f := 29) rfl ?_); refine gl_ (some 64) Try.func29 #[.slice Ao81 t890.length co81, .int .i64 t891, .int .i64 t892] ?_; (with_reducible refine (impl_Free.calls k _ _ t890 t891 t892 t895 _ ?side1 ?side2 A13.out).mono ?_); (case side1 => exact qC ((Kd.S_reads' HO894.out).2.2)); (case side2 => exact (Kd.S_reads' HO894.out).2.1); rintro e w82 ⟨v896, rfl, ho0, hb⟩; refine ⟨_, rfl, ?_⟩; have HO897 := am_ (Kd.S_lower (Kd.S_newB (Kd.S_newB (Kd.S_newB (Kd.S_newB (Kd.S_newB (Kd.S_new' (Kd.S_new' (Kd.S_new' (Kd.S_new' (Kd.S_new' (Kd.S_new' (Kd.S_new' (Kd.S_new' (Kd.S_new' (Kd.S_new' (Kd.S_new' (Kd.S_new' ho0 (Kd.R_lt (qR HO816))) (Kd.R_lt (qR HO819))) (Kd.R_lt (qR HO824))) (Kd.R_lt (qR HO832))) (Kd.R_lt (qR HO835))) (Kd.R_lt (qR HO846))) (Kd.R_lt (qR HO849))) (Kd.R_lt (qR HO860))) (Kd.R_lt (qR HO863))) (Kd.Q_lt (qQ HO873))) (Kd.R_lt (qR HO876))) (Kd.S_lt (qS HO894))) (qK BK825)) (qK BK839)) (qK BK853)) (qK BK866)) (qK BK879)) (below_size (qB HB))); replace HO816 := rB_ HO816 hb; replace HO819 := rB_ HO819 hb; replace HO824 := rB_ HO824 hb; replace HO832 := rB_ HO832 hb; replace HO835 := rB_ HO835 hb; replace HO846 := rB_ HO846 hb; replace HO849 := rB_ HO849 hb; replace HO860 := rB_ HO860 hb; replace HO863 := rB_ HO863 hb; replace HO873 := lQ_ HO873 hb; replace HO876 := rB_ HO876 hb; replace HO894 := am_ (Kd.S_elder' (qS HO894) (Kd.S_base ho0) hb); replace BK825 := bK_ BK825 hb; replace BK839 := bK_ BK839 hb; replace BK853 := bK_ BK853 hb; replace BK866 := bK_ BK866 hb; replace BK879 := bK_ BK879 hb; replace BK884 := bK_ BK884 hb; replace BK889 := bK_ BK889 hb; replace HB := bS_ HB hb; (try clear hb); (try clear ho0)))
 (try simp only [Act.put, List.setIfInBounds_toArray, List.set_cons_zero, List.set_cons_succ])
 go_cut [100] (fun v100 wc => ∃ (kq : Nat) (x100_13 : Bool), v100 = .bool x100_13 ∧ Aside0 (laws_FnSocks.j0 kq l0 t822 t838 t883 t890 t895 x100_13 t810 t811 t812 t813 t814 t817 t820 t821 t826 t827 t828 t829 t830 t833 t836 t837 t854 t855 t856 t857 t858 t861 t864 t865 t867 t868 t869 t870 t871 t874 t877 t878 t880 t881 t882 = some r) ∧ Aside0 (kq ≤ k) ∧ Aside0 (Kd.R (Kd.int .u8) 5 wc w.heap.size (fun k_ => nb Ao18 t814.length co18 k_ ∧ nb Ao19 t817.length co19 k_ ∧ nb Ao27 t830.length co27 k_ ∧ nb Ao28 t833.length co28 k_ ∧ nb Ao36 t844.length co36 k_ ∧ nb Ao37 t847.length co37 k_ ∧ nb Ao45 t858.length co45 k_ ∧ nb Ao46 t861.length co46 k_ ∧ nb Ao56 t871.length co56 k_ ∧ nb Ao57 t874.length co57 k_) (.slice Ao22 t822.length co22) t822) ∧ Aside0 (Kd.S k41 41 wc w.heap.size (fun k_ => nb Ao22 t822.length co22 k_ ∧ nv v896 k_ ∧ nb Ao18 t814.length co18 k_ ∧ nb Ao19 t817.length co19 k_ ∧ nb Ao27 t830.length co27 k_ ∧ nb Ao28 t833.length co28 k_ ∧ nb Ao36 t844.length co36 k_ ∧ nb Ao37 t847.length co37 k_ ∧ nb Ao45 t858.length co45 k_ ∧ nb Ao46 t861.length co46 k_ ∧ nb Ao56 t871.length co56 k_ ∧ nb Ao57 t874.length co57 k_ ∧ k_ ≠ gb825 ∧ k_ ≠ gb839 ∧ k_ ≠ gb853 ∧ k_ ≠ gb866 ∧ k_ ≠ gb879) (.slice Ao81 t890.length co81) t890) ∧ Aside0 (Kd.S k41 41 wc w.heap.size (fun k_ => nb Ao22 t822.length co22 k_ ∧ nb Ao81 t890.length co81 k_ ∧ nb Ao18 t814.length co18 k_ ∧ nb Ao19 t817.length co19 k_ ∧ nb Ao27 t830.length co27 k_ ∧ nb Ao28 t833.length co28 k_ ∧ nb Ao36 t844.length co36 k_ ∧ nb Ao37 t847.length co37 k_ ∧ nb Ao45 t858.length co45 k_ ∧ nb Ao46 t861.length co46 k_ ∧ nb Ao56 t871.length co56 k_ ∧ nb Ao57 t874.length co57 k_ ∧ k_ ≠ gb825 ∧ k_ ≠ gb839 ∧ k_ ≠ gb853 ∧ k_ ≠ gb866 ∧ k_ ≠ gb879) v896 t895) ∧ Aside0 (Kd.Q (Kd.int .u8) 5 wc w.heap.size (fun k_ => nb Ao22 t822.length co22 k_ ∧ nb Ao19 t817.length co19 k_ ∧ nb Ao27 t830.length co27 k_ ∧ nb Ao28 t833.length co28 k_ ∧ nb Ao36 t844.length co36 k_ ∧ nb Ao37 t847.length co37 k_ ∧ nb Ao45 t858.length co45 k_ ∧ nb Ao46 t861.length co46 k_ ∧ nb Ao56 t871.length co56 k_ ∧ nb Ao57 t874.length co57 k_) (.slice Ao18 t814.length co18) t814) ∧ Aside0 (Kd.R (Kd.int .u8) 5 wc w.heap.size (fun k_ => nb Ao22 t822.length co22 k_ ∧ nb Ao18 t814.length co18 k_ ∧ nb Ao27 t830.length co27 k_ ∧ nb Ao28 t833.length co28 k_ ∧ nb Ao36 t844.length co36 k_ ∧ nb Ao37 t847.length co37 k_ ∧ nb Ao45 t858.length co45 k_ ∧ nb Ao46 t861.length co46 k_ ∧ nb Ao56 t871.length co56 k_ ∧ nb Ao57 t874.length co57 k_) (.slice Ao19 t817.length co19) t817) ∧ Aside0 (Kd.Q (Kd.int .u8) 5 wc w.heap.size (fun k_ => nb Ao22 t822.length co22 k_ ∧ nb Ao18 t814.length co18 k_ ∧ nb Ao19 t817.length co19 k_ ∧ nb Ao28 t833.length co28 k_ ∧ nb Ao36 t844.length co36 k_ ∧ nb Ao37 t847.length co37 k_ ∧ nb Ao45 t858.length co45 k_ ∧ nb Ao46 t861.length co46 k_ ∧ nb Ao56 t871.length co56 k_ ∧ nb Ao57 t874.length co57 k_) (.slice Ao27 t830.length co27) t830) ∧ Aside0 (Kd.R (Kd.int .u8) 5 wc w.heap.size (fun k_ => nb Ao22 t822.length co22 k_ ∧ nb Ao18 t814.length co18 k_ ∧ nb Ao19 t817.length co19 k_ ∧ nb Ao27 t830.length co27 k_ ∧ nb Ao36 t844.length co36 k_ ∧ nb Ao37 t847.length co37 k_ ∧ nb Ao45 t858.length co45 k_ ∧ nb Ao46 t861.length co46 k_ ∧ nb Ao56 t871.length co56 k_ ∧ nb Ao57 t874.length co57 k_) (.slice Ao28 t833.length co28) t833) ∧ Aside0 (Kd.Q (Kd.int .u8) 5 wc w.heap.size (fun k_ => nb Ao22 t822.length co22 k_ ∧ nb Ao18 t814.length co18 k_ ∧ nb Ao19 t817.length co19 k_ ∧ nb Ao27 t830.length co27 k_ ∧ nb Ao28 t833.length co28 k_ ∧ nb Ao37 t847.length co37 k_ ∧ nb Ao45 t858.length co45 k_ ∧ nb Ao46 t861.length co46 k_ ∧ nb Ao56 t871.length co56 k_ ∧ nb Ao57 t874.length co57 k_) (.slice Ao36 t844.length co36) t844) ∧ Aside0 (Kd.R (Kd.int .u8) 5 wc w.heap.size (fun k_ => nb Ao22 t822.length co22 k_ ∧ nb Ao18 t814.length co18 k_ ∧ nb Ao19 t817.length co19 k_ ∧ nb Ao27 t830.length co27 k_ ∧ nb Ao28 t833.length co28 k_ ∧ nb Ao36 t844.length co36 k_ ∧ nb Ao45 t858.length co45 k_ ∧ nb Ao46 t861.length co46 k_ ∧ nb Ao56 t871.length co56 k_ ∧ nb Ao57 t874.length co57 k_) (.slice Ao37 t847.length co37) t847) ∧ Aside0 (Kd.Q (Kd.int .u8) 5 wc w.heap.size (fun k_ => nb Ao22 t822.length co22 k_ ∧ nb Ao18 t814.length co18 k_ ∧ nb Ao19 t817.length co19 k_ ∧ nb Ao27 t830.length co27 k_ ∧ nb Ao28 t833.length co28 k_ ∧ nb Ao36 t844.length co36 k_ ∧ nb Ao37 t847.length co37 k_ ∧ nb Ao46 t861.length co46 k_ ∧ nb Ao56 t871.length co56 k_ ∧ nb Ao57 t874.length co57 k_) (.slice Ao45 t858.length co45) t858) ∧ Aside0 (Kd.R (Kd.int .u8) 5 wc w.heap.size (fun k_ => nb Ao22 t822.length co22 k_ ∧ nb Ao18 t814.length co18 k_ ∧ nb Ao19 t817.length co19 k_ ∧ nb Ao27 t830.length co27 k_ ∧ nb Ao28 t833.length co28 k_ ∧ nb Ao36 t844.length co36 k_ ∧ nb Ao37 t847.length co37 k_ ∧ nb Ao45 t858.length co45 k_ ∧ nb Ao56 t871.length co56 k_ ∧ nb Ao57 t874.length co57 k_) (.slice Ao46 t861.length co46) t861) ∧ Aside0 (Kd.Q (Kd.int .u8) 5 wc w.heap.size (fun k_ => nb Ao22 t822.length co22 k_ ∧ nb Ao18 t814.length co18 k_ ∧ nb Ao19 t817.length co19 k_ ∧ nb Ao27 t830.length co27 k_ ∧ nb Ao28 t833.length co28 k_ ∧ nb Ao36 t844.length co36 k_ ∧ nb Ao37 t847.length co37 k_ ∧ nb Ao45 t858.length co45 k_ ∧ nb Ao46 t861.length co46 k_ ∧ nb Ao57 t874.length co57 k_) (.slice Ao56 t871.length co56) t871) ∧ Aside0 (Kd.R (Kd.int .u8) 5 wc w.heap.size (fun k_ => nb Ao22 t822.length co22 k_ ∧ nb Ao18 t814.length co18 k_ ∧ nb Ao19 t817.length co19 k_ ∧ nb Ao27 t830.length co27 k_ ∧ nb Ao28 t833.length co28 k_ ∧ nb Ao36 t844.length co36 k_ ∧ nb Ao37 t847.length co37 k_ ∧ nb Ao45 t858.length co45 k_ ∧ nb Ao46 t861.length co46 k_ ∧ nb Ao56 t871.length co56 k_) (.slice Ao57 t874.length co57) t874) ∧ Aside0 (wc.heap[gb825]? = some (.cells #[.int .i64 t810, .int .i64 t811, .int .i64 t812, .bool t813, (.slice Ao18 t814.length co18), (.slice Ao19 t817.length co19), .int .i64 t820, .int .i64 t821] 41 (0, 0))) ∧ Aside0 (wc.heap[gb839]? = some (.cells #[.int .i64 t826, .int .i64 t827, .int .i64 t828, .bool t829, (.slice Ao27 t830.length co27), (.slice Ao28 t833.length co28), .int .i64 t836, .int .i64 t837] 41 (0, 0))) ∧ Aside0 (wc.heap[gb853]? = some (.cells #[.int .i64 t840, .int .i64 t841, .int .i64 t842, .bool t843, (.slice Ao36 t844.length co36), (.slice Ao37 t847.length co37), .int .i64 t850, .int .i64 t851] 41 (0, 0))) ∧ Aside0 (wc.heap[gb866]? = some (.cells #[.int .i64 t854, .int .i64 t855, .int .i64 t856, .bool t857, (.slice Ao45 t858.length co45), (.slice Ao46 t861.length co46), .int .i64 t864, .int .i64 t865] 41 (0, 0))) ∧ Aside0 (wc.heap[gb879]? = some (.cells #[.int .i64 t867, .int .i64 t868, .int .i64 t869, .bool t870, (.slice Ao56 t871.length co56), (.slice Ao57 t874.length co57), .int .i64 t877, .int .i64 t878] 41 (0, 0))) ∧ Aside0 (wc.heap[gb884]? = some (.cells #[.int .i64 t880, .string t881, .int .i64 t882] 49 (0, 0))) ∧ Aside0 (wc.heap[gb889]? = some (.cells #[.int .i64 t885, .string t886, .int .i64 t887] 49 (0, 0))) ∧ Aside0 (Below w.heap.size w wc))
 case first =>
  have H := HC14.out
  clear HC14
  by_cases c83 : (t838 != t852) = true
  ·
   rw [if_pos c83] at H
   have c83b0 : (t838 != t852) = true := c83
   (try (have c83b1 : decide (t838 = t852) = false := by simpa using c83))
   (try (have c83b2 : (t838 == t852) = false := by simpa using c83))
   (try (have c83b3 : ¬ (t838 = t852) := by simpa using c83))
   clear c83
   (first | rw [c83b0] | rw [c83b1] | rw [c83b2] | rw [c83b3] | (simp only [i64_w, i32_w]; rw [c83b0]) | skip)
   exact absurd (hr_.out ▸ H) (by cases k <;> simp [laws_FnSocks.j0])
  rw [if_neg c83] at H
  have c83b0 : (t838 != t852) = false := by simpa using c83
  (try (have c83b1 : decide (t838 = t852) = true := by simpa using c83))
  (try (have c83b2 : (t838 == t852) = true := by simpa using c83))
  clear c83
  (first | rw [c83b0] | rw [c83b1] | rw [c83b2] | (simp only [i64_w, i32_w]; rw [c83b0]) | skip)
  replace H := bd_ H
  obtain ⟨t898, A84, H⟩ := H
  replace H := bd_ H
  obtain ⟨t899, A85, H⟩ := H
  by_cases c86 : (t898 != t899) = true
  ·
   rw [if_pos c86] at H
   have c86b0 : (t898 != t899) = true := c86
   (try (have c86b1 : decide (t898 = t899) = false := by simpa using c86))
   (try (have c86b2 : (t898 == t899) = false := by simpa using c86))
   (try (have c86b3 : ¬ (t898 = t899) := by simpa using c86))
   clear c86
   exact absurd (hr_.out ▸ H) (by cases k <;> simp [laws_FnSocks.j0])
  rw [if_neg c86] at H
  have c86b0 : (t898 != t899) = false := by simpa using c86
  (try (have c86b1 : decide (t898 = t899) = true := by simpa using c86))
  (try (have c86b2 : (t898 == t899) = true := by simpa using c86))
  clear c86
  by_cases c87 : (!(t880 == t885) || (!(t881.toList == t886.toList) || (!(t882 == t887)))) = true
  ·
   rw [if_pos c87] at H
   have c87b0 : (!(t880 == t885) || (!(t881.toList == t886.toList) || (!(t882 == t887)))) = true := c87
   clear c87
   exact absurd (hr_.out ▸ H) (by cases k <;> simp [laws_FnSocks.j0])
  rw [if_neg c87] at H
  have c87b0 : (!(t880 == t885) || (!(t881.toList == t886.toList) || (!(t882 == t887)))) = false := by simpa using c87
  clear c87
  by_cases c88 : t883 = t888
  rotate_left
  ·
   rw [if_neg c88] at H
   have c88b0 : (t883 == t888) = false := beq_eq_false_iff_ne.mpr c88
   have c88b1 : (t883 != t888) = true := bne_iff_ne.mpr c88
   exact absurd (hr_.out ▸ H) (by cases k <;> simp [laws_FnSocks.j0])
  rw [if_pos c88] at H
  have c88b0 : (t883 == t888) = true := beq_iff_eq.mpr c88
  have c88b1 : (t883 != t888) = false := bne_eq_false_iff_eq.mpr c88
  clear c88
  replace H := bd_ H
  obtain ⟨t900, A89, H⟩ := H
  replace H := bd_ H
  obtain ⟨t903, A90, H⟩ := H
  by_cases c91 : t903 = true
  rotate_left
  ·
   replace c91 := Bool.eq_false_iff.mpr c91
   subst c91
   rw [if_neg (show ¬ (false = true) by decide)] at H
   exact absurd (hr_.out ▸ H) (by cases k <;> simp [laws_FnSocks.j0])
  subst c91
  rw [if_pos rfl] at H
  replace H := bd_ H
  obtain ⟨t904, A92, H⟩ := H
  replace H := bd_ H
  obtain ⟨t905, A93, H⟩ := H
  have H' := Aside0.mk H
  clear H
  try go_wp2_with ((with_reducible refine gate_ld rfl ?_); first | refine ld_ ?_ | fail)
  replace HO816 := am_ (Kd.R_drew HO816.out)
  replace HO819 := am_ (Kd.R_drew HO819.out)
  replace HO824 := am_ (Kd.R_drew HO824.out)
  replace HO832 := am_ (Kd.R_drew HO832.out)
  replace HO835 := am_ (Kd.R_drew HO835.out)
  replace HO846 := am_ (Kd.R_drew HO846.out)
  replace HO849 := am_ (Kd.R_drew HO849.out)
  replace HO860 := am_ (Kd.R_drew HO860.out)
  replace HO863 := am_ (Kd.R_drew HO863.out)
  replace HO873 := am_ (Kd.Q_drew HO873.out)
  replace HO876 := am_ (Kd.R_drew HO876.out)
  replace HO894 := am_ (Kd.S_drew HO894.out)
  replace HO897 := am_ (Kd.S_drew HO897.out)
  replace BK825 := am_ (blk_drew BK825.out)
  replace BK839 := am_ (blk_drew BK839.out)
  replace BK853 := am_ (blk_drew BK853.out)
  replace BK866 := am_ (blk_drew BK866.out)
  replace BK879 := am_ (blk_drew BK879.out)
  replace BK884 := am_ (blk_drew BK884.out)
  replace BK889 := am_ (blk_drew BK889.out)
  replace HB := am_ (below_drew1 HB.out)
  as_aux_lemma =>
  refine start_ (n := 36) (S := fun w' => w'.cell? ⟨gb825, 0, none⟩ = some (.int .i64 t810) ∧ w'.cell? ⟨gb825, 1, none⟩ = some (.int .i64 t811) ∧ w'.cell? ⟨gb825, 2, none⟩ = some (.int .i64 t812) ∧ w'.cell? ⟨gb825, 3, none⟩ = some (.bool t813) ∧ w'.cell? ⟨gb825, 4, none⟩ = some (.slice Ao18 t814.length co18) ∧ w'.cell? ⟨gb825, 5, none⟩ = some (.slice Ao19 t817.length co19) ∧ w'.cell? ⟨gb825, 6, none⟩ = some (.int .i64 t820) ∧ w'.cell? ⟨gb825, 7, none⟩ = some (.int .i64 t821) ∧ w'.cell? ⟨gb884, 0, none⟩ = some (.int .i64 t880) ∧ w'.cell? ⟨gb884, 1, none⟩ = some (.string t881) ∧ w'.cell? ⟨gb884, 2, none⟩ = some (.int .i64 t882) ∧ w'.cell? ⟨gb889, 0, none⟩ = some (.int .i64 t885) ∧ w'.cell? ⟨gb889, 1, none⟩ = some (.string t886) ∧ w'.cell? ⟨gb889, 2, none⟩ = some (.int .i64 t887)) (ds := []) (rl [0,36]) (by kernel_rfl) rfl rfl (cw8 BK825.out (cw3 BK884.out (cz3 BK889.out))) (fun hHeld => ?_); refine with_tabW laws_FnSocks.tab12 laws_FnSocks.bits12 (fun HT_ HW_ => ?_)
  generalize w82.drew = w94 at HO816 HO819 HO824 HO832 HO835 HO846 HO849 HO860 HO863 HO873 HO876 HO894 HO897 BK825 BK839 BK853 BK866 BK879 BK884 BK889 HB hHeld ⊢
  refine pq_ 0 65 HT_ (rl [1,35]) ?_
  refine pq_ 1 66 HT_ (rl [2,34]) ?_
  refine pq_ 2 67 HT_ (rl [3,33]) ?_
  refine pq_ 3 68 HT_ (rl [4,32]) ?_
  refine tz_ (i := 4) (N := some 69) HT_ HW_ (rl [5,31]) rfl rfl hHeld ?_ (hy := fun w' ⟨s0, s1, s2, s3, s4, s5, s6, s7, _, _, _, _, _, _⟩ => ldr8 s0 s1 s2 s3 s4 s5 s6 s7)
  refine tz_ (i := 6) (N := some 71) HT_ HW_ (rl [5,1,1,29]) rfl rfl hHeld ?_ (hy := fun w' ⟨s0, s1, s2, s3, s4, s5, s6, s7, _, _, _, _, _, _⟩ => ldr8 s0 s1 s2 s3 s4 s5 s6 s7)
  refine on_ HT_ (i := 5) (N := some 70) (rl [7,29]) (fun K hK => ?_)
  refine goes_ Try.func30 (by kernel_rfl) rfl #[.agg #[.int .i64 t810, .int .i64 t811, .int .i64 t812, .bool t813, .slice Ao18 t814.length co18, .slice Ao19 t817.length co19, .int .i64 t820, .int .i64 t821]] (by rfl) rfl rfl la_ ?_
  with_reducible refine (impl_SockOk.calls k t810 t811 t812 t813 _ _ t814 _ _ t817 t820 t821 t898 _ ?side1 ?side2 ?side3 ?side4 A84.out).mono ?_
  (case side1 => exact qC ((Kd.R_reads' HO816.out).2.2))
  (case side2 => exact (Kd.R_reads' HO816.out).2.1)
  (case side3 => exact qC ((Kd.R_reads' HO819.out).2.2))
  (case side4 => exact (Kd.R_reads' HO819.out).2.1)
  rintro e w95 ⟨rfl, hb⟩
  refine ⟨_, rfl, ?_⟩
  replace HO816 := rB_ HO816 hb
  replace HO819 := rB_ HO819 hb
  replace HO824 := rB_ HO824 hb
  replace HO832 := rB_ HO832 hb
  replace HO835 := rB_ HO835 hb
  replace HO846 := rB_ HO846 hb
  replace HO849 := rB_ HO849 hb
  replace HO860 := rB_ HO860 hb
  replace HO863 := rB_ HO863 hb
  replace HO873 := lQ_ HO873 hb
  replace HO876 := rB_ HO876 hb
  replace HO894 := lS_ HO894 hb
  replace HO897 := lS_ HO897 hb
  replace BK825 := bK_ BK825 hb
  replace BK839 := bK_ BK839 hb
  replace BK853 := bK_ BK853 hb
  replace BK866 := bK_ BK866 hb
  replace BK879 := bK_ BK879 hb
  replace BK884 := bK_ BK884 hb
  replace BK889 := bK_ BK889 hb
  replace HB := bS_ HB hb
  (try clear hb)
  refine hK.out _ _ (cw8 BK825.out (cw3 BK884.out (cz3 BK889.out))) (fun hHeld => ?_)
  clear hK K
  refine nm_ (some 70) ?_
  refine on_ HT_ (i := 7) (N := some 72) (rl [8,28]) (fun K hK => ?_)
  refine goes_ Try.func31 (by kernel_rfl) rfl #[.agg #[.int .i64 t810, .int .i64 t811, .int .i64 t812, .bool t813, .slice Ao18 t814.length co18, .slice Ao19 t817.length co19, .int .i64 t820, .int .i64 t821]] (by rfl) rfl rfl la_ ?_
  with_reducible refine (spec_SockOk.calls k t810 t811 t812 t813 _ _ t814 _ _ t817 t820 t821 t899 _ ?side1 ?side2 ?side3 ?side4 A85.out).mono ?_
  (case side1 => exact qC ((Kd.R_reads' HO816.out).2.2))
  (case side2 => exact (Kd.R_reads' HO816.out).2.1)
  (case side3 => exact qC ((Kd.R_reads' HO819.out).2.2))
  (case side4 => exact (Kd.R_reads' HO819.out).2.1)
  rintro e w96 ⟨rfl, hb⟩
  refine ⟨_, rfl, ?_⟩
  replace HO816 := rB_ HO816 hb
  replace HO819 := rB_ HO819 hb
  replace HO824 := rB_ HO824 hb
  replace HO832 := rB_ HO832 hb
  replace HO835 := rB_ HO835 hb
  replace HO846 := rB_ HO846 hb
  replace HO849 := rB_ HO849 hb
  replace HO860 := rB_ HO860 hb
  replace HO863 := rB_ HO863 hb
  replace HO873 := lQ_ HO873 hb
  replace HO876 := rB_ HO876 hb
  replace HO894 := lS_ HO894 hb
  replace HO897 := lS_ HO897 hb
  replace BK825 := bK_ BK825 hb
  replace BK839 := bK_ BK839 hb
  replace BK853 := bK_ BK853 hb
  replace BK866 := bK_ BK866 hb
  replace BK879 := bK_ BK879 hb
  replace BK884 := bK_ BK884 hb
  replace BK889 := bK_ BK889 hb
  replace HB := bS_ HB hb
  (try clear hb)
  refine hK.out _ _ (cw8 BK825.out (cw3 BK884.out (cz3 BK889.out))) (fun hHeld => ?_)
  clear hK K
  refine nm_ (some 72) ?_
  refine pq_ 8 73 HT_ (rl [9,27]) ?_
  refine pq_ 9 74 HT_ (rl [10,26]) ?_
  refine pq_ 10 75 HT_ (rl [11,25]) ?_
  refine tz_ (i := 11) (N := some 76) HT_ HW_ (rl [12,24]) rfl rfl hHeld ?_
  refine tz_ (i := 12) (N := some 77) HT_ HW_ (rl [13,23]) rfl rfl hHeld ?_
  refine pq_ 13 78 HT_ (rl [14,22]) ?_
  refine pq_ 14 79 HT_ (rl [15,21]) ?_
  refine pq_ 15 80 HT_ (rl [16,20]) ?_
  refine pq_ 16 81 HT_ (rl [17,19]) ?_
  refine pq_ 17 82 HT_ (rl [18,18]) ?_
  refine pq_ 18 83 HT_ (rl [19,17]) ?_
  refine pq_ 19 84 HT_ (rl [20,16]) ?_
  refine pq_ 20 85 HT_ (rl [21,15]) ?_
  refine pq_ 21 86 HT_ (rl [22,14]) ?_
  refine pq_ 22 87 HT_ (rl [23,13]) ?_
  refine pq_ 23 88 HT_ (rl [24,12]) ?_
  refine pq_ 24 89 HT_ (rl [25,11]) ?_
  refine on_ HT_ (i := 25) (N := some 90) (rl [26,10]) (fun K hK => ?_)
  refine goes_ Try.func33 (by kernel_rfl) rfl #[.slice Ao81 t890.length co81, .int .i64 t891, .int .i64 t892] (by rfl) rfl rfl la_ ?_
  with_reducible refine (spec_Free.calls k _ _ t890 t891 t892 t900 _ ?side1 ?side2 A89.out).mono ?_
  (case side1 => exact qC ((Kd.S_reads' HO894.out).2.2))
  (case side2 => exact (Kd.S_reads' HO894.out).2.1)
  rintro e w97 ⟨v901, rfl, ho0, hb⟩
  refine ⟨_, rfl, ?_⟩
  have HO902 := am_ (Kd.S_lower (Kd.S_newB (Kd.S_newB (Kd.S_newB (Kd.S_newB (Kd.S_newB (Kd.S_new' (Kd.S_new' (Kd.S_new' (Kd.S_new' (Kd.S_new' (Kd.S_new' (Kd.S_new' (Kd.S_new' (Kd.S_new' (Kd.S_new' (Kd.S_new' (Kd.S_new' (Kd.S_new' ho0 (Kd.R_lt (qR HO816))) (Kd.R_lt (qR HO819))) (Kd.R_lt (qR HO824))) (Kd.R_lt (qR HO832))) (Kd.R_lt (qR HO835))) (Kd.R_lt (qR HO846))) (Kd.R_lt (qR HO849))) (Kd.R_lt (qR HO860))) (Kd.R_lt (qR HO863))) (Kd.Q_lt (qQ HO873))) (Kd.R_lt (qR HO876))) (Kd.S_lt (qS HO894))) (Kd.S_lt (qS HO897))) (qK BK825)) (qK BK839)) (qK BK853)) (qK BK866)) (qK BK879)) (below_size (qB HB)))
  replace HO816 := rB_ HO816 hb
  replace HO819 := rB_ HO819 hb
  replace HO824 := rB_ HO824 hb
  replace HO832 := rB_ HO832 hb
  replace HO835 := rB_ HO835 hb
  replace HO846 := rB_ HO846 hb
  replace HO849 := rB_ HO849 hb
  replace HO860 := rB_ HO860 hb
  replace HO863 := rB_ HO863 hb
  replace HO873 := lQ_ HO873 hb
  replace HO876 := rB_ HO876 hb
  replace HO894 := am_ (Kd.S_elder' (qS HO894) (Kd.S_base ho0) hb)
  replace HO897 := am_ (Kd.S_elder' (qS HO897) (Kd.S_base ho0) hb)
  replace BK825 := bK_ BK825 hb
  replace BK839 := bK_ BK839 hb
  replace BK853 := bK_ BK853 hb
  replace BK866 := bK_ BK866 hb
  replace BK879 := bK_ BK879 hb
  replace BK884 := bK_ BK884 hb
  replace BK889 := bK_ BK889 hb
  replace HB := bS_ HB hb
  (try clear hb ho0)
  obtain ⟨Ao98, co98, eo98⟩ := Kd.S_slice HO897.out
  (first | subst eo98 | (injection eo98 with f1_ f2_ f3_; have f4_ := f1_.symm; have f5_ := f3_.symm; clear f1_ f2_ f3_; subst f4_; subst f5_))
  obtain ⟨Ao99, co99, eo99⟩ := Kd.S_slice HO902.out
  (first | subst eo99 | (injection eo99 with f1_ f2_ f3_; have f4_ := f1_.symm; have f5_ := f3_.symm; clear f1_ f2_ f3_; subst f4_; subst f5_))
  refine hK.out _ _ (cw8 BK825.out (cw3 BK884.out (cz3 BK889.out))) (fun hHeld => ?_)
  clear hK K
  refine nm_ (some 90) ?_
  refine on_ HT_ (i := 26) (N := some 91) (rl [27,9]) (fun K hK => ?_)
  refine goes_ Try.func32 (by kernel_rfl) rfl #[.slice Ao98 t895.length co98, .slice Ao99 t900.length co99] (by rfl) rfl rfl la_ ?_
  with_reducible refine (laws_sameSocks.calls k _ _ t895 _ _ t900 true _ ?side1 ?side2 ?side3 ?side4 A90.out).mono ?_
  (case side1 => exact qC ((Kd.S_reads' HO897.out).2.2))
  (case side2 => exact (Kd.S_reads' HO897.out).2.1)
  (case side3 => exact qC ((Kd.S_reads' HO902.out).2.2))
  (case side4 => exact (Kd.S_reads' HO902.out).2.1)
  rintro e w100 ⟨rfl, hb⟩
  refine ⟨_, rfl, ?_⟩
  replace HO816 := rB_ HO816 hb
  replace HO819 := rB_ HO819 hb
  replace HO824 := rB_ HO824 hb
  replace HO832 := rB_ HO832 hb
  replace HO835 := rB_ HO835 hb
  replace HO846 := rB_ HO846 hb
  replace HO849 := rB_ HO849 hb
  replace HO860 := rB_ HO860 hb
  replace HO863 := rB_ HO863 hb
  replace HO873 := lQ_ HO873 hb
  replace HO876 := rB_ HO876 hb
  replace HO894 := lS_ HO894 hb
  replace HO897 := lS_ HO897 hb
  replace HO902 := lS_ HO902 hb
  replace BK825 := bK_ BK825 hb
  replace BK839 := bK_ BK839 hb
  replace BK853 := bK_ BK853 hb
  replace BK866 := bK_ BK866 hb
  replace BK879 := bK_ BK879 hb
  replace BK884 := bK_ BK884 hb
  replace BK889 := bK_ BK889 hb
  replace HB := bS_ HB hb
  (try clear hb)
  refine hK.out _ _ (cw8 BK825.out (cw3 BK884.out (cz3 BK889.out))) (fun hHeld => ?_)
  clear hK K
  refine nm_ (some 91) ?_
  refine pq_ 27 92 HT_ (rl [28,8]) ?_
  refine pq_ 28 93 HT_ (rl [29,7]) ?_
  refine pq_ 29 94 HT_ (rl [30,6]) ?_
  refine pq_ 30 95 HT_ (rl [31,5]) ?_
  refine pq_ 32 97 HT_ (rl [31,1,1,3]) ?_
  refine on_ HT_ (i := 31) (N := some 96) (rl [33,3]) (fun K hK => ?_)
  refine goes_ Try.func34 (by kernel_rfl) rfl #[.slice Ao81 t890.length co81] (by rfl) rfl rfl la_ ?_
  with_reducible refine (impl_SocksOk.calls k _ _ t890 t904 _ ?side1 ?side2 A92.out).mono ?_
  (case side1 => exact qC ((Kd.S_reads' HO894.out).2.2))
  (case side2 => exact (Kd.S_reads' HO894.out).2.1)
  rintro e w101 ⟨rfl, hb⟩
  refine ⟨_, rfl, ?_⟩
  replace HO816 := rB_ HO816 hb
  replace HO819 := rB_ HO819 hb
  replace HO824 := rB_ HO824 hb
  replace HO832 := rB_ HO832 hb
  replace HO835 := rB_ HO835 hb
  replace HO846 := rB_ HO846 hb
  replace HO849 := rB_ HO849 hb
  replace HO860 := rB_ HO860 hb
  replace HO863 := rB_ HO863 hb
  replace HO873 := lQ_ HO873 hb
  replace HO876 := rB_ HO876 hb
  replace HO894 := lS_ HO894 hb
  replace HO897 := lS_ HO897 hb
  replace HO902 := lS_ HO902 hb
  replace BK825 := bK_ BK825 hb
  replace BK839 := bK_ BK839 hb
  replace BK853 := bK_ BK853 hb
  replace BK866 := bK_ BK866 hb
  replace BK879 := bK_ BK879 hb
  replace BK884 := bK_ BK884 hb
  replace BK889 := bK_ BK889 hb
  replace HB := bS_ HB hb
  (try clear hb)
  refine hK.out _ _ (cw8 BK825.out (cw3 BK884.out (cz3 BK889.out))) (fun hHeld => ?_)
  clear hK K
  refine nm_ (some 96) ?_
  refine on_ HT_ (i := 33) (N := some 98) (rl [34,2]) (fun K hK => ?_)
  refine goes_ Try.func35 (by kernel_rfl) rfl #[.slice Ao81 t890.length co81] (by rfl) rfl rfl la_ ?_
  with_reducible refine (spec_SocksOk.calls k _ _ t890 t905 _ ?side1 ?side2 A93.out).mono ?_
  (case side1 => exact qC ((Kd.S_reads' HO894.out).2.2))
  (case side2 => exact (Kd.S_reads' HO894.out).2.1)
  rintro e w102 ⟨rfl, hb⟩
  refine ⟨_, rfl, ?_⟩
  replace HO816 := rB_ HO816 hb
  replace HO819 := rB_ HO819 hb
  replace HO824 := rB_ HO824 hb
  replace HO832 := rB_ HO832 hb
  replace HO835 := rB_ HO835 hb
  replace HO846 := rB_ HO846 hb
  replace HO849 := rB_ HO849 hb
  replace HO860 := rB_ HO860 hb
  replace HO863 := rB_ HO863 hb
  replace HO873 := lQ_ HO873 hb
  replace HO876 := rB_ HO876 hb
  replace HO894 := lS_ HO894 hb
  replace HO897 := lS_ HO897 hb
  replace HO902 := lS_ HO902 hb
  replace BK825 := bK_ BK825 hb
  replace BK839 := bK_ BK839 hb
  replace BK853 := bK_ BK853 hb
  replace BK866 := bK_ BK866 hb
  replace BK879 := bK_ BK879 hb
  replace BK884 := bK_ BK884 hb
  replace BK889 := bK_ BK889 hb
  replace HB := bS_ HB hb
  (try clear hb)
  refine hK.out _ _ (cw8 BK825.out (cw3 BK884.out (cz3 BK889.out))) (fun hHeld => ?_)
  clear hK K
  refine nm_ (some 98) ?_
  refine pq_ 34 99 HT_ (rl [35,1]) ?_
  refine pq_ 35 100 HT_ (rl [36]) ?_
  refine done_ (done_of HT_.out (by kernel_rfl)) ?_
  try go_wp2_with ((with_reducible refine gate_ld rfl ?_); first | refine ld_ ?_ | fail)
  go_meet
  case rel => exact ⟨_, ((t904 != t905)), eqq_, H', ⟨by first | omega | exact Nat.le_refl _⟩, ⟨qR HO824⟩, xS_ HO894, xS_ HO897, ⟨Kd.Q_of_R (xR1_ HO816)⟩, xR_ HO819, ⟨Kd.Q_of_R (xR1_ HO832)⟩, xR_ HO835, ⟨Kd.Q_of_R (xR1_ HO846)⟩, xR_ HO849, ⟨Kd.Q_of_R (xR1_ HO860)⟩, xR_ HO863, xQ_ HO873, xR_ HO876, ⟨qK BK825⟩, ⟨qK BK839⟩, ⟨qK BK853⟩, ⟨qK BK866⟩, ⟨qK BK879⟩, ⟨qK BK884⟩, ⟨qK BK889⟩, ⟨qB HB⟩⟩
 case rest =>
  clear HC14
  try clear p2
  try clear c3
  try clear c8
  try clear c9
  try clear c32
  try clear c33
  try clear c34
  try clear c35
  try clear c88
  try clear c88b0
  try clear c88b1
  try clear c91
  obtain ⟨kq, x100_13, rfl, HA, HJ13, HO_4, HO_15, HO_18, HO_826004, HO_826005, HO_840004, HO_840005, HO_854004, HO_854005, HO_867004, HO_867005, HO_880004, HO_880005, BK825, BK839, BK853, BK866, BK879, BK884, BK889, HB⟩ := hcut
  cases kq with
  | zero => exact absurd HA.out (by simp [laws_FnSocks.j0])
  | succ kj13 =>
   have H := HA.out
   clear HA
   simp only [laws_FnSocks.j0] at H
   by_cases c103 : x100_13 = true
   ·
    subst c103
    rw [if_pos rfl] at H
    exact absurd (hr_.out ▸ H) (by simp)
   replace c103 := Bool.eq_false_iff.mpr c103
   subst c103
   rw [if_neg (show ¬ (false = true) by decide)] at H
   have HC104 := Aside0.mk H
   clear H
   go_upto_region 14 with ((with_reducible refine gate_ld rfl ?_); first | refine ld_ ?_ | fail)
   go_cut [123] (fun v123 wc => ∃ (kq : Nat) (x123_103 : Bool), v123 = .bool x123_103 ∧ Aside0 (laws_FnSocks.j1 kq l0 t883 t890 t895 x123_103 t854 t855 t856 t857 t858 t861 t864 t865 t867 t868 t869 t870 t871 t874 t877 t878 t880 t881 t882 = some r) ∧ Aside0 (kq ≤ kj13) ∧ Aside0 (Kd.S k41 41 wc w.heap.size (fun k_ => nv v896 k_ ∧ nb Ao18 t814.length co18 k_ ∧ nb Ao19 t817.length co19 k_ ∧ nb Ao27 t830.length co27 k_ ∧ nb Ao28 t833.length co28 k_ ∧ nb Ao36 t844.length co36 k_ ∧ nb Ao37 t847.length co37 k_ ∧ nb Ao45 t858.length co45 k_ ∧ nb Ao46 t861.length co46 k_ ∧ nb Ao56 t871.length co56 k_ ∧ nb Ao57 t874.length co57 k_ ∧ k_ ≠ gb825 ∧ k_ ≠ gb839 ∧ k_ ≠ gb853 ∧ k_ ≠ gb866 ∧ k_ ≠ gb879) (.slice Ao81 t890.length co81) t890) ∧ Aside0 (Kd.S k41 41 wc w.heap.size (fun k_ => nb Ao81 t890.length co81 k_ ∧ nb Ao18 t814.length co18 k_ ∧ nb Ao19 t817.length co19 k_ ∧ nb Ao27 t830.length co27 k_ ∧ nb Ao28 t833.length co28 k_ ∧ nb Ao36 t844.length co36 k_ ∧ nb Ao37 t847.length co37 k_ ∧ nb Ao45 t858.length co45 k_ ∧ nb Ao46 t861.length co46 k_ ∧ nb Ao56 t871.length co56 k_ ∧ nb Ao57 t874.length co57 k_ ∧ k_ ≠ gb825 ∧ k_ ≠ gb839 ∧ k_ ≠ gb853 ∧ k_ ≠ gb866 ∧ k_ ≠ gb879) v896 t895) ∧ Aside0 (Kd.Q (Kd.int .u8) 5 wc w.heap.size (fun k_ => nb Ao19 t817.length co19 k_ ∧ nb Ao27 t830.length co27 k_ ∧ nb Ao28 t833.length co28 k_ ∧ nb Ao36 t844.length co36 k_ ∧ nb Ao37 t847.length co37 k_ ∧ nb Ao45 t858.length co45 k_ ∧ nb Ao46 t861.length co46 k_ ∧ nb Ao56 t871.length co56 k_ ∧ nb Ao57 t874.length co57 k_) (.slice Ao18 t814.length co18) t814) ∧ Aside0 (Kd.R (Kd.int .u8) 5 wc w.heap.size (fun k_ => nb Ao18 t814.length co18 k_ ∧ nb Ao27 t830.length co27 k_ ∧ nb Ao28 t833.length co28 k_ ∧ nb Ao36 t844.length co36 k_ ∧ nb Ao37 t847.length co37 k_ ∧ nb Ao45 t858.length co45 k_ ∧ nb Ao46 t861.length co46 k_ ∧ nb Ao56 t871.length co56 k_ ∧ nb Ao57 t874.length co57 k_) (.slice Ao19 t817.length co19) t817) ∧ Aside0 (Kd.Q (Kd.int .u8) 5 wc w.heap.size (fun k_ => nb Ao18 t814.length co18 k_ ∧ nb Ao19 t817.length co19 k_ ∧ nb Ao28 t833.length co28 k_ ∧ nb Ao36 t844.length co36 k_ ∧ nb Ao37 t847.length co37 k_ ∧ nb Ao45 t858.length co45 k_ ∧ nb Ao46 t861.length co46 k_ ∧ nb Ao56 t871.length co56 k_ ∧ nb Ao57 t874.length co57 k_) (.slice Ao27 t830.length co27) t830) ∧ Aside0 (Kd.R (Kd.int .u8) 5 wc w.heap.size (fun k_ => nb Ao18 t814.length co18 k_ ∧ nb Ao19 t817.length co19 k_ ∧ nb Ao27 t830.length co27 k_ ∧ nb Ao36 t844.length co36 k_ ∧ nb Ao37 t847.length co37 k_ ∧ nb Ao45 t858.length co45 k_ ∧ nb Ao46 t861.length co46 k_ ∧ nb Ao56 t871.length co56 k_ ∧ nb Ao57 t874.length co57 k_) (.slice Ao28 t833.length co28) t833) ∧ Aside0 (Kd.Q (Kd.int .u8) 5 wc w.heap.size (fun k_ => nb Ao18 t814.length co18 k_ ∧ nb Ao19 t817.length co19 k_ ∧ nb Ao27 t830.length co27 k_ ∧ nb Ao28 t833.length co28 k_ ∧ nb Ao37 t847.length co37 k_ ∧ nb Ao45 t858.length co45 k_ ∧ nb Ao46 t861.length co46 k_ ∧ nb Ao56 t871.length co56 k_ ∧ nb Ao57 t874.length co57 k_) (.slice Ao36 t844.length co36) t844) ∧ Aside0 (Kd.R (Kd.int .u8) 5 wc w.heap.size (fun k_ => nb Ao18 t814.length co18 k_ ∧ nb Ao19 t817.length co19 k_ ∧ nb Ao27 t830.length co27 k_ ∧ nb Ao28 t833.length co28 k_ ∧ nb Ao36 t844.length co36 k_ ∧ nb Ao45 t858.length co45 k_ ∧ nb Ao46 t861.length co46 k_ ∧ nb Ao56 t871.length co56 k_ ∧ nb Ao57 t874.length co57 k_) (.slice Ao37 t847.length co37) t847) ∧ Aside0 (Kd.Q (Kd.int .u8) 5 wc w.heap.size (fun k_ => nb Ao18 t814.length co18 k_ ∧ nb Ao19 t817.length co19 k_ ∧ nb Ao27 t830.length co27 k_ ∧ nb Ao28 t833.length co28 k_ ∧ nb Ao36 t844.length co36 k_ ∧ nb Ao37 t847.length co37 k_ ∧ nb Ao46 t861.length co46 k_ ∧ nb Ao56 t871.length co56 k_ ∧ nb Ao57 t874.length co57 k_) (.slice Ao45 t858.length co45) t858) ∧ Aside0 (Kd.R (Kd.int .u8) 5 wc w.heap.size (fun k_ => nb Ao18 t814.length co18 k_ ∧ nb Ao19 t817.length co19 k_ ∧ nb Ao27 t830.length co27 k_ ∧ nb Ao28 t833.length co28 k_ ∧ nb Ao36 t844.length co36 k_ ∧ nb Ao37 t847.length co37 k_ ∧ nb Ao45 t858.length co45 k_ ∧ nb Ao56 t871.length co56 k_ ∧ nb Ao57 t874.length co57 k_) (.slice Ao46 t861.length co46) t861) ∧ Aside0 (Kd.Q (Kd.int .u8) 5 wc w.heap.size (fun k_ => nb Ao18 t814.length co18 k_ ∧ nb Ao19 t817.length co19 k_ ∧ nb Ao27 t830.length co27 k_ ∧ nb Ao28 t833.length co28 k_ ∧ nb Ao36 t844.length co36 k_ ∧ nb Ao37 t847.length co37 k_ ∧ nb Ao45 t858.length co45 k_ ∧ nb Ao46 t861.length co46 k_ ∧ nb Ao57 t874.length co57 k_) (.slice Ao56 t871.length co56) t871) ∧ Aside0 (Kd.R (Kd.int .u8) 5 wc w.heap.size (fun k_ => nb Ao18 t814.length co18 k_ ∧ nb Ao19 t817.length co19 k_ ∧ nb Ao27 t830.length co27 k_ ∧ nb Ao28 t833.length co28 k_ ∧ nb Ao36 t844.length co36 k_ ∧ nb Ao37 t847.length co37 k_ ∧ nb Ao45 t858.length co45 k_ ∧ nb Ao46 t861.length co46 k_ ∧ nb Ao56 t871.length co56 k_) (.slice Ao57 t874.length co57) t874) ∧ Aside0 (wc.heap[gb825]? = some (.cells #[.int .i64 t810, .int .i64 t811, .int .i64 t812, .bool t813, (.slice Ao18 t814.length co18), (.slice Ao19 t817.length co19), .int .i64 t820, .int .i64 t821] 41 (0, 0))) ∧ Aside0 (wc.heap[gb839]? = some (.cells #[.int .i64 t826, .int .i64 t827, .int .i64 t828, .bool t829, (.slice Ao27 t830.length co27), (.slice Ao28 t833.length co28), .int .i64 t836, .int .i64 t837] 41 (0, 0))) ∧ Aside0 (wc.heap[gb853]? = some (.cells #[.int .i64 t840, .int .i64 t841, .int .i64 t842, .bool t843, (.slice Ao36 t844.length co36), (.slice Ao37 t847.length co37), .int .i64 t850, .int .i64 t851] 41 (0, 0))) ∧ Aside0 (wc.heap[gb866]? = some (.cells #[.int .i64 t854, .int .i64 t855, .int .i64 t856, .bool t857, (.slice Ao45 t858.length co45), (.slice Ao46 t861.length co46), .int .i64 t864, .int .i64 t865] 41 (0, 0))) ∧ Aside0 (wc.heap[gb879]? = some (.cells #[.int .i64 t867, .int .i64 t868, .int .i64 t869, .bool t870, (.slice Ao56 t871.length co56), (.slice Ao57 t874.length co57), .int .i64 t877, .int .i64 t878] 41 (0, 0))) ∧ Aside0 (wc.heap[gb884]? = some (.cells #[.int .i64 t880, .string t881, .int .i64 t882] 49 (0, 0))) ∧ Aside0 (wc.heap[gb889]? = some (.cells #[.int .i64 t885, .string t886, .int .i64 t887] 49 (0, 0))) ∧ Aside0 (Below w.heap.size w wc))
   case first =>
    have H := HC104.out
    clear HC104
    by_cases c105 : t838 = true
    rotate_left
    ·
     replace c105 := Bool.eq_false_iff.mpr c105
     subst c105
     rw [if_neg (show ¬ (false = true) by decide)] at H
     replace H := bd_ H
     obtain ⟨t916, A116, H⟩ := H
     have H' := Aside0.mk H
     clear H
     try go_wp2_with ((with_reducible refine gate_ld rfl ?_); first | refine ld_ ?_ | fail)
     replace HO_4 := am_ (Kd.R_drew HO_4.out)
     replace HO_15 := am_ (Kd.S_drew HO_15.out)
     replace HO_18 := am_ (Kd.S_drew HO_18.out)
     replace HO_826004 := am_ (Kd.Q_drew HO_826004.out)
     replace HO_826005 := am_ (Kd.R_drew HO_826005.out)
     replace HO_840004 := am_ (Kd.Q_drew HO_840004.out)
     replace HO_840005 := am_ (Kd.R_drew HO_840005.out)
     replace HO_854004 := am_ (Kd.Q_drew HO_854004.out)
     replace HO_854005 := am_ (Kd.R_drew HO_854005.out)
     replace HO_867004 := am_ (Kd.Q_drew HO_867004.out)
     replace HO_867005 := am_ (Kd.R_drew HO_867005.out)
     replace HO_880004 := am_ (Kd.Q_drew HO_880004.out)
     replace HO_880005 := am_ (Kd.R_drew HO_880005.out)
     replace BK825 := am_ (blk_drew BK825.out)
     replace BK839 := am_ (blk_drew BK839.out)
     replace BK853 := am_ (blk_drew BK853.out)
     replace BK866 := am_ (blk_drew BK866.out)
     replace BK879 := am_ (blk_drew BK879.out)
     replace BK884 := am_ (blk_drew BK884.out)
     replace BK889 := am_ (blk_drew BK889.out)
     replace HB := am_ (below_drew1 HB.out)
     as_aux_lemma =>
     refine start_ (n := 23) (S := fun w' => w'.cell? ⟨gb839, 0, none⟩ = some (.int .i64 t826) ∧ w'.cell? ⟨gb839, 1, none⟩ = some (.int .i64 t827) ∧ w'.cell? ⟨gb839, 2, none⟩ = some (.int .i64 t828) ∧ w'.cell? ⟨gb839, 3, none⟩ = some (.bool t829) ∧ w'.cell? ⟨gb839, 4, none⟩ = some (.slice Ao27 t830.length co27) ∧ w'.cell? ⟨gb839, 5, none⟩ = some (.slice Ao28 t833.length co28) ∧ w'.cell? ⟨gb839, 6, none⟩ = some (.int .i64 t836) ∧ w'.cell? ⟨gb839, 7, none⟩ = some (.int .i64 t837) ∧ w'.cell? ⟨gb825, 0, none⟩ = some (.int .i64 t810) ∧ w'.cell? ⟨gb825, 1, none⟩ = some (.int .i64 t811) ∧ w'.cell? ⟨gb825, 2, none⟩ = some (.int .i64 t812) ∧ w'.cell? ⟨gb825, 3, none⟩ = some (.bool t813) ∧ w'.cell? ⟨gb825, 4, none⟩ = some (.slice Ao18 t814.length co18) ∧ w'.cell? ⟨gb825, 5, none⟩ = some (.slice Ao19 t817.length co19) ∧ w'.cell? ⟨gb825, 6, none⟩ = some (.int .i64 t820) ∧ w'.cell? ⟨gb825, 7, none⟩ = some (.int .i64 t821)) (ds := []) (rl [0,23]) (by kernel_rfl) rfl rfl (cw8 BK839.out (cz8 BK825.out)) (fun hHeld => ?_); refine with_tabW laws_FnSocks.tab14 laws_FnSocks.bits14 (fun HT_ HW_ => ?_)
     generalize wc.drew = w117 at HO_4 HO_15 HO_18 HO_826004 HO_826005 HO_840004 HO_840005 HO_854004 HO_854005 HO_867004 HO_867005 HO_880004 HO_880005 BK825 BK839 BK853 BK866 BK879 BK884 BK889 HB hHeld ⊢
     refine pq_ 0 101 HT_ (rl [1,22]) ?_
     refine pq_ 1 102 HT_ (rl [2,21]) ?_
     refine pv_ 2 103 HT_ (rl [3,20]) ?_
     refine pv_ 3 104 HT_ (rl [4,19]) ?_
     refine pv_ 4 105 HT_ (rl [5,18]) ?_
     refine pv_ 5 106 HT_ (rl [6,17]) ?_
     refine pv_ 6 107 HT_ (rl [7,16]) ?_
     refine pv_ 7 108 HT_ (rl [8,15]) ?_
     refine pv_ 8 109 HT_ (rl [9,14]) ?_
     refine pv_ 9 110 HT_ (rl [10,13]) ?_
     refine pv_ 10 111 HT_ (rl [11,12]) ?_
     refine pv_ 11 112 HT_ (rl [12,11]) ?_
     refine pq_ 12 113 HT_ (rl [13,10]) ?_
     refine pq_ 13 114 HT_ (rl [14,9]) ?_
     refine pq_ 14 115 HT_ (rl [15,8]) ?_
     refine pq_ 15 116 HT_ (rl [16,7]) ?_
     refine pq_ 16 117 HT_ (rl [17,6]) ?_
     refine tz_ (i := 17) (N := some 118) HT_ HW_ (rl [18,5]) rfl rfl hHeld ?_ (hy := fun w' ⟨s0, s1, s2, s3, s4, s5, s6, s7, _, _, _, _, _, _, _, _⟩ => ldr8 s0 s1 s2 s3 s4 s5 s6 s7)
     refine tz_ (i := 18) (N := some 119) HT_ HW_ (rl [19,4]) rfl rfl hHeld ?_ (hy := fun w' ⟨_, _, _, _, _, _, _, _, s8, s9, s10, s11, s12, s13, s14, s15⟩ => ldr8 s8 s9 s10 s11 s12 s13 s14 s15)
     refine on_ HT_ (i := 19) (N := some 120) (rl [20,3]) (fun K hK => ?_)
     refine goes_ Try.func36 (by kernel_rfl) rfl #[.agg #[.int .i64 t826, .int .i64 t827, .int .i64 t828, .bool t829, .slice Ao27 t830.length co27, .slice Ao28 t833.length co28, .int .i64 t836, .int .i64 t837], .agg #[.int .i64 t810, .int .i64 t811, .int .i64 t812, .bool t813, .slice Ao18 t814.length co18, .slice Ao19 t817.length co19, .int .i64 t820, .int .i64 t821]] (by rfl) rfl rfl la_ ?_
     with_reducible refine (laws_sameSock.calls t826 t827 t828 t829 _ _ t830 _ _ t833 t836 t837 t810 t811 t812 t813 _ _ t814 _ _ t817 t820 t821 t916 _ ?side1 ?side2 ?side3 ?side4 ?side5 ?side6 ?side7 ?side8 A116.out).mono ?_
     (case side1 => exact qC ((Kd.Q_reads' HO_840004.out).2.2))
     (case side2 => exact (Kd.Q_reads' HO_840004.out).2.1)
     (case side3 => exact qC ((Kd.R_reads' HO_840005.out).2.2))
     (case side4 => exact (Kd.R_reads' HO_840005.out).2.1)
     (case side5 => exact qC ((Kd.Q_reads' HO_826004.out).2.2))
     (case side6 => exact (Kd.Q_reads' HO_826004.out).2.1)
     (case side7 => exact qC ((Kd.R_reads' HO_826005.out).2.2))
     (case side8 => exact (Kd.R_reads' HO_826005.out).2.1)
     rintro e w118 ⟨rfl, hb⟩
     refine ⟨_, rfl, ?_⟩
     replace HO_4 := rB_ HO_4 hb
     replace HO_15 := lS_ HO_15 hb
     replace HO_18 := lS_ HO_18 hb
     replace HO_826004 := lQ_ HO_826004 hb
     replace HO_826005 := rB_ HO_826005 hb
     replace HO_840004 := lQ_ HO_840004 hb
     replace HO_840005 := rB_ HO_840005 hb
     replace HO_854004 := lQ_ HO_854004 hb
     replace HO_854005 := rB_ HO_854005 hb
     replace HO_867004 := lQ_ HO_867004 hb
     replace HO_867005 := rB_ HO_867005 hb
     replace HO_880004 := lQ_ HO_880004 hb
     replace HO_880005 := rB_ HO_880005 hb
     replace BK825 := bK_ BK825 hb
     replace BK839 := bK_ BK839 hb
     replace BK853 := bK_ BK853 hb
     replace BK866 := bK_ BK866 hb
     replace BK879 := bK_ BK879 hb
     replace BK884 := bK_ BK884 hb
     replace BK889 := bK_ BK889 hb
     replace HB := bS_ HB hb
     (try clear hb)
     refine hK.out _ _ (cw8 BK839.out (cz8 BK825.out)) (fun hHeld => ?_)
     clear hK K
     refine nm_ (some 120) ?_
     refine pq_ 20 121 HT_ (rl [21,2]) ?_
     refine pq_ 21 122 HT_ (rl [22,1]) ?_
     refine pq_ 22 123 HT_ (rl [23]) ?_
     refine done_ (done_of HT_.out (by kernel_rfl)) ?_
     try go_wp2_with ((with_reducible refine gate_ld rfl ?_); first | refine ld_ ?_ | fail)
     go_meet
     case rel => exact ⟨_, (!t916), eqq_, H', ⟨by have := HJ13.out; first | omega | exact Nat.le_refl _⟩, xS_ HO_15, xS_ HO_18, xQ_ HO_826004, xR_ HO_826005, xQ_ HO_840004, xR_ HO_840005, xQ_ HO_854004, xR_ HO_854005, xQ_ HO_867004, xR_ HO_867005, xQ_ HO_880004, xR_ HO_880005, ⟨qK BK825⟩, ⟨qK BK839⟩, ⟨qK BK853⟩, ⟨qK BK866⟩, ⟨qK BK879⟩, ⟨qK BK884⟩, ⟨qK BK889⟩, ⟨qB HB⟩⟩
    subst c105
    rw [if_pos rfl] at H
    obtain ⟨y906, hy906⟩ : ∃ y_ : List Int, y_ = (([] : List Int)) := ⟨_, rfl⟩
    replace H := mk_ H hy906
    (try dsimp only at H)
    have Ny906 := Aside0.mk hy906
    clear hy906
    by_cases c106 : y906.length + t814.length < 140737488355328
    case neg => exact nn_ c106 H
    rw [if_pos c106] at H
    have LMc106 := Aside0.mk c106
    clear c106
    obtain ⟨y909, hy909⟩ : ∃ y_ : List Int, y_ = (y906 ++ t814) := ⟨_, rfl⟩
    replace H := mk_ H hy909
    (try dsimp only at H)
    have Ny909 := Aside0.mk hy909
    clear hy909
    by_cases c107 : y909.length + t822.length < 140737488355328
    case neg => exact nn_ c107 H
    rw [if_pos c107] at H
    have LMc107 := Aside0.mk c107
    clear c107
    obtain ⟨y912, hy912⟩ : ∃ y_ : List Int, y_ = (y909 ++ t822) := ⟨_, rfl⟩
    replace H : ((laws_same.f t830 y912).bind fun t915 => (if t915 = true then (laws_FnSocks.j1 kj13 l0 t883 t890 t895 false t854 t855 t856 t857 t858 t861 t864 t865 t867 t868 t869 t870 t871 t874 t877 t878 t880 t881 t882) else (laws_FnSocks.j1 kj13 l0 t883 t890 t895 true t854 t855 t856 t857 t858 t861 t864 t865 t867 t868 t869 t870 t871 t874 t877 t878 t880 t881 t882))) = some r := by first | (rw [hy912]; with_reducible exact H) | (have H2_ := (Option.bind_some _ _).symm.trans H; rw [hy912]; with_reducible exact H2_) | (have H2_ := (Option.bind_some _ _).symm.trans H; with_reducible exact H2_) | with_reducible exact H | (rw [hy912]; exact H) | exact H
    have Ny912 := Aside0.mk hy912
    clear hy912
    replace H := bd_ H
    obtain ⟨t915, A108, H⟩ := H
    by_cases c109 : t915 = true
    rotate_left
    ·
     replace c109 := Bool.eq_false_iff.mpr c109
     subst c109
     rw [if_neg (show ¬ (false = true) by decide)] at H
     exact absurd (hr_.out ▸ H) (by cases kj13 <;> simp [laws_FnSocks.j1])
    subst c109
    rw [if_pos rfl] at H
    have H' := Aside0.mk H
    clear H
    try go_wp2_with ((with_reducible refine gate_ld rfl ?_); first | refine ld_ ?_ | fail)
    replace HO_4 := am_ (Kd.R_drew HO_4.out)
    replace HO_15 := am_ (Kd.S_drew HO_15.out)
    replace HO_18 := am_ (Kd.S_drew HO_18.out)
    replace HO_826004 := am_ (Kd.Q_drew HO_826004.out)
    replace HO_826005 := am_ (Kd.R_drew HO_826005.out)
    replace HO_840004 := am_ (Kd.Q_drew HO_840004.out)
    replace HO_840005 := am_ (Kd.R_drew HO_840005.out)
    replace HO_854004 := am_ (Kd.Q_drew HO_854004.out)
    replace HO_854005 := am_ (Kd.R_drew HO_854005.out)
    replace HO_867004 := am_ (Kd.Q_drew HO_867004.out)
    replace HO_867005 := am_ (Kd.R_drew HO_867005.out)
    replace HO_880004 := am_ (Kd.Q_drew HO_880004.out)
    replace HO_880005 := am_ (Kd.R_drew HO_880005.out)
    replace BK825 := am_ (blk_drew BK825.out)
    replace BK839 := am_ (blk_drew BK839.out)
    replace BK853 := am_ (blk_drew BK853.out)
    replace BK866 := am_ (blk_drew BK866.out)
    replace BK879 := am_ (blk_drew BK879.out)
    replace BK884 := am_ (blk_drew BK884.out)
    replace BK889 := am_ (blk_drew BK889.out)
    replace HB := am_ (below_drew1 HB.out)
    as_aux_lemma =>
    refine start_ (n := 23) (S := fun w' => w'.cell? ⟨gb839, 0, none⟩ = some (.int .i64 t826) ∧ w'.cell? ⟨gb839, 1, none⟩ = some (.int .i64 t827) ∧ w'.cell? ⟨gb839, 2, none⟩ = some (.int .i64 t828) ∧ w'.cell? ⟨gb839, 3, none⟩ = some (.bool t829) ∧ w'.cell? ⟨gb839, 4, none⟩ = some (.slice Ao27 t830.length co27) ∧ w'.cell? ⟨gb839, 5, none⟩ = some (.slice Ao28 t833.length co28) ∧ w'.cell? ⟨gb839, 6, none⟩ = some (.int .i64 t836) ∧ w'.cell? ⟨gb839, 7, none⟩ = some (.int .i64 t837) ∧ w'.cell? ⟨gb825, 0, none⟩ = some (.int .i64 t810) ∧ w'.cell? ⟨gb825, 1, none⟩ = some (.int .i64 t811) ∧ w'.cell? ⟨gb825, 2, none⟩ = some (.int .i64 t812) ∧ w'.cell? ⟨gb825, 3, none⟩ = some (.bool t813) ∧ w'.cell? ⟨gb825, 4, none⟩ = some (.slice Ao18 t814.length co18) ∧ w'.cell? ⟨gb825, 5, none⟩ = some (.slice Ao19 t817.length co19) ∧ w'.cell? ⟨gb825, 6, none⟩ = some (.int .i64 t820) ∧ w'.cell? ⟨gb825, 7, none⟩ = some (.int .i64 t821)) (ds := []) (rl [0,23]) (by kernel_rfl) rfl rfl (cw8 BK839.out (cz8 BK825.out)) (fun hHeld => ?_); refine with_tabW laws_FnSocks.tab14 laws_FnSocks.bits14 (fun HT_ HW_ => ?_)
    generalize wc.drew = w110 at HO_4 HO_15 HO_18 HO_826004 HO_826005 HO_840004 HO_840005 HO_854004 HO_854005 HO_867004 HO_867005 HO_880004 HO_880005 BK825 BK839 BK853 BK866 BK879 BK884 BK889 HB hHeld ⊢
    refine pq_ 0 101 HT_ (rl [1,22]) ?_
    refine pq_ 1 102 HT_ (rl [2,21]) ?_
    refine pq_ 2 103 HT_ (rl [3,20]) ?_
    refine pq_ 5 106 HT_ (rl [3,2,1,17]) ?_
    refine pq_ 8 109 HT_ (rl [3,2,1,2,1,14]) ?_
    refine tz_ (i := 3) (N := some 104) HT_ HW_ (rl [4,1,1,2,1,14]) rfl rfl hHeld ?_
    refine tz_ (i := 6) (N := some 107) HT_ HW_ (rl [4,1,2,1,1,14]) rfl rfl hHeld ?_
    refine on_ HT_ (i := 4) (N := some 105) (rl [7,1,1,14]) (fun K hK => ?_)
    refine Kd.R_lit_step (Kd.int .u8) _ 5 ?hg (N := 105) ?hd (xs := ([] : List Int)) (inner := []) (ok := fun _ => True) (okp := fun _ => True) ?hr ?hp (fun _ hk => hk) trivial (Below.refl _ _) (Nat.le_refl _) (by simp) ?_; (case hd => rfl); (case hg => rfl); (case hr => first | (go_simp; done) | (go_simp; rfl)); (case hp => exact (Reps.none _ _))
    intro v907 w111 ho112 hb hg_ hnew_
    clear hg_ hnew_
    (first | rw [← Ny906.out] at ho112 | (simp only [Int.reduceToNat] at ho112; rw [← Ny906.out] at ho112))
    replace HO_15 := am_ (Kd.S_elder' (qS HO_15) (Kd.R_base ho112) hb)
    replace HO_18 := am_ (Kd.S_elder' (qS HO_18) (Kd.R_base ho112) hb)
    have HO908 := am_ (Kd.R_lower (Kd.R_new' (Kd.R_new' (Kd.R_new' (Kd.R_new' (Kd.R_new' (Kd.R_new' (Kd.R_new' (Kd.R_new' (Kd.R_new' (Kd.R_new' (Kd.R_new' ho112 (Kd.R_lt (qR HO_4))) (Kd.Q_lt (qQ HO_826004))) (Kd.R_lt (qR HO_826005))) (Kd.Q_lt (qQ HO_840004))) (Kd.R_lt (qR HO_840005))) (Kd.Q_lt (qQ HO_854004))) (Kd.R_lt (qR HO_854005))) (Kd.Q_lt (qQ HO_867004))) (Kd.R_lt (qR HO_867005))) (Kd.Q_lt (qQ HO_880004))) (Kd.R_lt (qR HO_880005))) (below_size (qB HB)))
    replace HO_4 := eA_ HO_4 ho112 hb
    replace HO_826004 := am_ (Kd.Q_elder' (qQ HO_826004) (Kd.R_base ho112) hb)
    replace HO_826005 := eA_ HO_826005 ho112 hb
    replace HO_840004 := am_ (Kd.Q_elder' (qQ HO_840004) (Kd.R_base ho112) hb)
    replace HO_840005 := eA_ HO_840005 ho112 hb
    replace HO_854004 := am_ (Kd.Q_elder' (qQ HO_854004) (Kd.R_base ho112) hb)
    replace HO_854005 := eA_ HO_854005 ho112 hb
    replace HO_867004 := am_ (Kd.Q_elder' (qQ HO_867004) (Kd.R_base ho112) hb)
    replace HO_867005 := eA_ HO_867005 ho112 hb
    replace HO_880004 := am_ (Kd.Q_elder' (qQ HO_880004) (Kd.R_base ho112) hb)
    replace HO_880005 := eA_ HO_880005 ho112 hb
    replace BK825 := bK_ BK825 hb
    replace BK839 := bK_ BK839 hb
    replace BK853 := bK_ BK853 hb
    replace BK866 := bK_ BK866 hb
    replace BK879 := bK_ BK879 hb
    replace BK884 := bK_ BK884 hb
    replace BK889 := bK_ BK889 hb
    replace HB := bS_ HB hb
    clear hb ho112
    refine hK.out _ _ (cw8 BK839.out (cz8 BK825.out)) (fun hHeld => ?_)
    clear hK K
    refine nm_ (some 105) ?_
    refine on_ HT_ (i := 7) (N := some 108) (rl [9,14]) (fun K hK => ?_)
    refine Kd.R_append_rows_step (Kd.int .u8) (w0 := w) w.heap.size (by rfl) (.tmp 105) (.tmp 107) 22 5 (.int .u8 0) 1 rfl Try.underlying22 info5 rfl (by decide) (by omega) v907 y906 t814 _ _ _ (fun k_ => nb Ao22 t822.length co22 k_ ∧ nb Ao18 t814.length co18 k_ ∧ nb Ao19 t817.length co19 k_ ∧ nb Ao27 t830.length co27 k_ ∧ nb Ao28 t833.length co28 k_ ∧ nb Ao36 t844.length co36 k_ ∧ nb Ao37 t847.length co37 k_ ∧ nb Ao45 t858.length co45 k_ ∧ nb Ao46 t861.length co46 k_ ∧ nb Ao56 t871.length co56 k_ ∧ nb Ao57 t874.length co57 k_) (fun _ => False) rfl rfl ?aO ?aR (fun _ _ h => h) (fun _ h => h.elim) ?aF ?aB ?aS ?aL ?_
    (case aR => exact qC ((Kd.Q_reads' HO_826004.out).2.2))
    (case aB => exact (qB HB))
    (case aF => exact (fun k_ hk => ⟨Kd.fresh' (Kd.R_lt (qR HO_4)) k_ hk, Kd.fresh' (Kd.Q_lt (qQ HO_826004)) k_ hk, Kd.fresh' (Kd.R_lt (qR HO_826005)) k_ hk, Kd.fresh' (Kd.Q_lt (qQ HO_840004)) k_ hk, Kd.fresh' (Kd.R_lt (qR HO_840005)) k_ hk, Kd.fresh' (Kd.Q_lt (qQ HO_854004)) k_ hk, Kd.fresh' (Kd.R_lt (qR HO_854005)) k_ hk, Kd.fresh' (Kd.Q_lt (qQ HO_867004)) k_ hk, Kd.fresh' (Kd.R_lt (qR HO_867005)) k_ hk, Kd.fresh' (Kd.Q_lt (qQ HO_880004)) k_ hk, Kd.fresh' (Kd.R_lt (qR HO_880005)) k_ hk⟩))
    (case aO => exact (xR1_ HO908))
    (case aS => exact (below_size (qB HB)))
    (case aL => have := LMc106.out; omega)
    intro v910 w113 ho hb hg hat
    rw [← Ny909.out] at ho
    replace HO_4 := aR_ HO_4 hg hat
    replace HO_15 := aS_ HO_15 hg hat
    replace HO_18 := aS_ HO_18 hg hat
    replace HO_826004 := aQ_ HO_826004 hg hat
    replace HO_826005 := aR_ HO_826005 hg hat
    replace HO_840004 := aQ_ HO_840004 hg hat
    replace HO_840005 := aR_ HO_840005 hg hat
    replace HO_854004 := aQ_ HO_854004 hg hat
    replace HO_854005 := aR_ HO_854005 hg hat
    replace HO_867004 := aQ_ HO_867004 hg hat
    replace HO_867005 := aR_ HO_867005 hg hat
    replace HO_880004 := aQ_ HO_880004 hg hat
    replace HO_880005 := aR_ HO_880005 hg hat
    replace BK825 := kG_ BK825 HO908 hg
    replace BK839 := kG_ BK839 HO908 hg
    replace BK853 := kG_ BK853 HO908 hg
    replace BK866 := kG_ BK866 HO908 hg
    replace BK879 := kG_ BK879 HO908 hg
    replace BK884 := kG_ BK884 HO908 hg
    replace BK889 := kG_ BK889 HO908 hg
    replace HB := am_ (hb)
    have HO911 := am_ (ho)
    clear HO908
    clear ho hb hg hat
    refine hK.out _ _ (cw8 BK839.out (cz8 BK825.out)) (fun hHeld => ?_)
    clear hK K
    refine nm_ (some 108) ?_
    refine on_ HT_ (i := 9) (N := some 110) (rl [10,13]) (fun K hK => ?_)
    refine Kd.R_append_rows_step (Kd.int .u8) (w0 := w) w.heap.size (by rfl) (.tmp 108) (.tmp 109) 22 5 (.int .u8 0) 1 rfl Try.underlying22 info5 rfl (by decide) (by omega) v910 y909 t822 _ _ _ (fun k_ => nb Ao22 t822.length co22 k_ ∧ nb Ao18 t814.length co18 k_ ∧ nb Ao19 t817.length co19 k_ ∧ nb Ao27 t830.length co27 k_ ∧ nb Ao28 t833.length co28 k_ ∧ nb Ao36 t844.length co36 k_ ∧ nb Ao37 t847.length co37 k_ ∧ nb Ao45 t858.length co45 k_ ∧ nb Ao46 t861.length co46 k_ ∧ nb Ao56 t871.length co56 k_ ∧ nb Ao57 t874.length co57 k_) (fun _ => False) rfl rfl ?aO ?aR (fun _ _ h => h) (fun _ h => h.elim) ?aF ?aB ?aS ?aL ?_
    (case aR => exact qC ((Kd.R_reads' HO_4.out).2.2))
    (case aB => exact (qB HB))
    (case aF => exact (fun k_ hk => ⟨Kd.fresh' (Kd.R_lt (qR HO_4)) k_ hk, Kd.fresh' (Kd.Q_lt (qQ HO_826004)) k_ hk, Kd.fresh' (Kd.R_lt (qR HO_826005)) k_ hk, Kd.fresh' (Kd.Q_lt (qQ HO_840004)) k_ hk, Kd.fresh' (Kd.R_lt (qR HO_840005)) k_ hk, Kd.fresh' (Kd.Q_lt (qQ HO_854004)) k_ hk, Kd.fresh' (Kd.R_lt (qR HO_854005)) k_ hk, Kd.fresh' (Kd.Q_lt (qQ HO_867004)) k_ hk, Kd.fresh' (Kd.R_lt (qR HO_867005)) k_ hk, Kd.fresh' (Kd.Q_lt (qQ HO_880004)) k_ hk, Kd.fresh' (Kd.R_lt (qR HO_880005)) k_ hk⟩))
    (case aO => exact (qR HO911))
    (case aS => exact (below_size (qB HB)))
    (case aL => have := LMc107.out; omega)
    intro v913 w114 ho hb hg hat
    rw [← Ny912.out] at ho
    replace HO_4 := aR_ HO_4 hg hat
    replace HO_15 := aS_ HO_15 hg hat
    replace HO_18 := aS_ HO_18 hg hat
    replace HO_826004 := aQ_ HO_826004 hg hat
    replace HO_826005 := aR_ HO_826005 hg hat
    replace HO_840004 := aQ_ HO_840004 hg hat
    replace HO_840005 := aR_ HO_840005 hg hat
    replace HO_854004 := aQ_ HO_854004 hg hat
    replace HO_854005 := aR_ HO_854005 hg hat
    replace HO_867004 := aQ_ HO_867004 hg hat
    replace HO_867005 := aR_ HO_867005 hg hat
    replace HO_880004 := aQ_ HO_880004 hg hat
    replace HO_880005 := aR_ HO_880005 hg hat
    replace BK825 := kG_ BK825 HO911 hg
    replace BK839 := kG_ BK839 HO911 hg
    replace BK853 := kG_ BK853 HO911 hg
    replace BK866 := kG_ BK866 HO911 hg
    replace BK879 := kG_ BK879 HO911 hg
    replace BK884 := kG_ BK884 HO911 hg
    replace BK889 := kG_ BK889 HO911 hg
    replace HB := am_ (hb)
    have HO914 := am_ (ho)
    clear HO911
    clear ho hb hg hat
    obtain ⟨Ao115, co115, eo115⟩ := Kd.R_slice HO914.out
    (first | subst eo115 | (injection eo115 with f1_ f2_ f3_; have f4_ := f1_.symm; have f5_ := f3_.symm; clear f1_ f2_ f3_; subst f4_; subst f5_))
    refine hK.out _ _ (cw8 BK839.out (cz8 BK825.out)) (fun hHeld => ?_)
    clear hK K
    refine nm_ (some 110) ?_
    refine on_ HT_ (i := 10) (N := some 111) (rl [11,12]) (fun K hK => ?_)
    refine goes_ Try.func15 (by kernel_rfl) rfl #[.slice Ao27 t830.length co27, .slice Ao115 y912.length co115] (by rfl) rfl rfl la_ ?_
    with_reducible refine (laws_same.calls _ _ t830 _ _ y912 true _ ?side1 ?side2 ?side3 ?side4 A108.out).mono ?_
    (case side1 => exact qC ((Kd.Q_reads' HO_840004.out).2.2))
    (case side2 => exact (Kd.Q_reads' HO_840004.out).2.1)
    (case side3 => exact qC ((Kd.R_reads' HO914.out).2.2))
    (case side4 => exact (Kd.R_reads' HO914.out).2.1)
    rintro e w' ⟨rfl, ⟨nd, rfl⟩⟩
    refine ⟨_, rfl, ?_⟩
    refine hK.out _ _ (cw8 BK839.out (cz8 BK825.out)) (fun hHeld => ?_)
    clear hK K
    refine nm_ (some 111) ?_
    refine pq_ 11 112 HT_ (rl [12,11]) ?_
    refine pq_ 12 113 HT_ (rl [13,10]) ?_
    refine pq_ 13 114 HT_ (rl [14,9]) ?_
    refine pq_ 14 115 HT_ (rl [15,8]) ?_
    refine pq_ 15 116 HT_ (rl [16,7]) ?_
    refine pq_ 16 117 HT_ (rl [17,6]) ?_
    refine pv_ 17 118 HT_ (rl [18,5]) ?_
    refine pv_ 18 119 HT_ (rl [19,4]) ?_
    refine pv_ 19 120 HT_ (rl [20,3]) ?_
    refine pv_ 20 121 HT_ (rl [21,2]) ?_
    refine pq_ 21 122 HT_ (rl [22,1]) ?_
    refine pq_ 22 123 HT_ (rl [23]) ?_
    refine done_ (done_of HT_.out (by kernel_rfl)) ?_
    try go_wp2_with ((with_reducible refine gate_ld rfl ?_); first | refine ld_ ?_ | fail)
    go_meet
    case rel => exact ⟨_, (false), eqq_, H', ⟨by have := HJ13.out; first | omega | exact Nat.le_refl _⟩, xS_ HO_15, xS_ HO_18, xQ_ HO_826004, xR_ HO_826005, xQ_ HO_840004, xR_ HO_840005, xQ_ HO_854004, xR_ HO_854005, xQ_ HO_867004, xR_ HO_867005, xQ_ HO_880004, xR_ HO_880005, ⟨qK BK825⟩, ⟨qK BK839⟩, ⟨qK BK853⟩, ⟨qK BK866⟩, ⟨qK BK879⟩, ⟨qK BK884⟩, ⟨qK BK889⟩, ⟨qB HB⟩⟩
   case rest =>
    clear HC104
    try clear c1
    try clear p2
    try clear c3
    try clear c10
    try clear c15
    try clear c36
    try clear c105
    try clear c106
    try clear c107
    try clear c109
    obtain ⟨kq, x123_103, rfl, HA, HJ103, HO_15, HO_18, HO_826004, HO_826005, HO_840004, HO_840005, HO_854004, HO_854005, HO_867004, HO_867005, HO_880004, HO_880005, BK825, BK839, BK853, BK866, BK879, BK884, BK889, HB⟩ := hcut
    cases kq with
    | zero => exact absurd HA.out (by simp [laws_FnSocks.j1])
    | succ kj103 =>
     have H := HA.out
     clear HA
     simp only [laws_FnSocks.j1] at H
     by_cases c119 : x123_103 = true
     ·
      subst c119
      rw [if_pos rfl] at H
      exact absurd (hr_.out ▸ H) (by simp)
     replace c119 := Bool.eq_false_iff.mpr c119
     subst c119
     rw [if_neg (show ¬ (false = true) by decide)] at H
     have HC120 := Aside0.mk H
     clear H
     go_upto_region 16 with ((with_reducible refine gate_ld rfl ?_); first | refine ld_ ?_ | fail)
     go_cut [148] (fun v148 wc => ∃ (kq : Nat) (x148_119 : Bool), v148 = .bool x148_119 ∧ Aside0 (laws_FnSocks.j2 kq l0 t890 t895 x148_119 = some r) ∧ Aside0 (kq ≤ kj103) ∧ Aside0 (Kd.S k41 41 wc w.heap.size (fun k_ => nv v896 k_ ∧ nb Ao18 t814.length co18 k_ ∧ nb Ao19 t817.length co19 k_ ∧ nb Ao27 t830.length co27 k_ ∧ nb Ao28 t833.length co28 k_ ∧ nb Ao36 t844.length co36 k_ ∧ nb Ao37 t847.length co37 k_ ∧ nb Ao45 t858.length co45 k_ ∧ nb Ao46 t861.length co46 k_ ∧ nb Ao56 t871.length co56 k_ ∧ nb Ao57 t874.length co57 k_ ∧ k_ ≠ gb825 ∧ k_ ≠ gb839 ∧ k_ ≠ gb853 ∧ k_ ≠ gb866 ∧ k_ ≠ gb879) (.slice Ao81 t890.length co81) t890) ∧ Aside0 (Kd.S k41 41 wc w.heap.size (fun k_ => nb Ao81 t890.length co81 k_ ∧ nb Ao18 t814.length co18 k_ ∧ nb Ao19 t817.length co19 k_ ∧ nb Ao27 t830.length co27 k_ ∧ nb Ao28 t833.length co28 k_ ∧ nb Ao36 t844.length co36 k_ ∧ nb Ao37 t847.length co37 k_ ∧ nb Ao45 t858.length co45 k_ ∧ nb Ao46 t861.length co46 k_ ∧ nb Ao56 t871.length co56 k_ ∧ nb Ao57 t874.length co57 k_ ∧ k_ ≠ gb825 ∧ k_ ≠ gb839 ∧ k_ ≠ gb853 ∧ k_ ≠ gb866 ∧ k_ ≠ gb879) v896 t895) ∧ Aside0 (Kd.Q (Kd.int .u8) 5 wc w.heap.size (fun k_ => nb Ao19 t817.length co19 k_ ∧ nb Ao27 t830.length co27 k_ ∧ nb Ao28 t833.length co28 k_ ∧ nb Ao36 t844.length co36 k_ ∧ nb Ao37 t847.length co37 k_ ∧ nb Ao45 t858.length co45 k_ ∧ nb Ao46 t861.length co46 k_ ∧ nb Ao56 t871.length co56 k_ ∧ nb Ao57 t874.length co57 k_) (.slice Ao18 t814.length co18) t814) ∧ Aside0 (Kd.R (Kd.int .u8) 5 wc w.heap.size (fun k_ => nb Ao18 t814.length co18 k_ ∧ nb Ao27 t830.length co27 k_ ∧ nb Ao28 t833.length co28 k_ ∧ nb Ao36 t844.length co36 k_ ∧ nb Ao37 t847.length co37 k_ ∧ nb Ao45 t858.length co45 k_ ∧ nb Ao46 t861.length co46 k_ ∧ nb Ao56 t871.length co56 k_ ∧ nb Ao57 t874.length co57 k_) (.slice Ao19 t817.length co19) t817) ∧ Aside0 (Kd.Q (Kd.int .u8) 5 wc w.heap.size (fun k_ => nb Ao18 t814.length co18 k_ ∧ nb Ao19 t817.length co19 k_ ∧ nb Ao28 t833.length co28 k_ ∧ nb Ao36 t844.length co36 k_ ∧ nb Ao37 t847.length co37 k_ ∧ nb Ao45 t858.length co45 k_ ∧ nb Ao46 t861.length co46 k_ ∧ nb Ao56 t871.length co56 k_ ∧ nb Ao57 t874.length co57 k_) (.slice Ao27 t830.length co27) t830) ∧ Aside0 (Kd.R (Kd.int .u8) 5 wc w.heap.size (fun k_ => nb Ao18 t814.length co18 k_ ∧ nb Ao19 t817.length co19 k_ ∧ nb Ao27 t830.length co27 k_ ∧ nb Ao36 t844.length co36 k_ ∧ nb Ao37 t847.length co37 k_ ∧ nb Ao45 t858.length co45 k_ ∧ nb Ao46 t861.length co46 k_ ∧ nb Ao56 t871.length co56 k_ ∧ nb Ao57 t874.length co57 k_) (.slice Ao28 t833.length co28) t833) ∧ Aside0 (Kd.Q (Kd.int .u8) 5 wc w.heap.size (fun k_ => nb Ao18 t814.length co18 k_ ∧ nb Ao19 t817.length co19 k_ ∧ nb Ao27 t830.length co27 k_ ∧ nb Ao28 t833.length co28 k_ ∧ nb Ao37 t847.length co37 k_ ∧ nb Ao45 t858.length co45 k_ ∧ nb Ao46 t861.length co46 k_ ∧ nb Ao56 t871.length co56 k_ ∧ nb Ao57 t874.length co57 k_) (.slice Ao36 t844.length co36) t844) ∧ Aside0 (Kd.R (Kd.int .u8) 5 wc w.heap.size (fun k_ => nb Ao18 t814.length co18 k_ ∧ nb Ao19 t817.length co19 k_ ∧ nb Ao27 t830.length co27 k_ ∧ nb Ao28 t833.length co28 k_ ∧ nb Ao36 t844.length co36 k_ ∧ nb Ao45 t858.length co45 k_ ∧ nb Ao46 t861.length co46 k_ ∧ nb Ao56 t871.length co56 k_ ∧ nb Ao57 t874.length co57 k_) (.slice Ao37 t847.length co37) t847) ∧ Aside0 (Kd.Q (Kd.int .u8) 5 wc w.heap.size (fun k_ => nb Ao18 t814.length co18 k_ ∧ nb Ao19 t817.length co19 k_ ∧ nb Ao27 t830.length co27 k_ ∧ nb Ao28 t833.length co28 k_ ∧ nb Ao36 t844.length co36 k_ ∧ nb Ao37 t847.length co37 k_ ∧ nb Ao46 t861.length co46 k_ ∧ nb Ao56 t871.length co56 k_ ∧ nb Ao57 t874.length co57 k_) (.slice Ao45 t858.length co45) t858) ∧ Aside0 (Kd.R (Kd.int .u8) 5 wc w.heap.size (fun k_ => nb Ao18 t814.length co18 k_ ∧ nb Ao19 t817.length co19 k_ ∧ nb Ao27 t830.length co27 k_ ∧ nb Ao28 t833.length co28 k_ ∧ nb Ao36 t844.length co36 k_ ∧ nb Ao37 t847.length co37 k_ ∧ nb Ao45 t858.length co45 k_ ∧ nb Ao56 t871.length co56 k_ ∧ nb Ao57 t874.length co57 k_) (.slice Ao46 t861.length co46) t861) ∧ Aside0 (Kd.Q (Kd.int .u8) 5 wc w.heap.size (fun k_ => nb Ao18 t814.length co18 k_ ∧ nb Ao19 t817.length co19 k_ ∧ nb Ao27 t830.length co27 k_ ∧ nb Ao28 t833.length co28 k_ ∧ nb Ao36 t844.length co36 k_ ∧ nb Ao37 t847.length co37 k_ ∧ nb Ao45 t858.length co45 k_ ∧ nb Ao46 t861.length co46 k_ ∧ nb Ao57 t874.length co57 k_) (.slice Ao56 t871.length co56) t871) ∧ Aside0 (Kd.R (Kd.int .u8) 5 wc w.heap.size (fun k_ => nb Ao18 t814.length co18 k_ ∧ nb Ao19 t817.length co19 k_ ∧ nb Ao27 t830.length co27 k_ ∧ nb Ao28 t833.length co28 k_ ∧ nb Ao36 t844.length co36 k_ ∧ nb Ao37 t847.length co37 k_ ∧ nb Ao45 t858.length co45 k_ ∧ nb Ao46 t861.length co46 k_ ∧ nb Ao56 t871.length co56 k_) (.slice Ao57 t874.length co57) t874) ∧ Aside0 (wc.heap[gb825]? = some (.cells #[.int .i64 t810, .int .i64 t811, .int .i64 t812, .bool t813, (.slice Ao18 t814.length co18), (.slice Ao19 t817.length co19), .int .i64 t820, .int .i64 t821] 41 (0, 0))) ∧ Aside0 (wc.heap[gb839]? = some (.cells #[.int .i64 t826, .int .i64 t827, .int .i64 t828, .bool t829, (.slice Ao27 t830.length co27), (.slice Ao28 t833.length co28), .int .i64 t836, .int .i64 t837] 41 (0, 0))) ∧ Aside0 (wc.heap[gb853]? = some (.cells #[.int .i64 t840, .int .i64 t841, .int .i64 t842, .bool t843, (.slice Ao36 t844.length co36), (.slice Ao37 t847.length co37), .int .i64 t850, .int .i64 t851] 41 (0, 0))) ∧ Aside0 (wc.heap[gb866]? = some (.cells #[.int .i64 t854, .int .i64 t855, .int .i64 t856, .bool t857, (.slice Ao45 t858.length co45), (.slice Ao46 t861.length co46), .int .i64 t864, .int .i64 t865] 41 (0, 0))) ∧ Aside0 (wc.heap[gb879]? = some (.cells #[.int .i64 t867, .int .i64 t868, .int .i64 t869, .bool t870, (.slice Ao56 t871.length co56), (.slice Ao57 t874.length co57), .int .i64 t877, .int .i64 t878] 41 (0, 0))) ∧ Aside0 (wc.heap[gb884]? = some (.cells #[.int .i64 t880, .string t881, .int .i64 t882] 49 (0, 0))) ∧ Aside0 (wc.heap[gb889]? = some (.cells #[.int .i64 t885, .string t886, .int .i64 t887] 49 (0, 0))) ∧ Aside0 (Below w.heap.size w wc))
     case first =>
      have H := HC120.out
      clear HC120
      by_cases c121 : t883 = 0
      rotate_left
      ·
       rw [if_neg c121] at H
       have c121b0 : (t883 == 0) = false := beq_eq_false_iff_ne.mpr c121
       have c121b1 : (t883 != 0) = true := bne_iff_ne.mpr c121
       (first | rw [c121b0] | rw [c121b1] | (simp only [i64_w, i32_w]; rw [c121b0]) | skip)
       replace H := bd_ H
       obtain ⟨t924, A130, H⟩ := H
       have H' := Aside0.mk H
       clear H
       try go_wp2_with ((with_reducible refine gate_ld rfl ?_); first | refine ld_ ?_ | fail)
       replace HO_15 := am_ (Kd.S_drew HO_15.out)
       replace HO_18 := am_ (Kd.S_drew HO_18.out)
       replace HO_826004 := am_ (Kd.Q_drew HO_826004.out)
       replace HO_826005 := am_ (Kd.R_drew HO_826005.out)
       replace HO_840004 := am_ (Kd.Q_drew HO_840004.out)
       replace HO_840005 := am_ (Kd.R_drew HO_840005.out)
       replace HO_854004 := am_ (Kd.Q_drew HO_854004.out)
       replace HO_854005 := am_ (Kd.R_drew HO_854005.out)
       replace HO_867004 := am_ (Kd.Q_drew HO_867004.out)
       replace HO_867005 := am_ (Kd.R_drew HO_867005.out)
       replace HO_880004 := am_ (Kd.Q_drew HO_880004.out)
       replace HO_880005 := am_ (Kd.R_drew HO_880005.out)
       replace BK825 := am_ (blk_drew BK825.out)
       replace BK839 := am_ (blk_drew BK839.out)
       replace BK853 := am_ (blk_drew BK853.out)
       replace BK866 := am_ (blk_drew BK866.out)
       replace BK879 := am_ (blk_drew BK879.out)
       replace BK884 := am_ (blk_drew BK884.out)
       replace BK889 := am_ (blk_drew BK889.out)
       replace HB := am_ (below_drew1 HB.out)
       as_aux_lemma =>
       refine start_ (n := 25) (S := fun w' => w'.cell? ⟨gb879, 0, none⟩ = some (.int .i64 t867) ∧ w'.cell? ⟨gb879, 1, none⟩ = some (.int .i64 t868) ∧ w'.cell? ⟨gb879, 2, none⟩ = some (.int .i64 t869) ∧ w'.cell? ⟨gb879, 3, none⟩ = some (.bool t870) ∧ w'.cell? ⟨gb879, 4, none⟩ = some (.slice Ao56 t871.length co56) ∧ w'.cell? ⟨gb879, 5, none⟩ = some (.slice Ao57 t874.length co57) ∧ w'.cell? ⟨gb879, 6, none⟩ = some (.int .i64 t877) ∧ w'.cell? ⟨gb879, 7, none⟩ = some (.int .i64 t878) ∧ w'.cell? ⟨gb866, 0, none⟩ = some (.int .i64 t854) ∧ w'.cell? ⟨gb866, 1, none⟩ = some (.int .i64 t855) ∧ w'.cell? ⟨gb866, 2, none⟩ = some (.int .i64 t856) ∧ w'.cell? ⟨gb866, 3, none⟩ = some (.bool t857) ∧ w'.cell? ⟨gb866, 4, none⟩ = some (.slice Ao45 t858.length co45) ∧ w'.cell? ⟨gb866, 5, none⟩ = some (.slice Ao46 t861.length co46) ∧ w'.cell? ⟨gb866, 6, none⟩ = some (.int .i64 t864) ∧ w'.cell? ⟨gb866, 7, none⟩ = some (.int .i64 t865)) (ds := []) (rl [0,25]) (by kernel_rfl) rfl rfl (cw8 BK879.out (cz8 BK866.out)) (fun hHeld => ?_); refine with_tabW laws_FnSocks.tab16 laws_FnSocks.bits16 (fun HT_ HW_ => ?_)
       generalize wc.drew = w131 at HO_15 HO_18 HO_826004 HO_826005 HO_840004 HO_840005 HO_854004 HO_854005 HO_867004 HO_867005 HO_880004 HO_880005 BK825 BK839 BK853 BK866 BK879 BK884 BK889 HB hHeld ⊢
       refine pq_ 0 124 HT_ (rl [1,24]) ?_
       refine pq_ 1 125 HT_ (rl [2,23]) ?_
       refine pq_ 2 126 HT_ (rl [3,22]) ?_
       refine pv_ 3 127 HT_ (rl [4,21]) ?_
       refine pv_ 4 128 HT_ (rl [5,20]) ?_
       refine pv_ 5 129 HT_ (rl [6,19]) ?_
       refine pv_ 6 130 HT_ (rl [7,18]) ?_
       refine pv_ 7 131 HT_ (rl [8,17]) ?_
       refine pv_ 8 132 HT_ (rl [9,16]) ?_
       refine pv_ 9 133 HT_ (rl [10,15]) ?_
       refine pv_ 10 134 HT_ (rl [11,14]) ?_
       refine pv_ 11 135 HT_ (rl [12,13]) ?_
       refine pq_ 12 136 HT_ (rl [13,12]) ?_
       refine pq_ 13 137 HT_ (rl [14,11]) ?_
       refine pq_ 14 138 HT_ (rl [15,10]) ?_
       refine pq_ 15 139 HT_ (rl [16,9]) ?_
       refine pq_ 16 140 HT_ (rl [17,8]) ?_
       refine pq_ 17 141 HT_ (rl [18,7]) ?_
       refine pq_ 19 143 HT_ (rl [18,1,1,5]) ?_
       refine tz_ (i := 18) (N := some 142) HT_ HW_ (rl [20,5]) rfl rfl hHeld ?_
       refine tz_ (i := 20) (N := some 144) HT_ HW_ (rl [21,4]) rfl rfl hHeld ?_
       refine on_ HT_ (i := 21) (N := some 145) (rl [22,3]) (fun K hK => ?_)
       refine goes_ Try.func15 (by kernel_rfl) rfl #[.slice Ao56 t871.length co56, .slice Ao45 t858.length co45] (by rfl) rfl rfl la_ ?_
       with_reducible refine (laws_same.calls _ _ t871 _ _ t858 t924 _ ?side1 ?side2 ?side3 ?side4 A130.out).mono ?_
       (case side1 => exact qC ((Kd.Q_reads' HO_880004.out).2.2))
       (case side2 => exact (Kd.Q_reads' HO_880004.out).2.1)
       (case side3 => exact qC ((Kd.Q_reads' HO_867004.out).2.2))
       (case side4 => exact (Kd.Q_reads' HO_867004.out).2.1)
       rintro e w' ⟨rfl, ⟨nd, rfl⟩⟩
       refine ⟨_, rfl, ?_⟩
       refine hK.out _ _ (cw8 BK879.out (cz8 BK866.out)) (fun hHeld => ?_)
       clear hK K
       refine nm_ (some 145) ?_
       refine pq_ 22 146 HT_ (rl [23,2]) ?_
       refine pq_ 23 147 HT_ (rl [24,1]) ?_
       refine pq_ 24 148 HT_ (rl [25]) ?_
       refine done_ (done_of HT_.out (by kernel_rfl)) ?_
       try go_wp2_with ((with_reducible refine gate_ld rfl ?_); first | refine ld_ ?_ | fail)
       go_meet
       case rel => exact ⟨_, (!t924), eqq_, H', ⟨by have := HJ13.out; have := HJ103.out; first | omega | exact Nat.le_refl _⟩, ⟨qS HO_15⟩, ⟨qS HO_18⟩, ⟨qQ HO_826004⟩, ⟨qR HO_826005⟩, ⟨qQ HO_840004⟩, ⟨qR HO_840005⟩, ⟨qQ HO_854004⟩, ⟨qR HO_854005⟩, ⟨qQ HO_867004⟩, ⟨qR HO_867005⟩, ⟨qQ HO_880004⟩, ⟨qR HO_880005⟩, ⟨qK BK825⟩, ⟨qK BK839⟩, ⟨qK BK853⟩, ⟨qK BK866⟩, ⟨qK BK879⟩, ⟨qK BK884⟩, ⟨qK BK889⟩, ⟨qB HB⟩⟩
      rw [if_pos c121] at H
      have c121b0 : (t883 == 0) = true := beq_iff_eq.mpr c121
      have c121b1 : (t883 != 0) = false := bne_eq_false_iff_eq.mpr c121
      clear c121
      (first | rw [c121b0] | rw [c121b1] | (simp only [i64_w, i32_w]; rw [c121b0]) | skip)
      replace H := bd_ H
      obtain ⟨t917, A122, H⟩ := H
      by_cases c123 : t917.length + t871.length < 140737488355328
      case neg => exact nn_ c123 H
      rw [if_pos c123] at H
      have LMc123 := Aside0.mk c123
      clear c123
      obtain ⟨y920, hy920⟩ : ∃ y_ : List Int, y_ = (t917 ++ t871) := ⟨_, rfl⟩
      replace H : ((laws_same.f y920 t858).bind fun t923 => (if t923 = true then (laws_FnSocks.j2 kj103 l0 t890 t895 false) else (laws_FnSocks.j2 kj103 l0 t890 t895 true))) = some r := by first | (rw [hy920]; with_reducible exact H) | (have H2_ := (Option.bind_some _ _).symm.trans H; rw [hy920]; with_reducible exact H2_) | (have H2_ := (Option.bind_some _ _).symm.trans H; with_reducible exact H2_) | with_reducible exact H | (rw [hy920]; exact H) | exact H
      have Ny920 := Aside0.mk hy920
      clear hy920
      replace H := bd_ H
      obtain ⟨t923, A124, H⟩ := H
      by_cases c125 : t923 = true
      rotate_left
      ·
       replace c125 := Bool.eq_false_iff.mpr c125
       subst c125
       rw [if_neg (show ¬ (false = true) by decide)] at H
       exact absurd (hr_.out ▸ H) (by cases kj103 <;> simp [laws_FnSocks.j2])
      subst c125
      rw [if_pos rfl] at H
      have H' := Aside0.mk H
      clear H
      try go_wp2_with ((with_reducible refine gate_ld rfl ?_); first | refine ld_ ?_ | fail)
      replace HO_15 := am_ (Kd.S_drew HO_15.out)
      replace HO_18 := am_ (Kd.S_drew HO_18.out)
      replace HO_826004 := am_ (Kd.Q_drew HO_826004.out)
      replace HO_826005 := am_ (Kd.R_drew HO_826005.out)
      replace HO_840004 := am_ (Kd.Q_drew HO_840004.out)
      replace HO_840005 := am_ (Kd.R_drew HO_840005.out)
      replace HO_854004 := am_ (Kd.Q_drew HO_854004.out)
      replace HO_854005 := am_ (Kd.R_drew HO_854005.out)
      replace HO_867004 := am_ (Kd.Q_drew HO_867004.out)
      replace HO_867005 := am_ (Kd.R_drew HO_867005.out)
      replace HO_880004 := am_ (Kd.Q_drew HO_880004.out)
      replace HO_880005 := am_ (Kd.R_drew HO_880005.out)
      replace BK825 := am_ (blk_drew BK825.out)
      replace BK839 := am_ (blk_drew BK839.out)
      replace BK853 := am_ (blk_drew BK853.out)
      replace BK866 := am_ (blk_drew BK866.out)
      replace BK879 := am_ (blk_drew BK879.out)
      replace BK884 := am_ (blk_drew BK884.out)
      replace BK889 := am_ (blk_drew BK889.out)
      replace HB := am_ (below_drew1 HB.out)
      as_aux_lemma =>
      refine start_ (n := 25) (S := fun w' => w'.cell? ⟨gb884, 0, none⟩ = some (.int .i64 t880) ∧ w'.cell? ⟨gb884, 1, none⟩ = some (.string t881) ∧ w'.cell? ⟨gb884, 2, none⟩ = some (.int .i64 t882) ∧ w'.cell? ⟨gb879, 0, none⟩ = some (.int .i64 t867) ∧ w'.cell? ⟨gb879, 1, none⟩ = some (.int .i64 t868) ∧ w'.cell? ⟨gb879, 2, none⟩ = some (.int .i64 t869) ∧ w'.cell? ⟨gb879, 3, none⟩ = some (.bool t870) ∧ w'.cell? ⟨gb879, 4, none⟩ = some (.slice Ao56 t871.length co56) ∧ w'.cell? ⟨gb879, 5, none⟩ = some (.slice Ao57 t874.length co57) ∧ w'.cell? ⟨gb879, 6, none⟩ = some (.int .i64 t877) ∧ w'.cell? ⟨gb879, 7, none⟩ = some (.int .i64 t878) ∧ w'.cell? ⟨gb866, 0, none⟩ = some (.int .i64 t854) ∧ w'.cell? ⟨gb866, 1, none⟩ = some (.int .i64 t855) ∧ w'.cell? ⟨gb866, 2, none⟩ = some (.int .i64 t856) ∧ w'.cell? ⟨gb866, 3, none⟩ = some (.bool t857) ∧ w'.cell? ⟨gb866, 4, none⟩ = some (.slice Ao45 t858.length co45) ∧ w'.cell? ⟨gb866, 5, none⟩ = some (.slice Ao46 t861.length co46) ∧ w'.cell? ⟨gb866, 6, none⟩ = some (.int .i64 t864) ∧ w'.cell? ⟨gb866, 7, none⟩ = some (.int .i64 t865)) (ds := []) (rl [0,25]) (by kernel_rfl) rfl rfl (cw3 BK884.out (cw8 BK879.out (cz8 BK866.out))) (fun hHeld => ?_); refine with_tabW laws_FnSocks.tab16 laws_FnSocks.bits16 (fun HT_ HW_ => ?_)
      generalize wc.drew = w126 at HO_15 HO_18 HO_826004 HO_826005 HO_840004 HO_840005 HO_854004 HO_854005 HO_867004 HO_867005 HO_880004 HO_880005 BK825 BK839 BK853 BK866 BK879 BK884 BK889 HB hHeld ⊢
      refine pq_ 0 124 HT_ (rl [1,24]) ?_
      refine pq_ 1 125 HT_ (rl [2,23]) ?_
      refine pq_ 2 126 HT_ (rl [3,22]) ?_
      refine pq_ 5 129 HT_ (rl [3,2,1,19]) ?_
      refine pq_ 8 132 HT_ (rl [3,2,1,2,1,16]) ?_
      refine tz_ (i := 3) (N := some 127) HT_ HW_ (rl [4,1,1,2,1,16]) rfl rfl hHeld ?_
      refine tz_ (i := 6) (N := some 130) HT_ HW_ (rl [4,1,2,1,1,16]) rfl rfl hHeld ?_
      refine tz_ (i := 9) (N := some 133) HT_ HW_ (rl [4,1,2,1,2,15]) rfl rfl hHeld ?_
      refine on_ HT_ (i := 4) (N := some 128) (rl [7,1,2,15]) (fun K hK => ?_)
      refine goes_ Try.func37 (by kernel_rfl) rfl #[.agg #[.int .i64 t880, .string t881, .int .i64 t882]] (by rfl) rfl rfl la_ ?_
      with_reducible refine (impl_PutFrame.calls kj103 t880 t881 t882 t917 _ A122.out).mono ?_
      rintro e w127 ⟨v918, rfl, ho0, hb⟩
      refine ⟨_, rfl, ?_⟩
      replace HO_15 := am_ (Kd.S_elder' (qS HO_15) (Kd.R_base ho0) hb)
      replace HO_18 := am_ (Kd.S_elder' (qS HO_18) (Kd.R_base ho0) hb)
      have HO919 := am_ (Kd.R_lower (Kd.R_new' (Kd.R_new' (Kd.R_new' (Kd.R_new' (Kd.R_new' (Kd.R_new' (Kd.R_new' (Kd.R_new' (Kd.R_new' (Kd.R_new' ho0 (Kd.Q_lt (qQ HO_826004))) (Kd.R_lt (qR HO_826005))) (Kd.Q_lt (qQ HO_840004))) (Kd.R_lt (qR HO_840005))) (Kd.Q_lt (qQ HO_854004))) (Kd.R_lt (qR HO_854005))) (Kd.Q_lt (qQ HO_867004))) (Kd.R_lt (qR HO_867005))) (Kd.Q_lt (qQ HO_880004))) (Kd.R_lt (qR HO_880005))) (below_size (qB HB)))
      replace HO_826004 := am_ (Kd.Q_elder' (qQ HO_826004) (Kd.R_base ho0) hb)
      replace HO_826005 := eA_ HO_826005 ho0 hb
      replace HO_840004 := am_ (Kd.Q_elder' (qQ HO_840004) (Kd.R_base ho0) hb)
      replace HO_840005 := eA_ HO_840005 ho0 hb
      replace HO_854004 := am_ (Kd.Q_elder' (qQ HO_854004) (Kd.R_base ho0) hb)
      replace HO_854005 := eA_ HO_854005 ho0 hb
      replace HO_867004 := am_ (Kd.Q_elder' (qQ HO_867004) (Kd.R_base ho0) hb)
      replace HO_867005 := eA_ HO_867005 ho0 hb
      replace HO_880004 := am_ (Kd.Q_elder' (qQ HO_880004) (Kd.R_base ho0) hb)
      replace HO_880005 := eA_ HO_880005 ho0 hb
      replace BK825 := bK_ BK825 hb
      replace BK839 := bK_ BK839 hb
      replace BK853 := bK_ BK853 hb
      replace BK866 := bK_ BK866 hb
      replace BK879 := bK_ BK879 hb
      replace BK884 := bK_ BK884 hb
      replace BK889 := bK_ BK889 hb
      replace HB := bS_ HB hb
      (try clear hb ho0)
      refine hK.out _ _ (cw3 BK884.out (cw8 BK879.out (cz8 BK866.out))) (fun hHeld => ?_)
      clear hK K
      refine nm_ (some 128) ?_
      refine on_ HT_ (i := 7) (N := some 131) (rl [10,15]) (fun K hK => ?_)
      refine Kd.R_append_rows_step (Kd.int .u8) (w0 := w) w.heap.size (by rfl) (.tmp 128) (.tmp 130) 22 5 (.int .u8 0) 1 rfl Try.underlying22 info5 rfl (by decide) (by omega) v918 t917 t871 _ _ _ (fun k_ => nb Ao18 t814.length co18 k_ ∧ nb Ao19 t817.length co19 k_ ∧ nb Ao27 t830.length co27 k_ ∧ nb Ao28 t833.length co28 k_ ∧ nb Ao36 t844.length co36 k_ ∧ nb Ao37 t847.length co37 k_ ∧ nb Ao45 t858.length co45 k_ ∧ nb Ao46 t861.length co46 k_ ∧ nb Ao56 t871.length co56 k_ ∧ nb Ao57 t874.length co57 k_) (fun _ => False) rfl rfl ?aO ?aR (fun _ _ h => h) (fun _ h => h.elim) ?aF ?aB ?aS ?aL ?_
      (case aR => exact qC ((Kd.Q_reads' HO_880004.out).2.2))
      (case aB => exact (qB HB))
      (case aF => exact (fun k_ hk => ⟨Kd.fresh' (Kd.Q_lt (qQ HO_826004)) k_ hk, Kd.fresh' (Kd.R_lt (qR HO_826005)) k_ hk, Kd.fresh' (Kd.Q_lt (qQ HO_840004)) k_ hk, Kd.fresh' (Kd.R_lt (qR HO_840005)) k_ hk, Kd.fresh' (Kd.Q_lt (qQ HO_854004)) k_ hk, Kd.fresh' (Kd.R_lt (qR HO_854005)) k_ hk, Kd.fresh' (Kd.Q_lt (qQ HO_867004)) k_ hk, Kd.fresh' (Kd.R_lt (qR HO_867005)) k_ hk, Kd.fresh' (Kd.Q_lt (qQ HO_880004)) k_ hk, Kd.fresh' (Kd.R_lt (qR HO_880005)) k_ hk⟩))
      (case aO => exact (xR1_ HO919))
      (case aS => exact (below_size (qB HB)))
      (case aL => have := LMc123.out; omega)
      intro v921 w128 ho hb hg hat
      rw [← Ny920.out] at ho
      replace HO_15 := aS_ HO_15 hg hat
      replace HO_18 := aS_ HO_18 hg hat
      replace HO_826004 := aQ_ HO_826004 hg hat
      replace HO_826005 := aR_ HO_826005 hg hat
      replace HO_840004 := aQ_ HO_840004 hg hat
      replace HO_840005 := aR_ HO_840005 hg hat
      replace HO_854004 := aQ_ HO_854004 hg hat
      replace HO_854005 := aR_ HO_854005 hg hat
      replace HO_867004 := aQ_ HO_867004 hg hat
      replace HO_867005 := aR_ HO_867005 hg hat
      replace HO_880004 := aQ_ HO_880004 hg hat
      replace HO_880005 := aR_ HO_880005 hg hat
      replace BK825 := kG_ BK825 HO919 hg
      replace BK839 := kG_ BK839 HO919 hg
      replace BK853 := kG_ BK853 HO919 hg
      replace BK866 := kG_ BK866 HO919 hg
      replace BK879 := kG_ BK879 HO919 hg
      replace BK884 := kG_ BK884 HO919 hg
      replace BK889 := kG_ BK889 HO919 hg
      replace HB := am_ (hb)
      have HO922 := am_ (ho)
      clear HO919
      clear ho hb hg hat
      obtain ⟨Ao129, co129, eo129⟩ := Kd.R_slice HO922.out
      (first | subst eo129 | (injection eo129 with f1_ f2_ f3_; have f4_ := f1_.symm; have f5_ := f3_.symm; clear f1_ f2_ f3_; subst f4_; subst f5_))
      refine hK.out _ _ (cw3 BK884.out (cw8 BK879.out (cz8 BK866.out))) (fun hHeld => ?_)
      clear hK K
      refine nm_ (some 131) ?_
      refine on_ HT_ (i := 10) (N := some 134) (rl [11,14]) (fun K hK => ?_)
      refine goes_ Try.func15 (by kernel_rfl) rfl #[.slice Ao129 y920.length co129, .slice Ao45 t858.length co45] (by rfl) rfl rfl la_ ?_
      with_reducible refine (laws_same.calls _ _ y920 _ _ t858 true _ ?side1 ?side2 ?side3 ?side4 A124.out).mono ?_
      (case side1 => exact qC ((Kd.R_reads' HO922.out).2.2))
      (case side2 => exact (Kd.R_reads' HO922.out).2.1)
      (case side3 => exact qC ((Kd.Q_reads' HO_867004.out).2.2))
      (case side4 => exact (Kd.Q_reads' HO_867004.out).2.1)
      rintro e w' ⟨rfl, ⟨nd, rfl⟩⟩
      refine ⟨_, rfl, ?_⟩
      refine hK.out _ _ (cw3 BK884.out (cw8 BK879.out (cz8 BK866.out))) (fun hHeld => ?_)
      clear hK K
      refine nm_ (some 134) ?_
      refine pq_ 11 135 HT_ (rl [12,13]) ?_
      refine pq_ 12 136 HT_ (rl [13,12]) ?_
      refine pq_ 13 137 HT_ (rl [14,11]) ?_
      refine pq_ 14 138 HT_ (rl [15,10]) ?_
      refine pq_ 15 139 HT_ (rl [16,9]) ?_
      refine pq_ 16 140 HT_ (rl [17,8]) ?_
      refine pv_ 17 141 HT_ (rl [18,7]) ?_
      refine pv_ 18 142 HT_ (rl [19,6]) ?_
      refine pv_ 19 143 HT_ (rl [20,5]) ?_
      refine pv_ 20 144 HT_ (rl [21,4]) ?_
      refine pv_ 21 145 HT_ (rl [22,3]) ?_
      refine pv_ 22 146 HT_ (rl [23,2]) ?_
      refine pq_ 23 147 HT_ (rl [24,1]) ?_
      refine pq_ 24 148 HT_ (rl [25]) ?_
      refine done_ (done_of HT_.out (by kernel_rfl)) ?_
      try go_wp2_with ((with_reducible refine gate_ld rfl ?_); first | refine ld_ ?_ | fail)
      go_meet
      case rel => exact ⟨_, (false), eqq_, H', ⟨by have := HJ13.out; have := HJ103.out; first | omega | exact Nat.le_refl _⟩, xS_ HO_15, xS_ HO_18, xQ_ HO_826004, xR_ HO_826005, xQ_ HO_840004, xR_ HO_840005, xQ_ HO_854004, xR_ HO_854005, xQ_ HO_867004, xR_ HO_867005, xQ_ HO_880004, xR_ HO_880005, ⟨qK BK825⟩, ⟨qK BK839⟩, ⟨qK BK853⟩, ⟨qK BK866⟩, ⟨qK BK879⟩, ⟨qK BK884⟩, ⟨qK BK889⟩, ⟨qB HB⟩⟩
     case rest =>
      clear HC120
      try clear c1
      try clear p2
      try clear c3
      try clear c12
      try clear c15
      try clear c37
      try clear c121
      try clear c121b0
      try clear c121b1
      try clear c123
      try clear c125
      obtain ⟨kq, x148_119, rfl, HA, HJ119, HO_15, HO_18, HO_826004, HO_826005, HO_840004, HO_840005, HO_854004, HO_854005, HO_867004, HO_867005, HO_880004, HO_880005, BK825, BK839, BK853, BK866, BK879, BK884, BK889, HB⟩ := hcut
      cases kq with
      | zero => exact absurd HA.out (by simp [laws_FnSocks.j2])
      | succ kj119 =>
       have H := HA.out
       clear HA
       simp only [laws_FnSocks.j2] at H
       by_cases c132 : x148_119 = true
       ·
        subst c132
        rw [if_pos rfl] at H
        exact absurd (hr_.out ▸ H) (by simp)
       replace c132 := Bool.eq_false_iff.mpr c132
       subst c132
       rw [if_neg (show ¬ (false = true) by decide)] at H
       replace H := bf_ H
       obtain ⟨f_, hf_, ⟨t925, t926, t927, t928, t929, t932, t935, t936, t937, t938, t939⟩, A133, H⟩ := H
       subst hf_
       (try dsimp only at H)
       replace H := bf_ H
       obtain ⟨f_, hf_, ⟨t942, t943, t944, t945, t946, t949, t952, t953⟩, A134, H⟩ := H
       subst hf_
       (try dsimp only at H)
       have HC135 := Aside0.mk H
       clear H
       go_upto_region 20 with (first | ((with_reducible refine gate_ld rfl ?_); first | refine ld_ ?_ | fail) | ((with_reducible refine gate_callee (f := 38) rfl ?_); refine gl_ (some 151) Try.func38 #[.slice A0 l0.length c0] ?_; (with_reducible refine (spec_DrawTell.calls kj119 _ _ l0 t925 t926 t927 t928 t929 t932 t935 t936 t937 t938 t939 _ ?side1 ?side2 A133.out).mono ?_); (case side1 => exact qC (Kd.C_below HR0.out HB.out)); (case side2 => exact HC0.out); rintro e w136 ⟨v930, v933, rfl, ho0, ho1, hb⟩; refine ⟨_, rfl, ?_⟩; replace HO_15 := am_ (Kd.S_mono (Kd.S_told (Kd.S_told (Kd.S_old (qS HO_15) hb) (Kd.R_base ho0)) (Kd.R_base ho1)) (fun _ h_ => h_.1)); replace HO_18 := am_ (Kd.S_mono (Kd.S_told (Kd.S_told (Kd.S_old (qS HO_18) hb) (Kd.R_base ho0)) (Kd.R_base ho1)) (fun _ h_ => h_.1)); have HO931 := am_ (Kd.R_lower (Kd.R_new' (Kd.R_new' (Kd.R_new' (Kd.R_new' (Kd.R_new' (Kd.R_new' (Kd.R_new' (Kd.R_new' (Kd.R_new' (Kd.R_new' ho0 (Kd.Q_lt (qQ HO_826004))) (Kd.R_lt (qR HO_826005))) (Kd.Q_lt (qQ HO_840004))) (Kd.R_lt (qR HO_840005))) (Kd.Q_lt (qQ HO_854004))) (Kd.R_lt (qR HO_854005))) (Kd.Q_lt (qQ HO_867004))) (Kd.R_lt (qR HO_867005))) (Kd.Q_lt (qQ HO_880004))) (Kd.R_lt (qR HO_880005))) (below_size (qB HB))); have HO934 := am_ (Kd.R_lower (Kd.R_new' (Kd.R_new' (Kd.R_new' (Kd.R_new' (Kd.R_new' (Kd.R_new' (Kd.R_new' (Kd.R_new' (Kd.R_new' (Kd.R_new' ho1 (Kd.Q_lt (qQ HO_826004))) (Kd.R_lt (qR HO_826005))) (Kd.Q_lt (qQ HO_840004))) (Kd.R_lt (qR HO_840005))) (Kd.Q_lt (qQ HO_854004))) (Kd.R_lt (qR HO_854005))) (Kd.Q_lt (qQ HO_867004))) (Kd.R_lt (qR HO_867005))) (Kd.Q_lt (qQ HO_880004))) (Kd.R_lt (qR HO_880005))) (below_size (qB HB))); replace HO_826004 := am_ (Kd.Q_mono (Kd.Q_told (Kd.Q_told (Kd.Q_old (qQ HO_826004) hb) (Kd.R_base ho0)) (Kd.R_base ho1)) (fun _ h_ => h_.1)); replace HO_826005 := am_ (Kd.R_mono (Kd.R_told (Kd.R_told (Kd.R_old (qR HO_826005) hb) (Kd.R_base ho0)) (Kd.R_base ho1)) (fun _ h_ => h_.1)); replace HO_840004 := am_ (Kd.Q_mono (Kd.Q_told (Kd.Q_told (Kd.Q_old (qQ HO_840004) hb) (Kd.R_base ho0)) (Kd.R_base ho1)) (fun _ h_ => h_.1)); replace HO_840005 := am_ (Kd.R_mono (Kd.R_told (Kd.R_told (Kd.R_old (qR HO_840005) hb) (Kd.R_base ho0)) (Kd.R_base ho1)) (fun _ h_ => h_.1)); replace HO_854004 := am_ (Kd.Q_mono (Kd.Q_told (Kd.Q_told (Kd.Q_old (qQ HO_854004) hb) (Kd.R_base ho0)) (Kd.R_base ho1)) (fun _ h_ => h_.1)); replace HO_854005 := am_ (Kd.R_mono (Kd.R_told (Kd.R_told (Kd.R_old (qR HO_854005) hb) (Kd.R_base ho0)) (Kd.R_base ho1)) (fun _ h_ => h_.1)); replace HO_867004 := am_ (Kd.Q_mono (Kd.Q_told (Kd.Q_told (Kd.Q_old (qQ HO_867004) hb) (Kd.R_base ho0)) (Kd.R_base ho1)) (fun _ h_ => h_.1)); replace HO_867005 := am_ (Kd.R_mono (Kd.R_told (Kd.R_told (Kd.R_old (qR HO_867005) hb) (Kd.R_base ho0)) (Kd.R_base ho1)) (fun _ h_ => h_.1)); replace HO_880004 := am_ (Kd.Q_mono (Kd.Q_told (Kd.Q_told (Kd.Q_old (qQ HO_880004) hb) (Kd.R_base ho0)) (Kd.R_base ho1)) (fun _ h_ => h_.1)); replace HO_880005 := am_ (Kd.R_mono (Kd.R_told (Kd.R_told (Kd.R_old (qR HO_880005) hb) (Kd.R_base ho0)) (Kd.R_base ho1)) (fun _ h_ => h_.1)); replace BK825 := bK_ BK825 hb; replace BK839 := bK_ BK839 hb; replace BK853 := bK_ BK853 hb; replace BK866 := bK_ BK866 hb; replace BK879 := bK_ BK879 hb; replace BK884 := bK_ BK884 hb; replace BK889 := bK_ BK889 hb; replace HB := bS_ HB hb; (try clear hb); (try clear ho0); (try clear ho1)) | ((with_reducible refine gate_dst (N := 19) rfl ?_); (try (refine gate_guard (by rfl) ?_; dsimp only)); refine box_event ?hg (N := 19) ?hd (cs := #[.int .i64 0, .int .i64 0, .int .i64 0, .bool false, .slice none 0 0, .slice none 0 0, .int .i64 0, .int .i64 0]) (t := 41) ?hr ?_; (case hd => rfl); (case hg => rfl); (case hr => first | (go_simp; done) | (go_simp; rfl) | ((try (obtain ⟨_, _, rfl⟩ := Kd.R_slice HO931.out)); (try (obtain ⟨_, _, rfl⟩ := Kd.R_slice HO934.out)); (try (obtain ⟨_, _, rfl⟩ := Kd.R_slice HO948.out)); (try (obtain ⟨_, _, rfl⟩ := Kd.R_slice HO951.out)); first | (go_simp; done) | (go_simp; rfl))); intro gb940 hg w137 hbox hb; replace HO_15 := am_ (Kd.S_below (Kd.S_elderB (qS HO_15) gb940 (Nat.le_of_eq hg.symm)) hb); replace HO_18 := am_ (Kd.S_below (Kd.S_elderB (qS HO_18) gb940 (Nat.le_of_eq hg.symm)) hb); replace HO_826004 := lQ_ HO_826004 hb; replace HO_826005 := rB_ HO_826005 hb; replace HO_840004 := lQ_ HO_840004 hb; replace HO_840005 := rB_ HO_840005 hb; replace HO_854004 := lQ_ HO_854004 hb; replace HO_854005 := rB_ HO_854005 hb; replace HO_867004 := lQ_ HO_867004 hb; replace HO_867005 := rB_ HO_867005 hb; replace HO_880004 := lQ_ HO_880004 hb; replace HO_880005 := rB_ HO_880005 hb; replace HO931 := rB_ HO931 hb; replace HO934 := rB_ HO934 hb; have BK940 := am_ (hbox); have GW940 := gA_ hg HB; have GE940 := GW940; have IGE940 := gI_ GE940; replace HB := bS_ HB hb; have NB825_940 := am_ ((gN_ hg (qK BK825))); have NB940_825 := am_ ((gM_ hg (qK BK825))); replace BK825 := bK_ BK825 hb; have NB839_940 := am_ ((gN_ hg (qK BK839))); have NB940_839 := am_ ((gM_ hg (qK BK839))); replace BK839 := bK_ BK839 hb; have NB853_940 := am_ ((gN_ hg (qK BK853))); have NB940_853 := am_ ((gM_ hg (qK BK853))); replace BK853 := bK_ BK853 hb; have NB866_940 := am_ ((gN_ hg (qK BK866))); have NB940_866 := am_ ((gM_ hg (qK BK866))); replace BK866 := bK_ BK866 hb; have NB879_940 := am_ ((gN_ hg (qK BK879))); have NB940_879 := am_ ((gM_ hg (qK BK879))); replace BK879 := bK_ BK879 hb; have NB884_940 := am_ ((gN_ hg (qK BK884))); have NB940_884 := am_ ((gM_ hg (qK BK884))); replace BK884 := bK_ BK884 hb; have NB889_940 := am_ ((gN_ hg (qK BK889))); have NB940_889 := am_ ((gM_ hg (qK BK889))); replace BK889 := bK_ BK889 hb; clear hb hbox hg) | ((with_reducible refine gate_dst (N := 20) rfl ?_); (try (refine gate_guard (by rfl) ?_; dsimp only)); refine box_event ?hg (N := 20) ?hd (cs := #[.int .i64 0, .string (⟨#[]⟩ : ByteArray), .int .i64 0]) (t := 49) ?hr ?_; (case hd => rfl); (case hg => rfl); (case hr => first | (go_simp; done) | (go_simp; rfl) | ((try (obtain ⟨_, _, rfl⟩ := Kd.R_slice HO931.out)); (try (obtain ⟨_, _, rfl⟩ := Kd.R_slice HO934.out)); (try (obtain ⟨_, _, rfl⟩ := Kd.R_slice HO948.out)); (try (obtain ⟨_, _, rfl⟩ := Kd.R_slice HO951.out)); first | (go_simp; done) | (go_simp; rfl))); intro gb941 hg w138 hbox hb; replace HO_15 := lS_ HO_15 hb; replace HO_18 := lS_ HO_18 hb; replace HO_826004 := lQ_ HO_826004 hb; replace HO_826005 := rB_ HO_826005 hb; replace HO_840004 := lQ_ HO_840004 hb; replace HO_840005 := rB_ HO_840005 hb; replace HO_854004 := lQ_ HO_854004 hb; replace HO_854005 := rB_ HO_854005 hb; replace HO_867004 := lQ_ HO_867004 hb; replace HO_867005 := rB_ HO_867005 hb; replace HO_880004 := lQ_ HO_880004 hb; replace HO_880005 := rB_ HO_880005 hb; replace HO931 := rB_ HO931 hb; replace HO934 := rB_ HO934 hb; have BK941 := am_ (hbox); have GW941 := gA_ hg HB; have GE941 := GW941; have IGE941 := gI_ GE941; replace HB := bS_ HB hb; have NB825_941 := am_ ((gN_ hg (qK BK825))); have NB941_825 := am_ ((gM_ hg (qK BK825))); replace BK825 := bK_ BK825 hb; have NB839_941 := am_ ((gN_ hg (qK BK839))); have NB941_839 := am_ ((gM_ hg (qK BK839))); replace BK839 := bK_ BK839 hb; have NB853_941 := am_ ((gN_ hg (qK BK853))); have NB941_853 := am_ ((gM_ hg (qK BK853))); replace BK853 := bK_ BK853 hb; have NB866_941 := am_ ((gN_ hg (qK BK866))); have NB941_866 := am_ ((gM_ hg (qK BK866))); replace BK866 := bK_ BK866 hb; have NB879_941 := am_ ((gN_ hg (qK BK879))); have NB941_879 := am_ ((gM_ hg (qK BK879))); replace BK879 := bK_ BK879 hb; have NB884_941 := am_ ((gN_ hg (qK BK884))); have NB941_884 := am_ ((gM_ hg (qK BK884))); replace BK884 := bK_ BK884 hb; have NB889_941 := am_ ((gN_ hg (qK BK889))); have NB941_889 := am_ ((gM_ hg (qK BK889))); replace BK889 := bK_ BK889 hb; have NB940_941 := am_ ((gN_ hg (qK BK940))); have NB941_940 := am_ ((gM_ hg (qK BK940))); replace BK940 := bK_ BK940 hb; clear hb hbox hg; have hnb139 := NB940_825.out; have hnc139 := NB825_940.out; have hnb140 := NB940_839.out; have hnc140 := NB839_940.out; have hnb141 := NB940_853.out; have hnc141 := NB853_940.out; have hnb142 := NB940_866.out; have hnc142 := NB866_940.out; have hnb143 := NB940_879.out; have hnc143 := NB879_940.out; have hnb144 := NB940_884.out; have hnc144 := NB884_940.out; have hnb145 := NB940_889.out; have hnc145 := NB889_940.out; have hnb146 := NB940_941.out; have hnc146 := NB941_940.out; (try clear zK940); have zK940 := cz8 BK940.out; (try clear fK940); have fK940 := fz8 BK940.out; obtain ⟨Ao148, co148, eo148⟩ := Kd.R_slice HO931.out; subst eo148; obtain ⟨Ao149, co149, eo149⟩ := Kd.R_slice HO934.out; subst eo149) | ((with_reducible refine gate_store (t := 41) (p := 19) rfl ?_); refine store_evs (t := 41) (p := 19) (j := 0) (cs := [.int .i64 t925, .int .i64 t926, .int .i64 t927, .bool t928, .slice Ao148 t929.length co148, .slice Ao149 t932.length co149, .int .i64 t935, .int .i64 t936]) (qK BK940) ?_; intro w150 hw; have n0_ : Aside0 (Kd.S k41 41 w150 w.heap.size (fun k_ => nv v896 k_ ∧ nb Ao18 t814.length co18 k_ ∧ nb Ao19 t817.length co19 k_ ∧ nb Ao27 t830.length co27 k_ ∧ nb Ao28 t833.length co28 k_ ∧ nb Ao36 t844.length co36 k_ ∧ nb Ao37 t847.length co37 k_ ∧ nb Ao45 t858.length co45 k_ ∧ nb Ao46 t861.length co46 k_ ∧ nb Ao56 t871.length co56 k_ ∧ nb Ao57 t874.length co57 k_ ∧ nb Ao148 t929.length co148 k_ ∧ nb Ao149 t932.length co149 k_ ∧ k_ ≠ gb825 ∧ k_ ≠ gb839 ∧ k_ ≠ gb853 ∧ k_ ≠ gb866 ∧ k_ ≠ gb879 ∧ k_ ≠ gb940) (.slice Ao81 t890.length co81) t890) := ⟨(by rw [hw]; exact (gS1_ (g := gb940) HO_15))⟩; have n1_ : Aside0 (Kd.S k41 41 w150 w.heap.size (fun k_ => nb Ao81 t890.length co81 k_ ∧ nb Ao18 t814.length co18 k_ ∧ nb Ao19 t817.length co19 k_ ∧ nb Ao27 t830.length co27 k_ ∧ nb Ao28 t833.length co28 k_ ∧ nb Ao36 t844.length co36 k_ ∧ nb Ao37 t847.length co37 k_ ∧ nb Ao45 t858.length co45 k_ ∧ nb Ao46 t861.length co46 k_ ∧ nb Ao56 t871.length co56 k_ ∧ nb Ao57 t874.length co57 k_ ∧ nb Ao148 t929.length co148 k_ ∧ nb Ao149 t932.length co149 k_ ∧ k_ ≠ gb825 ∧ k_ ≠ gb839 ∧ k_ ≠ gb853 ∧ k_ ≠ gb866 ∧ k_ ≠ gb879 ∧ k_ ≠ gb940) v896 t895) := ⟨(by rw [hw]; exact (gS1_ (g := gb940) HO_18))⟩; have n2_ : Aside0 (Kd.Q (Kd.int .u8) 5 w150 w.heap.size (fun k_ => nb Ao19 t817.length co19 k_ ∧ nb Ao27 t830.length co27 k_ ∧ nb Ao28 t833.length co28 k_ ∧ nb Ao36 t844.length co36 k_ ∧ nb Ao37 t847.length co37 k_ ∧ nb Ao45 t858.length co45 k_ ∧ nb Ao46 t861.length co46 k_ ∧ nb Ao56 t871.length co56 k_ ∧ nb Ao57 t874.length co57 k_ ∧ nb Ao148 t929.length co148 k_ ∧ nb Ao149 t932.length co149 k_) (.slice Ao18 t814.length co18) t814) := ⟨(by rw [hw]; exact (fQ1_ HO_826004 BK940))⟩; have n3_ : Aside0 (Kd.R (Kd.int .u8) 5 w150 w.heap.size (fun k_ => nb Ao18 t814.length co18 k_ ∧ nb Ao27 t830.length co27 k_ ∧ nb Ao28 t833.length co28 k_ ∧ nb Ao36 t844.length co36 k_ ∧ nb Ao37 t847.length co37 k_ ∧ nb Ao45 t858.length co45 k_ ∧ nb Ao46 t861.length co46 k_ ∧ nb Ao56 t871.length co56 k_ ∧ nb Ao57 t874.length co57 k_ ∧ nb Ao148 t929.length co148 k_ ∧ nb Ao149 t932.length co149 k_) (.slice Ao19 t817.length co19) t817) := ⟨(by rw [hw]; exact (fR1_ HO_826005 BK940))⟩; have n4_ : Aside0 (Kd.Q (Kd.int .u8) 5 w150 w.heap.size (fun k_ => nb Ao18 t814.length co18 k_ ∧ nb Ao19 t817.length co19 k_ ∧ nb Ao28 t833.length co28 k_ ∧ nb Ao36 t844.length co36 k_ ∧ nb Ao37 t847.length co37 k_ ∧ nb Ao45 t858.length co45 k_ ∧ nb Ao46 t861.length co46 k_ ∧ nb Ao56 t871.length co56 k_ ∧ nb Ao57 t874.length co57 k_ ∧ nb Ao148 t929.length co148 k_ ∧ nb Ao149 t932.length co149 k_) (.slice Ao27 t830.length co27) t830) := ⟨(by rw [hw]; exact (fQ1_ HO_840004 BK940))⟩; have n5_ : Aside0 (Kd.R (Kd.int .u8) 5 w150 w.heap.size (fun k_ => nb Ao18 t814.length co18 k_ ∧ nb Ao19 t817.length co19 k_ ∧ nb Ao27 t830.length co27 k_ ∧ nb Ao36 t844.length co36 k_ ∧ nb Ao37 t847.length co37 k_ ∧ nb Ao45 t858.length co45 k_ ∧ nb Ao46 t861.length co46 k_ ∧ nb Ao56 t871.length co56 k_ ∧ nb Ao57 t874.length co57 k_ ∧ nb Ao148 t929.length co148 k_ ∧ nb Ao149 t932.length co149 k_) (.slice Ao28 t833.length co28) t833) := ⟨(by rw [hw]; exact (fR1_ HO_840005 BK940))⟩; have n6_ : Aside0 (Kd.Q (Kd.int .u8) 5 w150 w.heap.size (fun k_ => nb Ao18 t814.length co18 k_ ∧ nb Ao19 t817.length co19 k_ ∧ nb Ao27 t830.length co27 k_ ∧ nb Ao28 t833.length co28 k_ ∧ nb Ao37 t847.length co37 k_ ∧ nb Ao45 t858.length co45 k_ ∧ nb Ao46 t861.length co46 k_ ∧ nb Ao56 t871.length co56 k_ ∧ nb Ao57 t874.length co57 k_ ∧ nb Ao148 t929.length co148 k_ ∧ nb Ao149 t932.length co149 k_) (.slice Ao36 t844.length co36) t844) := ⟨(by rw [hw]; exact (fQ1_ HO_854004 BK940))⟩; have n7_ : Aside0 (Kd.R (Kd.int .u8) 5 w150 w.heap.size (fun k_ => nb Ao18 t814.length co18 k_ ∧ nb Ao19 t817.length co19 k_ ∧ nb Ao27 t830.length co27 k_ ∧ nb Ao28 t833.length co28 k_ ∧ nb Ao36 t844.length co36 k_ ∧ nb Ao45 t858.length co45 k_ ∧ nb Ao46 t861.length co46 k_ ∧ nb Ao56 t871.length co56 k_ ∧ nb Ao57 t874.length co57 k_ ∧ nb Ao148 t929.length co148 k_ ∧ nb Ao149 t932.length co149 k_) (.slice Ao37 t847.length co37) t847) := ⟨(by rw [hw]; exact (fR1_ HO_854005 BK940))⟩; have n8_ : Aside0 (Kd.Q (Kd.int .u8) 5 w150 w.heap.size (fun k_ => nb Ao18 t814.length co18 k_ ∧ nb Ao19 t817.length co19 k_ ∧ nb Ao27 t830.length co27 k_ ∧ nb Ao28 t833.length co28 k_ ∧ nb Ao36 t844.length co36 k_ ∧ nb Ao37 t847.length co37 k_ ∧ nb Ao46 t861.length co46 k_ ∧ nb Ao56 t871.length co56 k_ ∧ nb Ao57 t874.length co57 k_ ∧ nb Ao148 t929.length co148 k_ ∧ nb Ao149 t932.length co149 k_) (.slice Ao45 t858.length co45) t858) := ⟨(by rw [hw]; exact (fQ1_ HO_867004 BK940))⟩; have n9_ : Aside0 (Kd.R (Kd.int .u8) 5 w150 w.heap.size (fun k_ => nb Ao18 t814.length co18 k_ ∧ nb Ao19 t817.length co19 k_ ∧ nb Ao27 t830.length co27 k_ ∧ nb Ao28 t833.length co28 k_ ∧ nb Ao36 t844.length co36 k_ ∧ nb Ao37 t847.length co37 k_ ∧ nb Ao45 t858.length co45 k_ ∧ nb Ao56 t871.length co56 k_ ∧ nb Ao57 t874.length co57 k_ ∧ nb Ao148 t929.length co148 k_ ∧ nb Ao149 t932.length co149 k_) (.slice Ao46 t861.length co46) t861) := ⟨(by rw [hw]; exact (fR1_ HO_867005 BK940))⟩; have n10_ : Aside0 (Kd.Q (Kd.int .u8) 5 w150 w.heap.size (fun k_ => nb Ao18 t814.length co18 k_ ∧ nb Ao19 t817.length co19 k_ ∧ nb Ao27 t830.length co27 k_ ∧ nb Ao28 t833.length co28 k_ ∧ nb Ao36 t844.length co36 k_ ∧ nb Ao37 t847.length co37 k_ ∧ nb Ao45 t858.length co45 k_ ∧ nb Ao46 t861.length co46 k_ ∧ nb Ao57 t874.length co57 k_ ∧ nb Ao148 t929.length co148 k_ ∧ nb Ao149 t932.length co149 k_) (.slice Ao56 t871.length co56) t871) := ⟨(by rw [hw]; exact (fQ1_ HO_880004 BK940))⟩; have n11_ : Aside0 (Kd.R (Kd.int .u8) 5 w150 w.heap.size (fun k_ => nb Ao18 t814.length co18 k_ ∧ nb Ao19 t817.length co19 k_ ∧ nb Ao27 t830.length co27 k_ ∧ nb Ao28 t833.length co28 k_ ∧ nb Ao36 t844.length co36 k_ ∧ nb Ao37 t847.length co37 k_ ∧ nb Ao45 t858.length co45 k_ ∧ nb Ao46 t861.length co46 k_ ∧ nb Ao56 t871.length co56 k_ ∧ nb Ao148 t929.length co148 k_ ∧ nb Ao149 t932.length co149 k_) (.slice Ao57 t874.length co57) t874) := ⟨(by rw [hw]; exact (fR1_ HO_880005 BK940))⟩; have n12_ : Aside0 (Kd.R (Kd.int .u8) 5 w150 w.heap.size (fun k_ => nb Ao18 t814.length co18 k_ ∧ nb Ao19 t817.length co19 k_ ∧ nb Ao27 t830.length co27 k_ ∧ nb Ao28 t833.length co28 k_ ∧ nb Ao36 t844.length co36 k_ ∧ nb Ao37 t847.length co37 k_ ∧ nb Ao45 t858.length co45 k_ ∧ nb Ao46 t861.length co46 k_ ∧ nb Ao56 t871.length co56 k_ ∧ nb Ao57 t874.length co57 k_ ∧ nb Ao149 t932.length co149 k_) (.slice Ao148 t929.length co148) t929) := ⟨(by rw [hw]; exact (fR1_ HO931 BK940))⟩; have n13_ : Aside0 (Kd.R (Kd.int .u8) 5 w150 w.heap.size (fun k_ => nb Ao18 t814.length co18 k_ ∧ nb Ao19 t817.length co19 k_ ∧ nb Ao27 t830.length co27 k_ ∧ nb Ao28 t833.length co28 k_ ∧ nb Ao36 t844.length co36 k_ ∧ nb Ao37 t847.length co37 k_ ∧ nb Ao45 t858.length co45 k_ ∧ nb Ao46 t861.length co46 k_ ∧ nb Ao56 t871.length co56 k_ ∧ nb Ao57 t874.length co57 k_ ∧ nb Ao148 t929.length co148 k_) (.slice Ao149 t932.length co149) t932) := ⟨(by rw [hw]; exact (fR1_ HO934 BK940))⟩; replace BK825 := sK_ hw BK825 NB825_940; replace BK839 := sK_ hw BK839 NB839_940; replace BK853 := sK_ hw BK853 NB853_940; replace BK866 := sK_ hw BK866 NB866_940; replace BK879 := sK_ hw BK879 NB879_940; replace BK884 := sK_ hw BK884 NB884_940; replace BK889 := sK_ hw BK889 NB889_940; replace BK941 := sK_ hw BK941 NB941_940; replace HB := sB_ hw HB; replace BK940 := sW_ hw BK940; clear hw; clear HO_15 HO_18 HO_826004 HO_826005 HO_840004 HO_840005 HO_854004 HO_854005 HO_867004 HO_867005 HO_880004 HO_880005 HO931 HO934; have HO_15 := n0_; have HO_18 := n1_; have HO_826004 := n2_; have HO_826005 := n3_; have HO_840004 := n4_; have HO_840005 := n5_; have HO_854004 := n6_; have HO_854005 := n7_; have HO_867004 := n8_; have HO_867005 := n9_; have HO_880004 := n10_; have HO_880005 := n11_; have HO931 := n12_; have HO934 := n13_; clear n0_ n1_ n2_ n3_ n4_ n5_ n6_ n7_ n8_ n9_ n10_ n11_ n12_ n13_; have hnb151 := NB941_825.out; have hnc151 := NB825_941.out; have hnb152 := NB941_839.out; have hnc152 := NB839_941.out; have hnb153 := NB941_853.out; have hnc153 := NB853_941.out; have hnb154 := NB941_866.out; have hnc154 := NB866_941.out; have hnb155 := NB941_879.out; have hnc155 := NB879_941.out; have hnb156 := NB941_884.out; have hnc156 := NB884_941.out; have hnb157 := NB941_889.out; have hnc157 := NB889_941.out; (try clear zK941); have zK941 := cz3 BK941.out; (try clear fK941); have fK941 := fz3 BK941.out) | ((with_reducible refine gate_store (t := 49) (p := 20) rfl ?_); refine store_evs (t := 49) (p := 20) (j := 0) (cs := [.int .i64 t937, .string t938, .int .i64 t939]) (qK BK941) ?_; intro w159 hw; have n0_ := fS0_ hw HO_15 BK941; have n1_ := fS0_ hw HO_18 BK941; have n2_ := fQ0_ hw HO_826004 BK941; have n3_ := fR0_ hw HO_826005 BK941; have n4_ := fQ0_ hw HO_840004 BK941; have n5_ := fR0_ hw HO_840005 BK941; have n6_ := fQ0_ hw HO_854004 BK941; have n7_ := fR0_ hw HO_854005 BK941; have n8_ := fQ0_ hw HO_867004 BK941; have n9_ := fR0_ hw HO_867005 BK941; have n10_ := fQ0_ hw HO_880004 BK941; have n11_ := fR0_ hw HO_880005 BK941; have n12_ := fR0_ hw HO931 BK941; have n13_ := fR0_ hw HO934 BK941; replace BK825 := sK_ hw BK825 NB825_941; replace BK839 := sK_ hw BK839 NB839_941; replace BK853 := sK_ hw BK853 NB853_941; replace BK866 := sK_ hw BK866 NB866_941; replace BK879 := sK_ hw BK879 NB879_941; replace BK884 := sK_ hw BK884 NB884_941; replace BK889 := sK_ hw BK889 NB889_941; replace BK940 := sK_ hw BK940 NB940_941; replace HB := sB_ hw HB; replace BK941 := sW_ hw BK941; clear hw; clear HO_15 HO_18 HO_826004 HO_826005 HO_840004 HO_840005 HO_854004 HO_854005 HO_867004 HO_867005 HO_880004 HO_880005 HO931 HO934; have HO_15 := n0_; have HO_18 := n1_; have HO_826004 := n2_; have HO_826005 := n3_; have HO_840004 := n4_; have HO_840005 := n5_; have HO_854004 := n6_; have HO_854005 := n7_; have HO_867004 := n8_; have HO_867005 := n9_; have HO_880004 := n10_; have HO_880005 := n11_; have HO931 := n12_; have HO934 := n13_; clear n0_ n1_ n2_ n3_ n4_ n5_ n6_ n7_ n8_ n9_ n10_ n11_ n12_ n13_; (try clear zK940); have zK940 := cz8 BK940.out; (try clear fK940); have fK940 := fz8 BK940.out; (try clear zK941); have zK941 := cz3 BK941.out; (try clear fK941); have fK941 := fz3 BK941.out) | ((with_reducible refine gate_callee (f := 39) rfl ?_); refine gl_ (some 156) Try.func39 #[.agg #[.int .i64 t925, .int .i64 t926, .int .i64 t927, .bool t928, .slice Ao148 t929.length co148, .slice Ao149 t932.length co149, .int .i64 t935, .int .i64 t936], .agg #[.int .i64 t937, .string t938, .int .i64 t939]] ?_; (with_reducible refine (impl_Tell.calls kj119 t925 t926 t927 t928 _ _ t929 _ _ t932 t935 t936 t937 t938 t939 t942 t943 t944 t945 t946 t949 t952 t953 _ ?side1 ?side2 ?side3 ?side4 A134.out).mono ?_); (case side1 => exact qC ((Kd.R_reads' HO931.out).2.2)); (case side2 => exact (Kd.R_reads' HO931.out).2.1); (case side3 => exact qC ((Kd.R_reads' HO934.out).2.2)); (case side4 => exact (Kd.R_reads' HO934.out).2.1); rintro e w162 ⟨v947, v950, rfl, ho0, ho1, hb⟩; refine ⟨_, rfl, ?_⟩; replace HO_15 := am_ (Kd.S_mono (Kd.S_told (Kd.S_told (Kd.S_old (qS HO_15) hb) (Kd.R_base ho0)) (Kd.R_base ho1)) (fun _ h_ => h_.1)); replace HO_18 := am_ (Kd.S_mono (Kd.S_told (Kd.S_told (Kd.S_old (qS HO_18) hb) (Kd.R_base ho0)) (Kd.R_base ho1)) (fun _ h_ => h_.1)); have HO948 := am_ (Kd.R_lower (Kd.R_new' (Kd.R_new' (Kd.R_new' (Kd.R_new' (Kd.R_new' (Kd.R_new' (Kd.R_new' (Kd.R_new' (Kd.R_new' (Kd.R_new' (Kd.R_new' (Kd.R_new' ho0 (Kd.Q_lt (qQ HO_826004))) (Kd.R_lt (qR HO_826005))) (Kd.Q_lt (qQ HO_840004))) (Kd.R_lt (qR HO_840005))) (Kd.Q_lt (qQ HO_854004))) (Kd.R_lt (qR HO_854005))) (Kd.Q_lt (qQ HO_867004))) (Kd.R_lt (qR HO_867005))) (Kd.Q_lt (qQ HO_880004))) (Kd.R_lt (qR HO_880005))) (Kd.R_lt (qR HO931))) (Kd.R_lt (qR HO934))) (below_size (qB HB))); have HO951 := am_ (Kd.R_lower (Kd.R_new' (Kd.R_new' (Kd.R_new' (Kd.R_new' (Kd.R_new' (Kd.R_new' (Kd.R_new' (Kd.R_new' (Kd.R_new' (Kd.R_new' (Kd.R_new' (Kd.R_new' ho1 (Kd.Q_lt (qQ HO_826004))) (Kd.R_lt (qR HO_826005))) (Kd.Q_lt (qQ HO_840004))) (Kd.R_lt (qR HO_840005))) (Kd.Q_lt (qQ HO_854004))) (Kd.R_lt (qR HO_854005))) (Kd.Q_lt (qQ HO_867004))) (Kd.R_lt (qR HO_867005))) (Kd.Q_lt (qQ HO_880004))) (Kd.R_lt (qR HO_880005))) (Kd.R_lt (qR HO931))) (Kd.R_lt (qR HO934))) (below_size (qB HB))); replace HO_826004 := am_ (Kd.Q_mono (Kd.Q_told (Kd.Q_told (Kd.Q_old (qQ HO_826004) hb) (Kd.R_base ho0)) (Kd.R_base ho1)) (fun _ h_ => h_.1)); replace HO_826005 := am_ (Kd.R_mono (Kd.R_told (Kd.R_told (Kd.R_old (qR HO_826005) hb) (Kd.R_base ho0)) (Kd.R_base ho1)) (fun _ h_ => h_.1)); replace HO_840004 := am_ (Kd.Q_mono (Kd.Q_told (Kd.Q_told (Kd.Q_old (qQ HO_840004) hb) (Kd.R_base ho0)) (Kd.R_base ho1)) (fun _ h_ => h_.1)); replace HO_840005 := am_ (Kd.R_mono (Kd.R_told (Kd.R_told (Kd.R_old (qR HO_840005) hb) (Kd.R_base ho0)) (Kd.R_base ho1)) (fun _ h_ => h_.1)); replace HO_854004 := am_ (Kd.Q_mono (Kd.Q_told (Kd.Q_told (Kd.Q_old (qQ HO_854004) hb) (Kd.R_base ho0)) (Kd.R_base ho1)) (fun _ h_ => h_.1)); replace HO_854005 := am_ (Kd.R_mono (Kd.R_told (Kd.R_told (Kd.R_old (qR HO_854005) hb) (Kd.R_base ho0)) (Kd.R_base ho1)) (fun _ h_ => h_.1)); replace HO_867004 := am_ (Kd.Q_mono (Kd.Q_told (Kd.Q_told (Kd.Q_old (qQ HO_867004) hb) (Kd.R_base ho0)) (Kd.R_base ho1)) (fun _ h_ => h_.1)); replace HO_867005 := am_ (Kd.R_mono (Kd.R_told (Kd.R_told (Kd.R_old (qR HO_867005) hb) (Kd.R_base ho0)) (Kd.R_base ho1)) (fun _ h_ => h_.1)); replace HO_880004 := am_ (Kd.Q_mono (Kd.Q_told (Kd.Q_told (Kd.Q_old (qQ HO_880004) hb) (Kd.R_base ho0)) (Kd.R_base ho1)) (fun _ h_ => h_.1)); replace HO_880005 := am_ (Kd.R_mono (Kd.R_told (Kd.R_told (Kd.R_old (qR HO_880005) hb) (Kd.R_base ho0)) (Kd.R_base ho1)) (fun _ h_ => h_.1)); replace HO931 := am_ (Kd.R_mono (Kd.R_told (Kd.R_told (Kd.R_old (qR HO931) hb) (Kd.R_base ho0)) (Kd.R_base ho1)) (fun _ h_ => h_.1)); replace HO934 := am_ (Kd.R_mono (Kd.R_told (Kd.R_told (Kd.R_old (qR HO934) hb) (Kd.R_base ho0)) (Kd.R_base ho1)) (fun _ h_ => h_.1)); replace BK825 := bK_ BK825 hb; replace BK839 := bK_ BK839 hb; replace BK853 := bK_ BK853 hb; replace BK866 := bK_ BK866 hb; replace BK879 := bK_ BK879 hb; replace BK884 := bK_ BK884 hb; replace BK889 := bK_ BK889 hb; replace BK940 := bK_ BK940 hb; replace BK941 := bK_ BK941 hb; replace HB := bS_ HB hb; (try clear hb); (try clear ho0); (try clear ho1)) | ((with_reducible refine gate_dst (N := 21) rfl ?_); (try (refine gate_guard (by rfl) ?_; dsimp only)); refine box_event ?hg (N := 21) ?hd (cs := #[.int .i64 0, .int .i64 0, .int .i64 0, .bool false, .slice none 0 0, .slice none 0 0, .int .i64 0, .int .i64 0]) (t := 41) ?hr ?_; (case hd => rfl); (case hg => rfl); (case hr => first | (go_simp; done) | (go_simp; rfl) | ((try (obtain ⟨_, _, rfl⟩ := Kd.R_slice HO931.out)); (try (obtain ⟨_, _, rfl⟩ := Kd.R_slice HO934.out)); (try (obtain ⟨_, _, rfl⟩ := Kd.R_slice HO948.out)); (try (obtain ⟨_, _, rfl⟩ := Kd.R_slice HO951.out)); first | (go_simp; done) | (go_simp; rfl))); intro gb954 hg w163 hbox hb; replace HO_15 := am_ (Kd.S_below (Kd.S_elderB (qS HO_15) gb954 (Nat.le_of_eq hg.symm)) hb); replace HO_18 := am_ (Kd.S_below (Kd.S_elderB (qS HO_18) gb954 (Nat.le_of_eq hg.symm)) hb); replace HO_826004 := lQ_ HO_826004 hb; replace HO_826005 := rB_ HO_826005 hb; replace HO_840004 := lQ_ HO_840004 hb; replace HO_840005 := rB_ HO_840005 hb; replace HO_854004 := lQ_ HO_854004 hb; replace HO_854005 := rB_ HO_854005 hb; replace HO_867004 := lQ_ HO_867004 hb; replace HO_867005 := rB_ HO_867005 hb; replace HO_880004 := lQ_ HO_880004 hb; replace HO_880005 := rB_ HO_880005 hb; replace HO931 := rB_ HO931 hb; replace HO934 := rB_ HO934 hb; replace HO948 := rB_ HO948 hb; replace HO951 := rB_ HO951 hb; have BK954 := am_ (hbox); have GW954 := gA_ hg HB; have GE954 := GW954; have IGE954 := gI_ GE954; replace HB := bS_ HB hb; have NB825_954 := am_ ((gN_ hg (qK BK825))); have NB954_825 := am_ ((gM_ hg (qK BK825))); replace BK825 := bK_ BK825 hb; have NB839_954 := am_ ((gN_ hg (qK BK839))); have NB954_839 := am_ ((gM_ hg (qK BK839))); replace BK839 := bK_ BK839 hb; have NB853_954 := am_ ((gN_ hg (qK BK853))); have NB954_853 := am_ ((gM_ hg (qK BK853))); replace BK853 := bK_ BK853 hb; have NB866_954 := am_ ((gN_ hg (qK BK866))); have NB954_866 := am_ ((gM_ hg (qK BK866))); replace BK866 := bK_ BK866 hb; have NB879_954 := am_ ((gN_ hg (qK BK879))); have NB954_879 := am_ ((gM_ hg (qK BK879))); replace BK879 := bK_ BK879 hb; have NB884_954 := am_ ((gN_ hg (qK BK884))); have NB954_884 := am_ ((gM_ hg (qK BK884))); replace BK884 := bK_ BK884 hb; have NB889_954 := am_ ((gN_ hg (qK BK889))); have NB954_889 := am_ ((gM_ hg (qK BK889))); replace BK889 := bK_ BK889 hb; have NB940_954 := am_ ((gN_ hg (qK BK940))); have NB954_940 := am_ ((gM_ hg (qK BK940))); replace BK940 := bK_ BK940 hb; have NB941_954 := am_ ((gN_ hg (qK BK941))); have NB954_941 := am_ ((gM_ hg (qK BK941))); replace BK941 := bK_ BK941 hb; clear hb hbox hg; have hnb164 := NB954_825.out; have hnc164 := NB825_954.out; have hnb165 := NB954_839.out; have hnc165 := NB839_954.out; have hnb166 := NB954_853.out; have hnc166 := NB853_954.out; have hnb167 := NB954_866.out; have hnc167 := NB866_954.out; have hnb168 := NB954_879.out; have hnc168 := NB879_954.out; have hnb169 := NB954_884.out; have hnc169 := NB884_954.out; have hnb170 := NB954_889.out; have hnc170 := NB889_954.out; have hnb171 := NB954_940.out; have hnc171 := NB940_954.out; have hnb172 := NB954_941.out; have hnc172 := NB941_954.out; (try clear zK954); have zK954 := cz8 BK954.out; (try clear fK954); have fK954 := fz8 BK954.out; obtain ⟨Ao174, co174, eo174⟩ := Kd.R_slice HO948.out; subst eo174; obtain ⟨Ao175, co175, eo175⟩ := Kd.R_slice HO951.out; subst eo175) | ((with_reducible refine gate_store (t := 41) (p := 21) rfl ?_); refine store_evs (t := 41) (p := 21) (j := 0) (cs := [.int .i64 t942, .int .i64 t943, .int .i64 t944, .bool t945, .slice Ao174 t946.length co174, .slice Ao175 t949.length co175, .int .i64 t952, .int .i64 t953]) (qK BK954) ?_; intro w176 hw; have n0_ : Aside0 (Kd.S k41 41 w176 w.heap.size (fun k_ => nv v896 k_ ∧ nb Ao18 t814.length co18 k_ ∧ nb Ao19 t817.length co19 k_ ∧ nb Ao27 t830.length co27 k_ ∧ nb Ao28 t833.length co28 k_ ∧ nb Ao36 t844.length co36 k_ ∧ nb Ao37 t847.length co37 k_ ∧ nb Ao45 t858.length co45 k_ ∧ nb Ao46 t861.length co46 k_ ∧ nb Ao56 t871.length co56 k_ ∧ nb Ao57 t874.length co57 k_ ∧ nb Ao148 t929.length co148 k_ ∧ nb Ao149 t932.length co149 k_ ∧ nb Ao174 t946.length co174 k_ ∧ nb Ao175 t949.length co175 k_ ∧ k_ ≠ gb825 ∧ k_ ≠ gb839 ∧ k_ ≠ gb853 ∧ k_ ≠ gb866 ∧ k_ ≠ gb879 ∧ k_ ≠ gb940 ∧ k_ ≠ gb954) (.slice Ao81 t890.length co81) t890) := ⟨(by rw [hw]; exact (gS1_ (g := gb954) HO_15))⟩; have n1_ : Aside0 (Kd.S k41 41 w176 w.heap.size (fun k_ => nb Ao81 t890.length co81 k_ ∧ nb Ao18 t814.length co18 k_ ∧ nb Ao19 t817.length co19 k_ ∧ nb Ao27 t830.length co27 k_ ∧ nb Ao28 t833.length co28 k_ ∧ nb Ao36 t844.length co36 k_ ∧ nb Ao37 t847.length co37 k_ ∧ nb Ao45 t858.length co45 k_ ∧ nb Ao46 t861.length co46 k_ ∧ nb Ao56 t871.length co56 k_ ∧ nb Ao57 t874.length co57 k_ ∧ nb Ao148 t929.length co148 k_ ∧ nb Ao149 t932.length co149 k_ ∧ nb Ao174 t946.length co174 k_ ∧ nb Ao175 t949.length co175 k_ ∧ k_ ≠ gb825 ∧ k_ ≠ gb839 ∧ k_ ≠ gb853 ∧ k_ ≠ gb866 ∧ k_ ≠ gb879 ∧ k_ ≠ gb940 ∧ k_ ≠ gb954) v896 t895) := ⟨(by rw [hw]; exact (gS1_ (g := gb954) HO_18))⟩; have n2_ : Aside0 (Kd.Q (Kd.int .u8) 5 w176 w.heap.size (fun k_ => nb Ao19 t817.length co19 k_ ∧ nb Ao27 t830.length co27 k_ ∧ nb Ao28 t833.length co28 k_ ∧ nb Ao36 t844.length co36 k_ ∧ nb Ao37 t847.length co37 k_ ∧ nb Ao45 t858.length co45 k_ ∧ nb Ao46 t861.length co46 k_ ∧ nb Ao56 t871.length co56 k_ ∧ nb Ao57 t874.length co57 k_ ∧ nb Ao148 t929.length co148 k_ ∧ nb Ao149 t932.length co149 k_ ∧ nb Ao174 t946.length co174 k_ ∧ nb Ao175 t949.length co175 k_) (.slice Ao18 t814.length co18) t814) := ⟨(by rw [hw]; exact (fQ1_ HO_826004 BK954))⟩; have n3_ : Aside0 (Kd.R (Kd.int .u8) 5 w176 w.heap.size (fun k_ => nb Ao18 t814.length co18 k_ ∧ nb Ao27 t830.length co27 k_ ∧ nb Ao28 t833.length co28 k_ ∧ nb Ao36 t844.length co36 k_ ∧ nb Ao37 t847.length co37 k_ ∧ nb Ao45 t858.length co45 k_ ∧ nb Ao46 t861.length co46 k_ ∧ nb Ao56 t871.length co56 k_ ∧ nb Ao57 t874.length co57 k_ ∧ nb Ao148 t929.length co148 k_ ∧ nb Ao149 t932.length co149 k_ ∧ nb Ao174 t946.length co174 k_ ∧ nb Ao175 t949.length co175 k_) (.slice Ao19 t817.length co19) t817) := ⟨(by rw [hw]; exact (fR1_ HO_826005 BK954))⟩; have n4_ : Aside0 (Kd.Q (Kd.int .u8) 5 w176 w.heap.size (fun k_ => nb Ao18 t814.length co18 k_ ∧ nb Ao19 t817.length co19 k_ ∧ nb Ao28 t833.length co28 k_ ∧ nb Ao36 t844.length co36 k_ ∧ nb Ao37 t847.length co37 k_ ∧ nb Ao45 t858.length co45 k_ ∧ nb Ao46 t861.length co46 k_ ∧ nb Ao56 t871.length co56 k_ ∧ nb Ao57 t874.length co57 k_ ∧ nb Ao148 t929.length co148 k_ ∧ nb Ao149 t932.length co149 k_ ∧ nb Ao174 t946.length co174 k_ ∧ nb Ao175 t949.length co175 k_) (.slice Ao27 t830.length co27) t830) := ⟨(by rw [hw]; exact (fQ1_ HO_840004 BK954))⟩; have n5_ : Aside0 (Kd.R (Kd.int .u8) 5 w176 w.heap.size (fun k_ => nb Ao18 t814.length co18 k_ ∧ nb Ao19 t817.length co19 k_ ∧ nb Ao27 t830.length co27 k_ ∧ nb Ao36 t844.length co36 k_ ∧ nb Ao37 t847.length co37 k_ ∧ nb Ao45 t858.length co45 k_ ∧ nb Ao46 t861.length co46 k_ ∧ nb Ao56 t871.length co56 k_ ∧ nb Ao57 t874.length co57 k_ ∧ nb Ao148 t929.length co148 k_ ∧ nb Ao149 t932.length co149 k_ ∧ nb Ao174 t946.length co174 k_ ∧ nb Ao175 t949.length co175 k_) (.slice Ao28 t833.length co28) t833) := ⟨(by rw [hw]; exact (fR1_ HO_840005 BK954))⟩; have n6_ : Aside0 (Kd.Q (Kd.int .u8) 5 w176 w.heap.size (fun k_ => nb Ao18 t814.length co18 k_ ∧ nb Ao19 t817.length co19 k_ ∧ nb Ao27 t830.length co27 k_ ∧ nb Ao28 t833.length co28 k_ ∧ nb Ao37 t847.length co37 k_ ∧ nb Ao45 t858.length co45 k_ ∧ nb Ao46 t861.length co46 k_ ∧ nb Ao56 t871.length co56 k_ ∧ nb Ao57 t874.length co57 k_ ∧ nb Ao148 t929.length co148 k_ ∧ nb Ao149 t932.length co149 k_ ∧ nb Ao174 t946.length co174 k_ ∧ nb Ao175 t949.length co175 k_) (.slice Ao36 t844.length co36) t844) := ⟨(by rw [hw]; exact (fQ1_ HO_854004 BK954))⟩; have n7_ : Aside0 (Kd.R (Kd.int .u8) 5 w176 w.heap.size (fun k_ => nb Ao18 t814.length co18 k_ ∧ nb Ao19 t817.length co19 k_ ∧ nb Ao27 t830.length co27 k_ ∧ nb Ao28 t833.length co28 k_ ∧ nb Ao36 t844.length co36 k_ ∧ nb Ao45 t858.length co45 k_ ∧ nb Ao46 t861.length co46 k_ ∧ nb Ao56 t871.length co56 k_ ∧ nb Ao57 t874.length co57 k_ ∧ nb Ao148 t929.length co148 k_ ∧ nb Ao149 t932.length co149 k_ ∧ nb Ao174 t946.length co174 k_ ∧ nb Ao175 t949.length co175 k_) (.slice Ao37 t847.length co37) t847) := ⟨(by rw [hw]; exact (fR1_ HO_854005 BK954))⟩; have n8_ : Aside0 (Kd.Q (Kd.int .u8) 5 w176 w.heap.size (fun k_ => nb Ao18 t814.length co18 k_ ∧ nb Ao19 t817.length co19 k_ ∧ nb Ao27 t830.length co27 k_ ∧ nb Ao28 t833.length co28 k_ ∧ nb Ao36 t844.length co36 k_ ∧ nb Ao37 t847.length co37 k_ ∧ nb Ao46 t861.length co46 k_ ∧ nb Ao56 t871.length co56 k_ ∧ nb Ao57 t874.length co57 k_ ∧ nb Ao148 t929.length co148 k_ ∧ nb Ao149 t932.length co149 k_ ∧ nb Ao174 t946.length co174 k_ ∧ nb Ao175 t949.length co175 k_) (.slice Ao45 t858.length co45) t858) := ⟨(by rw [hw]; exact (fQ1_ HO_867004 BK954))⟩; have n9_ : Aside0 (Kd.R (Kd.int .u8) 5 w176 w.heap.size (fun k_ => nb Ao18 t814.length co18 k_ ∧ nb Ao19 t817.length co19 k_ ∧ nb Ao27 t830.length co27 k_ ∧ nb Ao28 t833.length co28 k_ ∧ nb Ao36 t844.length co36 k_ ∧ nb Ao37 t847.length co37 k_ ∧ nb Ao45 t858.length co45 k_ ∧ nb Ao56 t871.length co56 k_ ∧ nb Ao57 t874.length co57 k_ ∧ nb Ao148 t929.length co148 k_ ∧ nb Ao149 t932.length co149 k_ ∧ nb Ao174 t946.length co174 k_ ∧ nb Ao175 t949.length co175 k_) (.slice Ao46 t861.length co46) t861) := ⟨(by rw [hw]; exact (fR1_ HO_867005 BK954))⟩; have n10_ : Aside0 (Kd.Q (Kd.int .u8) 5 w176 w.heap.size (fun k_ => nb Ao18 t814.length co18 k_ ∧ nb Ao19 t817.length co19 k_ ∧ nb Ao27 t830.length co27 k_ ∧ nb Ao28 t833.length co28 k_ ∧ nb Ao36 t844.length co36 k_ ∧ nb Ao37 t847.length co37 k_ ∧ nb Ao45 t858.length co45 k_ ∧ nb Ao46 t861.length co46 k_ ∧ nb Ao57 t874.length co57 k_ ∧ nb Ao148 t929.length co148 k_ ∧ nb Ao149 t932.length co149 k_ ∧ nb Ao174 t946.length co174 k_ ∧ nb Ao175 t949.length co175 k_) (.slice Ao56 t871.length co56) t871) := ⟨(by rw [hw]; exact (fQ1_ HO_880004 BK954))⟩; have n11_ : Aside0 (Kd.R (Kd.int .u8) 5 w176 w.heap.size (fun k_ => nb Ao18 t814.length co18 k_ ∧ nb Ao19 t817.length co19 k_ ∧ nb Ao27 t830.length co27 k_ ∧ nb Ao28 t833.length co28 k_ ∧ nb Ao36 t844.length co36 k_ ∧ nb Ao37 t847.length co37 k_ ∧ nb Ao45 t858.length co45 k_ ∧ nb Ao46 t861.length co46 k_ ∧ nb Ao56 t871.length co56 k_ ∧ nb Ao148 t929.length co148 k_ ∧ nb Ao149 t932.length co149 k_ ∧ nb Ao174 t946.length co174 k_ ∧ nb Ao175 t949.length co175 k_) (.slice Ao57 t874.length co57) t874) := ⟨(by rw [hw]; exact (fR1_ HO_880005 BK954))⟩; have n12_ : Aside0 (Kd.R (Kd.int .u8) 5 w176 w.heap.size (fun k_ => nb Ao18 t814.length co18 k_ ∧ nb Ao19 t817.length co19 k_ ∧ nb Ao27 t830.length co27 k_ ∧ nb Ao28 t833.length co28 k_ ∧ nb Ao36 t844.length co36 k_ ∧ nb Ao37 t847.length co37 k_ ∧ nb Ao45 t858.length co45 k_ ∧ nb Ao46 t861.length co46 k_ ∧ nb Ao56 t871.length co56 k_ ∧ nb Ao57 t874.length co57 k_ ∧ nb Ao149 t932.length co149 k_ ∧ nb Ao174 t946.length co174 k_ ∧ nb Ao175 t949.length co175 k_) (.slice Ao148 t929.length co148) t929) := ⟨(by rw [hw]; exact (fR1_ HO931 BK954))⟩; have n13_ : Aside0 (Kd.R (Kd.int .u8) 5 w176 w.heap.size (fun k_ => nb Ao18 t814.length co18 k_ ∧ nb Ao19 t817.length co19 k_ ∧ nb Ao27 t830.length co27 k_ ∧ nb Ao28 t833.length co28 k_ ∧ nb Ao36 t844.length co36 k_ ∧ nb Ao37 t847.length co37 k_ ∧ nb Ao45 t858.length co45 k_ ∧ nb Ao46 t861.length co46 k_ ∧ nb Ao56 t871.length co56 k_ ∧ nb Ao57 t874.length co57 k_ ∧ nb Ao148 t929.length co148 k_ ∧ nb Ao174 t946.length co174 k_ ∧ nb Ao175 t949.length co175 k_) (.slice Ao149 t932.length co149) t932) := ⟨(by rw [hw]; exact (fR1_ HO934 BK954))⟩; have n14_ : Aside0 (Kd.R (Kd.int .u8) 5 w176 w.heap.size (fun k_ => nb Ao18 t814.length co18 k_ ∧ nb Ao19 t817.length co19 k_ ∧ nb Ao27 t830.length co27 k_ ∧ nb Ao28 t833.length co28 k_ ∧ nb Ao36 t844.length co36 k_ ∧ nb Ao37 t847.length co37 k_ ∧ nb Ao45 t858.length co45 k_ ∧ nb Ao46 t861.length co46 k_ ∧ nb Ao56 t871.length co56 k_ ∧ nb Ao57 t874.length co57 k_ ∧ nb Ao148 t929.length co148 k_ ∧ nb Ao149 t932.length co149 k_ ∧ nb Ao175 t949.length co175 k_) (.slice Ao174 t946.length co174) t946) := ⟨(by rw [hw]; exact (fR1_ HO948 BK954))⟩; have n15_ : Aside0 (Kd.R (Kd.int .u8) 5 w176 w.heap.size (fun k_ => nb Ao18 t814.length co18 k_ ∧ nb Ao19 t817.length co19 k_ ∧ nb Ao27 t830.length co27 k_ ∧ nb Ao28 t833.length co28 k_ ∧ nb Ao36 t844.length co36 k_ ∧ nb Ao37 t847.length co37 k_ ∧ nb Ao45 t858.length co45 k_ ∧ nb Ao46 t861.length co46 k_ ∧ nb Ao56 t871.length co56 k_ ∧ nb Ao57 t874.length co57 k_ ∧ nb Ao148 t929.length co148 k_ ∧ nb Ao149 t932.length co149 k_ ∧ nb Ao174 t946.length co174 k_) (.slice Ao175 t949.length co175) t949) := ⟨(by rw [hw]; exact (fR1_ HO951 BK954))⟩; replace BK825 := sK_ hw BK825 NB825_954; replace BK839 := sK_ hw BK839 NB839_954; replace BK853 := sK_ hw BK853 NB853_954; replace BK866 := sK_ hw BK866 NB866_954; replace BK879 := sK_ hw BK879 NB879_954; replace BK884 := sK_ hw BK884 NB884_954; replace BK889 := sK_ hw BK889 NB889_954; replace BK940 := sK_ hw BK940 NB940_954; replace BK941 := sK_ hw BK941 NB941_954; replace HB := sB_ hw HB; replace BK954 := sW_ hw BK954; clear hw; clear HO_15 HO_18 HO_826004 HO_826005 HO_840004 HO_840005 HO_854004 HO_854005 HO_867004 HO_867005 HO_880004 HO_880005 HO931 HO934 HO948 HO951; have HO_15 := n0_; have HO_18 := n1_; have HO_826004 := n2_; have HO_826005 := n3_; have HO_840004 := n4_; have HO_840005 := n5_; have HO_854004 := n6_; have HO_854005 := n7_; have HO_867004 := n8_; have HO_867005 := n9_; have HO_880004 := n10_; have HO_880005 := n11_; have HO931 := n12_; have HO934 := n13_; have HO948 := n14_; have HO951 := n15_; clear n0_ n1_ n2_ n3_ n4_ n5_ n6_ n7_ n8_ n9_ n10_ n11_ n12_ n13_ n14_ n15_))
       (try simp only [Act.put, List.setIfInBounds_toArray, List.set_cons_zero, List.set_cons_succ])
       have H := HC135.out
       clear HC135
       replace H := bd_ H
       obtain ⟨t955, A177, H⟩ := H
       by_cases c178 : t955 = true
       rotate_left
       ·
        replace c178 := Bool.eq_false_iff.mpr c178
        subst c178
        rw [if_neg (show ¬ (false = true) by decide)] at H
        replace H := bd_ H
        obtain ⟨t971, A211, H⟩ := H
        by_cases c212 : t971 = true
        rotate_left
        ·
         replace c212 := Bool.eq_false_iff.mpr c212
         subst c212
         rw [if_neg (show ¬ (false = true) by decide)] at H
         obtain rfl := Option.some.inj H
         try go_wp2_with ((with_reducible refine gate_ld rfl ?_); first | refine ld_ ?_ | fail)
         replace HO_15 := am_ (Kd.S_drew HO_15.out)
         replace HO_18 := am_ (Kd.S_drew HO_18.out)
         replace HO_826004 := am_ (Kd.Q_drew HO_826004.out)
         replace HO_826005 := am_ (Kd.R_drew HO_826005.out)
         replace HO_840004 := am_ (Kd.Q_drew HO_840004.out)
         replace HO_840005 := am_ (Kd.R_drew HO_840005.out)
         replace HO_854004 := am_ (Kd.Q_drew HO_854004.out)
         replace HO_854005 := am_ (Kd.R_drew HO_854005.out)
         replace HO_867004 := am_ (Kd.Q_drew HO_867004.out)
         replace HO_867005 := am_ (Kd.R_drew HO_867005.out)
         replace HO_880004 := am_ (Kd.Q_drew HO_880004.out)
         replace HO_880005 := am_ (Kd.R_drew HO_880005.out)
         replace HO931 := am_ (Kd.R_drew HO931.out)
         replace HO934 := am_ (Kd.R_drew HO934.out)
         replace HO948 := am_ (Kd.R_drew HO948.out)
         replace HO951 := am_ (Kd.R_drew HO951.out)
         replace BK825 := am_ (blk_drew BK825.out)
         replace BK839 := am_ (blk_drew BK839.out)
         replace BK853 := am_ (blk_drew BK853.out)
         replace BK866 := am_ (blk_drew BK866.out)
         replace BK879 := am_ (blk_drew BK879.out)
         replace BK884 := am_ (blk_drew BK884.out)
         replace BK889 := am_ (blk_drew BK889.out)
         replace BK940 := am_ (blk_drew BK940.out)
         replace BK941 := am_ (blk_drew BK941.out)
         replace BK954 := am_ (blk_drew BK954.out)
         replace HB := am_ (below_drew1 HB.out)
         as_aux_lemma =>
         refine start_ (n := 32) (S := fun w' => w'.cell? ⟨gb940, 0, none⟩ = some (.int .i64 t925) ∧ w'.cell? ⟨gb940, 1, none⟩ = some (.int .i64 t926) ∧ w'.cell? ⟨gb940, 2, none⟩ = some (.int .i64 t927) ∧ w'.cell? ⟨gb940, 3, none⟩ = some (.bool t928) ∧ w'.cell? ⟨gb940, 4, none⟩ = some (.slice Ao148 t929.length co148) ∧ w'.cell? ⟨gb940, 5, none⟩ = some (.slice Ao149 t932.length co149) ∧ w'.cell? ⟨gb940, 6, none⟩ = some (.int .i64 t935) ∧ w'.cell? ⟨gb940, 7, none⟩ = some (.int .i64 t936)) (ds := []) (rl [0,32]) (by kernel_rfl) rfl rfl (cz8 BK940.out) (fun hHeld => ?_); refine with_tabW laws_FnSocks.tab20 laws_FnSocks.bits20 (fun HT_ HW_ => ?_)
         generalize w176.drew = w220 at HO_15 HO_18 HO_826004 HO_826005 HO_840004 HO_840005 HO_854004 HO_854005 HO_867004 HO_867005 HO_880004 HO_880005 HO931 HO934 HO948 HO951 BK825 BK839 BK853 BK866 BK879 BK884 BK889 BK940 BK941 BK954 HB hHeld ⊢
         refine tz_ (i := 0) (N := some 157) HT_ HW_ (rl [1,31]) rfl rfl hHeld ?_ (hy := fun w' ⟨s0, s1, s2, s3, s4, s5, s6, s7⟩ => ldr8 s0 s1 s2 s3 s4 s5 s6 s7)
         refine on_ HT_ (i := 1) (N := some 158) (rl [2,30]) (fun K hK => ?_)
         refine goes_ Try.func30 (by kernel_rfl) rfl #[.agg #[.int .i64 t925, .int .i64 t926, .int .i64 t927, .bool t928, .slice Ao148 t929.length co148, .slice Ao149 t932.length co149, .int .i64 t935, .int .i64 t936]] (by rfl) rfl rfl la_ ?_
         with_reducible refine (impl_SockOk.calls kj119 t925 t926 t927 t928 _ _ t929 _ _ t932 t935 t936 false _ ?side1 ?side2 ?side3 ?side4 A177.out).mono ?_
         (case side1 => exact qC ((Kd.R_reads' HO931.out).2.2))
         (case side2 => exact (Kd.R_reads' HO931.out).2.1)
         (case side3 => exact qC ((Kd.R_reads' HO934.out).2.2))
         (case side4 => exact (Kd.R_reads' HO934.out).2.1)
         rintro e w221 ⟨rfl, hb⟩
         refine ⟨_, rfl, ?_⟩
         replace HO_15 := lS_ HO_15 hb
         replace HO_18 := lS_ HO_18 hb
         replace HO_826004 := lQ_ HO_826004 hb
         replace HO_826005 := rB_ HO_826005 hb
         replace HO_840004 := lQ_ HO_840004 hb
         replace HO_840005 := rB_ HO_840005 hb
         replace HO_854004 := lQ_ HO_854004 hb
         replace HO_854005 := rB_ HO_854005 hb
         replace HO_867004 := lQ_ HO_867004 hb
         replace HO_867005 := rB_ HO_867005 hb
         replace HO_880004 := lQ_ HO_880004 hb
         replace HO_880005 := rB_ HO_880005 hb
         replace HO931 := rB_ HO931 hb
         replace HO934 := rB_ HO934 hb
         replace HO948 := rB_ HO948 hb
         replace HO951 := rB_ HO951 hb
         replace BK825 := bK_ BK825 hb
         replace BK839 := bK_ BK839 hb
         replace BK853 := bK_ BK853 hb
         replace BK866 := bK_ BK866 hb
         replace BK879 := bK_ BK879 hb
         replace BK884 := bK_ BK884 hb
         replace BK889 := bK_ BK889 hb
         replace BK940 := bK_ BK940 hb
         replace BK941 := bK_ BK941 hb
         replace BK954 := bK_ BK954 hb
         replace HB := bS_ HB hb
         (try clear hb)
         refine hK.out _ _ (cz8 BK940.out) (fun hHeld => ?_)
         clear hK K
         refine nm_ (some 158) ?_
         refine pq_ 2 159 HT_ (rl [3,29]) ?_
         refine pq_ 3 160 HT_ (rl [4,28]) ?_
         refine pv_ 4 161 HT_ (rl [5,27]) ?_
         refine pv_ 5 162 HT_ (rl [6,26]) ?_
         refine pv_ 6 163 HT_ (rl [7,25]) ?_
         refine pv_ 7 164 HT_ (rl [8,24]) ?_
         refine pv_ 8 165 HT_ (rl [9,23]) ?_
         refine pv_ 9 166 HT_ (rl [10,22]) ?_
         refine pv_ 10 167 HT_ (rl [11,21]) ?_
         refine pv_ 11 168 HT_ (rl [12,20]) ?_
         refine pv_ 12 169 HT_ (rl [13,19]) ?_
         refine pv_ 13 170 HT_ (rl [14,18]) ?_
         refine pq_ 14 171 HT_ (rl [15,17]) ?_
         refine pq_ 15 172 HT_ (rl [16,16]) ?_
         refine pq_ 16 173 HT_ (rl [17,15]) ?_
         refine on_ HT_ (i := 17) (N := some 174) (rl [18,14]) (fun K hK => ?_)
         refine goes_ Try.func34 (by kernel_rfl) rfl #[.slice Ao81 t890.length co81] (by rfl) rfl rfl la_ ?_
         with_reducible refine (impl_SocksOk.calls kj119 _ _ t890 false _ ?side1 ?side2 A211.out).mono ?_
         (case side1 => exact qC ((Kd.S_reads' HO_15.out).2.2))
         (case side2 => exact (Kd.S_reads' HO_15.out).2.1)
         rintro e w222 ⟨rfl, hb⟩
         refine ⟨_, rfl, ?_⟩
         replace HO_15 := lS_ HO_15 hb
         replace HO_18 := lS_ HO_18 hb
         replace HO_826004 := lQ_ HO_826004 hb
         replace HO_826005 := rB_ HO_826005 hb
         replace HO_840004 := lQ_ HO_840004 hb
         replace HO_840005 := rB_ HO_840005 hb
         replace HO_854004 := lQ_ HO_854004 hb
         replace HO_854005 := rB_ HO_854005 hb
         replace HO_867004 := lQ_ HO_867004 hb
         replace HO_867005 := rB_ HO_867005 hb
         replace HO_880004 := lQ_ HO_880004 hb
         replace HO_880005 := rB_ HO_880005 hb
         replace HO931 := rB_ HO931 hb
         replace HO934 := rB_ HO934 hb
         replace HO948 := rB_ HO948 hb
         replace HO951 := rB_ HO951 hb
         replace BK825 := bK_ BK825 hb
         replace BK839 := bK_ BK839 hb
         replace BK853 := bK_ BK853 hb
         replace BK866 := bK_ BK866 hb
         replace BK879 := bK_ BK879 hb
         replace BK884 := bK_ BK884 hb
         replace BK889 := bK_ BK889 hb
         replace BK940 := bK_ BK940 hb
         replace BK941 := bK_ BK941 hb
         replace BK954 := bK_ BK954 hb
         replace HB := bS_ HB hb
         (try clear hb)
         obtain ⟨Ao223, co223, eo223⟩ := Kd.S_slice HO_18.out
         (first | subst eo223 | (injection eo223 with f1_ f2_ f3_; have f4_ := f1_.symm; have f5_ := f3_.symm; clear f1_ f2_ f3_; subst f4_; subst f5_))
         refine hK.out _ _ (cz8 BK940.out) (fun hHeld => ?_)
         clear hK K
         refine nm_ (some 174) ?_
         refine pq_ 18 175 HT_ (rl [19,13]) ?_
         refine pq_ 19 176 HT_ (rl [20,12]) ?_
         refine pv_ 20 177 HT_ (rl [21,11]) ?_
         refine pv_ 21 178 HT_ (rl [22,10]) ?_
         refine pq_ 22 179 HT_ (rl [23,9]) ?_
         refine pq_ 23 180 HT_ (rl [24,8]) ?_
         refine pq_ 24 181 HT_ (rl [25,7]) ?_
         refine pq_ 25 182 HT_ (rl [26,6]) ?_
         refine pq_ 26 183 HT_ (rl [27,5]) ?_
         refine pq_ 27 184 HT_ (rl [28,4]) ?_
         refine pq_ 28 185 HT_ (rl [29,3]) ?_
         refine pq_ 29 186 HT_ (rl [30,2]) ?_
         refine pq_ 30 187 HT_ (rl [31,1]) ?_
         refine pq_ 31 2 HT_ (rl [32]) ?_
         refine done_ (done_of HT_.out (by kernel_rfl)) ?_
         try go_wp2_with ((with_reducible refine gate_ld rfl ?_); first | refine ld_ ?_ | fail)
         go_ret
         exact ⟨er_, qB HB⟩
        subst c212
        rw [if_pos rfl] at H
        replace H := bd_ H
        obtain ⟨t972, A213, H⟩ := H
        by_cases c214 : t972 = true
        rotate_left
        ·
         replace c214 := Bool.eq_false_iff.mpr c214
         subst c214
         rw [if_neg (show ¬ (false = true) by decide)] at H
         exact absurd (hr_.out ▸ H) (by simp)
        subst c214
        rw [if_pos rfl] at H
        obtain rfl := Option.some.inj H
        try go_wp2_with ((with_reducible refine gate_ld rfl ?_); first | refine ld_ ?_ | fail)
        replace HO_15 := am_ (Kd.S_drew HO_15.out)
        replace HO_18 := am_ (Kd.S_drew HO_18.out)
        replace HO_826004 := am_ (Kd.Q_drew HO_826004.out)
        replace HO_826005 := am_ (Kd.R_drew HO_826005.out)
        replace HO_840004 := am_ (Kd.Q_drew HO_840004.out)
        replace HO_840005 := am_ (Kd.R_drew HO_840005.out)
        replace HO_854004 := am_ (Kd.Q_drew HO_854004.out)
        replace HO_854005 := am_ (Kd.R_drew HO_854005.out)
        replace HO_867004 := am_ (Kd.Q_drew HO_867004.out)
        replace HO_867005 := am_ (Kd.R_drew HO_867005.out)
        replace HO_880004 := am_ (Kd.Q_drew HO_880004.out)
        replace HO_880005 := am_ (Kd.R_drew HO_880005.out)
        replace HO931 := am_ (Kd.R_drew HO931.out)
        replace HO934 := am_ (Kd.R_drew HO934.out)
        replace HO948 := am_ (Kd.R_drew HO948.out)
        replace HO951 := am_ (Kd.R_drew HO951.out)
        replace BK825 := am_ (blk_drew BK825.out)
        replace BK839 := am_ (blk_drew BK839.out)
        replace BK853 := am_ (blk_drew BK853.out)
        replace BK866 := am_ (blk_drew BK866.out)
        replace BK879 := am_ (blk_drew BK879.out)
        replace BK884 := am_ (blk_drew BK884.out)
        replace BK889 := am_ (blk_drew BK889.out)
        replace BK940 := am_ (blk_drew BK940.out)
        replace BK941 := am_ (blk_drew BK941.out)
        replace BK954 := am_ (blk_drew BK954.out)
        replace HB := am_ (below_drew1 HB.out)
        as_aux_lemma =>
        refine start_ (n := 32) (S := fun w' => w'.cell? ⟨gb940, 0, none⟩ = some (.int .i64 t925) ∧ w'.cell? ⟨gb940, 1, none⟩ = some (.int .i64 t926) ∧ w'.cell? ⟨gb940, 2, none⟩ = some (.int .i64 t927) ∧ w'.cell? ⟨gb940, 3, none⟩ = some (.bool t928) ∧ w'.cell? ⟨gb940, 4, none⟩ = some (.slice Ao148 t929.length co148) ∧ w'.cell? ⟨gb940, 5, none⟩ = some (.slice Ao149 t932.length co149) ∧ w'.cell? ⟨gb940, 6, none⟩ = some (.int .i64 t935) ∧ w'.cell? ⟨gb940, 7, none⟩ = some (.int .i64 t936)) (ds := []) (rl [0,32]) (by kernel_rfl) rfl rfl (cz8 BK940.out) (fun hHeld => ?_); refine with_tabW laws_FnSocks.tab20 laws_FnSocks.bits20 (fun HT_ HW_ => ?_)
        generalize w176.drew = w215 at HO_15 HO_18 HO_826004 HO_826005 HO_840004 HO_840005 HO_854004 HO_854005 HO_867004 HO_867005 HO_880004 HO_880005 HO931 HO934 HO948 HO951 BK825 BK839 BK853 BK866 BK879 BK884 BK889 BK940 BK941 BK954 HB hHeld ⊢
        refine tz_ (i := 0) (N := some 157) HT_ HW_ (rl [1,31]) rfl rfl hHeld ?_ (hy := fun w' ⟨s0, s1, s2, s3, s4, s5, s6, s7⟩ => ldr8 s0 s1 s2 s3 s4 s5 s6 s7)
        refine on_ HT_ (i := 1) (N := some 158) (rl [2,30]) (fun K hK => ?_)
        refine goes_ Try.func30 (by kernel_rfl) rfl #[.agg #[.int .i64 t925, .int .i64 t926, .int .i64 t927, .bool t928, .slice Ao148 t929.length co148, .slice Ao149 t932.length co149, .int .i64 t935, .int .i64 t936]] (by rfl) rfl rfl la_ ?_
        with_reducible refine (impl_SockOk.calls kj119 t925 t926 t927 t928 _ _ t929 _ _ t932 t935 t936 false _ ?side1 ?side2 ?side3 ?side4 A177.out).mono ?_
        (case side1 => exact qC ((Kd.R_reads' HO931.out).2.2))
        (case side2 => exact (Kd.R_reads' HO931.out).2.1)
        (case side3 => exact qC ((Kd.R_reads' HO934.out).2.2))
        (case side4 => exact (Kd.R_reads' HO934.out).2.1)
        rintro e w216 ⟨rfl, hb⟩
        refine ⟨_, rfl, ?_⟩
        replace HO_15 := lS_ HO_15 hb
        replace HO_18 := lS_ HO_18 hb
        replace HO_826004 := lQ_ HO_826004 hb
        replace HO_826005 := rB_ HO_826005 hb
        replace HO_840004 := lQ_ HO_840004 hb
        replace HO_840005 := rB_ HO_840005 hb
        replace HO_854004 := lQ_ HO_854004 hb
        replace HO_854005 := rB_ HO_854005 hb
        replace HO_867004 := lQ_ HO_867004 hb
        replace HO_867005 := rB_ HO_867005 hb
        replace HO_880004 := lQ_ HO_880004 hb
        replace HO_880005 := rB_ HO_880005 hb
        replace HO931 := rB_ HO931 hb
        replace HO934 := rB_ HO934 hb
        replace HO948 := rB_ HO948 hb
        replace HO951 := rB_ HO951 hb
        replace BK825 := bK_ BK825 hb
        replace BK839 := bK_ BK839 hb
        replace BK853 := bK_ BK853 hb
        replace BK866 := bK_ BK866 hb
        replace BK879 := bK_ BK879 hb
        replace BK884 := bK_ BK884 hb
        replace BK889 := bK_ BK889 hb
        replace BK940 := bK_ BK940 hb
        replace BK941 := bK_ BK941 hb
        replace BK954 := bK_ BK954 hb
        replace HB := bS_ HB hb
        (try clear hb)
        refine hK.out _ _ (cz8 BK940.out) (fun hHeld => ?_)
        clear hK K
        refine nm_ (some 158) ?_
        refine pq_ 2 159 HT_ (rl [3,29]) ?_
        refine pq_ 3 160 HT_ (rl [4,28]) ?_
        refine pv_ 4 161 HT_ (rl [5,27]) ?_
        refine pv_ 5 162 HT_ (rl [6,26]) ?_
        refine pv_ 6 163 HT_ (rl [7,25]) ?_
        refine pv_ 7 164 HT_ (rl [8,24]) ?_
        refine pv_ 8 165 HT_ (rl [9,23]) ?_
        refine pv_ 9 166 HT_ (rl [10,22]) ?_
        refine pv_ 10 167 HT_ (rl [11,21]) ?_
        refine pv_ 11 168 HT_ (rl [12,20]) ?_
        refine pv_ 12 169 HT_ (rl [13,19]) ?_
        refine pv_ 13 170 HT_ (rl [14,18]) ?_
        refine pq_ 14 171 HT_ (rl [15,17]) ?_
        refine pq_ 15 172 HT_ (rl [16,16]) ?_
        refine pq_ 16 173 HT_ (rl [17,15]) ?_
        refine on_ HT_ (i := 17) (N := some 174) (rl [18,14]) (fun K hK => ?_)
        refine goes_ Try.func34 (by kernel_rfl) rfl #[.slice Ao81 t890.length co81] (by rfl) rfl rfl la_ ?_
        with_reducible refine (impl_SocksOk.calls kj119 _ _ t890 true _ ?side1 ?side2 A211.out).mono ?_
        (case side1 => exact qC ((Kd.S_reads' HO_15.out).2.2))
        (case side2 => exact (Kd.S_reads' HO_15.out).2.1)
        rintro e w217 ⟨rfl, hb⟩
        refine ⟨_, rfl, ?_⟩
        replace HO_15 := lS_ HO_15 hb
        replace HO_18 := lS_ HO_18 hb
        replace HO_826004 := lQ_ HO_826004 hb
        replace HO_826005 := rB_ HO_826005 hb
        replace HO_840004 := lQ_ HO_840004 hb
        replace HO_840005 := rB_ HO_840005 hb
        replace HO_854004 := lQ_ HO_854004 hb
        replace HO_854005 := rB_ HO_854005 hb
        replace HO_867004 := lQ_ HO_867004 hb
        replace HO_867005 := rB_ HO_867005 hb
        replace HO_880004 := lQ_ HO_880004 hb
        replace HO_880005 := rB_ HO_880005 hb
        replace HO931 := rB_ HO931 hb
        replace HO934 := rB_ HO934 hb
        replace HO948 := rB_ HO948 hb
        replace HO951 := rB_ HO951 hb
        replace BK825 := bK_ BK825 hb
        replace BK839 := bK_ BK839 hb
        replace BK853 := bK_ BK853 hb
        replace BK866 := bK_ BK866 hb
        replace BK879 := bK_ BK879 hb
        replace BK884 := bK_ BK884 hb
        replace BK889 := bK_ BK889 hb
        replace BK940 := bK_ BK940 hb
        replace BK941 := bK_ BK941 hb
        replace BK954 := bK_ BK954 hb
        replace HB := bS_ HB hb
        (try clear hb)
        obtain ⟨Ao218, co218, eo218⟩ := Kd.S_slice HO_18.out
        (first | subst eo218 | (injection eo218 with f1_ f2_ f3_; have f4_ := f1_.symm; have f5_ := f3_.symm; clear f1_ f2_ f3_; subst f4_; subst f5_))
        refine hK.out _ _ (cz8 BK940.out) (fun hHeld => ?_)
        clear hK K
        refine nm_ (some 174) ?_
        refine pq_ 18 175 HT_ (rl [19,13]) ?_
        refine pq_ 19 176 HT_ (rl [20,12]) ?_
        refine pq_ 20 177 HT_ (rl [21,11]) ?_
        refine on_ HT_ (i := 21) (N := some 178) (rl [22,10]) (fun K hK => ?_)
        refine goes_ Try.func34 (by kernel_rfl) rfl #[.slice Ao218 t895.length co218] (by rfl) rfl rfl la_ ?_
        with_reducible refine (impl_SocksOk.calls kj119 _ _ t895 true _ ?side1 ?side2 A213.out).mono ?_
        (case side1 => exact qC ((Kd.S_reads' HO_18.out).2.2))
        (case side2 => exact (Kd.S_reads' HO_18.out).2.1)
        rintro e w219 ⟨rfl, hb⟩
        refine ⟨_, rfl, ?_⟩
        replace HO_15 := lS_ HO_15 hb
        replace HO_18 := lS_ HO_18 hb
        replace HO_826004 := lQ_ HO_826004 hb
        replace HO_826005 := rB_ HO_826005 hb
        replace HO_840004 := lQ_ HO_840004 hb
        replace HO_840005 := rB_ HO_840005 hb
        replace HO_854004 := lQ_ HO_854004 hb
        replace HO_854005 := rB_ HO_854005 hb
        replace HO_867004 := lQ_ HO_867004 hb
        replace HO_867005 := rB_ HO_867005 hb
        replace HO_880004 := lQ_ HO_880004 hb
        replace HO_880005 := rB_ HO_880005 hb
        replace HO931 := rB_ HO931 hb
        replace HO934 := rB_ HO934 hb
        replace HO948 := rB_ HO948 hb
        replace HO951 := rB_ HO951 hb
        replace BK825 := bK_ BK825 hb
        replace BK839 := bK_ BK839 hb
        replace BK853 := bK_ BK853 hb
        replace BK866 := bK_ BK866 hb
        replace BK879 := bK_ BK879 hb
        replace BK884 := bK_ BK884 hb
        replace BK889 := bK_ BK889 hb
        replace BK940 := bK_ BK940 hb
        replace BK941 := bK_ BK941 hb
        replace BK954 := bK_ BK954 hb
        replace HB := bS_ HB hb
        (try clear hb)
        refine hK.out _ _ (cz8 BK940.out) (fun hHeld => ?_)
        clear hK K
        refine nm_ (some 178) ?_
        refine pq_ 22 179 HT_ (rl [23,9]) ?_
        refine pq_ 23 180 HT_ (rl [24,8]) ?_
        refine pq_ 24 181 HT_ (rl [25,7]) ?_
        refine pq_ 25 182 HT_ (rl [26,6]) ?_
        refine pq_ 26 183 HT_ (rl [27,5]) ?_
        refine pq_ 27 184 HT_ (rl [28,4]) ?_
        refine pq_ 28 185 HT_ (rl [29,3]) ?_
        refine pq_ 29 186 HT_ (rl [30,2]) ?_
        refine pq_ 30 187 HT_ (rl [31,1]) ?_
        refine pq_ 31 2 HT_ (rl [32]) ?_
        refine done_ (done_of HT_.out (by kernel_rfl)) ?_
        try go_wp2_with ((with_reducible refine gate_ld rfl ?_); first | refine ld_ ?_ | fail)
        go_ret
        exact ⟨er_, qB HB⟩
       subst c178
       rw [if_pos rfl] at H
       obtain ⟨y956, hy956⟩ : ∃ y_ : List Int, y_ = (([] : List Int)) := ⟨_, rfl⟩
       replace H := mk_ H hy956
       (try dsimp only at H)
       have Ny956 := Aside0.mk hy956
       clear hy956
       by_cases c179 : y956.length + t932.length < 140737488355328
       case neg => exact nn_ c179 H
       rw [if_pos c179] at H
       have LMc179 := Aside0.mk c179
       clear c179
       obtain ⟨y959, hy959⟩ : ∃ y_ : List Int, y_ = (y956 ++ t932) := ⟨_, rfl⟩
       replace H := mk_ H hy959
       (try dsimp only at H)
       have Ny959 := Aside0.mk hy959
       clear hy959
       replace H := bd_ H
       obtain ⟨t962, A180, H⟩ := H
       by_cases c181 : y959.length + t962.length < 140737488355328
       case neg => exact nn_ c181 H
       rw [if_pos c181] at H
       have LMc181 := Aside0.mk c181
       clear c181
       obtain ⟨y965, hy965⟩ : ∃ y_ : List Int, y_ = (y959 ++ t962) := ⟨_, rfl⟩
       replace H : ((laws_same.f t949 y965).bind fun t968 => (if t968 = true then ((impl_SocksOk.f kj119 t890).bind fun t969 => (if t969 = true then ((impl_SocksOk.f kj119 t895).bind fun t970 => (if t970 = true then (some (decide ((t895.length : Int) ≤ (t890.length : Int)))) else (some false))) else (some (decide ((t895.length : Int) ≤ (t890.length : Int)))))) else (some false))) = some r := by first | (rw [hy965]; with_reducible exact H) | (have H2_ := (Option.bind_some _ _).symm.trans H; rw [hy965]; with_reducible exact H2_) | (have H2_ := (Option.bind_some _ _).symm.trans H; with_reducible exact H2_) | with_reducible exact H | (rw [hy965]; exact H) | exact H
       have Ny965 := Aside0.mk hy965
       clear hy965
       replace H := bd_ H
       obtain ⟨t968, A182, H⟩ := H
       by_cases c183 : t968 = true
       rotate_left
       ·
        replace c183 := Bool.eq_false_iff.mpr c183
        subst c183
        rw [if_neg (show ¬ (false = true) by decide)] at H
        exact absurd (hr_.out ▸ H) (by simp)
       subst c183
       rw [if_pos rfl] at H
       replace H := bd_ H
       obtain ⟨t969, A184, H⟩ := H
       by_cases c185 : t969 = true
       rotate_left
       ·
        replace c185 := Bool.eq_false_iff.mpr c185
        subst c185
        rw [if_neg (show ¬ (false = true) by decide)] at H
        obtain rfl := Option.some.inj H
        try go_wp2_with ((with_reducible refine gate_ld rfl ?_); first | refine ld_ ?_ | fail)
        replace HO_15 := am_ (Kd.S_drew HO_15.out)
        replace HO_18 := am_ (Kd.S_drew HO_18.out)
        replace HO_826004 := am_ (Kd.Q_drew HO_826004.out)
        replace HO_826005 := am_ (Kd.R_drew HO_826005.out)
        replace HO_840004 := am_ (Kd.Q_drew HO_840004.out)
        replace HO_840005 := am_ (Kd.R_drew HO_840005.out)
        replace HO_854004 := am_ (Kd.Q_drew HO_854004.out)
        replace HO_854005 := am_ (Kd.R_drew HO_854005.out)
        replace HO_867004 := am_ (Kd.Q_drew HO_867004.out)
        replace HO_867005 := am_ (Kd.R_drew HO_867005.out)
        replace HO_880004 := am_ (Kd.Q_drew HO_880004.out)
        replace HO_880005 := am_ (Kd.R_drew HO_880005.out)
        replace HO931 := am_ (Kd.R_drew HO931.out)
        replace HO934 := am_ (Kd.R_drew HO934.out)
        replace HO948 := am_ (Kd.R_drew HO948.out)
        replace HO951 := am_ (Kd.R_drew HO951.out)
        replace BK825 := am_ (blk_drew BK825.out)
        replace BK839 := am_ (blk_drew BK839.out)
        replace BK853 := am_ (blk_drew BK853.out)
        replace BK866 := am_ (blk_drew BK866.out)
        replace BK879 := am_ (blk_drew BK879.out)
        replace BK884 := am_ (blk_drew BK884.out)
        replace BK889 := am_ (blk_drew BK889.out)
        replace BK940 := am_ (blk_drew BK940.out)
        replace BK941 := am_ (blk_drew BK941.out)
        replace BK954 := am_ (blk_drew BK954.out)
        replace HB := am_ (below_drew1 HB.out)
        as_aux_lemma =>
        refine start_ (n := 32) (S := fun w' => w'.cell? ⟨gb940, 0, none⟩ = some (.int .i64 t925) ∧ w'.cell? ⟨gb940, 1, none⟩ = some (.int .i64 t926) ∧ w'.cell? ⟨gb940, 2, none⟩ = some (.int .i64 t927) ∧ w'.cell? ⟨gb940, 3, none⟩ = some (.bool t928) ∧ w'.cell? ⟨gb940, 4, none⟩ = some (.slice Ao148 t929.length co148) ∧ w'.cell? ⟨gb940, 5, none⟩ = some (.slice Ao149 t932.length co149) ∧ w'.cell? ⟨gb940, 6, none⟩ = some (.int .i64 t935) ∧ w'.cell? ⟨gb940, 7, none⟩ = some (.int .i64 t936) ∧ w'.cell? ⟨gb954, 0, none⟩ = some (.int .i64 t942) ∧ w'.cell? ⟨gb954, 1, none⟩ = some (.int .i64 t943) ∧ w'.cell? ⟨gb954, 2, none⟩ = some (.int .i64 t944) ∧ w'.cell? ⟨gb954, 3, none⟩ = some (.bool t945) ∧ w'.cell? ⟨gb954, 4, none⟩ = some (.slice Ao174 t946.length co174) ∧ w'.cell? ⟨gb954, 5, none⟩ = some (.slice Ao175 t949.length co175) ∧ w'.cell? ⟨gb954, 6, none⟩ = some (.int .i64 t952) ∧ w'.cell? ⟨gb954, 7, none⟩ = some (.int .i64 t953) ∧ w'.cell? ⟨gb941, 0, none⟩ = some (.int .i64 t937) ∧ w'.cell? ⟨gb941, 1, none⟩ = some (.string t938) ∧ w'.cell? ⟨gb941, 2, none⟩ = some (.int .i64 t939)) (ds := []) (rl [0,32]) (by kernel_rfl) rfl rfl (cw8 BK940.out (cw8 BK954.out (cz3 BK941.out))) (fun hHeld => ?_); refine with_tabW laws_FnSocks.tab20 laws_FnSocks.bits20 (fun HT_ HW_ => ?_)
        generalize w176.drew = w200 at HO_15 HO_18 HO_826004 HO_826005 HO_840004 HO_840005 HO_854004 HO_854005 HO_867004 HO_867005 HO_880004 HO_880005 HO931 HO934 HO948 HO951 BK825 BK839 BK853 BK866 BK879 BK884 BK889 BK940 BK941 BK954 HB hHeld ⊢
        refine tz_ (i := 0) (N := some 157) HT_ HW_ (rl [1,31]) rfl rfl hHeld ?_ (hy := fun w' ⟨s0, s1, s2, s3, s4, s5, s6, s7, _, _, _, _, _, _, _, _, _, _, _⟩ => ldr8 s0 s1 s2 s3 s4 s5 s6 s7)
        refine on_ HT_ (i := 1) (N := some 158) (rl [2,30]) (fun K hK => ?_)
        refine goes_ Try.func30 (by kernel_rfl) rfl #[.agg #[.int .i64 t925, .int .i64 t926, .int .i64 t927, .bool t928, .slice Ao148 t929.length co148, .slice Ao149 t932.length co149, .int .i64 t935, .int .i64 t936]] (by rfl) rfl rfl la_ ?_
        with_reducible refine (impl_SockOk.calls kj119 t925 t926 t927 t928 _ _ t929 _ _ t932 t935 t936 true _ ?side1 ?side2 ?side3 ?side4 A177.out).mono ?_
        (case side1 => exact qC ((Kd.R_reads' HO931.out).2.2))
        (case side2 => exact (Kd.R_reads' HO931.out).2.1)
        (case side3 => exact qC ((Kd.R_reads' HO934.out).2.2))
        (case side4 => exact (Kd.R_reads' HO934.out).2.1)
        rintro e w201 ⟨rfl, hb⟩
        refine ⟨_, rfl, ?_⟩
        replace HO_15 := lS_ HO_15 hb
        replace HO_18 := lS_ HO_18 hb
        replace HO_826004 := lQ_ HO_826004 hb
        replace HO_826005 := rB_ HO_826005 hb
        replace HO_840004 := lQ_ HO_840004 hb
        replace HO_840005 := rB_ HO_840005 hb
        replace HO_854004 := lQ_ HO_854004 hb
        replace HO_854005 := rB_ HO_854005 hb
        replace HO_867004 := lQ_ HO_867004 hb
        replace HO_867005 := rB_ HO_867005 hb
        replace HO_880004 := lQ_ HO_880004 hb
        replace HO_880005 := rB_ HO_880005 hb
        replace HO931 := rB_ HO931 hb
        replace HO934 := rB_ HO934 hb
        replace HO948 := rB_ HO948 hb
        replace HO951 := rB_ HO951 hb
        replace BK825 := bK_ BK825 hb
        replace BK839 := bK_ BK839 hb
        replace BK853 := bK_ BK853 hb
        replace BK866 := bK_ BK866 hb
        replace BK879 := bK_ BK879 hb
        replace BK884 := bK_ BK884 hb
        replace BK889 := bK_ BK889 hb
        replace BK940 := bK_ BK940 hb
        replace BK941 := bK_ BK941 hb
        replace BK954 := bK_ BK954 hb
        replace HB := bS_ HB hb
        (try clear hb)
        refine hK.out _ _ (cw8 BK940.out (cw8 BK954.out (cz3 BK941.out))) (fun hHeld => ?_)
        clear hK K
        refine nm_ (some 158) ?_
        refine pq_ 2 159 HT_ (rl [3,29]) ?_
        refine pq_ 3 160 HT_ (rl [4,28]) ?_
        refine pq_ 4 161 HT_ (rl [5,27]) ?_
        refine pq_ 7 164 HT_ (rl [5,2,1,24]) ?_
        refine tz_ (i := 5) (N := some 162) HT_ HW_ (rl [6,1,1,24]) rfl rfl hHeld ?_
        refine tz_ (i := 8) (N := some 165) HT_ HW_ (rl [6,1,2,23]) rfl rfl hHeld ?_
        refine tz_ (i := 10) (N := some 167) HT_ HW_ (rl [6,1,2,1,1,21]) rfl rfl hHeld ?_
        refine on_ HT_ (i := 6) (N := some 163) (rl [9,1,1,21]) (fun K hK => ?_)
        refine Kd.R_lit_step (Kd.int .u8) _ 5 ?hg (N := 163) ?hd (xs := ([] : List Int)) (inner := []) (ok := fun _ => True) (okp := fun _ => True) ?hr ?hp (fun _ hk => hk) trivial (Below.refl _ _) (Nat.le_refl _) (by simp) ?_; (case hd => rfl); (case hg => rfl); (case hr => first | (go_simp; done) | (go_simp; rfl)); (case hp => exact (Reps.none _ _))
        intro v957 w202 ho203 hb hg_ hnew_
        clear hg_ hnew_
        (first | rw [← Ny956.out] at ho203 | (simp only [Int.reduceToNat] at ho203; rw [← Ny956.out] at ho203))
        replace HO_15 := am_ (Kd.S_elder' (qS HO_15) (Kd.R_base ho203) hb)
        replace HO_18 := am_ (Kd.S_elder' (qS HO_18) (Kd.R_base ho203) hb)
        have HO958 := am_ (Kd.R_lower (Kd.R_new' (Kd.R_new' (Kd.R_new' (Kd.R_new' (Kd.R_new' (Kd.R_new' (Kd.R_new' (Kd.R_new' (Kd.R_new' (Kd.R_new' (Kd.R_new' (Kd.R_new' (Kd.R_new' (Kd.R_new' ho203 (Kd.Q_lt (qQ HO_826004))) (Kd.R_lt (qR HO_826005))) (Kd.Q_lt (qQ HO_840004))) (Kd.R_lt (qR HO_840005))) (Kd.Q_lt (qQ HO_854004))) (Kd.R_lt (qR HO_854005))) (Kd.Q_lt (qQ HO_867004))) (Kd.R_lt (qR HO_867005))) (Kd.Q_lt (qQ HO_880004))) (Kd.R_lt (qR HO_880005))) (Kd.R_lt (qR HO931))) (Kd.R_lt (qR HO934))) (Kd.R_lt (qR HO948))) (Kd.R_lt (qR HO951))) (below_size (qB HB)))
        replace HO_826004 := am_ (Kd.Q_elder' (qQ HO_826004) (Kd.R_base ho203) hb)
        replace HO_826005 := eA_ HO_826005 ho203 hb
        replace HO_840004 := am_ (Kd.Q_elder' (qQ HO_840004) (Kd.R_base ho203) hb)
        replace HO_840005 := eA_ HO_840005 ho203 hb
        replace HO_854004 := am_ (Kd.Q_elder' (qQ HO_854004) (Kd.R_base ho203) hb)
        replace HO_854005 := eA_ HO_854005 ho203 hb
        replace HO_867004 := am_ (Kd.Q_elder' (qQ HO_867004) (Kd.R_base ho203) hb)
        replace HO_867005 := eA_ HO_867005 ho203 hb
        replace HO_880004 := am_ (Kd.Q_elder' (qQ HO_880004) (Kd.R_base ho203) hb)
        replace HO_880005 := eA_ HO_880005 ho203 hb
        replace HO931 := eA_ HO931 ho203 hb
        replace HO934 := eA_ HO934 ho203 hb
        replace HO948 := eA_ HO948 ho203 hb
        replace HO951 := eA_ HO951 ho203 hb
        replace BK825 := bK_ BK825 hb
        replace BK839 := bK_ BK839 hb
        replace BK853 := bK_ BK853 hb
        replace BK866 := bK_ BK866 hb
        replace BK879 := bK_ BK879 hb
        replace BK884 := bK_ BK884 hb
        replace BK889 := bK_ BK889 hb
        replace BK940 := bK_ BK940 hb
        replace BK941 := bK_ BK941 hb
        replace BK954 := bK_ BK954 hb
        replace HB := bS_ HB hb
        clear hb ho203
        refine hK.out _ _ (cw8 BK940.out (cw8 BK954.out (cz3 BK941.out))) (fun hHeld => ?_)
        clear hK K
        refine nm_ (some 163) ?_
        refine on_ HT_ (i := 9) (N := some 166) (rl [11,21]) (fun K hK => ?_)
        refine Kd.R_append_rows_step (Kd.int .u8) (w0 := w) w.heap.size (by rfl) (.tmp 163) (.tmp 165) 22 5 (.int .u8 0) 1 rfl Try.underlying22 info5 rfl (by decide) (by omega) v957 y956 t932 _ _ _ (fun k_ => nb Ao18 t814.length co18 k_ ∧ nb Ao19 t817.length co19 k_ ∧ nb Ao27 t830.length co27 k_ ∧ nb Ao28 t833.length co28 k_ ∧ nb Ao36 t844.length co36 k_ ∧ nb Ao37 t847.length co37 k_ ∧ nb Ao45 t858.length co45 k_ ∧ nb Ao46 t861.length co46 k_ ∧ nb Ao56 t871.length co56 k_ ∧ nb Ao57 t874.length co57 k_ ∧ nb Ao148 t929.length co148 k_ ∧ nb Ao149 t932.length co149 k_ ∧ nb Ao174 t946.length co174 k_ ∧ nb Ao175 t949.length co175 k_) (fun _ => False) rfl rfl ?aO ?aR (fun _ _ h => h) (fun _ h => h.elim) ?aF ?aB ?aS ?aL ?_
        (case aR => exact qC ((Kd.R_reads' HO934.out).2.2))
        (case aB => exact (qB HB))
        (case aF => exact (fun k_ hk => ⟨Kd.fresh' (Kd.Q_lt (qQ HO_826004)) k_ hk, Kd.fresh' (Kd.R_lt (qR HO_826005)) k_ hk, Kd.fresh' (Kd.Q_lt (qQ HO_840004)) k_ hk, Kd.fresh' (Kd.R_lt (qR HO_840005)) k_ hk, Kd.fresh' (Kd.Q_lt (qQ HO_854004)) k_ hk, Kd.fresh' (Kd.R_lt (qR HO_854005)) k_ hk, Kd.fresh' (Kd.Q_lt (qQ HO_867004)) k_ hk, Kd.fresh' (Kd.R_lt (qR HO_867005)) k_ hk, Kd.fresh' (Kd.Q_lt (qQ HO_880004)) k_ hk, Kd.fresh' (Kd.R_lt (qR HO_880005)) k_ hk, Kd.fresh' (Kd.R_lt (qR HO931)) k_ hk, Kd.fresh' (Kd.R_lt (qR HO934)) k_ hk, Kd.fresh' (Kd.R_lt (qR HO948)) k_ hk, Kd.fresh' (Kd.R_lt (qR HO951)) k_ hk⟩))
        (case aO => exact (xR1_ HO958))
        (case aS => exact (below_size (qB HB)))
        (case aL => have := LMc179.out; omega)
        intro v960 w204 ho hb hg hat
        rw [← Ny959.out] at ho
        replace HO_15 := aS_ HO_15 hg hat
        replace HO_18 := aS_ HO_18 hg hat
        replace HO_826004 := aQ_ HO_826004 hg hat
        replace HO_826005 := aR_ HO_826005 hg hat
        replace HO_840004 := aQ_ HO_840004 hg hat
        replace HO_840005 := aR_ HO_840005 hg hat
        replace HO_854004 := aQ_ HO_854004 hg hat
        replace HO_854005 := aR_ HO_854005 hg hat
        replace HO_867004 := aQ_ HO_867004 hg hat
        replace HO_867005 := aR_ HO_867005 hg hat
        replace HO_880004 := aQ_ HO_880004 hg hat
        replace HO_880005 := aR_ HO_880005 hg hat
        replace BK825 := kG_ BK825 HO958 hg
        replace BK839 := kG_ BK839 HO958 hg
        replace BK853 := kG_ BK853 HO958 hg
        replace BK866 := kG_ BK866 HO958 hg
        replace BK879 := kG_ BK879 HO958 hg
        replace BK884 := kG_ BK884 HO958 hg
        replace BK889 := kG_ BK889 HO958 hg
        replace HO931 := aR_ HO931 hg hat
        replace HO934 := aR_ HO934 hg hat
        replace BK940 := kG_ BK940 HO958 hg
        replace BK941 := kG_ BK941 HO958 hg
        replace HO948 := aR_ HO948 hg hat
        replace HO951 := aR_ HO951 hg hat
        replace BK954 := kG_ BK954 HO958 hg
        replace HB := am_ (hb)
        have HO961 := am_ (ho)
        clear HO958
        clear ho hb hg hat
        refine hK.out _ _ (cw8 BK940.out (cw8 BK954.out (cz3 BK941.out))) (fun hHeld => ?_)
        clear hK K
        refine nm_ (some 166) ?_
        refine on_ HT_ (i := 11) (N := some 168) (rl [12,20]) (fun K hK => ?_)
        refine goes_ Try.func37 (by kernel_rfl) rfl #[.agg #[.int .i64 t937, .string t938, .int .i64 t939]] (by rfl) rfl rfl la_ ?_
        with_reducible refine (impl_PutFrame.calls kj119 t937 t938 t939 t962 _ A180.out).mono ?_
        rintro e w205 ⟨v963, rfl, ho0, hb⟩
        refine ⟨_, rfl, ?_⟩
        replace HO_15 := am_ (Kd.S_elder' (qS HO_15) (Kd.R_base ho0) hb)
        replace HO_18 := am_ (Kd.S_elder' (qS HO_18) (Kd.R_base ho0) hb)
        have HO964 := am_ (Kd.R_lower (Kd.R_new' (Kd.R_new' (Kd.R_new' (Kd.R_new' (Kd.R_new' (Kd.R_new' (Kd.R_new' (Kd.R_new' (Kd.R_new' (Kd.R_new' (Kd.R_new' (Kd.R_new' (Kd.R_new' (Kd.R_new' (Kd.R_new' ho0 (Kd.Q_lt (qQ HO_826004))) (Kd.R_lt (qR HO_826005))) (Kd.Q_lt (qQ HO_840004))) (Kd.R_lt (qR HO_840005))) (Kd.Q_lt (qQ HO_854004))) (Kd.R_lt (qR HO_854005))) (Kd.Q_lt (qQ HO_867004))) (Kd.R_lt (qR HO_867005))) (Kd.Q_lt (qQ HO_880004))) (Kd.R_lt (qR HO_880005))) (Kd.R_lt (qR HO931))) (Kd.R_lt (qR HO934))) (Kd.R_lt (qR HO948))) (Kd.R_lt (qR HO951))) (Kd.R_lt (qR HO961))) (below_size (qB HB)))
        replace HO_826004 := am_ (Kd.Q_elder' (qQ HO_826004) (Kd.R_base ho0) hb)
        replace HO_826005 := eA_ HO_826005 ho0 hb
        replace HO_840004 := am_ (Kd.Q_elder' (qQ HO_840004) (Kd.R_base ho0) hb)
        replace HO_840005 := eA_ HO_840005 ho0 hb
        replace HO_854004 := am_ (Kd.Q_elder' (qQ HO_854004) (Kd.R_base ho0) hb)
        replace HO_854005 := eA_ HO_854005 ho0 hb
        replace HO_867004 := am_ (Kd.Q_elder' (qQ HO_867004) (Kd.R_base ho0) hb)
        replace HO_867005 := eA_ HO_867005 ho0 hb
        replace HO_880004 := am_ (Kd.Q_elder' (qQ HO_880004) (Kd.R_base ho0) hb)
        replace HO_880005 := eA_ HO_880005 ho0 hb
        replace HO931 := eA_ HO931 ho0 hb
        replace HO934 := eA_ HO934 ho0 hb
        replace HO948 := eA_ HO948 ho0 hb
        replace HO951 := eA_ HO951 ho0 hb
        replace HO961 := eA_ HO961 ho0 hb
        replace BK825 := bK_ BK825 hb
        replace BK839 := bK_ BK839 hb
        replace BK853 := bK_ BK853 hb
        replace BK866 := bK_ BK866 hb
        replace BK879 := bK_ BK879 hb
        replace BK884 := bK_ BK884 hb
        replace BK889 := bK_ BK889 hb
        replace BK940 := bK_ BK940 hb
        replace BK941 := bK_ BK941 hb
        replace BK954 := bK_ BK954 hb
        replace HB := bS_ HB hb
        (try clear hb ho0)
        obtain ⟨Ao207, co207, eo207⟩ := Kd.R_slice HO964.out
        (first | subst eo207 | (injection eo207 with f1_ f2_ f3_; have f4_ := f1_.symm; have f5_ := f3_.symm; clear f1_ f2_ f3_; subst f4_; subst f5_))
        refine hK.out _ _ (cw8 BK940.out (cw8 BK954.out (cz3 BK941.out))) (fun hHeld => ?_)
        clear hK K
        refine nm_ (some 168) ?_
        refine on_ HT_ (i := 12) (N := some 169) (rl [13,19]) (fun K hK => ?_)
        refine Kd.R_append_rows_step (Kd.int .u8) (w0 := w) w.heap.size (by rfl) (.tmp 166) (.tmp 168) 22 5 (.int .u8 0) 1 rfl Try.underlying22 info5 rfl (by decide) (by omega) v960 y959 t962 _ _ _ (fun k_ => nb Ao18 t814.length co18 k_ ∧ nb Ao19 t817.length co19 k_ ∧ nb Ao27 t830.length co27 k_ ∧ nb Ao28 t833.length co28 k_ ∧ nb Ao36 t844.length co36 k_ ∧ nb Ao37 t847.length co37 k_ ∧ nb Ao45 t858.length co45 k_ ∧ nb Ao46 t861.length co46 k_ ∧ nb Ao56 t871.length co56 k_ ∧ nb Ao57 t874.length co57 k_ ∧ nb Ao148 t929.length co148 k_ ∧ nb Ao149 t932.length co149 k_ ∧ nb Ao174 t946.length co174 k_ ∧ nb Ao175 t949.length co175 k_ ∧ nb Ao207 t962.length co207 k_) (fun _ => False) rfl rfl ?aO ?aR (fun _ _ h => h) (fun _ h => h.elim) ?aF ?aB ?aS ?aL ?_
        (case aR => exact qC ((Kd.R_reads' HO964.out).2.2))
        (case aB => exact (qB HB))
        (case aF => exact (fun k_ hk => ⟨Kd.fresh' (Kd.Q_lt (qQ HO_826004)) k_ hk, Kd.fresh' (Kd.R_lt (qR HO_826005)) k_ hk, Kd.fresh' (Kd.Q_lt (qQ HO_840004)) k_ hk, Kd.fresh' (Kd.R_lt (qR HO_840005)) k_ hk, Kd.fresh' (Kd.Q_lt (qQ HO_854004)) k_ hk, Kd.fresh' (Kd.R_lt (qR HO_854005)) k_ hk, Kd.fresh' (Kd.Q_lt (qQ HO_867004)) k_ hk, Kd.fresh' (Kd.R_lt (qR HO_867005)) k_ hk, Kd.fresh' (Kd.Q_lt (qQ HO_880004)) k_ hk, Kd.fresh' (Kd.R_lt (qR HO_880005)) k_ hk, Kd.fresh' (Kd.R_lt (qR HO931)) k_ hk, Kd.fresh' (Kd.R_lt (qR HO934)) k_ hk, Kd.fresh' (Kd.R_lt (qR HO948)) k_ hk, Kd.fresh' (Kd.R_lt (qR HO951)) k_ hk, Kd.fresh' (Kd.R_lt (qR HO964)) k_ hk⟩))
        (case aO => exact (xR1_ HO961))
        (case aS => exact (below_size (qB HB)))
        (case aL => have := LMc181.out; omega)
        intro v966 w206 ho hb hg hat
        rw [← Ny965.out] at ho
        replace HO_15 := am_ (Kd.S_after (ok := (fun k_ => nv v896 k_ ∧ nb Ao18 t814.length co18 k_ ∧ nb Ao19 t817.length co19 k_ ∧ nb Ao27 t830.length co27 k_ ∧ nb Ao28 t833.length co28 k_ ∧ nb Ao36 t844.length co36 k_ ∧ nb Ao37 t847.length co37 k_ ∧ nb Ao45 t858.length co45 k_ ∧ nb Ao46 t861.length co46 k_ ∧ nb Ao56 t871.length co56 k_ ∧ nb Ao57 t874.length co57 k_ ∧ nb Ao148 t929.length co148 k_ ∧ nb Ao149 t932.length co149 k_ ∧ nb Ao174 t946.length co174 k_ ∧ nb Ao175 t949.length co175 k_ ∧ nb Ao207 t962.length co207 k_ ∧ k_ ≠ gb825 ∧ k_ ≠ gb839 ∧ k_ ≠ gb853 ∧ k_ ≠ gb866 ∧ k_ ≠ gb879 ∧ k_ ≠ gb940 ∧ k_ ≠ gb954)) (xS1_ HO_15) hg hat)
        replace HO_18 := am_ (Kd.S_after (ok := (fun k_ => nb Ao81 t890.length co81 k_ ∧ nb Ao18 t814.length co18 k_ ∧ nb Ao19 t817.length co19 k_ ∧ nb Ao27 t830.length co27 k_ ∧ nb Ao28 t833.length co28 k_ ∧ nb Ao36 t844.length co36 k_ ∧ nb Ao37 t847.length co37 k_ ∧ nb Ao45 t858.length co45 k_ ∧ nb Ao46 t861.length co46 k_ ∧ nb Ao56 t871.length co56 k_ ∧ nb Ao57 t874.length co57 k_ ∧ nb Ao148 t929.length co148 k_ ∧ nb Ao149 t932.length co149 k_ ∧ nb Ao174 t946.length co174 k_ ∧ nb Ao175 t949.length co175 k_ ∧ nb Ao207 t962.length co207 k_ ∧ k_ ≠ gb825 ∧ k_ ≠ gb839 ∧ k_ ≠ gb853 ∧ k_ ≠ gb866 ∧ k_ ≠ gb879 ∧ k_ ≠ gb940 ∧ k_ ≠ gb954)) (xS1_ HO_18) hg hat)
        replace HO_826004 := am_ (Kd.Q_after (ok := (fun k_ => nb Ao19 t817.length co19 k_ ∧ nb Ao27 t830.length co27 k_ ∧ nb Ao28 t833.length co28 k_ ∧ nb Ao36 t844.length co36 k_ ∧ nb Ao37 t847.length co37 k_ ∧ nb Ao45 t858.length co45 k_ ∧ nb Ao46 t861.length co46 k_ ∧ nb Ao56 t871.length co56 k_ ∧ nb Ao57 t874.length co57 k_ ∧ nb Ao148 t929.length co148 k_ ∧ nb Ao149 t932.length co149 k_ ∧ nb Ao174 t946.length co174 k_ ∧ nb Ao175 t949.length co175 k_ ∧ nb Ao207 t962.length co207 k_)) (xQ1_ HO_826004) hg hat)
        replace HO_826005 := am_ (Kd.R_after (ok := (fun k_ => nb Ao18 t814.length co18 k_ ∧ nb Ao27 t830.length co27 k_ ∧ nb Ao28 t833.length co28 k_ ∧ nb Ao36 t844.length co36 k_ ∧ nb Ao37 t847.length co37 k_ ∧ nb Ao45 t858.length co45 k_ ∧ nb Ao46 t861.length co46 k_ ∧ nb Ao56 t871.length co56 k_ ∧ nb Ao57 t874.length co57 k_ ∧ nb Ao148 t929.length co148 k_ ∧ nb Ao149 t932.length co149 k_ ∧ nb Ao174 t946.length co174 k_ ∧ nb Ao175 t949.length co175 k_ ∧ nb Ao207 t962.length co207 k_)) (xR1_ HO_826005) hg hat)
        replace HO_840004 := am_ (Kd.Q_after (ok := (fun k_ => nb Ao18 t814.length co18 k_ ∧ nb Ao19 t817.length co19 k_ ∧ nb Ao28 t833.length co28 k_ ∧ nb Ao36 t844.length co36 k_ ∧ nb Ao37 t847.length co37 k_ ∧ nb Ao45 t858.length co45 k_ ∧ nb Ao46 t861.length co46 k_ ∧ nb Ao56 t871.length co56 k_ ∧ nb Ao57 t874.length co57 k_ ∧ nb Ao148 t929.length co148 k_ ∧ nb Ao149 t932.length co149 k_ ∧ nb Ao174 t946.length co174 k_ ∧ nb Ao175 t949.length co175 k_ ∧ nb Ao207 t962.length co207 k_)) (xQ1_ HO_840004) hg hat)
        replace HO_840005 := am_ (Kd.R_after (ok := (fun k_ => nb Ao18 t814.length co18 k_ ∧ nb Ao19 t817.length co19 k_ ∧ nb Ao27 t830.length co27 k_ ∧ nb Ao36 t844.length co36 k_ ∧ nb Ao37 t847.length co37 k_ ∧ nb Ao45 t858.length co45 k_ ∧ nb Ao46 t861.length co46 k_ ∧ nb Ao56 t871.length co56 k_ ∧ nb Ao57 t874.length co57 k_ ∧ nb Ao148 t929.length co148 k_ ∧ nb Ao149 t932.length co149 k_ ∧ nb Ao174 t946.length co174 k_ ∧ nb Ao175 t949.length co175 k_ ∧ nb Ao207 t962.length co207 k_)) (xR1_ HO_840005) hg hat)
        replace HO_854004 := am_ (Kd.Q_after (ok := (fun k_ => nb Ao18 t814.length co18 k_ ∧ nb Ao19 t817.length co19 k_ ∧ nb Ao27 t830.length co27 k_ ∧ nb Ao28 t833.length co28 k_ ∧ nb Ao37 t847.length co37 k_ ∧ nb Ao45 t858.length co45 k_ ∧ nb Ao46 t861.length co46 k_ ∧ nb Ao56 t871.length co56 k_ ∧ nb Ao57 t874.length co57 k_ ∧ nb Ao148 t929.length co148 k_ ∧ nb Ao149 t932.length co149 k_ ∧ nb Ao174 t946.length co174 k_ ∧ nb Ao175 t949.length co175 k_ ∧ nb Ao207 t962.length co207 k_)) (xQ1_ HO_854004) hg hat)
        replace HO_854005 := am_ (Kd.R_after (ok := (fun k_ => nb Ao18 t814.length co18 k_ ∧ nb Ao19 t817.length co19 k_ ∧ nb Ao27 t830.length co27 k_ ∧ nb Ao28 t833.length co28 k_ ∧ nb Ao36 t844.length co36 k_ ∧ nb Ao45 t858.length co45 k_ ∧ nb Ao46 t861.length co46 k_ ∧ nb Ao56 t871.length co56 k_ ∧ nb Ao57 t874.length co57 k_ ∧ nb Ao148 t929.length co148 k_ ∧ nb Ao149 t932.length co149 k_ ∧ nb Ao174 t946.length co174 k_ ∧ nb Ao175 t949.length co175 k_ ∧ nb Ao207 t962.length co207 k_)) (xR1_ HO_854005) hg hat)
        replace HO_867004 := am_ (Kd.Q_after (ok := (fun k_ => nb Ao18 t814.length co18 k_ ∧ nb Ao19 t817.length co19 k_ ∧ nb Ao27 t830.length co27 k_ ∧ nb Ao28 t833.length co28 k_ ∧ nb Ao36 t844.length co36 k_ ∧ nb Ao37 t847.length co37 k_ ∧ nb Ao46 t861.length co46 k_ ∧ nb Ao56 t871.length co56 k_ ∧ nb Ao57 t874.length co57 k_ ∧ nb Ao148 t929.length co148 k_ ∧ nb Ao149 t932.length co149 k_ ∧ nb Ao174 t946.length co174 k_ ∧ nb Ao175 t949.length co175 k_ ∧ nb Ao207 t962.length co207 k_)) (xQ1_ HO_867004) hg hat)
        replace HO_867005 := am_ (Kd.R_after (ok := (fun k_ => nb Ao18 t814.length co18 k_ ∧ nb Ao19 t817.length co19 k_ ∧ nb Ao27 t830.length co27 k_ ∧ nb Ao28 t833.length co28 k_ ∧ nb Ao36 t844.length co36 k_ ∧ nb Ao37 t847.length co37 k_ ∧ nb Ao45 t858.length co45 k_ ∧ nb Ao56 t871.length co56 k_ ∧ nb Ao57 t874.length co57 k_ ∧ nb Ao148 t929.length co148 k_ ∧ nb Ao149 t932.length co149 k_ ∧ nb Ao174 t946.length co174 k_ ∧ nb Ao175 t949.length co175 k_ ∧ nb Ao207 t962.length co207 k_)) (xR1_ HO_867005) hg hat)
        replace HO_880004 := am_ (Kd.Q_after (ok := (fun k_ => nb Ao18 t814.length co18 k_ ∧ nb Ao19 t817.length co19 k_ ∧ nb Ao27 t830.length co27 k_ ∧ nb Ao28 t833.length co28 k_ ∧ nb Ao36 t844.length co36 k_ ∧ nb Ao37 t847.length co37 k_ ∧ nb Ao45 t858.length co45 k_ ∧ nb Ao46 t861.length co46 k_ ∧ nb Ao57 t874.length co57 k_ ∧ nb Ao148 t929.length co148 k_ ∧ nb Ao149 t932.length co149 k_ ∧ nb Ao174 t946.length co174 k_ ∧ nb Ao175 t949.length co175 k_ ∧ nb Ao207 t962.length co207 k_)) (xQ1_ HO_880004) hg hat)
        replace HO_880005 := am_ (Kd.R_after (ok := (fun k_ => nb Ao18 t814.length co18 k_ ∧ nb Ao19 t817.length co19 k_ ∧ nb Ao27 t830.length co27 k_ ∧ nb Ao28 t833.length co28 k_ ∧ nb Ao36 t844.length co36 k_ ∧ nb Ao37 t847.length co37 k_ ∧ nb Ao45 t858.length co45 k_ ∧ nb Ao46 t861.length co46 k_ ∧ nb Ao56 t871.length co56 k_ ∧ nb Ao148 t929.length co148 k_ ∧ nb Ao149 t932.length co149 k_ ∧ nb Ao174 t946.length co174 k_ ∧ nb Ao175 t949.length co175 k_ ∧ nb Ao207 t962.length co207 k_)) (xR1_ HO_880005) hg hat)
        replace BK825 := kG_ BK825 HO961 hg
        replace BK839 := kG_ BK839 HO961 hg
        replace BK853 := kG_ BK853 HO961 hg
        replace BK866 := kG_ BK866 HO961 hg
        replace BK879 := kG_ BK879 HO961 hg
        replace BK884 := kG_ BK884 HO961 hg
        replace BK889 := kG_ BK889 HO961 hg
        replace HO931 := am_ (Kd.R_after (ok := (fun k_ => nb Ao18 t814.length co18 k_ ∧ nb Ao19 t817.length co19 k_ ∧ nb Ao27 t830.length co27 k_ ∧ nb Ao28 t833.length co28 k_ ∧ nb Ao36 t844.length co36 k_ ∧ nb Ao37 t847.length co37 k_ ∧ nb Ao45 t858.length co45 k_ ∧ nb Ao46 t861.length co46 k_ ∧ nb Ao56 t871.length co56 k_ ∧ nb Ao57 t874.length co57 k_ ∧ nb Ao149 t932.length co149 k_ ∧ nb Ao174 t946.length co174 k_ ∧ nb Ao175 t949.length co175 k_ ∧ nb Ao207 t962.length co207 k_)) (xR1_ HO931) hg hat)
        replace HO934 := am_ (Kd.R_after (ok := (fun k_ => nb Ao18 t814.length co18 k_ ∧ nb Ao19 t817.length co19 k_ ∧ nb Ao27 t830.length co27 k_ ∧ nb Ao28 t833.length co28 k_ ∧ nb Ao36 t844.length co36 k_ ∧ nb Ao37 t847.length co37 k_ ∧ nb Ao45 t858.length co45 k_ ∧ nb Ao46 t861.length co46 k_ ∧ nb Ao56 t871.length co56 k_ ∧ nb Ao57 t874.length co57 k_ ∧ nb Ao148 t929.length co148 k_ ∧ nb Ao174 t946.length co174 k_ ∧ nb Ao175 t949.length co175 k_ ∧ nb Ao207 t962.length co207 k_)) (xR1_ HO934) hg hat)
        replace BK940 := kG_ BK940 HO961 hg
        replace BK941 := kG_ BK941 HO961 hg
        replace HO948 := am_ (Kd.R_after (ok := (fun k_ => nb Ao18 t814.length co18 k_ ∧ nb Ao19 t817.length co19 k_ ∧ nb Ao27 t830.length co27 k_ ∧ nb Ao28 t833.length co28 k_ ∧ nb Ao36 t844.length co36 k_ ∧ nb Ao37 t847.length co37 k_ ∧ nb Ao45 t858.length co45 k_ ∧ nb Ao46 t861.length co46 k_ ∧ nb Ao56 t871.length co56 k_ ∧ nb Ao57 t874.length co57 k_ ∧ nb Ao148 t929.length co148 k_ ∧ nb Ao149 t932.length co149 k_ ∧ nb Ao175 t949.length co175 k_ ∧ nb Ao207 t962.length co207 k_)) (xR1_ HO948) hg hat)
        replace HO951 := am_ (Kd.R_after (ok := (fun k_ => nb Ao18 t814.length co18 k_ ∧ nb Ao19 t817.length co19 k_ ∧ nb Ao27 t830.length co27 k_ ∧ nb Ao28 t833.length co28 k_ ∧ nb Ao36 t844.length co36 k_ ∧ nb Ao37 t847.length co37 k_ ∧ nb Ao45 t858.length co45 k_ ∧ nb Ao46 t861.length co46 k_ ∧ nb Ao56 t871.length co56 k_ ∧ nb Ao57 t874.length co57 k_ ∧ nb Ao148 t929.length co148 k_ ∧ nb Ao149 t932.length co149 k_ ∧ nb Ao174 t946.length co174 k_ ∧ nb Ao207 t962.length co207 k_)) (xR1_ HO951) hg hat)
        replace BK954 := kG_ BK954 HO961 hg
        replace HO964 := am_ (Kd.R_after (ok := (fun k_ => nb Ao18 t814.length co18 k_ ∧ nb Ao19 t817.length co19 k_ ∧ nb Ao27 t830.length co27 k_ ∧ nb Ao28 t833.length co28 k_ ∧ nb Ao36 t844.length co36 k_ ∧ nb Ao37 t847.length co37 k_ ∧ nb Ao45 t858.length co45 k_ ∧ nb Ao46 t861.length co46 k_ ∧ nb Ao56 t871.length co56 k_ ∧ nb Ao57 t874.length co57 k_ ∧ nb Ao148 t929.length co148 k_ ∧ nb Ao149 t932.length co149 k_ ∧ nb Ao174 t946.length co174 k_ ∧ nb Ao175 t949.length co175 k_)) (xR1_ HO964) hg hat)
        replace HB := am_ (hb)
        have HO967 := am_ (ho)
        clear HO961
        clear ho hb hg hat
        obtain ⟨Ao208, co208, eo208⟩ := Kd.R_slice HO967.out
        (first | subst eo208 | (injection eo208 with f1_ f2_ f3_; have f4_ := f1_.symm; have f5_ := f3_.symm; clear f1_ f2_ f3_; subst f4_; subst f5_))
        refine hK.out _ _ (cw8 BK940.out (cw8 BK954.out (cz3 BK941.out))) (fun hHeld => ?_)
        clear hK K
        refine nm_ (some 169) ?_
        refine on_ HT_ (i := 13) (N := some 170) (rl [14,18]) (fun K hK => ?_)
        refine goes_ Try.func15 (by kernel_rfl) rfl #[.slice Ao175 t949.length co175, .slice Ao208 y965.length co208] (by rfl) rfl rfl la_ ?_
        with_reducible refine (laws_same.calls _ _ t949 _ _ y965 true _ ?side1 ?side2 ?side3 ?side4 A182.out).mono ?_
        (case side1 => exact qC ((Kd.R_reads' HO951.out).2.2))
        (case side2 => exact (Kd.R_reads' HO951.out).2.1)
        (case side3 => exact qC ((Kd.R_reads' HO967.out).2.2))
        (case side4 => exact (Kd.R_reads' HO967.out).2.1)
        rintro e w' ⟨rfl, ⟨nd, rfl⟩⟩
        refine ⟨_, rfl, ?_⟩
        refine hK.out _ _ (cw8 BK940.out (cw8 BK954.out (cz3 BK941.out))) (fun hHeld => ?_)
        clear hK K
        refine nm_ (some 170) ?_
        refine pq_ 14 171 HT_ (rl [15,17]) ?_
        refine pq_ 15 172 HT_ (rl [16,16]) ?_
        refine pq_ 16 173 HT_ (rl [17,15]) ?_
        refine on_ HT_ (i := 17) (N := some 174) (rl [18,14]) (fun K hK => ?_)
        refine goes_ Try.func34 (by kernel_rfl) rfl #[.slice Ao81 t890.length co81] (by rfl) rfl rfl la_ ?_
        with_reducible refine (impl_SocksOk.calls kj119 _ _ t890 false _ ?side1 ?side2 A184.out).mono ?_
        (case side1 => exact qC ((Kd.S_reads' HO_15.out).2.2))
        (case side2 => exact (Kd.S_reads' HO_15.out).2.1)
        rintro e w209 ⟨rfl, hb⟩
        refine ⟨_, rfl, ?_⟩
        replace HO_15 := lS_ HO_15 hb
        replace HO_18 := lS_ HO_18 hb
        replace HO_826004 := lQ_ HO_826004 hb
        replace HO_826005 := rB_ HO_826005 hb
        replace HO_840004 := lQ_ HO_840004 hb
        replace HO_840005 := rB_ HO_840005 hb
        replace HO_854004 := lQ_ HO_854004 hb
        replace HO_854005 := rB_ HO_854005 hb
        replace HO_867004 := lQ_ HO_867004 hb
        replace HO_867005 := rB_ HO_867005 hb
        replace HO_880004 := lQ_ HO_880004 hb
        replace HO_880005 := rB_ HO_880005 hb
        replace HO931 := rB_ HO931 hb
        replace HO934 := rB_ HO934 hb
        replace HO948 := rB_ HO948 hb
        replace HO951 := rB_ HO951 hb
        replace HO964 := rB_ HO964 hb
        replace HO967 := rB_ HO967 hb
        replace BK825 := bK_ BK825 hb
        replace BK839 := bK_ BK839 hb
        replace BK853 := bK_ BK853 hb
        replace BK866 := bK_ BK866 hb
        replace BK879 := bK_ BK879 hb
        replace BK884 := bK_ BK884 hb
        replace BK889 := bK_ BK889 hb
        replace BK940 := bK_ BK940 hb
        replace BK941 := bK_ BK941 hb
        replace BK954 := bK_ BK954 hb
        replace HB := bS_ HB hb
        (try clear hb)
        obtain ⟨Ao210, co210, eo210⟩ := Kd.S_slice HO_18.out
        (first | subst eo210 | (injection eo210 with f1_ f2_ f3_; have f4_ := f1_.symm; have f5_ := f3_.symm; clear f1_ f2_ f3_; subst f4_; subst f5_))
        refine hK.out _ _ (cw8 BK940.out (cw8 BK954.out (cz3 BK941.out))) (fun hHeld => ?_)
        clear hK K
        refine nm_ (some 174) ?_
        refine pq_ 18 175 HT_ (rl [19,13]) ?_
        refine pq_ 19 176 HT_ (rl [20,12]) ?_
        refine pv_ 20 177 HT_ (rl [21,11]) ?_
        refine pv_ 21 178 HT_ (rl [22,10]) ?_
        refine pq_ 22 179 HT_ (rl [23,9]) ?_
        refine pq_ 23 180 HT_ (rl [24,8]) ?_
        refine pq_ 24 181 HT_ (rl [25,7]) ?_
        refine pq_ 25 182 HT_ (rl [26,6]) ?_
        refine pq_ 26 183 HT_ (rl [27,5]) ?_
        refine pq_ 27 184 HT_ (rl [28,4]) ?_
        refine pq_ 28 185 HT_ (rl [29,3]) ?_
        refine pq_ 29 186 HT_ (rl [30,2]) ?_
        refine pq_ 30 187 HT_ (rl [31,1]) ?_
        refine pq_ 31 2 HT_ (rl [32]) ?_
        refine done_ (done_of HT_.out (by kernel_rfl)) ?_
        try go_wp2_with ((with_reducible refine gate_ld rfl ?_); first | refine ld_ ?_ | fail)
        go_ret
        exact ⟨er_, qB HB⟩
       subst c185
       rw [if_pos rfl] at H
       replace H := bd_ H
       obtain ⟨t970, A186, H⟩ := H
       by_cases c187 : t970 = true
       rotate_left
       ·
        replace c187 := Bool.eq_false_iff.mpr c187
        subst c187
        rw [if_neg (show ¬ (false = true) by decide)] at H
        exact absurd (hr_.out ▸ H) (by simp)
       subst c187
       rw [if_pos rfl] at H
       obtain rfl := Option.some.inj H
       try go_wp2_with ((with_reducible refine gate_ld rfl ?_); first | refine ld_ ?_ | fail)
       replace HO_15 := am_ (Kd.S_drew HO_15.out)
       replace HO_18 := am_ (Kd.S_drew HO_18.out)
       replace HO_826004 := am_ (Kd.Q_drew HO_826004.out)
       replace HO_826005 := am_ (Kd.R_drew HO_826005.out)
       replace HO_840004 := am_ (Kd.Q_drew HO_840004.out)
       replace HO_840005 := am_ (Kd.R_drew HO_840005.out)
       replace HO_854004 := am_ (Kd.Q_drew HO_854004.out)
       replace HO_854005 := am_ (Kd.R_drew HO_854005.out)
       replace HO_867004 := am_ (Kd.Q_drew HO_867004.out)
       replace HO_867005 := am_ (Kd.R_drew HO_867005.out)
       replace HO_880004 := am_ (Kd.Q_drew HO_880004.out)
       replace HO_880005 := am_ (Kd.R_drew HO_880005.out)
       replace HO931 := am_ (Kd.R_drew HO931.out)
       replace HO934 := am_ (Kd.R_drew HO934.out)
       replace HO948 := am_ (Kd.R_drew HO948.out)
       replace HO951 := am_ (Kd.R_drew HO951.out)
       replace BK825 := am_ (blk_drew BK825.out)
       replace BK839 := am_ (blk_drew BK839.out)
       replace BK853 := am_ (blk_drew BK853.out)
       replace BK866 := am_ (blk_drew BK866.out)
       replace BK879 := am_ (blk_drew BK879.out)
       replace BK884 := am_ (blk_drew BK884.out)
       replace BK889 := am_ (blk_drew BK889.out)
       replace BK940 := am_ (blk_drew BK940.out)
       replace BK941 := am_ (blk_drew BK941.out)
       replace BK954 := am_ (blk_drew BK954.out)
       replace HB := am_ (below_drew1 HB.out)
       as_aux_lemma =>
       refine start_ (n := 32) (S := fun w' => w'.cell? ⟨gb940, 0, none⟩ = some (.int .i64 t925) ∧ w'.cell? ⟨gb940, 1, none⟩ = some (.int .i64 t926) ∧ w'.cell? ⟨gb940, 2, none⟩ = some (.int .i64 t927) ∧ w'.cell? ⟨gb940, 3, none⟩ = some (.bool t928) ∧ w'.cell? ⟨gb940, 4, none⟩ = some (.slice Ao148 t929.length co148) ∧ w'.cell? ⟨gb940, 5, none⟩ = some (.slice Ao149 t932.length co149) ∧ w'.cell? ⟨gb940, 6, none⟩ = some (.int .i64 t935) ∧ w'.cell? ⟨gb940, 7, none⟩ = some (.int .i64 t936) ∧ w'.cell? ⟨gb954, 0, none⟩ = some (.int .i64 t942) ∧ w'.cell? ⟨gb954, 1, none⟩ = some (.int .i64 t943) ∧ w'.cell? ⟨gb954, 2, none⟩ = some (.int .i64 t944) ∧ w'.cell? ⟨gb954, 3, none⟩ = some (.bool t945) ∧ w'.cell? ⟨gb954, 4, none⟩ = some (.slice Ao174 t946.length co174) ∧ w'.cell? ⟨gb954, 5, none⟩ = some (.slice Ao175 t949.length co175) ∧ w'.cell? ⟨gb954, 6, none⟩ = some (.int .i64 t952) ∧ w'.cell? ⟨gb954, 7, none⟩ = some (.int .i64 t953) ∧ w'.cell? ⟨gb941, 0, none⟩ = some (.int .i64 t937) ∧ w'.cell? ⟨gb941, 1, none⟩ = some (.string t938) ∧ w'.cell? ⟨gb941, 2, none⟩ = some (.int .i64 t939)) (ds := []) (rl [0,32]) (by kernel_rfl) rfl rfl (cw8 BK940.out (cw8 BK954.out (cz3 BK941.out))) (fun hHeld => ?_); refine with_tabW laws_FnSocks.tab20 laws_FnSocks.bits20 (fun HT_ HW_ => ?_)
       generalize w176.drew = w188 at HO_15 HO_18 HO_826004 HO_826005 HO_840004 HO_840005 HO_854004 HO_854005 HO_867004 HO_867005 HO_880004 HO_880005 HO931 HO934 HO948 HO951 BK825 BK839 BK853 BK866 BK879 BK884 BK889 BK940 BK941 BK954 HB hHeld ⊢
       refine tz_ (i := 0) (N := some 157) HT_ HW_ (rl [1,31]) rfl rfl hHeld ?_ (hy := fun w' ⟨s0, s1, s2, s3, s4, s5, s6, s7, _, _, _, _, _, _, _, _, _, _, _⟩ => ldr8 s0 s1 s2 s3 s4 s5 s6 s7)
       refine on_ HT_ (i := 1) (N := some 158) (rl [2,30]) (fun K hK => ?_)
       refine goes_ Try.func30 (by kernel_rfl) rfl #[.agg #[.int .i64 t925, .int .i64 t926, .int .i64 t927, .bool t928, .slice Ao148 t929.length co148, .slice Ao149 t932.length co149, .int .i64 t935, .int .i64 t936]] (by rfl) rfl rfl la_ ?_
       with_reducible refine (impl_SockOk.calls kj119 t925 t926 t927 t928 _ _ t929 _ _ t932 t935 t936 true _ ?side1 ?side2 ?side3 ?side4 A177.out).mono ?_
       (case side1 => exact qC ((Kd.R_reads' HO931.out).2.2))
       (case side2 => exact (Kd.R_reads' HO931.out).2.1)
       (case side3 => exact qC ((Kd.R_reads' HO934.out).2.2))
       (case side4 => exact (Kd.R_reads' HO934.out).2.1)
       rintro e w189 ⟨rfl, hb⟩
       refine ⟨_, rfl, ?_⟩
       replace HO_15 := lS_ HO_15 hb
       replace HO_18 := lS_ HO_18 hb
       replace HO_826004 := lQ_ HO_826004 hb
       replace HO_826005 := rB_ HO_826005 hb
       replace HO_840004 := lQ_ HO_840004 hb
       replace HO_840005 := rB_ HO_840005 hb
       replace HO_854004 := lQ_ HO_854004 hb
       replace HO_854005 := rB_ HO_854005 hb
       replace HO_867004 := lQ_ HO_867004 hb
       replace HO_867005 := rB_ HO_867005 hb
       replace HO_880004 := lQ_ HO_880004 hb
       replace HO_880005 := rB_ HO_880005 hb
       replace HO931 := rB_ HO931 hb
       replace HO934 := rB_ HO934 hb
       replace HO948 := rB_ HO948 hb
       replace HO951 := rB_ HO951 hb
       replace BK825 := bK_ BK825 hb
       replace BK839 := bK_ BK839 hb
       replace BK853 := bK_ BK853 hb
       replace BK866 := bK_ BK866 hb
       replace BK879 := bK_ BK879 hb
       replace BK884 := bK_ BK884 hb
       replace BK889 := bK_ BK889 hb
       replace BK940 := bK_ BK940 hb
       replace BK941 := bK_ BK941 hb
       replace BK954 := bK_ BK954 hb
       replace HB := bS_ HB hb
       (try clear hb)
       refine hK.out _ _ (cw8 BK940.out (cw8 BK954.out (cz3 BK941.out))) (fun hHeld => ?_)
       clear hK K
       refine nm_ (some 158) ?_
       refine pq_ 2 159 HT_ (rl [3,29]) ?_
       refine pq_ 3 160 HT_ (rl [4,28]) ?_
       refine pq_ 4 161 HT_ (rl [5,27]) ?_
       refine pq_ 7 164 HT_ (rl [5,2,1,24]) ?_
       refine tz_ (i := 5) (N := some 162) HT_ HW_ (rl [6,1,1,24]) rfl rfl hHeld ?_
       refine tz_ (i := 8) (N := some 165) HT_ HW_ (rl [6,1,2,23]) rfl rfl hHeld ?_
       refine tz_ (i := 10) (N := some 167) HT_ HW_ (rl [6,1,2,1,1,21]) rfl rfl hHeld ?_
       refine on_ HT_ (i := 6) (N := some 163) (rl [9,1,1,21]) (fun K hK => ?_)
       refine Kd.R_lit_step (Kd.int .u8) _ 5 ?hg (N := 163) ?hd (xs := ([] : List Int)) (inner := []) (ok := fun _ => True) (okp := fun _ => True) ?hr ?hp (fun _ hk => hk) trivial (Below.refl _ _) (Nat.le_refl _) (by simp) ?_; (case hd => rfl); (case hg => rfl); (case hr => first | (go_simp; done) | (go_simp; rfl)); (case hp => exact (Reps.none _ _))
       intro v957 w190 ho191 hb hg_ hnew_
       clear hg_ hnew_
       (first | rw [← Ny956.out] at ho191 | (simp only [Int.reduceToNat] at ho191; rw [← Ny956.out] at ho191))
       replace HO_15 := am_ (Kd.S_elder' (qS HO_15) (Kd.R_base ho191) hb)
       replace HO_18 := am_ (Kd.S_elder' (qS HO_18) (Kd.R_base ho191) hb)
       have HO958 := am_ (Kd.R_lower (Kd.R_new' (Kd.R_new' (Kd.R_new' (Kd.R_new' (Kd.R_new' (Kd.R_new' (Kd.R_new' (Kd.R_new' (Kd.R_new' (Kd.R_new' (Kd.R_new' (Kd.R_new' (Kd.R_new' (Kd.R_new' ho191 (Kd.Q_lt (qQ HO_826004))) (Kd.R_lt (qR HO_826005))) (Kd.Q_lt (qQ HO_840004))) (Kd.R_lt (qR HO_840005))) (Kd.Q_lt (qQ HO_854004))) (Kd.R_lt (qR HO_854005))) (Kd.Q_lt (qQ HO_867004))) (Kd.R_lt (qR HO_867005))) (Kd.Q_lt (qQ HO_880004))) (Kd.R_lt (qR HO_880005))) (Kd.R_lt (qR HO931))) (Kd.R_lt (qR HO934))) (Kd.R_lt (qR HO948))) (Kd.R_lt (qR HO951))) (below_size (qB HB)))
       replace HO_826004 := am_ (Kd.Q_elder' (qQ HO_826004) (Kd.R_base ho191) hb)
       replace HO_826005 := eA_ HO_826005 ho191 hb
       replace HO_840004 := am_ (Kd.Q_elder' (qQ HO_840004) (Kd.R_base ho191) hb)
       replace HO_840005 := eA_ HO_840005 ho191 hb
       replace HO_854004 := am_ (Kd.Q_elder' (qQ HO_854004) (Kd.R_base ho191) hb)
       replace HO_854005 := eA_ HO_854005 ho191 hb
       replace HO_867004 := am_ (Kd.Q_elder' (qQ HO_867004) (Kd.R_base ho191) hb)
       replace HO_867005 := eA_ HO_867005 ho191 hb
       replace HO_880004 := am_ (Kd.Q_elder' (qQ HO_880004) (Kd.R_base ho191) hb)
       replace HO_880005 := eA_ HO_880005 ho191 hb
       replace HO931 := eA_ HO931 ho191 hb
       replace HO934 := eA_ HO934 ho191 hb
       replace HO948 := eA_ HO948 ho191 hb
       replace HO951 := eA_ HO951 ho191 hb
       replace BK825 := bK_ BK825 hb
       replace BK839 := bK_ BK839 hb
       replace BK853 := bK_ BK853 hb
       replace BK866 := bK_ BK866 hb
       replace BK879 := bK_ BK879 hb
       replace BK884 := bK_ BK884 hb
       replace BK889 := bK_ BK889 hb
       replace BK940 := bK_ BK940 hb
       replace BK941 := bK_ BK941 hb
       replace BK954 := bK_ BK954 hb
       replace HB := bS_ HB hb
       clear hb ho191
       refine hK.out _ _ (cw8 BK940.out (cw8 BK954.out (cz3 BK941.out))) (fun hHeld => ?_)
       clear hK K
       refine nm_ (some 163) ?_
       refine on_ HT_ (i := 9) (N := some 166) (rl [11,21]) (fun K hK => ?_)
       refine Kd.R_append_rows_step (Kd.int .u8) (w0 := w) w.heap.size (by rfl) (.tmp 163) (.tmp 165) 22 5 (.int .u8 0) 1 rfl Try.underlying22 info5 rfl (by decide) (by omega) v957 y956 t932 _ _ _ (fun k_ => nb Ao18 t814.length co18 k_ ∧ nb Ao19 t817.length co19 k_ ∧ nb Ao27 t830.length co27 k_ ∧ nb Ao28 t833.length co28 k_ ∧ nb Ao36 t844.length co36 k_ ∧ nb Ao37 t847.length co37 k_ ∧ nb Ao45 t858.length co45 k_ ∧ nb Ao46 t861.length co46 k_ ∧ nb Ao56 t871.length co56 k_ ∧ nb Ao57 t874.length co57 k_ ∧ nb Ao148 t929.length co148 k_ ∧ nb Ao149 t932.length co149 k_ ∧ nb Ao174 t946.length co174 k_ ∧ nb Ao175 t949.length co175 k_) (fun _ => False) rfl rfl ?aO ?aR (fun _ _ h => h) (fun _ h => h.elim) ?aF ?aB ?aS ?aL ?_
       (case aR => exact qC ((Kd.R_reads' HO934.out).2.2))
       (case aB => exact (qB HB))
       (case aF => exact (fun k_ hk => ⟨Kd.fresh' (Kd.Q_lt (qQ HO_826004)) k_ hk, Kd.fresh' (Kd.R_lt (qR HO_826005)) k_ hk, Kd.fresh' (Kd.Q_lt (qQ HO_840004)) k_ hk, Kd.fresh' (Kd.R_lt (qR HO_840005)) k_ hk, Kd.fresh' (Kd.Q_lt (qQ HO_854004)) k_ hk, Kd.fresh' (Kd.R_lt (qR HO_854005)) k_ hk, Kd.fresh' (Kd.Q_lt (qQ HO_867004)) k_ hk, Kd.fresh' (Kd.R_lt (qR HO_867005)) k_ hk, Kd.fresh' (Kd.Q_lt (qQ HO_880004)) k_ hk, Kd.fresh' (Kd.R_lt (qR HO_880005)) k_ hk, Kd.fresh' (Kd.R_lt (qR HO931)) k_ hk, Kd.fresh' (Kd.R_lt (qR HO934)) k_ hk, Kd.fresh' (Kd.R_lt (qR HO948)) k_ hk, Kd.fresh' (Kd.R_lt (qR HO951)) k_ hk⟩))
       (case aO => exact (xR1_ HO958))
       (case aS => exact (below_size (qB HB)))
       (case aL => have := LMc179.out; omega)
       intro v960 w192 ho hb hg hat
       rw [← Ny959.out] at ho
       replace HO_15 := aS_ HO_15 hg hat
       replace HO_18 := aS_ HO_18 hg hat
       replace HO_826004 := aQ_ HO_826004 hg hat
       replace HO_826005 := aR_ HO_826005 hg hat
       replace HO_840004 := aQ_ HO_840004 hg hat
       replace HO_840005 := aR_ HO_840005 hg hat
       replace HO_854004 := aQ_ HO_854004 hg hat
       replace HO_854005 := aR_ HO_854005 hg hat
       replace HO_867004 := aQ_ HO_867004 hg hat
       replace HO_867005 := aR_ HO_867005 hg hat
       replace HO_880004 := aQ_ HO_880004 hg hat
       replace HO_880005 := aR_ HO_880005 hg hat
       replace BK825 := kG_ BK825 HO958 hg
       replace BK839 := kG_ BK839 HO958 hg
       replace BK853 := kG_ BK853 HO958 hg
       replace BK866 := kG_ BK866 HO958 hg
       replace BK879 := kG_ BK879 HO958 hg
       replace BK884 := kG_ BK884 HO958 hg
       replace BK889 := kG_ BK889 HO958 hg
       replace HO931 := aR_ HO931 hg hat
       replace HO934 := aR_ HO934 hg hat
       replace BK940 := kG_ BK940 HO958 hg
       replace BK941 := kG_ BK941 HO958 hg
       replace HO948 := aR_ HO948 hg hat
       replace HO951 := aR_ HO951 hg hat
       replace BK954 := kG_ BK954 HO958 hg
       replace HB := am_ (hb)
       have HO961 := am_ (ho)
       clear HO958
       clear ho hb hg hat
       refine hK.out _ _ (cw8 BK940.out (cw8 BK954.out (cz3 BK941.out))) (fun hHeld => ?_)
       clear hK K
       refine nm_ (some 166) ?_
       refine on_ HT_ (i := 11) (N := some 168) (rl [12,20]) (fun K hK => ?_)
       refine goes_ Try.func37 (by kernel_rfl) rfl #[.agg #[.int .i64 t937, .string t938, .int .i64 t939]] (by rfl) rfl rfl la_ ?_
       with_reducible refine (impl_PutFrame.calls kj119 t937 t938 t939 t962 _ A180.out).mono ?_
       rintro e w193 ⟨v963, rfl, ho0, hb⟩
       refine ⟨_, rfl, ?_⟩
       replace HO_15 := am_ (Kd.S_elder' (qS HO_15) (Kd.R_base ho0) hb)
       replace HO_18 := am_ (Kd.S_elder' (qS HO_18) (Kd.R_base ho0) hb)
       have HO964 := am_ (Kd.R_lower (Kd.R_new' (Kd.R_new' (Kd.R_new' (Kd.R_new' (Kd.R_new' (Kd.R_new' (Kd.R_new' (Kd.R_new' (Kd.R_new' (Kd.R_new' (Kd.R_new' (Kd.R_new' (Kd.R_new' (Kd.R_new' (Kd.R_new' ho0 (Kd.Q_lt (qQ HO_826004))) (Kd.R_lt (qR HO_826005))) (Kd.Q_lt (qQ HO_840004))) (Kd.R_lt (qR HO_840005))) (Kd.Q_lt (qQ HO_854004))) (Kd.R_lt (qR HO_854005))) (Kd.Q_lt (qQ HO_867004))) (Kd.R_lt (qR HO_867005))) (Kd.Q_lt (qQ HO_880004))) (Kd.R_lt (qR HO_880005))) (Kd.R_lt (qR HO931))) (Kd.R_lt (qR HO934))) (Kd.R_lt (qR HO948))) (Kd.R_lt (qR HO951))) (Kd.R_lt (qR HO961))) (below_size (qB HB)))
       replace HO_826004 := am_ (Kd.Q_elder' (qQ HO_826004) (Kd.R_base ho0) hb)
       replace HO_826005 := eA_ HO_826005 ho0 hb
       replace HO_840004 := am_ (Kd.Q_elder' (qQ HO_840004) (Kd.R_base ho0) hb)
       replace HO_840005 := eA_ HO_840005 ho0 hb
       replace HO_854004 := am_ (Kd.Q_elder' (qQ HO_854004) (Kd.R_base ho0) hb)
       replace HO_854005 := eA_ HO_854005 ho0 hb
       replace HO_867004 := am_ (Kd.Q_elder' (qQ HO_867004) (Kd.R_base ho0) hb)
       replace HO_867005 := eA_ HO_867005 ho0 hb
       replace HO_880004 := am_ (Kd.Q_elder' (qQ HO_880004) (Kd.R_base ho0) hb)
       replace HO_880005 := eA_ HO_880005 ho0 hb
       replace HO931 := eA_ HO931 ho0 hb
       replace HO934 := eA_ HO934 ho0 hb
       replace HO948 := eA_ HO948 ho0 hb
       replace HO951 := eA_ HO951 ho0 hb
       replace HO961 := eA_ HO961 ho0 hb
       replace BK825 := bK_ BK825 hb
       replace BK839 := bK_ BK839 hb
       replace BK853 := bK_ BK853 hb
       replace BK866 := bK_ BK866 hb
       replace BK879 := bK_ BK879 hb
       replace BK884 := bK_ BK884 hb
       replace BK889 := bK_ BK889 hb
       replace BK940 := bK_ BK940 hb
       replace BK941 := bK_ BK941 hb
       replace BK954 := bK_ BK954 hb
       replace HB := bS_ HB hb
       (try clear hb ho0)
       obtain ⟨Ao195, co195, eo195⟩ := Kd.R_slice HO964.out
       (first | subst eo195 | (injection eo195 with f1_ f2_ f3_; have f4_ := f1_.symm; have f5_ := f3_.symm; clear f1_ f2_ f3_; subst f4_; subst f5_))
       refine hK.out _ _ (cw8 BK940.out (cw8 BK954.out (cz3 BK941.out))) (fun hHeld => ?_)
       clear hK K
       refine nm_ (some 168) ?_
       refine on_ HT_ (i := 12) (N := some 169) (rl [13,19]) (fun K hK => ?_)
       refine Kd.R_append_rows_step (Kd.int .u8) (w0 := w) w.heap.size (by rfl) (.tmp 166) (.tmp 168) 22 5 (.int .u8 0) 1 rfl Try.underlying22 info5 rfl (by decide) (by omega) v960 y959 t962 _ _ _ (fun k_ => nb Ao18 t814.length co18 k_ ∧ nb Ao19 t817.length co19 k_ ∧ nb Ao27 t830.length co27 k_ ∧ nb Ao28 t833.length co28 k_ ∧ nb Ao36 t844.length co36 k_ ∧ nb Ao37 t847.length co37 k_ ∧ nb Ao45 t858.length co45 k_ ∧ nb Ao46 t861.length co46 k_ ∧ nb Ao56 t871.length co56 k_ ∧ nb Ao57 t874.length co57 k_ ∧ nb Ao148 t929.length co148 k_ ∧ nb Ao149 t932.length co149 k_ ∧ nb Ao174 t946.length co174 k_ ∧ nb Ao175 t949.length co175 k_ ∧ nb Ao195 t962.length co195 k_) (fun _ => False) rfl rfl ?aO ?aR (fun _ _ h => h) (fun _ h => h.elim) ?aF ?aB ?aS ?aL ?_
       (case aR => exact qC ((Kd.R_reads' HO964.out).2.2))
       (case aB => exact (qB HB))
       (case aF => exact (fun k_ hk => ⟨Kd.fresh' (Kd.Q_lt (qQ HO_826004)) k_ hk, Kd.fresh' (Kd.R_lt (qR HO_826005)) k_ hk, Kd.fresh' (Kd.Q_lt (qQ HO_840004)) k_ hk, Kd.fresh' (Kd.R_lt (qR HO_840005)) k_ hk, Kd.fresh' (Kd.Q_lt (qQ HO_854004)) k_ hk, Kd.fresh' (Kd.R_lt (qR HO_854005)) k_ hk, Kd.fresh' (Kd.Q_lt (qQ HO_867004)) k_ hk, Kd.fresh' (Kd.R_lt (qR HO_867005)) k_ hk, Kd.fresh' (Kd.Q_lt (qQ HO_880004)) k_ hk, Kd.fresh' (Kd.R_lt (qR HO_880005)) k_ hk, Kd.fresh' (Kd.R_lt (qR HO931)) k_ hk, Kd.fresh' (Kd.R_lt (qR HO934)) k_ hk, Kd.fresh' (Kd.R_lt (qR HO948)) k_ hk, Kd.fresh' (Kd.R_lt (qR HO951)) k_ hk, Kd.fresh' (Kd.R_lt (qR HO964)) k_ hk⟩))
       (case aO => exact (xR1_ HO961))
       (case aS => exact (below_size (qB HB)))
       (case aL => have := LMc181.out; omega)
       intro v966 w194 ho hb hg hat
       rw [← Ny965.out] at ho
       replace HO_15 := am_ (Kd.S_after (ok := (fun k_ => nv v896 k_ ∧ nb Ao18 t814.length co18 k_ ∧ nb Ao19 t817.length co19 k_ ∧ nb Ao27 t830.length co27 k_ ∧ nb Ao28 t833.length co28 k_ ∧ nb Ao36 t844.length co36 k_ ∧ nb Ao37 t847.length co37 k_ ∧ nb Ao45 t858.length co45 k_ ∧ nb Ao46 t861.length co46 k_ ∧ nb Ao56 t871.length co56 k_ ∧ nb Ao57 t874.length co57 k_ ∧ nb Ao148 t929.length co148 k_ ∧ nb Ao149 t932.length co149 k_ ∧ nb Ao174 t946.length co174 k_ ∧ nb Ao175 t949.length co175 k_ ∧ nb Ao195 t962.length co195 k_ ∧ k_ ≠ gb825 ∧ k_ ≠ gb839 ∧ k_ ≠ gb853 ∧ k_ ≠ gb866 ∧ k_ ≠ gb879 ∧ k_ ≠ gb940 ∧ k_ ≠ gb954)) (xS1_ HO_15) hg hat)
       replace HO_18 := am_ (Kd.S_after (ok := (fun k_ => nb Ao81 t890.length co81 k_ ∧ nb Ao18 t814.length co18 k_ ∧ nb Ao19 t817.length co19 k_ ∧ nb Ao27 t830.length co27 k_ ∧ nb Ao28 t833.length co28 k_ ∧ nb Ao36 t844.length co36 k_ ∧ nb Ao37 t847.length co37 k_ ∧ nb Ao45 t858.length co45 k_ ∧ nb Ao46 t861.length co46 k_ ∧ nb Ao56 t871.length co56 k_ ∧ nb Ao57 t874.length co57 k_ ∧ nb Ao148 t929.length co148 k_ ∧ nb Ao149 t932.length co149 k_ ∧ nb Ao174 t946.length co174 k_ ∧ nb Ao175 t949.length co175 k_ ∧ nb Ao195 t962.length co195 k_ ∧ k_ ≠ gb825 ∧ k_ ≠ gb839 ∧ k_ ≠ gb853 ∧ k_ ≠ gb866 ∧ k_ ≠ gb879 ∧ k_ ≠ gb940 ∧ k_ ≠ gb954)) (xS1_ HO_18) hg hat)
       replace HO_826004 := am_ (Kd.Q_after (ok := (fun k_ => nb Ao19 t817.length co19 k_ ∧ nb Ao27 t830.length co27 k_ ∧ nb Ao28 t833.length co28 k_ ∧ nb Ao36 t844.length co36 k_ ∧ nb Ao37 t847.length co37 k_ ∧ nb Ao45 t858.length co45 k_ ∧ nb Ao46 t861.length co46 k_ ∧ nb Ao56 t871.length co56 k_ ∧ nb Ao57 t874.length co57 k_ ∧ nb Ao148 t929.length co148 k_ ∧ nb Ao149 t932.length co149 k_ ∧ nb Ao174 t946.length co174 k_ ∧ nb Ao175 t949.length co175 k_ ∧ nb Ao195 t962.length co195 k_)) (xQ1_ HO_826004) hg hat)
       replace HO_826005 := am_ (Kd.R_after (ok := (fun k_ => nb Ao18 t814.length co18 k_ ∧ nb Ao27 t830.length co27 k_ ∧ nb Ao28 t833.length co28 k_ ∧ nb Ao36 t844.length co36 k_ ∧ nb Ao37 t847.length co37 k_ ∧ nb Ao45 t858.length co45 k_ ∧ nb Ao46 t861.length co46 k_ ∧ nb Ao56 t871.length co56 k_ ∧ nb Ao57 t874.length co57 k_ ∧ nb Ao148 t929.length co148 k_ ∧ nb Ao149 t932.length co149 k_ ∧ nb Ao174 t946.length co174 k_ ∧ nb Ao175 t949.length co175 k_ ∧ nb Ao195 t962.length co195 k_)) (xR1_ HO_826005) hg hat)
       replace HO_840004 := am_ (Kd.Q_after (ok := (fun k_ => nb Ao18 t814.length co18 k_ ∧ nb Ao19 t817.length co19 k_ ∧ nb Ao28 t833.length co28 k_ ∧ nb Ao36 t844.length co36 k_ ∧ nb Ao37 t847.length co37 k_ ∧ nb Ao45 t858.length co45 k_ ∧ nb Ao46 t861.length co46 k_ ∧ nb Ao56 t871.length co56 k_ ∧ nb Ao57 t874.length co57 k_ ∧ nb Ao148 t929.length co148 k_ ∧ nb Ao149 t932.length co149 k_ ∧ nb Ao174 t946.length co174 k_ ∧ nb Ao175 t949.length co175 k_ ∧ nb Ao195 t962.length co195 k_)) (xQ1_ HO_840004) hg hat)
       replace HO_840005 := am_ (Kd.R_after (ok := (fun k_ => nb Ao18 t814.length co18 k_ ∧ nb Ao19 t817.length co19 k_ ∧ nb Ao27 t830.length co27 k_ ∧ nb Ao36 t844.length co36 k_ ∧ nb Ao37 t847.length co37 k_ ∧ nb Ao45 t858.length co45 k_ ∧ nb Ao46 t861.length co46 k_ ∧ nb Ao56 t871.length co56 k_ ∧ nb Ao57 t874.length co57 k_ ∧ nb Ao148 t929.length co148 k_ ∧ nb Ao149 t932.length co149 k_ ∧ nb Ao174 t946.length co174 k_ ∧ nb Ao175 t949.length co175 k_ ∧ nb Ao195 t962.length co195 k_)) (xR1_ HO_840005) hg hat)
       replace HO_854004 := am_ (Kd.Q_after (ok := (fun k_ => nb Ao18 t814.length co18 k_ ∧ nb Ao19 t817.length co19 k_ ∧ nb Ao27 t830.length co27 k_ ∧ nb Ao28 t833.length co28 k_ ∧ nb Ao37 t847.length co37 k_ ∧ nb Ao45 t858.length co45 k_ ∧ nb Ao46 t861.length co46 k_ ∧ nb Ao56 t871.length co56 k_ ∧ nb Ao57 t874.length co57 k_ ∧ nb Ao148 t929.length co148 k_ ∧ nb Ao149 t932.length co149 k_ ∧ nb Ao174 t946.length co174 k_ ∧ nb Ao175 t949.length co175 k_ ∧ nb Ao195 t962.length co195 k_)) (xQ1_ HO_854004) hg hat)
       replace HO_854005 := am_ (Kd.R_after (ok := (fun k_ => nb Ao18 t814.length co18 k_ ∧ nb Ao19 t817.length co19 k_ ∧ nb Ao27 t830.length co27 k_ ∧ nb Ao28 t833.length co28 k_ ∧ nb Ao36 t844.length co36 k_ ∧ nb Ao45 t858.length co45 k_ ∧ nb Ao46 t861.length co46 k_ ∧ nb Ao56 t871.length co56 k_ ∧ nb Ao57 t874.length co57 k_ ∧ nb Ao148 t929.length co148 k_ ∧ nb Ao149 t932.length co149 k_ ∧ nb Ao174 t946.length co174 k_ ∧ nb Ao175 t949.length co175 k_ ∧ nb Ao195 t962.length co195 k_)) (xR1_ HO_854005) hg hat)
       replace HO_867004 := am_ (Kd.Q_after (ok := (fun k_ => nb Ao18 t814.length co18 k_ ∧ nb Ao19 t817.length co19 k_ ∧ nb Ao27 t830.length co27 k_ ∧ nb Ao28 t833.length co28 k_ ∧ nb Ao36 t844.length co36 k_ ∧ nb Ao37 t847.length co37 k_ ∧ nb Ao46 t861.length co46 k_ ∧ nb Ao56 t871.length co56 k_ ∧ nb Ao57 t874.length co57 k_ ∧ nb Ao148 t929.length co148 k_ ∧ nb Ao149 t932.length co149 k_ ∧ nb Ao174 t946.length co174 k_ ∧ nb Ao175 t949.length co175 k_ ∧ nb Ao195 t962.length co195 k_)) (xQ1_ HO_867004) hg hat)
       replace HO_867005 := am_ (Kd.R_after (ok := (fun k_ => nb Ao18 t814.length co18 k_ ∧ nb Ao19 t817.length co19 k_ ∧ nb Ao27 t830.length co27 k_ ∧ nb Ao28 t833.length co28 k_ ∧ nb Ao36 t844.length co36 k_ ∧ nb Ao37 t847.length co37 k_ ∧ nb Ao45 t858.length co45 k_ ∧ nb Ao56 t871.length co56 k_ ∧ nb Ao57 t874.length co57 k_ ∧ nb Ao148 t929.length co148 k_ ∧ nb Ao149 t932.length co149 k_ ∧ nb Ao174 t946.length co174 k_ ∧ nb Ao175 t949.length co175 k_ ∧ nb Ao195 t962.length co195 k_)) (xR1_ HO_867005) hg hat)
       replace HO_880004 := am_ (Kd.Q_after (ok := (fun k_ => nb Ao18 t814.length co18 k_ ∧ nb Ao19 t817.length co19 k_ ∧ nb Ao27 t830.length co27 k_ ∧ nb Ao28 t833.length co28 k_ ∧ nb Ao36 t844.length co36 k_ ∧ nb Ao37 t847.length co37 k_ ∧ nb Ao45 t858.length co45 k_ ∧ nb Ao46 t861.length co46 k_ ∧ nb Ao57 t874.length co57 k_ ∧ nb Ao148 t929.length co148 k_ ∧ nb Ao149 t932.length co149 k_ ∧ nb Ao174 t946.length co174 k_ ∧ nb Ao175 t949.length co175 k_ ∧ nb Ao195 t962.length co195 k_)) (xQ1_ HO_880004) hg hat)
       replace HO_880005 := am_ (Kd.R_after (ok := (fun k_ => nb Ao18 t814.length co18 k_ ∧ nb Ao19 t817.length co19 k_ ∧ nb Ao27 t830.length co27 k_ ∧ nb Ao28 t833.length co28 k_ ∧ nb Ao36 t844.length co36 k_ ∧ nb Ao37 t847.length co37 k_ ∧ nb Ao45 t858.length co45 k_ ∧ nb Ao46 t861.length co46 k_ ∧ nb Ao56 t871.length co56 k_ ∧ nb Ao148 t929.length co148 k_ ∧ nb Ao149 t932.length co149 k_ ∧ nb Ao174 t946.length co174 k_ ∧ nb Ao175 t949.length co175 k_ ∧ nb Ao195 t962.length co195 k_)) (xR1_ HO_880005) hg hat)
       replace BK825 := kG_ BK825 HO961 hg
       replace BK839 := kG_ BK839 HO961 hg
       replace BK853 := kG_ BK853 HO961 hg
       replace BK866 := kG_ BK866 HO961 hg
       replace BK879 := kG_ BK879 HO961 hg
       replace BK884 := kG_ BK884 HO961 hg
       replace BK889 := kG_ BK889 HO961 hg
       replace HO931 := am_ (Kd.R_after (ok := (fun k_ => nb Ao18 t814.length co18 k_ ∧ nb Ao19 t817.length co19 k_ ∧ nb Ao27 t830.length co27 k_ ∧ nb Ao28 t833.length co28 k_ ∧ nb Ao36 t844.length co36 k_ ∧ nb Ao37 t847.length co37 k_ ∧ nb Ao45 t858.length co45 k_ ∧ nb Ao46 t861.length co46 k_ ∧ nb Ao56 t871.length co56 k_ ∧ nb Ao57 t874.length co57 k_ ∧ nb Ao149 t932.length co149 k_ ∧ nb Ao174 t946.length co174 k_ ∧ nb Ao175 t949.length co175 k_ ∧ nb Ao195 t962.length co195 k_)) (xR1_ HO931) hg hat)
       replace HO934 := am_ (Kd.R_after (ok := (fun k_ => nb Ao18 t814.length co18 k_ ∧ nb Ao19 t817.length co19 k_ ∧ nb Ao27 t830.length co27 k_ ∧ nb Ao28 t833.length co28 k_ ∧ nb Ao36 t844.length co36 k_ ∧ nb Ao37 t847.length co37 k_ ∧ nb Ao45 t858.length co45 k_ ∧ nb Ao46 t861.length co46 k_ ∧ nb Ao56 t871.length co56 k_ ∧ nb Ao57 t874.length co57 k_ ∧ nb Ao148 t929.length co148 k_ ∧ nb Ao174 t946.length co174 k_ ∧ nb Ao175 t949.length co175 k_ ∧ nb Ao195 t962.length co195 k_)) (xR1_ HO934) hg hat)
       replace BK940 := kG_ BK940 HO961 hg
       replace BK941 := kG_ BK941 HO961 hg
       replace HO948 := am_ (Kd.R_after (ok := (fun k_ => nb Ao18 t814.length co18 k_ ∧ nb Ao19 t817.length co19 k_ ∧ nb Ao27 t830.length co27 k_ ∧ nb Ao28 t833.length co28 k_ ∧ nb Ao36 t844.length co36 k_ ∧ nb Ao37 t847.length co37 k_ ∧ nb Ao45 t858.length co45 k_ ∧ nb Ao46 t861.length co46 k_ ∧ nb Ao56 t871.length co56 k_ ∧ nb Ao57 t874.length co57 k_ ∧ nb Ao148 t929.length co148 k_ ∧ nb Ao149 t932.length co149 k_ ∧ nb Ao175 t949.length co175 k_ ∧ nb Ao195 t962.length co195 k_)) (xR1_ HO948) hg hat)
       replace HO951 := am_ (Kd.R_after (ok := (fun k_ => nb Ao18 t814.length co18 k_ ∧ nb Ao19 t817.length co19 k_ ∧ nb Ao27 t830.length co27 k_ ∧ nb Ao28 t833.length co28 k_ ∧ nb Ao36 t844.length co36 k_ ∧ nb Ao37 t847.length co37 k_ ∧ nb Ao45 t858.length co45 k_ ∧ nb Ao46 t861.length co46 k_ ∧ nb Ao56 t871.length co56 k_ ∧ nb Ao57 t874.length co57 k_ ∧ nb Ao148 t929.length co148 k_ ∧ nb Ao149 t932.length co149 k_ ∧ nb Ao174 t946.length co174 k_ ∧ nb Ao195 t962.length co195 k_)) (xR1_ HO951) hg hat)
       replace BK954 := kG_ BK954 HO961 hg
       replace HO964 := am_ (Kd.R_after (ok := (fun k_ => nb Ao18 t814.length co18 k_ ∧ nb Ao19 t817.length co19 k_ ∧ nb Ao27 t830.length co27 k_ ∧ nb Ao28 t833.length co28 k_ ∧ nb Ao36 t844.length co36 k_ ∧ nb Ao37 t847.length co37 k_ ∧ nb Ao45 t858.length co45 k_ ∧ nb Ao46 t861.length co46 k_ ∧ nb Ao56 t871.length co56 k_ ∧ nb Ao57 t874.length co57 k_ ∧ nb Ao148 t929.length co148 k_ ∧ nb Ao149 t932.length co149 k_ ∧ nb Ao174 t946.length co174 k_ ∧ nb Ao175 t949.length co175 k_)) (xR1_ HO964) hg hat)
       replace HB := am_ (hb)
       have HO967 := am_ (ho)
       clear HO961
       clear ho hb hg hat
       obtain ⟨Ao196, co196, eo196⟩ := Kd.R_slice HO967.out
       (first | subst eo196 | (injection eo196 with f1_ f2_ f3_; have f4_ := f1_.symm; have f5_ := f3_.symm; clear f1_ f2_ f3_; subst f4_; subst f5_))
       refine hK.out _ _ (cw8 BK940.out (cw8 BK954.out (cz3 BK941.out))) (fun hHeld => ?_)
       clear hK K
       refine nm_ (some 169) ?_
       refine on_ HT_ (i := 13) (N := some 170) (rl [14,18]) (fun K hK => ?_)
       refine goes_ Try.func15 (by kernel_rfl) rfl #[.slice Ao175 t949.length co175, .slice Ao196 y965.length co196] (by rfl) rfl rfl la_ ?_
       with_reducible refine (laws_same.calls _ _ t949 _ _ y965 true _ ?side1 ?side2 ?side3 ?side4 A182.out).mono ?_
       (case side1 => exact qC ((Kd.R_reads' HO951.out).2.2))
       (case side2 => exact (Kd.R_reads' HO951.out).2.1)
       (case side3 => exact qC ((Kd.R_reads' HO967.out).2.2))
       (case side4 => exact (Kd.R_reads' HO967.out).2.1)
       rintro e w' ⟨rfl, ⟨nd, rfl⟩⟩
       refine ⟨_, rfl, ?_⟩
       refine hK.out _ _ (cw8 BK940.out (cw8 BK954.out (cz3 BK941.out))) (fun hHeld => ?_)
       clear hK K
       refine nm_ (some 170) ?_
       refine pq_ 14 171 HT_ (rl [15,17]) ?_
       refine pq_ 15 172 HT_ (rl [16,16]) ?_
       refine pq_ 16 173 HT_ (rl [17,15]) ?_
       refine on_ HT_ (i := 17) (N := some 174) (rl [18,14]) (fun K hK => ?_)
       refine goes_ Try.func34 (by kernel_rfl) rfl #[.slice Ao81 t890.length co81] (by rfl) rfl rfl la_ ?_
       with_reducible refine (impl_SocksOk.calls kj119 _ _ t890 true _ ?side1 ?side2 A184.out).mono ?_
       (case side1 => exact qC ((Kd.S_reads' HO_15.out).2.2))
       (case side2 => exact (Kd.S_reads' HO_15.out).2.1)
       rintro e w197 ⟨rfl, hb⟩
       refine ⟨_, rfl, ?_⟩
       replace HO_15 := lS_ HO_15 hb
       replace HO_18 := lS_ HO_18 hb
       replace HO_826004 := lQ_ HO_826004 hb
       replace HO_826005 := rB_ HO_826005 hb
       replace HO_840004 := lQ_ HO_840004 hb
       replace HO_840005 := rB_ HO_840005 hb
       replace HO_854004 := lQ_ HO_854004 hb
       replace HO_854005 := rB_ HO_854005 hb
       replace HO_867004 := lQ_ HO_867004 hb
       replace HO_867005 := rB_ HO_867005 hb
       replace HO_880004 := lQ_ HO_880004 hb
       replace HO_880005 := rB_ HO_880005 hb
       replace HO931 := rB_ HO931 hb
       replace HO934 := rB_ HO934 hb
       replace HO948 := rB_ HO948 hb
       replace HO951 := rB_ HO951 hb
       replace HO964 := rB_ HO964 hb
       replace HO967 := rB_ HO967 hb
       replace BK825 := bK_ BK825 hb
       replace BK839 := bK_ BK839 hb
       replace BK853 := bK_ BK853 hb
       replace BK866 := bK_ BK866 hb
       replace BK879 := bK_ BK879 hb
       replace BK884 := bK_ BK884 hb
       replace BK889 := bK_ BK889 hb
       replace BK940 := bK_ BK940 hb
       replace BK941 := bK_ BK941 hb
       replace BK954 := bK_ BK954 hb
       replace HB := bS_ HB hb
       (try clear hb)
       obtain ⟨Ao198, co198, eo198⟩ := Kd.S_slice HO_18.out
       (first | subst eo198 | (injection eo198 with f1_ f2_ f3_; have f4_ := f1_.symm; have f5_ := f3_.symm; clear f1_ f2_ f3_; subst f4_; subst f5_))
       refine hK.out _ _ (cw8 BK940.out (cw8 BK954.out (cz3 BK941.out))) (fun hHeld => ?_)
       clear hK K
       refine nm_ (some 174) ?_
       refine pq_ 18 175 HT_ (rl [19,13]) ?_
       refine pq_ 19 176 HT_ (rl [20,12]) ?_
       refine pq_ 20 177 HT_ (rl [21,11]) ?_
       refine on_ HT_ (i := 21) (N := some 178) (rl [22,10]) (fun K hK => ?_)
       refine goes_ Try.func34 (by kernel_rfl) rfl #[.slice Ao198 t895.length co198] (by rfl) rfl rfl la_ ?_
       with_reducible refine (impl_SocksOk.calls kj119 _ _ t895 true _ ?side1 ?side2 A186.out).mono ?_
       (case side1 => exact qC ((Kd.S_reads' HO_18.out).2.2))
       (case side2 => exact (Kd.S_reads' HO_18.out).2.1)
       rintro e w199 ⟨rfl, hb⟩
       refine ⟨_, rfl, ?_⟩
       replace HO_15 := lS_ HO_15 hb
       replace HO_18 := lS_ HO_18 hb
       replace HO_826004 := lQ_ HO_826004 hb
       replace HO_826005 := rB_ HO_826005 hb
       replace HO_840004 := lQ_ HO_840004 hb
       replace HO_840005 := rB_ HO_840005 hb
       replace HO_854004 := lQ_ HO_854004 hb
       replace HO_854005 := rB_ HO_854005 hb
       replace HO_867004 := lQ_ HO_867004 hb
       replace HO_867005 := rB_ HO_867005 hb
       replace HO_880004 := lQ_ HO_880004 hb
       replace HO_880005 := rB_ HO_880005 hb
       replace HO931 := rB_ HO931 hb
       replace HO934 := rB_ HO934 hb
       replace HO948 := rB_ HO948 hb
       replace HO951 := rB_ HO951 hb
       replace HO964 := rB_ HO964 hb
       replace HO967 := rB_ HO967 hb
       replace BK825 := bK_ BK825 hb
       replace BK839 := bK_ BK839 hb
       replace BK853 := bK_ BK853 hb
       replace BK866 := bK_ BK866 hb
       replace BK879 := bK_ BK879 hb
       replace BK884 := bK_ BK884 hb
       replace BK889 := bK_ BK889 hb
       replace BK940 := bK_ BK940 hb
       replace BK941 := bK_ BK941 hb
       replace BK954 := bK_ BK954 hb
       replace HB := bS_ HB hb
       (try clear hb)
       refine hK.out _ _ (cw8 BK940.out (cw8 BK954.out (cz3 BK941.out))) (fun hHeld => ?_)
       clear hK K
       refine nm_ (some 178) ?_
       refine pq_ 22 179 HT_ (rl [23,9]) ?_
       refine pq_ 23 180 HT_ (rl [24,8]) ?_
       refine pq_ 24 181 HT_ (rl [25,7]) ?_
       refine pq_ 25 182 HT_ (rl [26,6]) ?_
       refine pq_ 26 183 HT_ (rl [27,5]) ?_
       refine pq_ 27 184 HT_ (rl [28,4]) ?_
       refine pq_ 28 185 HT_ (rl [29,3]) ?_
       refine pq_ 29 186 HT_ (rl [30,2]) ?_
       refine pq_ 30 187 HT_ (rl [31,1]) ?_
       refine pq_ 31 2 HT_ (rl [32]) ?_
       refine done_ (done_of HT_.out (by kernel_rfl)) ?_
       try go_wp2_with ((with_reducible refine gate_ld rfl ?_); first | refine ld_ ?_ | fail)
       go_ret
       exact ⟨er_, qB HB⟩

/-- THE ONE PURE STATEMENT of laws_FnSocks: yours. -/
def laws_FnSocks.Pure : Prop := ∀ (l0 : List Int), l0.length ≤ maxLen → l0.length * 1 ≤ 140737488351232 → (∀ x ∈ l0, (Lit.int .u8 x).wf = true) → ∃ k, laws_FnSocks.f k l0 = some true
theorem laws_FnSocks.walk (P : laws_FnSocks.Pure) (a0 : Option Addr) (len0 cap0 : Nat) (z0 : List Int) (w : World) (w0 : (a0 = none ∧ len0 = 0 ∧ cap0 = 0 ∧ z0 = []) ∨ ∃ x, a0 = some x ∧ len0 ≤ cap0 ∧ cap0 ≤ maxLen ∧ z0.length = cap0 ∧ (∀ i, i < z0.length → w.cell? (x.add i) = some (.int .u8 (z0.getD i 0))) ∧ ∀ n ∈ z0, (Lit.int .u8 n).wf = true) (y0 : len0 * 1 ≤ 140737488351232) :
  Calls Try.prog 4 #[.slice a0 len0 cap0] w fun e w' => e = .returned (.bool true) ∧ Below w.heap.size w w' := by
 obtain ⟨l0, rfl, hr0, hm0, hw0, hc0⟩ := ReadsInt.ofRowC w0
 obtain ⟨k, h⟩ := P l0 hm0 y0 hw0
 refine (laws_FnSocks.calls k _ _ l0 true w (Kd.C_of_reads (d := (0 : Int)) (h1 := fun _ => rfl) hr0) hc0 ⟨rfl⟩ h).mono ?_
 rintro e w' ⟨rfl, hd⟩
 exact ⟨rfl, hd⟩

end Go.Proofs.Ytiffahfpfgnjnaa.PFnSocks
