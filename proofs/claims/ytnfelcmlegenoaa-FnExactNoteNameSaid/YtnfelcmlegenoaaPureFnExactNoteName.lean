/- The program's NoteName answers as the reference's, whatever the number. -/
import Derived.Test.YtnfelcmlegenoaaPFnExactNoteNamex1
import Derived.Test.YtnfelcmlegenoaaVBase
import Derived.Test.YtnfelcmlegenoaaVExt
namespace Go.Proofs.Ytnfelcmlegenoaa.Pure
open Go.RowKit Go.Proofs.Ytnfelcmlegenoaa.PFnExactNoteName Go.Proofs.YtnfelcmlegenoaaW.PrintWords Go.Proofs.YtnfelcmlegenoaaW.PrintLast Go.Proofs.YtnfelcmlegenoaaV
set_option linter.unusedVariables false
set_option linter.unusedSimpArgs false
set_option maxRecDepth 20000

/-! ### spec_l1In -/
theorem spec_l1In_eq (a b c : Int) : spec_l1In.f a b c = some (inB a b c) := by
  unfold spec_l1In.f inB
  by_cases h : b ≤ a <;> simp [h]

/-! ### spec_NoteName -/
/-- A note's name. -/
def nameV (a0 : Int) : ByteArray := if a0 = 1 then (⟨#[108, 101, 110, 100]⟩ : ByteArray) else if a0 = 2 then (⟨#[102, 111, 114, 119, 97, 114, 100]⟩ : ByteArray) else if a0 = 3 then (⟨#[98, 97, 99, 107]⟩ : ByteArray) else if a0 = 4 then (⟨#[101, 110, 100]⟩ : ByteArray) else if a0 = 5 then (⟨#[99, 117, 116]⟩ : ByteArray) else if a0 = 6 then (⟨#[115, 97, 121]⟩ : ByteArray) else if a0 = 7 then (⟨#[100, 111, 110, 101]⟩ : ByteArray) else if a0 = 8 then (⟨#[111, 119, 110]⟩ : ByteArray) else if a0 = 9 then (⟨#[103, 111, 110, 101]⟩ : ByteArray) else (⟨#[]⟩ : ByteArray)
theorem spec_NoteName_eq (a0 : Int) : spec_NoteName.f a0 = some (nameV a0) := by
  by_cases c1 : a0 = 1
  · subst c1
    simp [spec_NoteName.f, spec_l1In.f, nameV, wrap64, rdOf]
  by_cases c2 : a0 = 2
  · subst c2
    simp [spec_NoteName.f, spec_l1In.f, nameV, wrap64, rdOf]
  by_cases c3 : a0 = 3
  · subst c3
    simp [spec_NoteName.f, spec_l1In.f, nameV, wrap64, rdOf]
  by_cases c4 : a0 = 4
  · subst c4
    simp [spec_NoteName.f, spec_l1In.f, nameV, wrap64, rdOf]
  by_cases c5 : a0 = 5
  · subst c5
    simp [spec_NoteName.f, spec_l1In.f, nameV, wrap64, rdOf]
  by_cases c6 : a0 = 6
  · subst c6
    simp [spec_NoteName.f, spec_l1In.f, nameV, wrap64, rdOf]
  by_cases c7 : a0 = 7
  · subst c7
    simp [spec_NoteName.f, spec_l1In.f, nameV, wrap64, rdOf]
  by_cases c8 : a0 = 8
  · subst c8
    simp [spec_NoteName.f, spec_l1In.f, nameV, wrap64, rdOf]
  by_cases c9 : a0 = 9
  · subst c9
    simp [spec_NoteName.f, spec_l1In.f, nameV, wrap64, rdOf]
  unfold spec_NoteName.f nameV
  rw [Option.bind_some, spec_l1In_eq, Option.bind_some]
  have e : inB a0 1 9 = false := by rw [inB_false]; omega
  simp only [c1, c2, c3, c4, c5, c6, c7, c8, c9, if_false, e]
  rfl

/-! ### impl_isIn -/
theorem impl_isIn_eq (a b c : Int) : impl_isIn.f a b c = some (inB a b c) := by
  unfold impl_isIn.f inB
  by_cases h : b ≤ a <;> simp [h]

/-! ### impl_NoteName -/
theorem impl_NoteName_eq (a0 : Int) : impl_NoteName.f a0 = some (nameV a0) := rfl

theorem FnExactNoteName : laws_FnExactNoteName.Pure := by
  intro a _
  unfold laws_FnExactNoteName.f
  rw [spec_NoteName_eq, Option.bind_some, impl_NoteName_eq, Option.bind_some]
  simp
end Go.Proofs.Ytnfelcmlegenoaa.Pure
