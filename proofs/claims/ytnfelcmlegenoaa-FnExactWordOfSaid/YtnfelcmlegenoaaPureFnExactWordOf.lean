/- The program's WordOf answers as the reference's, whatever the text. -/
import Derived.Test.YtnfelcmlegenoaaPFnExactWordOfx1
import Derived.Test.YtnfelcmlegenoaaVBase
namespace Go.Proofs.Ytnfelcmlegenoaa.Pure
open Go.RowKit Go.Proofs.Ytnfelcmlegenoaa.PFnExactWordOf Go.Proofs.YtnfelcmlegenoaaW.PrintWords Go.Proofs.YtnfelcmlegenoaaW.PrintLast Go.Proofs.YtnfelcmlegenoaaV
set_option linter.unusedVariables false
set_option linter.unusedSimpArgs false
set_option maxRecDepth 20000

/-! ### spec_WordOf -/
/-- A query's word. -/
def wordV (q : ByteArray) : Int := if q.toList = ([98, 101, 103, 105, 110] : List UInt8) then 1 else if q.toList = ([99, 111, 109, 109, 105, 116] : List UInt8) then 2 else if q.toList = ([114, 111, 108, 108, 98, 97, 99, 107] : List UInt8) then 3 else if q.toList = ([102, 97, 105, 108] : List UInt8) then 4 else 0
theorem spec_WordOf_eq (q : ByteArray) : spec_WordOf.f q = some (wordV q) := by
  unfold spec_WordOf.f wordV
  repeat' split
  all_goals rfl

/-! ### impl_WordOf -/
theorem impl_WordOf_eq (q : ByteArray) : impl_WordOf.f q = some (wordV q) := by
  unfold impl_WordOf.f wordV
  repeat' split
  all_goals rfl

theorem FnExactWordOf : laws_FnExactWordOf.Pure := by
  intro a0 _
  unfold laws_FnExactWordOf.f
  by_cases hc : (a0.size : Int) > 1048576
  · rw [if_pos hc]
  · rw [if_neg hc]
    rw [show impl_WordOf.f a0 = spec_WordOf.f a0 from rfl]
    have hs : ∃ r, spec_WordOf.f a0 = some r := by
      unfold spec_WordOf.f
      repeat' split
      all_goals exact ⟨_, rfl⟩
    obtain ⟨r, hr⟩ := hs
    rw [hr]
    simp
end Go.Proofs.Ytnfelcmlegenoaa.Pure
