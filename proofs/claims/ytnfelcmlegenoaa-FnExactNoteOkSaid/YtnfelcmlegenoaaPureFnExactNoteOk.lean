/- The program's NoteOk answers as the reference's, whatever the note. -/
import Derived.Test.YtnfelcmlegenoaaVFnExactNoteOk
import Derived.Test.YtnfelcmlegenoaaVBase
namespace Go.Proofs.Ytnfelcmlegenoaa.Pure
open Go.RowKit Go.Proofs.Ytnfelcmlegenoaa.PFnExactNoteOk Go.Proofs.Ytnfelcmlegenoaa.VFnExactNoteOk Go.Proofs.YtnfelcmlegenoaaW.PrintWords Go.Proofs.YtnfelcmlegenoaaW.PrintLast Go.Proofs.YtnfelcmlegenoaaV
set_option linter.unusedVariables false
set_option linter.unusedSimpArgs false
set_option maxRecDepth 20000

/-! ### spec_l1In -/
theorem spec_l1In_eq (a b c : Int) : spec_l1In.f a b c = some (inB a b c) := by
  unfold spec_l1In.f inB
  by_cases h : b ≤ a <;> simp [h]

/-! ### laws_toNote -/
def cv_Note (x : S25) : S27 := ⟨x.f0, x.f1, x.f2, x.f3, x.f4, x.f5, x.f6, x.f7, x.f8⟩
theorem to_Note (x : S25) : Ev (fun k => laws_toNote.f x.f0 x.f1 x.f2 x.f3 x.f4 x.f5 x.f6 x.f7 x.f8) ((cv_Note x).f0, (cv_Note x).f1, (cv_Note x).f2, (cv_Note x).f3, (cv_Note x).f4, (cv_Note x).f5, (cv_Note x).f6, (cv_Note x).f7, (cv_Note x).f8) := by
  unfold laws_toNote.f
  exact ev_now _

/-! ### impl_isIn -/
theorem impl_isIn_eq (a b c : Int) : impl_isIn.f a b c = some (inB a b c) := by
  unfold impl_isIn.f inB
  by_cases h : b ≤ a <;> simp [h]

theorem FnExactNoteOk : VFnExactNoteOk.Pure := by
  intro x _
  unfold laws_FnExactNoteOk.f laws_toNote.f
  have h : impl_NoteOk.f x.f0 x.f1 x.f2 x.f3 x.f4 x.f5 x.f6 x.f7 x.f8 = spec_NoteOk.f x.f0 x.f1 x.f2 x.f3 x.f4 x.f5 x.f6 x.f7 x.f8 := by
    unfold impl_NoteOk.f spec_NoteOk.f
    simp only [impl_isIn_eq, spec_l1In_eq]
  have hs : ∃ r, spec_NoteOk.f x.f0 x.f1 x.f2 x.f3 x.f4 x.f5 x.f6 x.f7 x.f8 = some r := by
    unfold spec_NoteOk.f
    simp only [spec_l1In_eq, Option.bind_some]
    repeat' split
    all_goals exact ⟨_, rfl⟩
  obtain ⟨r, hr⟩ := hs
  simp [h, hr]
end Go.Proofs.Ytnfelcmlegenoaa.Pure
