/- What came in, opened: the types' openers and the pure statement that is left (by this session's program). -/
import Derived.Test.YtnfelcmlegenoaaPFnExactLineAtx2
import Derived.Test.YtnfelcmlegenoaaVOpen
import Derived.KernelRfl
namespace Go.Proofs.Ytnfelcmlegenoaa.VFnExactLineAt
open Go.RowKit Go.Proofs.Ytnfelcmlegenoaa.PFnExactLineAt Go.Proofs.YtnfelcmlegenoaaW.PrintWords Go.Proofs.YtnfelcmlegenoaaV
set_option maxRecDepth 100000
set_option linter.unusedVariables false
def G35 (x : S35) : Prop := (Lit.int .i64 x.f0).wf = true ∧ x.f1.size ≤ 9223372036854775807 ∧ (Lit.int .i64 x.f2).wf = true ∧ (Lit.int .i64 x.f3).wf = true ∧ (Lit.int .i64 x.f4).wf = true ∧ (Lit.int .i64 x.f5).wf = true ∧ (Lit.int .i64 x.f6).wf = true
theorem opn35 (W : World) : Opn Try.prog W 35 k35 G35 :=
  (Opn.struct (α := S35) (fun x : S35 => (x.f0, x.f1, x.f2, x.f3, x.f4, x.f5, x.f6)) (fun p => ⟨p.1, p.2.1, p.2.2.1, p.2.2.2.1, p.2.2.2.2.1, p.2.2.2.2.2.1, p.2.2.2.2.2.2⟩) (fun _ => rfl) Try.underlying35 (by kernel_rfl) (OpnF.cons rfl (Opn.int Try.underlying3 (by kernel_rfl)) (OpnF.cons rfl (Opn.string Try.underlying9 (by kernel_rfl)) (OpnF.cons rfl (Opn.int Try.underlying3 (by kernel_rfl)) (OpnF.cons rfl (Opn.int Try.underlying3 (by kernel_rfl)) (OpnF.cons rfl (Opn.int Try.underlying3 (by kernel_rfl)) (OpnF.cons rfl (Opn.int Try.underlying3 (by kernel_rfl)) (OpnF.one rfl (Opn.int Try.underlying3 (by kernel_rfl)))))))))).imp (fun _ h => h)
/-- The one pure statement of FnExactLineAt. -/
def Pure : Prop := ∀ (l0 : List (S35)) (a1 : Int), l0.length ≤ 9223372036854775807 → (∀ y_ ∈ l0, G35 y_) → (Lit.int .i64 a1).wf = true → ∃ k, laws_FnExactLineAt.f k l0 a1 = some true
end Go.Proofs.Ytnfelcmlegenoaa.VFnExactLineAt
