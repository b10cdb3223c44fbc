/- What came in, opened: the types' openers and the pure statement that is left (by this session's program). -/
import Derived.Test.YtnfelcmlegenoaaPFnExactAskerAtx2
import Derived.Test.YtnfelcmlegenoaaVOpen
import Derived.KernelRfl
namespace Go.Proofs.Ytnfelcmlegenoaa.VFnExactAskerAt
open Go.RowKit Go.Proofs.Ytnfelcmlegenoaa.PFnExactAskerAt Go.Proofs.YtnfelcmlegenoaaW.PrintWords Go.Proofs.YtnfelcmlegenoaaV
set_option maxRecDepth 100000
set_option linter.unusedVariables false
def G78 (x : S78) : Prop := (Lit.int .i64 x.f0).wf = true ∧ x.f1.size ≤ 9223372036854775807 ∧ (Lit.int .i64 x.f2).wf = true ∧ (Lit.int .i64 x.f3).wf = true ∧ (Lit.int .i64 x.f4).wf = true ∧ x.f5.size ≤ 9223372036854775807 ∧ (Lit.int .i64 x.f6).wf = true ∧ (Lit.int .i64 x.f7).wf = true
theorem opn78 (W : World) : Opn Try.prog W 78 k78 G78 :=
  (Opn.struct (α := S78) (fun x : S78 => (x.f0, x.f1, x.f2, x.f3, x.f4, x.f5, x.f6, x.f7)) (fun p => ⟨p.1, p.2.1, p.2.2.1, p.2.2.2.1, p.2.2.2.2.1, p.2.2.2.2.2.1, p.2.2.2.2.2.2.1, p.2.2.2.2.2.2.2⟩) (fun _ => rfl) Try.underlying78 (by kernel_rfl) (OpnF.cons rfl (Opn.int Try.underlying3 (by kernel_rfl)) (OpnF.cons rfl (Opn.string Try.underlying9 (by kernel_rfl)) (OpnF.cons rfl (Opn.int Try.underlying3 (by kernel_rfl)) (OpnF.cons rfl (Opn.int Try.underlying3 (by kernel_rfl)) (OpnF.cons rfl (Opn.int Try.underlying3 (by kernel_rfl)) (OpnF.cons rfl (Opn.string Try.underlying9 (by kernel_rfl)) (OpnF.cons rfl (Opn.int Try.underlying3 (by kernel_rfl)) (OpnF.one rfl (Opn.int Try.underlying3 (by kernel_rfl))))))))))).imp (fun _ h => h)
/-- The one pure statement of FnExactAskerAt. -/
def Pure : Prop := ∀ (l0 : List (S78)) (a1 : Int), l0.length ≤ 9223372036854775807 → (∀ y_ ∈ l0, G78 y_) → (Lit.int .i64 a1).wf = true → ∃ k, laws_FnExactAskerAt.f k l0 a1 = some true
end Go.Proofs.Ytnfelcmlegenoaa.VFnExactAskerAt
