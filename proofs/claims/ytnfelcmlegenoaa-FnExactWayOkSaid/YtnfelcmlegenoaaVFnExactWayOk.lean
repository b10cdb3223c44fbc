/- What came in, opened: the types' openers and the pure statement that is left (by this session's program). -/
import Derived.Test.YtnfelcmlegenoaaPFnExactWayOkx2
import Derived.Test.YtnfelcmlegenoaaVOpen
import Derived.KernelRfl
namespace Go.Proofs.Ytnfelcmlegenoaa.VFnExactWayOk
open Go.RowKit Go.Proofs.Ytnfelcmlegenoaa.PFnExactWayOk Go.Proofs.YtnfelcmlegenoaaW.PrintWords Go.Proofs.YtnfelcmlegenoaaV
set_option maxRecDepth 100000
set_option linter.unusedVariables false
def G97 (x : S97) : Prop := (Lit.int .i64 x.f0).wf = true ∧ (x.f1.length ≤ 9223372036854775807 ∧ ∀ y_ ∈ x.f1, (Lit.int .u8 y_).wf = true)
theorem opn97 (W : World) : Opn Try.prog W 97 k97 G97 :=
  (Opn.struct (α := S97) (fun x : S97 => (x.f0, x.f1)) (fun p => ⟨p.1, p.2⟩) (fun _ => rfl) Try.underlying97 (by kernel_rfl) (OpnF.cons rfl (Opn.int Try.underlying3 (by kernel_rfl)) (OpnF.one rfl (Opn.slice Try.underlying55 (by kernel_rfl) (Opn.int Try.underlying5 (by kernel_rfl)))))).imp (fun _ h => h)
/-- The one pure statement of FnExactWayOk. -/
def Pure : Prop := ∀ (l0 : List (S97)), l0.length ≤ 9223372036854775807 → (∀ y_ ∈ l0, G97 y_) → ∃ k, laws_FnExactWayOk.f k l0 = some true
end Go.Proofs.Ytnfelcmlegenoaa.VFnExactWayOk
