/- What came in, opened: the types' openers and the pure statement that is left (by this session's program). -/
import Derived.Test.YtnfelcmlegenoaaPFnExactWalkx2
import Derived.Test.YtnfelcmlegenoaaVOpen
import Derived.KernelRfl
namespace Go.Proofs.Ytnfelcmlegenoaa.VFnExactWalk
open Go.RowKit Go.Proofs.Ytnfelcmlegenoaa.PFnExactWalk Go.Proofs.YtnfelcmlegenoaaW.PrintWords Go.Proofs.YtnfelcmlegenoaaV
set_option maxRecDepth 100000
set_option linter.unusedVariables false
/-- The one pure statement of FnExactWalk. -/
def Pure : Prop := ∀ (a0 : Int) (l1 : List ByteArray), (Lit.int .i64 a0).wf = true → l1.length ≤ 9223372036854775807 → (∀ y_ ∈ l1, y_.size ≤ 9223372036854775807) → ∃ k, laws_FnExactWalk.f k a0 l1 = some true
end Go.Proofs.Ytnfelcmlegenoaa.VFnExactWalk
