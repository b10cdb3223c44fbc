/- What came in, opened: the types' openers and the pure statement that is left (by this session's program). -/
import Derived.Test.YthmfmpmljndjhaaPFnExactTakeOutx5
import Derived.Test.YthmfmpmljndjhaaVOpen
import Derived.KernelRfl
namespace Go.Proofs.Ythmfmpmljndjhaa.VFnExactTakeOut
open Go.RowKit Go.Proofs.Ythmfmpmljndjhaa.PFnExactTakeOut Go.Proofs.YthmfmpmljndjhaaW.PrintWords Go.Proofs.YthmfmpmljndjhaaV
set_option maxRecDepth 100000
set_option linter.unusedVariables false
def G112 (x : S112) : Prop := (Lit.int .i64 x.f0).wf = true ∧ (x.f1.length ≤ 9223372036854775807 ∧ ∀ y_ ∈ x.f1, (Lit.int .u8 y_).wf = true)
theorem opn112 (W : World) : Opn Try.prog W 112 k112 G112 :=
  (Opn.struct (α := S112) (fun x : S112 => (x.f0, x.f1)) (fun p => ⟨p.1, p.2⟩) (fun _ => rfl) Try.underlying112 (by kernel_rfl) (OpnF.cons rfl (Opn.int Try.underlying3 (by kernel_rfl)) (OpnF.one rfl (Opn.slice Try.underlying22 (by kernel_rfl) (Opn.int Try.underlying5 (by kernel_rfl)))))).imp (fun _ h => h)
/-- The one pure statement of FnExactTakeOut. -/
def Pure : Prop := ∀ (l0 : List (S112)) (a1 : Int), l0.length ≤ 9223372036854775807 → (∀ y_ ∈ l0, G112 y_) → (Lit.int .i64 a1).wf = true → ∃ k, laws_FnExactTakeOut.f k l0 a1 = some true
end Go.Proofs.Ythmfmpmljndjhaa.VFnExactTakeOut
