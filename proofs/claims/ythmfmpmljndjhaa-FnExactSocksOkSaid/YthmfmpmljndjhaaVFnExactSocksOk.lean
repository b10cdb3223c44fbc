/- What came in, opened: the types' openers and the pure statement that is left (by this session's program). -/
import Derived.Test.YthmfmpmljndjhaaPFnExactSocksOkx6
import Derived.Test.YthmfmpmljndjhaaVOpen
import Derived.KernelRfl
namespace Go.Proofs.Ythmfmpmljndjhaa.VFnExactSocksOk
open Go.RowKit Go.Proofs.Ythmfmpmljndjhaa.PFnExactSocksOk Go.Proofs.YthmfmpmljndjhaaW.PrintWords Go.Proofs.YthmfmpmljndjhaaV
set_option maxRecDepth 100000
set_option linter.unusedVariables false
def G48 (x : S48) : Prop := (Lit.int .i64 x.f0).wf = true ∧ (Lit.int .i64 x.f1).wf = true ∧ (Lit.int .i64 x.f2).wf = true ∧ True ∧ (x.f4.length ≤ 9223372036854775807 ∧ ∀ y_ ∈ x.f4, (Lit.int .u8 y_).wf = true) ∧ (x.f5.length ≤ 9223372036854775807 ∧ ∀ y_ ∈ x.f5, (Lit.int .u8 y_).wf = true) ∧ (Lit.int .i64 x.f6).wf = true ∧ (Lit.int .i64 x.f7).wf = true
theorem opn48 (W : World) : Opn Try.prog W 48 k48 G48 :=
  (Opn.struct (α := S48) (fun x : S48 => (x.f0, x.f1, x.f2, x.f3, x.f4, x.f5, x.f6, x.f7)) (fun p => ⟨p.1, p.2.1, p.2.2.1, p.2.2.2.1, p.2.2.2.2.1, p.2.2.2.2.2.1, p.2.2.2.2.2.2.1, p.2.2.2.2.2.2.2⟩) (fun _ => rfl) Try.underlying48 (by kernel_rfl) (OpnF.cons rfl (Opn.int Try.underlying3 (by kernel_rfl)) (OpnF.cons rfl (Opn.int Try.underlying3 (by kernel_rfl)) (OpnF.cons rfl (Opn.int Try.underlying3 (by kernel_rfl)) (OpnF.cons rfl (Opn.bool Try.underlying4 (by kernel_rfl)) (OpnF.cons rfl (Opn.slice Try.underlying22 (by kernel_rfl) (Opn.int Try.underlying5 (by kernel_rfl))) (OpnF.cons rfl (Opn.slice Try.underlying22 (by kernel_rfl) (Opn.int Try.underlying5 (by kernel_rfl))) (OpnF.cons rfl (Opn.int Try.underlying3 (by kernel_rfl)) (OpnF.one rfl (Opn.int Try.underlying3 (by kernel_rfl))))))))))).imp (fun _ h => h)
/-- The one pure statement of FnExactSocksOk. -/
def Pure : Prop := ∀ (l0 : List (S48)), l0.length ≤ 9223372036854775807 → (∀ y_ ∈ l0, G48 y_) → ∃ k, laws_FnExactSocksOk.f k l0 = some true
end Go.Proofs.Ythmfmpmljndjhaa.VFnExactSocksOk
