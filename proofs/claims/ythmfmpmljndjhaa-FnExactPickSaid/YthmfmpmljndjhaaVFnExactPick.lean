/- What came in, opened: the types' openers and the pure statement that is left (by this session's program). -/
import Derived.Test.YthmfmpmljndjhaaPFnExactPickx4
import Derived.Test.YthmfmpmljndjhaaVOpen
import Derived.KernelRfl
namespace Go.Proofs.Ythmfmpmljndjhaa.VFnExactPick
open Go.RowKit Go.Proofs.Ythmfmpmljndjhaa.PFnExactPick Go.Proofs.YthmfmpmljndjhaaW.PrintWords Go.Proofs.YthmfmpmljndjhaaV
set_option maxRecDepth 100000
set_option linter.unusedVariables false
def G109 (x : S109) : Prop := (Lit.int .i64 x.f0).wf = true ∧ (Lit.int .i64 x.f1).wf = true ∧ (Lit.int .i64 x.f2).wf = true ∧ (Lit.int .i64 x.f3).wf = true ∧ (Lit.int .i64 x.f4).wf = true ∧ (Lit.int .i64 x.f5).wf = true ∧ (Lit.int .i64 x.f6).wf = true ∧ (Lit.int .i64 x.f7).wf = true ∧ (Lit.int .i64 x.f8).wf = true
theorem opn109 (W : World) : Opn Try.prog W 109 k109 G109 :=
  (Opn.struct (α := S109) (fun x : S109 => (x.f0, x.f1, x.f2, x.f3, x.f4, x.f5, x.f6, x.f7, x.f8)) (fun p => ⟨p.1, p.2.1, p.2.2.1, p.2.2.2.1, p.2.2.2.2.1, p.2.2.2.2.2.1, p.2.2.2.2.2.2.1, p.2.2.2.2.2.2.2.1, p.2.2.2.2.2.2.2.2⟩) (fun _ => rfl) Try.underlying109 (by kernel_rfl) (OpnF.cons rfl (Opn.int Try.underlying3 (by kernel_rfl)) (OpnF.cons rfl (Opn.int Try.underlying3 (by kernel_rfl)) (OpnF.cons rfl (Opn.int Try.underlying3 (by kernel_rfl)) (OpnF.cons rfl (Opn.int Try.underlying3 (by kernel_rfl)) (OpnF.cons rfl (Opn.int Try.underlying3 (by kernel_rfl)) (OpnF.cons rfl (Opn.int Try.underlying3 (by kernel_rfl)) (OpnF.cons rfl (Opn.int Try.underlying3 (by kernel_rfl)) (OpnF.cons rfl (Opn.int Try.underlying3 (by kernel_rfl)) (OpnF.one rfl (Opn.int Try.underlying3 (by kernel_rfl)))))))))))).imp (fun _ h => h)
/-- The one pure statement of FnExactPick. -/
def Pure : Prop := ∀ (l0 : List (S109)) (a1 : Int), l0.length ≤ 9223372036854775807 → (∀ y_ ∈ l0, G109 y_) → (Lit.int .i64 a1).wf = true → ∃ k, laws_FnExactPick.f k l0 a1 = some true
end Go.Proofs.Ythmfmpmljndjhaa.VFnExactPick
