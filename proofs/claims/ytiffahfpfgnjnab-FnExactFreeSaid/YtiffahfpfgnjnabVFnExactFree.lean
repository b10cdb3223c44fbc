/- What came in, opened: the types' openers and the pure statement that is left (by this session's program). -/
import Derived.Test.YtiffahfpfgnjnabPFnExactFreex4
import Derived.Test.YtiffahfpfgnjnabVOpen
import Derived.KernelRfl
namespace Go.Proofs.Ytiffahfpfgnjnab.VFnExactFree
open Go.RowKit Go.Proofs.Ytiffahfpfgnjnab.PFnExactFree Go.Proofs.YtiffahfpfgnjnabW.PrintWords Go.Proofs.YtiffahfpfgnjnabV
set_option maxRecDepth 100000
set_option linter.unusedVariables false
def G79 (x : S79) : Prop := (Lit.int .i64 x.f0).wf = true ∧ (Lit.int .i64 x.f1).wf = true ∧ (Lit.int .i64 x.f2).wf = true ∧ True ∧ (x.f4.length ≤ 9223372036854775807 ∧ ∀ y_ ∈ x.f4, (Lit.int .u8 y_).wf = true) ∧ (x.f5.length ≤ 9223372036854775807 ∧ ∀ y_ ∈ x.f5, (Lit.int .u8 y_).wf = true) ∧ (Lit.int .i64 x.f6).wf = true ∧ (Lit.int .i64 x.f7).wf = true
theorem opn79 (W : World) : Opn Try.prog W 79 k79 G79 :=
  (Opn.struct (α := S79) (fun x : S79 => (x.f0, x.f1, x.f2, x.f3, x.f4, x.f5, x.f6, x.f7)) (fun p => ⟨p.1, p.2.1, p.2.2.1, p.2.2.2.1, p.2.2.2.2.1, p.2.2.2.2.2.1, p.2.2.2.2.2.2.1, p.2.2.2.2.2.2.2⟩) (fun _ => rfl) Try.underlying79 (by kernel_rfl) (OpnF.cons rfl (Opn.int Try.underlying3 (by kernel_rfl)) (OpnF.cons rfl (Opn.int Try.underlying3 (by kernel_rfl)) (OpnF.cons rfl (Opn.int Try.underlying3 (by kernel_rfl)) (OpnF.cons rfl (Opn.bool Try.underlying4 (by kernel_rfl)) (OpnF.cons rfl (Opn.slice Try.underlying70 (by kernel_rfl) (Opn.int Try.underlying5 (by kernel_rfl))) (OpnF.cons rfl (Opn.slice Try.underlying70 (by kernel_rfl) (Opn.int Try.underlying5 (by kernel_rfl))) (OpnF.cons rfl (Opn.int Try.underlying3 (by kernel_rfl)) (OpnF.one rfl (Opn.int Try.underlying3 (by kernel_rfl))))))))))).imp (fun _ h => h)
/-- The one pure statement of FnExactFree. -/
def Pure : Prop := ∀ (l0 : List (S79)) (a1 : Int) (a2 : Int), l0.length ≤ 9223372036854775807 → (∀ y_ ∈ l0, G79 y_) → (Lit.int .i64 a1).wf = true → (Lit.int .i64 a2).wf = true → ∃ k, laws_FnExactFree.f k l0 a1 a2 = some true
end Go.Proofs.Ytiffahfpfgnjnab.VFnExactFree
