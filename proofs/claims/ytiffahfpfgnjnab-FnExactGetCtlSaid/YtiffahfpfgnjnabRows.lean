/-
  No cell of these rows narrows 'for every input' (looked for: loops, veiled, ifaces, maps, wideKeys, modest, calm, conditions, laid).
  DERIVED. THE GIVEN ROWS OF THIS SEAT. 4 by the template 'for every input the law returns true; each argument reads behind the call as it read before'; 0 by the template 'total and deterministic' (their statements: YtiffahfpfgnjnabTotals.lean).
  GIVEN WITH THE SEED: the statements are not yours to turn. If you find one false, say at which input.
  Laid BY PROGRAM, IN A SANDBOX (cutbox-rows.mjs): the forced cells as the released guide's own fill.sh prints them over the translation 77ed04804aa8ab6c… (all of the seat's roots in one cut). By AI agents, Wed Nov 11 2026. No macro, syntax, notation, axiom, sorry.
-/
import Derived.Test.YtiffahfpfgnjnabChecked
import GoSem.Claim
import GoSem.ClaimJoined
import GoSem.ClaimMapViews
import Derived.JoinedTies
import Derived.KernelRfl
namespace Go.Proofs.Ytiffahfpfgnjnab
/- THE CELL 'sum', in the pinned program and in every row, IS THE sha256 OF THE DUMP (.gsa) THAT YtiffahfpfgnjnabProg.lean LOADS. Nothing in Lean hashes anything: it is a label: what it is worth is what the hold of that sum in a sandbox is worth. -/
noncomputable def Try.pinned : Pinned := { name := "ytiffahfpfgnjnab", sum := "77ed04804aa8ab6cdf4683f13a31738e08c815d94f0a8fb9dc40cf5efe9b3ff9", checked := Try.checked }
namespace Rows
def none {H : Type} : Left H := { results := [], args := [] }

/-- 'laws.FnExactFree': WHATEVER THE INPUT: true; the input reads as it did. -/
def fnExactFreeSpec : ChangeSpec := { name := "fnExactFree", fn := fun _ => fun
  | [d1, d2, d3] => { results := [.lit (.bool true)], args := [d1, d2, d3] }
  | _ => none }
def fnExactFreeRow : OpenClaim := { program := "ytiffahfpfgnjnab", sum := "77ed04804aa8ab6cdf4683f13a31738e08c815d94f0a8fb9dc40cf5efe9b3ff9", func := "loop.example/g00482/laws.FnExactFree", spec := "fnExactFree", apart := false }
def FnExactFreeSaid : Prop := fnExactFreeRow.holds Try.pinned (OpenSpec.ofChange fnExactFreeSpec)

/-- ITS FALSE NEIGHBOUR: 'it returns false'. Refute it at one input. -/
def fnExactFreeWrong : ChangeSpec := { name := "fnExactFree", fn := fun _ => fun
  | [d1, d2, d3] => { results := [.lit (.bool false)], args := [d1, d2, d3] }
  | _ => none }
def FnExactFreeWrongFalsely : Prop := fnExactFreeRow.holds Try.pinned (OpenSpec.ofChange fnExactFreeWrong)

/-- 'laws.FnExactWaiters': WHATEVER THE INPUT: true; the input reads as it did. -/
def fnExactWaitersSpec : ChangeSpec := { name := "fnExactWaiters", fn := fun _ => fun
  | [d1, d2] => { results := [.lit (.bool true)], args := [d1, d2] }
  | _ => none }
def fnExactWaitersRow : OpenClaim := { program := "ytiffahfpfgnjnab", sum := "77ed04804aa8ab6cdf4683f13a31738e08c815d94f0a8fb9dc40cf5efe9b3ff9", func := "loop.example/g00482/laws.FnExactWaiters", spec := "fnExactWaiters", unfollowed := true, recurses := true, apart := false }
def FnExactWaitersSaid : Prop := fnExactWaitersRow.holds Try.pinned (OpenSpec.ofChange fnExactWaitersSpec)

/-- ITS FALSE NEIGHBOUR: 'it returns false'. Refute it at one input. -/
def fnExactWaitersWrong : ChangeSpec := { name := "fnExactWaiters", fn := fun _ => fun
  | [d1, d2] => { results := [.lit (.bool false)], args := [d1, d2] }
  | _ => none }
def FnExactWaitersWrongFalsely : Prop := fnExactWaitersRow.holds Try.pinned (OpenSpec.ofChange fnExactWaitersWrong)

/-- 'laws.FnExactSend': WHATEVER THE INPUT: true; the input reads as it did. -/
def fnExactSendSpec : ChangeSpec := { name := "fnExactSend", fn := fun _ => fun
  | [d1, d2] => { results := [.lit (.bool true)], args := [d1, d2] }
  | _ => none }
def fnExactSendRow : OpenClaim := { program := "ytiffahfpfgnjnab", sum := "77ed04804aa8ab6cdf4683f13a31738e08c815d94f0a8fb9dc40cf5efe9b3ff9", func := "loop.example/g00482/laws.FnExactSend", spec := "fnExactSend", apart := false }
def FnExactSendSaid : Prop := fnExactSendRow.holds Try.pinned (OpenSpec.ofChange fnExactSendSpec)

/-- ITS FALSE NEIGHBOUR: 'it returns false'. Refute it at one input. -/
def fnExactSendWrong : ChangeSpec := { name := "fnExactSend", fn := fun _ => fun
  | [d1, d2] => { results := [.lit (.bool false)], args := [d1, d2] }
  | _ => none }
def FnExactSendWrongFalsely : Prop := fnExactSendRow.holds Try.pinned (OpenSpec.ofChange fnExactSendWrong)

/-- 'laws.FnExactGetCtl': WHATEVER THE INPUT: true; the input reads as it did. -/
def fnExactGetCtlSpec : ChangeSpec := { name := "fnExactGetCtl", fn := fun _ => fun
  | [d] => { results := [.lit (.bool true)], args := [d] }
  | _ => none }
def fnExactGetCtlRow : OpenClaim := { program := "ytiffahfpfgnjnab", sum := "77ed04804aa8ab6cdf4683f13a31738e08c815d94f0a8fb9dc40cf5efe9b3ff9", func := "loop.example/g00482/laws.FnExactGetCtl", spec := "fnExactGetCtl", apart := false }
def FnExactGetCtlSaid : Prop := fnExactGetCtlRow.holds Try.pinned (OpenSpec.ofChange fnExactGetCtlSpec)

/-- ITS FALSE NEIGHBOUR: 'it returns false'. Refute it at one input. -/
def fnExactGetCtlWrong : ChangeSpec := { name := "fnExactGetCtl", fn := fun _ => fun
  | [d] => { results := [.lit (.bool false)], args := [d] }
  | _ => none }
def FnExactGetCtlWrongFalsely : Prop := fnExactGetCtlRow.holds Try.pinned (OpenSpec.ofChange fnExactGetCtlWrong)

/- THE SECOND FORM. 'bulk': how many values and letters a reading holds, each counted each time it is reached (what is shared counts as often as it is met; a slice's spare places count too). A statement '..UptoSaid' is the law's where the arguments, and the package variables that the reading takes, are together of bulk at most 1048576: NARROWER than '..Said'. Prove '..Said' where nothing that the law and all that it calls make is longer than what came in: it says more and counts as full. Else prove '..UptoSaid'. A law counts once. -/
mutual
def uptoBulk {H : Type} : DataW H → Nat
  | .lit (.string bytes) => bytes.length + 1
  | .lit _ => 1
  | .nil => 1
  | .ptr d => uptoBulk d + 1
  | .slice elems spare => uptoBulkAll elems + uptoBulkAll spare + 1
  | .agg parts => uptoBulkAll parts + 1
  | .iface _ d => uptoBulk d + 1
  | .map entries => uptoBulkEntries entries + 1
  | .held _ => 1
def uptoBulkAll {H : Type} : List (DataW H) → Nat
  | [] => 0
  | d :: r => uptoBulk d + uptoBulkAll r
def uptoBulkEntries {H : Type} : List (Lit × DataW H) → Nat
  | [] => 0
  | x :: r => uptoBulkEntry x + uptoBulkEntries r
def uptoBulkEntry {H : Type} : Lit × DataW H → Nat
  | (.string bytes, d) => bytes.length + uptoBulk d + 1
  | (_, d) => uptoBulk d + 1
 end
def uptoSmall : (H : Type) → List (DataW H) → Bool := fun _ ds => decide (uptoBulkAll ds ≤ 1048576)
def OpenSpec.upto (s : _root_.Go.ChangeSpec) : _root_.Go.OpenSpec := { _root_.Go.OpenSpec.ofChange s with cond := some uptoSmall }

/-- 'laws.FnExactFree', WHERE WHAT IT READS IS OF BULK AT MOST 1048576: true; the input reads as it did. -/
def fnExactFreeUptoRow : OpenClaim := { program := "ytiffahfpfgnjnab", sum := "77ed04804aa8ab6cdf4683f13a31738e08c815d94f0a8fb9dc40cf5efe9b3ff9", func := "loop.example/g00482/laws.FnExactFree", spec := "fnExactFree", apart := false, narrowed := true }
def FnExactFreeUptoSaid : Prop := fnExactFreeUptoRow.holds Try.pinned (OpenSpec.upto fnExactFreeSpec)

/-- 'laws.FnExactWaiters', WHERE WHAT IT READS IS OF BULK AT MOST 1048576: true; the input reads as it did. -/
def fnExactWaitersUptoRow : OpenClaim := { program := "ytiffahfpfgnjnab", sum := "77ed04804aa8ab6cdf4683f13a31738e08c815d94f0a8fb9dc40cf5efe9b3ff9", func := "loop.example/g00482/laws.FnExactWaiters", spec := "fnExactWaiters", unfollowed := true, recurses := true, apart := false, narrowed := true }
def FnExactWaitersUptoSaid : Prop := fnExactWaitersUptoRow.holds Try.pinned (OpenSpec.upto fnExactWaitersSpec)

/-- 'laws.FnExactSend', WHERE WHAT IT READS IS OF BULK AT MOST 1048576: true; the input reads as it did. -/
def fnExactSendUptoRow : OpenClaim := { program := "ytiffahfpfgnjnab", sum := "77ed04804aa8ab6cdf4683f13a31738e08c815d94f0a8fb9dc40cf5efe9b3ff9", func := "loop.example/g00482/laws.FnExactSend", spec := "fnExactSend", apart := false, narrowed := true }
def FnExactSendUptoSaid : Prop := fnExactSendUptoRow.holds Try.pinned (OpenSpec.upto fnExactSendSpec)

/-- 'laws.FnExactGetCtl', WHERE WHAT IT READS IS OF BULK AT MOST 1048576: true; the input reads as it did. -/
def fnExactGetCtlUptoRow : OpenClaim := { program := "ytiffahfpfgnjnab", sum := "77ed04804aa8ab6cdf4683f13a31738e08c815d94f0a8fb9dc40cf5efe9b3ff9", func := "loop.example/g00482/laws.FnExactGetCtl", spec := "fnExactGetCtl", apart := false, narrowed := true }
def FnExactGetCtlUptoSaid : Prop := fnExactGetCtlUptoRow.holds Try.pinned (OpenSpec.upto fnExactGetCtlSpec)

end Rows
end Go.Proofs.Ytiffahfpfgnjnab
