/-
  No cell of these rows narrows 'for every input' (looked for: loops, veiled, ifaces, maps, wideKeys, modest, calm, conditions, laid).
  DERIVED. THE GIVEN ROWS OF THIS SEAT. 12 by the template 'for every input the law returns true; each argument reads behind the call as it read before'; 0 by the template 'total and deterministic' (their statements: YthmfmpmljndjhaaTotals.lean).
  GIVEN WITH THE SEED: the statements are not yours to turn. If you find one false, say at which input.
  Laid BY PROGRAM, IN A SANDBOX (cutbox-rows.mjs): the forced cells as the released guide's own fill.sh prints them over the translation 73bc0704a857581d… (all of the seat's roots in one cut). By AI agents, Wed Nov 11 2026. No macro, syntax, notation, axiom, sorry.
-/
import Derived.Test.YthmfmpmljndjhaaChecked
import GoSem.Claim
import GoSem.ClaimJoined
import GoSem.ClaimMapViews
import Derived.JoinedTies
import Derived.KernelRfl
namespace Go.Proofs.Ythmfmpmljndjhaa
/- THE CELL 'sum', in the pinned program and in every row, IS THE sha256 OF THE DUMP (.gsa) THAT YthmfmpmljndjhaaProg.lean LOADS. Nothing in Lean hashes anything: it is a label: what it is worth is what the hold of that sum in a sandbox is worth. -/
noncomputable def Try.pinned : Pinned := { name := "ythmfmpmljndjhaa", sum := "73bc0704a857581d234bb3c1ca3878b65290101f157006ad3eb6eed155c306ba", checked := Try.checked }
namespace Rows
def none {H : Type} : Left H := { results := [], args := [] }

/-- 'laws.FnNotes': WHATEVER THE INPUT: true; the input reads as it did. -/
def fnNotesSpec : ChangeSpec := { name := "fnNotes", fn := fun _ => fun
  | [d] => { results := [.lit (.bool true)], args := [d] }
  | _ => none }
def fnNotesRow : OpenClaim := { program := "ythmfmpmljndjhaa", sum := "73bc0704a857581d234bb3c1ca3878b65290101f157006ad3eb6eed155c306ba", func := "loop.example/g00482/laws.FnNotes", spec := "fnNotes", apart := false }
def FnNotesSaid : Prop := fnNotesRow.holds Try.pinned (OpenSpec.ofChange fnNotesSpec)

/-- ITS FALSE NEIGHBOUR: 'it returns false'. Refute it at one input. -/
def fnNotesWrong : ChangeSpec := { name := "fnNotes", fn := fun _ => fun
  | [d] => { results := [.lit (.bool false)], args := [d] }
  | _ => none }
def FnNotesWrongFalsely : Prop := fnNotesRow.holds Try.pinned (OpenSpec.ofChange fnNotesWrong)

/-- 'laws.FnExactSocksOk': WHATEVER THE INPUT: true; the input reads as it did. -/
def fnExactSocksOkSpec : ChangeSpec := { name := "fnExactSocksOk", fn := fun _ => fun
  | [d] => { results := [.lit (.bool true)], args := [d] }
  | _ => none }
def fnExactSocksOkRow : OpenClaim := { program := "ythmfmpmljndjhaa", sum := "73bc0704a857581d234bb3c1ca3878b65290101f157006ad3eb6eed155c306ba", func := "loop.example/g00482/laws.FnExactSocksOk", spec := "fnExactSocksOk", apart := false }
def FnExactSocksOkSaid : Prop := fnExactSocksOkRow.holds Try.pinned (OpenSpec.ofChange fnExactSocksOkSpec)

/-- ITS FALSE NEIGHBOUR: 'it returns false'. Refute it at one input. -/
def fnExactSocksOkWrong : ChangeSpec := { name := "fnExactSocksOk", fn := fun _ => fun
  | [d] => { results := [.lit (.bool false)], args := [d] }
  | _ => none }
def FnExactSocksOkWrongFalsely : Prop := fnExactSocksOkRow.holds Try.pinned (OpenSpec.ofChange fnExactSocksOkWrong)

/-- 'laws.FnExactOfLine': WHATEVER THE INPUT: true; the input reads as it did. -/
def fnExactOfLineSpec : ChangeSpec := { name := "fnExactOfLine", fn := fun _ => fun
  | [d1, d2] => { results := [.lit (.bool true)], args := [d1, d2] }
  | _ => none }
def fnExactOfLineRow : OpenClaim := { program := "ythmfmpmljndjhaa", sum := "73bc0704a857581d234bb3c1ca3878b65290101f157006ad3eb6eed155c306ba", func := "loop.example/g00482/laws.FnExactOfLine", spec := "fnExactOfLine", apart := false }
def FnExactOfLineSaid : Prop := fnExactOfLineRow.holds Try.pinned (OpenSpec.ofChange fnExactOfLineSpec)

/-- ITS FALSE NEIGHBOUR: 'it returns false'. Refute it at one input. -/
def fnExactOfLineWrong : ChangeSpec := { name := "fnExactOfLine", fn := fun _ => fun
  | [d1, d2] => { results := [.lit (.bool false)], args := [d1, d2] }
  | _ => none }
def FnExactOfLineWrongFalsely : Prop := fnExactOfLineRow.holds Try.pinned (OpenSpec.ofChange fnExactOfLineWrong)

/-- 'laws.FnExactPick': WHATEVER THE INPUT: true; the input reads as it did. -/
def fnExactPickSpec : ChangeSpec := { name := "fnExactPick", fn := fun _ => fun
  | [d1, d2] => { results := [.lit (.bool true)], args := [d1, d2] }
  | _ => none }
def fnExactPickRow : OpenClaim := { program := "ythmfmpmljndjhaa", sum := "73bc0704a857581d234bb3c1ca3878b65290101f157006ad3eb6eed155c306ba", func := "loop.example/g00482/laws.FnExactPick", spec := "fnExactPick", apart := false }
def FnExactPickSaid : Prop := fnExactPickRow.holds Try.pinned (OpenSpec.ofChange fnExactPickSpec)

/-- ITS FALSE NEIGHBOUR: 'it returns false'. Refute it at one input. -/
def fnExactPickWrong : ChangeSpec := { name := "fnExactPick", fn := fun _ => fun
  | [d1, d2] => { results := [.lit (.bool false)], args := [d1, d2] }
  | _ => none }
def FnExactPickWrongFalsely : Prop := fnExactPickRow.holds Try.pinned (OpenSpec.ofChange fnExactPickWrong)

/-- 'laws.FnExactHear': WHATEVER THE INPUT: true; the input reads as it did. -/
def fnExactHearSpec : ChangeSpec := { name := "fnExactHear", fn := fun _ => fun
  | [d1, d2] => { results := [.lit (.bool true)], args := [d1, d2] }
  | _ => none }
def fnExactHearRow : OpenClaim := { program := "ythmfmpmljndjhaa", sum := "73bc0704a857581d234bb3c1ca3878b65290101f157006ad3eb6eed155c306ba", func := "loop.example/g00482/laws.FnExactHear", spec := "fnExactHear", apart := false }
def FnExactHearSaid : Prop := fnExactHearRow.holds Try.pinned (OpenSpec.ofChange fnExactHearSpec)

/-- ITS FALSE NEIGHBOUR: 'it returns false'. Refute it at one input. -/
def fnExactHearWrong : ChangeSpec := { name := "fnExactHear", fn := fun _ => fun
  | [d1, d2] => { results := [.lit (.bool false)], args := [d1, d2] }
  | _ => none }
def FnExactHearWrongFalsely : Prop := fnExactHearRow.holds Try.pinned (OpenSpec.ofChange fnExactHearWrong)

/-- 'laws.FnExactAnswerTo': WHATEVER THE INPUT: true; the input reads as it did. -/
def fnExactAnswerToSpec : ChangeSpec := { name := "fnExactAnswerTo", fn := fun _ => fun
  | [d1, d2] => { results := [.lit (.bool true)], args := [d1, d2] }
  | _ => none }
def fnExactAnswerToRow : OpenClaim := { program := "ythmfmpmljndjhaa", sum := "73bc0704a857581d234bb3c1ca3878b65290101f157006ad3eb6eed155c306ba", func := "loop.example/g00482/laws.FnExactAnswerTo", spec := "fnExactAnswerTo", apart := false }
def FnExactAnswerToSaid : Prop := fnExactAnswerToRow.holds Try.pinned (OpenSpec.ofChange fnExactAnswerToSpec)

/-- ITS FALSE NEIGHBOUR: 'it returns false'. Refute it at one input. -/
def fnExactAnswerToWrong : ChangeSpec := { name := "fnExactAnswerTo", fn := fun _ => fun
  | [d1, d2] => { results := [.lit (.bool false)], args := [d1, d2] }
  | _ => none }
def FnExactAnswerToWrongFalsely : Prop := fnExactAnswerToRow.holds Try.pinned (OpenSpec.ofChange fnExactAnswerToWrong)

/-- 'laws.FnExactTwice': WHATEVER THE INPUT: true; the input reads as it did. -/
def fnExactTwiceSpec : ChangeSpec := { name := "fnExactTwice", fn := fun _ => fun
  | [d1, d2] => { results := [.lit (.bool true)], args := [d1, d2] }
  | _ => none }
def fnExactTwiceRow : OpenClaim := { program := "ythmfmpmljndjhaa", sum := "73bc0704a857581d234bb3c1ca3878b65290101f157006ad3eb6eed155c306ba", func := "loop.example/g00482/laws.FnExactTwice", spec := "fnExactTwice", apart := false }
def FnExactTwiceSaid : Prop := fnExactTwiceRow.holds Try.pinned (OpenSpec.ofChange fnExactTwiceSpec)

/-- ITS FALSE NEIGHBOUR: 'it returns false'. Refute it at one input. -/
def fnExactTwiceWrong : ChangeSpec := { name := "fnExactTwice", fn := fun _ => fun
  | [d1, d2] => { results := [.lit (.bool false)], args := [d1, d2] }
  | _ => none }
def FnExactTwiceWrongFalsely : Prop := fnExactTwiceRow.holds Try.pinned (OpenSpec.ofChange fnExactTwiceWrong)

/-- 'laws.FnExactTakeOut': WHATEVER THE INPUT: true; the input reads as it did. -/
def fnExactTakeOutSpec : ChangeSpec := { name := "fnExactTakeOut", fn := fun _ => fun
  | [d1, d2] => { results := [.lit (.bool true)], args := [d1, d2] }
  | _ => none }
def fnExactTakeOutRow : OpenClaim := { program := "ythmfmpmljndjhaa", sum := "73bc0704a857581d234bb3c1ca3878b65290101f157006ad3eb6eed155c306ba", func := "loop.example/g00482/laws.FnExactTakeOut", spec := "fnExactTakeOut", apart := false }
def FnExactTakeOutSaid : Prop := fnExactTakeOutRow.holds Try.pinned (OpenSpec.ofChange fnExactTakeOutSpec)

/-- ITS FALSE NEIGHBOUR: 'it returns false'. Refute it at one input. -/
def fnExactTakeOutWrong : ChangeSpec := { name := "fnExactTakeOut", fn := fun _ => fun
  | [d1, d2] => { results := [.lit (.bool false)], args := [d1, d2] }
  | _ => none }
def FnExactTakeOutWrongFalsely : Prop := fnExactTakeOutRow.holds Try.pinned (OpenSpec.ofChange fnExactTakeOutWrong)

/-- 'laws.FnWalks': WHATEVER THE INPUT: true; the input reads as it did. -/
def fnWalksSpec : ChangeSpec := { name := "fnWalks", fn := fun _ => fun
  | [d] => { results := [.lit (.bool true)], args := [d] }
  | _ => none }
def fnWalksRow : OpenClaim := { program := "ythmfmpmljndjhaa", sum := "73bc0704a857581d234bb3c1ca3878b65290101f157006ad3eb6eed155c306ba", func := "loop.example/g00482/laws.FnWalks", spec := "fnWalks", apart := false }
def FnWalksSaid : Prop := fnWalksRow.holds Try.pinned (OpenSpec.ofChange fnWalksSpec)

/-- ITS FALSE NEIGHBOUR: 'it returns false'. Refute it at one input. -/
def fnWalksWrong : ChangeSpec := { name := "fnWalks", fn := fun _ => fun
  | [d] => { results := [.lit (.bool false)], args := [d] }
  | _ => none }
def FnWalksWrongFalsely : Prop := fnWalksRow.holds Try.pinned (OpenSpec.ofChange fnWalksWrong)

/-- 'laws.FnExactPeek': WHATEVER THE INPUT: true; the input reads as it did. -/
def fnExactPeekSpec : ChangeSpec := { name := "fnExactPeek", fn := fun _ => fun
  | [d] => { results := [.lit (.bool true)], args := [d] }
  | _ => none }
def fnExactPeekRow : OpenClaim := { program := "ythmfmpmljndjhaa", sum := "73bc0704a857581d234bb3c1ca3878b65290101f157006ad3eb6eed155c306ba", func := "loop.example/g00482/laws.FnExactPeek", spec := "fnExactPeek", apart := false }
def FnExactPeekSaid : Prop := fnExactPeekRow.holds Try.pinned (OpenSpec.ofChange fnExactPeekSpec)

/-- ITS FALSE NEIGHBOUR: 'it returns false'. Refute it at one input. -/
def fnExactPeekWrong : ChangeSpec := { name := "fnExactPeek", fn := fun _ => fun
  | [d] => { results := [.lit (.bool false)], args := [d] }
  | _ => none }
def FnExactPeekWrongFalsely : Prop := fnExactPeekRow.holds Try.pinned (OpenSpec.ofChange fnExactPeekWrong)

/-- 'laws.FnExactFree': WHATEVER THE INPUT: true; the input reads as it did. -/
def fnExactFreeSpec : ChangeSpec := { name := "fnExactFree", fn := fun _ => fun
  | [d1, d2, d3] => { results := [.lit (.bool true)], args := [d1, d2, d3] }
  | _ => none }
def fnExactFreeRow : OpenClaim := { program := "ythmfmpmljndjhaa", sum := "73bc0704a857581d234bb3c1ca3878b65290101f157006ad3eb6eed155c306ba", func := "loop.example/g00482/laws.FnExactFree", spec := "fnExactFree", apart := false }
def FnExactFreeSaid : Prop := fnExactFreeRow.holds Try.pinned (OpenSpec.ofChange fnExactFreeSpec)

/-- ITS FALSE NEIGHBOUR: 'it returns false'. Refute it at one input. -/
def fnExactFreeWrong : ChangeSpec := { name := "fnExactFree", fn := fun _ => fun
  | [d1, d2, d3] => { results := [.lit (.bool false)], args := [d1, d2, d3] }
  | _ => none }
def FnExactFreeWrongFalsely : Prop := fnExactFreeRow.holds Try.pinned (OpenSpec.ofChange fnExactFreeWrong)

/-- 'laws.FnExactEat': WHATEVER THE INPUT: true; the input reads as it did. -/
def fnExactEatSpec : ChangeSpec := { name := "fnExactEat", fn := fun _ => fun
  | [d] => { results := [.lit (.bool true)], args := [d] }
  | _ => none }
def fnExactEatRow : OpenClaim := { program := "ythmfmpmljndjhaa", sum := "73bc0704a857581d234bb3c1ca3878b65290101f157006ad3eb6eed155c306ba", func := "loop.example/g00482/laws.FnExactEat", spec := "fnExactEat", apart := false }
def FnExactEatSaid : Prop := fnExactEatRow.holds Try.pinned (OpenSpec.ofChange fnExactEatSpec)

/-- ITS FALSE NEIGHBOUR: 'it returns false'. Refute it at one input. -/
def fnExactEatWrong : ChangeSpec := { name := "fnExactEat", fn := fun _ => fun
  | [d] => { results := [.lit (.bool false)], args := [d] }
  | _ => none }
def FnExactEatWrongFalsely : Prop := fnExactEatRow.holds Try.pinned (OpenSpec.ofChange fnExactEatWrong)

/- THE SECOND FORM. 'bulk': how many values and letters a reading holds, each counted each time it is reached (what is shared counts as often as it is met; a slice's spare places count too). A statement '..UptoSaid' is the law's where the arguments, and the package variables that the reading takes, are together of bulk at most 1048576: NARROWER than '..Said'. Prove '..Said' where nothing that the law and all that it calls make is longer than what came in: it says more and counts as full. Else prove '..UptoSaid'. A law counts once. -/
mutual
def uptoBulk {H : Type} : DataW H → Nat
  | .lit (.string bytes) => bytes.length + 1
  | .lit _ => 1
  | .nil => 1
  | .ptr d => uptoBulk d + 1
  | .slice elems spare => uptoBulkAll elems + uptoBulkAll spare + 1
  | .agg parts => uptoBulkAll parts + 1
  | .iface _ d => uptoBulk d + 1
  | .map entries => uptoBulkEntries entries + 1
  | .held _ => 1
def uptoBulkAll {H : Type} : List (DataW H) → Nat
  | [] => 0
  | d :: r => uptoBulk d + uptoBulkAll r
def uptoBulkEntries {H : Type} : List (Lit × DataW H) → Nat
  | [] => 0
  | x :: r => uptoBulkEntry x + uptoBulkEntries r
def uptoBulkEntry {H : Type} : Lit × DataW H → Nat
  | (.string bytes, d) => bytes.length + uptoBulk d + 1
  | (_, d) => uptoBulk d + 1
 end
def uptoSmall : (H : Type) → List (DataW H) → Bool := fun _ ds => decide (uptoBulkAll ds ≤ 1048576)
def OpenSpec.upto (s : _root_.Go.ChangeSpec) : _root_.Go.OpenSpec := { _root_.Go.OpenSpec.ofChange s with cond := some uptoSmall }

/-- 'laws.FnNotes', WHERE WHAT IT READS IS OF BULK AT MOST 1048576: true; the input reads as it did. -/
def fnNotesUptoRow : OpenClaim := { program := "ythmfmpmljndjhaa", sum := "73bc0704a857581d234bb3c1ca3878b65290101f157006ad3eb6eed155c306ba", func := "loop.example/g00482/laws.FnNotes", spec := "fnNotes", apart := false, narrowed := true }
def FnNotesUptoSaid : Prop := fnNotesUptoRow.holds Try.pinned (OpenSpec.upto fnNotesSpec)

/-- 'laws.FnExactSocksOk', WHERE WHAT IT READS IS OF BULK AT MOST 1048576: true; the input reads as it did. -/
def fnExactSocksOkUptoRow : OpenClaim := { program := "ythmfmpmljndjhaa", sum := "73bc0704a857581d234bb3c1ca3878b65290101f157006ad3eb6eed155c306ba", func := "loop.example/g00482/laws.FnExactSocksOk", spec := "fnExactSocksOk", apart := false, narrowed := true }
def FnExactSocksOkUptoSaid : Prop := fnExactSocksOkUptoRow.holds Try.pinned (OpenSpec.upto fnExactSocksOkSpec)

/-- 'laws.FnExactOfLine', WHERE WHAT IT READS IS OF BULK AT MOST 1048576: true; the input reads as it did. -/
def fnExactOfLineUptoRow : OpenClaim := { program := "ythmfmpmljndjhaa", sum := "73bc0704a857581d234bb3c1ca3878b65290101f157006ad3eb6eed155c306ba", func := "loop.example/g00482/laws.FnExactOfLine", spec := "fnExactOfLine", apart := false, narrowed := true }
def FnExactOfLineUptoSaid : Prop := fnExactOfLineUptoRow.holds Try.pinned (OpenSpec.upto fnExactOfLineSpec)

/-- 'laws.FnExactPick', WHERE WHAT IT READS IS OF BULK AT MOST 1048576: true; the input reads as it did. -/
def fnExactPickUptoRow : OpenClaim := { program := "ythmfmpmljndjhaa", sum := "73bc0704a857581d234bb3c1ca3878b65290101f157006ad3eb6eed155c306ba", func := "loop.example/g00482/laws.FnExactPick", spec := "fnExactPick", apart := false, narrowed := true }
def FnExactPickUptoSaid : Prop := fnExactPickUptoRow.holds Try.pinned (OpenSpec.upto fnExactPickSpec)

/-- 'laws.FnExactHear', WHERE WHAT IT READS IS OF BULK AT MOST 1048576: true; the input reads as it did. -/
def fnExactHearUptoRow : OpenClaim := { program := "ythmfmpmljndjhaa", sum := "73bc0704a857581d234bb3c1ca3878b65290101f157006ad3eb6eed155c306ba", func := "loop.example/g00482/laws.FnExactHear", spec := "fnExactHear", apart := false, narrowed := true }
def FnExactHearUptoSaid : Prop := fnExactHearUptoRow.holds Try.pinned (OpenSpec.upto fnExactHearSpec)

/-- 'laws.FnExactAnswerTo', WHERE WHAT IT READS IS OF BULK AT MOST 1048576: true; the input reads as it did. -/
def fnExactAnswerToUptoRow : OpenClaim := { program := "ythmfmpmljndjhaa", sum := "73bc0704a857581d234bb3c1ca3878b65290101f157006ad3eb6eed155c306ba", func := "loop.example/g00482/laws.FnExactAnswerTo", spec := "fnExactAnswerTo", apart := false, narrowed := true }
def FnExactAnswerToUptoSaid : Prop := fnExactAnswerToUptoRow.holds Try.pinned (OpenSpec.upto fnExactAnswerToSpec)

/-- 'laws.FnExactTwice', WHERE WHAT IT READS IS OF BULK AT MOST 1048576: true; the input reads as it did. -/
def fnExactTwiceUptoRow : OpenClaim := { program := "ythmfmpmljndjhaa", sum := "73bc0704a857581d234bb3c1ca3878b65290101f157006ad3eb6eed155c306ba", func := "loop.example/g00482/laws.FnExactTwice", spec := "fnExactTwice", apart := false, narrowed := true }
def FnExactTwiceUptoSaid : Prop := fnExactTwiceUptoRow.holds Try.pinned (OpenSpec.upto fnExactTwiceSpec)

/-- 'laws.FnExactTakeOut', WHERE WHAT IT READS IS OF BULK AT MOST 1048576: true; the input reads as it did. -/
def fnExactTakeOutUptoRow : OpenClaim := { program := "ythmfmpmljndjhaa", sum := "73bc0704a857581d234bb3c1ca3878b65290101f157006ad3eb6eed155c306ba", func := "loop.example/g00482/laws.FnExactTakeOut", spec := "fnExactTakeOut", apart := false, narrowed := true }
def FnExactTakeOutUptoSaid : Prop := fnExactTakeOutUptoRow.holds Try.pinned (OpenSpec.upto fnExactTakeOutSpec)

/-- 'laws.FnWalks', WHERE WHAT IT READS IS OF BULK AT MOST 1048576: true; the input reads as it did. -/
def fnWalksUptoRow : OpenClaim := { program := "ythmfmpmljndjhaa", sum := "73bc0704a857581d234bb3c1ca3878b65290101f157006ad3eb6eed155c306ba", func := "loop.example/g00482/laws.FnWalks", spec := "fnWalks", apart := false, narrowed := true }
def FnWalksUptoSaid : Prop := fnWalksUptoRow.holds Try.pinned (OpenSpec.upto fnWalksSpec)

/-- 'laws.FnExactPeek', WHERE WHAT IT READS IS OF BULK AT MOST 1048576: true; the input reads as it did. -/
def fnExactPeekUptoRow : OpenClaim := { program := "ythmfmpmljndjhaa", sum := "73bc0704a857581d234bb3c1ca3878b65290101f157006ad3eb6eed155c306ba", func := "loop.example/g00482/laws.FnExactPeek", spec := "fnExactPeek", apart := false, narrowed := true }
def FnExactPeekUptoSaid : Prop := fnExactPeekUptoRow.holds Try.pinned (OpenSpec.upto fnExactPeekSpec)

/-- 'laws.FnExactFree', WHERE WHAT IT READS IS OF BULK AT MOST 1048576: true; the input reads as it did. -/
def fnExactFreeUptoRow : OpenClaim := { program := "ythmfmpmljndjhaa", sum := "73bc0704a857581d234bb3c1ca3878b65290101f157006ad3eb6eed155c306ba", func := "loop.example/g00482/laws.FnExactFree", spec := "fnExactFree", apart := false, narrowed := true }
def FnExactFreeUptoSaid : Prop := fnExactFreeUptoRow.holds Try.pinned (OpenSpec.upto fnExactFreeSpec)

/-- 'laws.FnExactEat', WHERE WHAT IT READS IS OF BULK AT MOST 1048576: true; the input reads as it did. -/
def fnExactEatUptoRow : OpenClaim := { program := "ythmfmpmljndjhaa", sum := "73bc0704a857581d234bb3c1ca3878b65290101f157006ad3eb6eed155c306ba", func := "loop.example/g00482/laws.FnExactEat", spec := "fnExactEat", apart := false, narrowed := true }
def FnExactEatUptoSaid : Prop := fnExactEatUptoRow.holds Try.pinned (OpenSpec.upto fnExactEatSpec)

end Rows
end Go.Proofs.Ythmfmpmljndjhaa
