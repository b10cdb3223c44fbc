/-
  No cell of these rows narrows 'for every input' (looked for: loops, veiled, ifaces, maps, wideKeys, modest, calm, conditions, laid).
  DERIVED. THE GIVEN ROWS OF THIS SEAT. 12 by the template 'for every input the law returns true; each argument reads behind the call as it read before'; 0 by the template 'total and deterministic' (their statements: YtahfemlfdpbkkaaTotals.lean).
  GIVEN WITH THE SEED: the statements are not yours to turn. If you find one false, say at which input.
  Laid BY PROGRAM, IN A SANDBOX (cutbox-rows.mjs): the forced cells as the released guide's own fill.sh prints them over the translation ddf09b6ebe8d142b… (all of the seat's roots in one cut). By AI agents, Wed Nov 11 2026. No macro, syntax, notation, axiom, sorry.
-/
import Derived.Test.YtahfemlfdpbkkaaChecked
import GoSem.Claim
import GoSem.ClaimJoined
import GoSem.ClaimMapViews
import Derived.JoinedTies
import Derived.KernelRfl
namespace Go.Proofs.Ytahfemlfdpbkkaa
/- THE CELL 'sum', in the pinned program and in every row, IS THE sha256 OF THE DUMP (.gsa) THAT YtahfemlfdpbkkaaProg.lean LOADS. Nothing in Lean hashes anything: it is a label: what it is worth is what the hold of that sum in a sandbox is worth. -/
noncomputable def Try.pinned : Pinned := { name := "ytahfemlfdpbkkaa", sum := "ddf09b6ebe8d142b7ad77a6bdc8ae86d5e99365b577821a70b0791bd4ba23db2", checked := Try.checked }
namespace Rows
def none {H : Type} : Left H := { results := [], args := [] }

/-- 'laws.FnExactTell': WHATEVER THE INPUT: true; the input reads as it did. -/
def fnExactTellSpec : ChangeSpec := { name := "fnExactTell", fn := fun _ => fun
  | [d1, d2] => { results := [.lit (.bool true)], args := [d1, d2] }
  | _ => none }
def fnExactTellRow : OpenClaim := { program := "ytahfemlfdpbkkaa", sum := "ddf09b6ebe8d142b7ad77a6bdc8ae86d5e99365b577821a70b0791bd4ba23db2", func := "loop.example/g00482/laws.FnExactTell", spec := "fnExactTell", apart := false }
def FnExactTellSaid : Prop := fnExactTellRow.holds Try.pinned (OpenSpec.ofChange fnExactTellSpec)

/-- ITS FALSE NEIGHBOUR: 'it returns false'. Refute it at one input. -/
def fnExactTellWrong : ChangeSpec := { name := "fnExactTell", fn := fun _ => fun
  | [d1, d2] => { results := [.lit (.bool false)], args := [d1, d2] }
  | _ => none }
def FnExactTellWrongFalsely : Prop := fnExactTellRow.holds Try.pinned (OpenSpec.ofChange fnExactTellWrong)

/-- 'laws.FnExactPutItem': WHATEVER THE INPUT: true; the input reads as it did. -/
def fnExactPutItemSpec : ChangeSpec := { name := "fnExactPutItem", fn := fun _ => fun
  | [d] => { results := [.lit (.bool true)], args := [d] }
  | _ => none }
def fnExactPutItemRow : OpenClaim := { program := "ytahfemlfdpbkkaa", sum := "ddf09b6ebe8d142b7ad77a6bdc8ae86d5e99365b577821a70b0791bd4ba23db2", func := "loop.example/g00482/laws.FnExactPutItem", spec := "fnExactPutItem", apart := false }
def FnExactPutItemSaid : Prop := fnExactPutItemRow.holds Try.pinned (OpenSpec.ofChange fnExactPutItemSpec)

/-- ITS FALSE NEIGHBOUR: 'it returns false'. Refute it at one input. -/
def fnExactPutItemWrong : ChangeSpec := { name := "fnExactPutItem", fn := fun _ => fun
  | [d] => { results := [.lit (.bool false)], args := [d] }
  | _ => none }
def FnExactPutItemWrongFalsely : Prop := fnExactPutItemRow.holds Try.pinned (OpenSpec.ofChange fnExactPutItemWrong)

/-- 'laws.FnExactParts': WHATEVER THE INPUT: true; the input reads as it did. -/
def fnExactPartsSpec : ChangeSpec := { name := "fnExactParts", fn := fun _ => fun
  | [d] => { results := [.lit (.bool true)], args := [d] }
  | _ => none }
def fnExactPartsRow : OpenClaim := { program := "ytahfemlfdpbkkaa", sum := "ddf09b6ebe8d142b7ad77a6bdc8ae86d5e99365b577821a70b0791bd4ba23db2", func := "loop.example/g00482/laws.FnExactParts", spec := "fnExactParts", apart := false }
def FnExactPartsSaid : Prop := fnExactPartsRow.holds Try.pinned (OpenSpec.ofChange fnExactPartsSpec)

/-- ITS FALSE NEIGHBOUR: 'it returns false'. Refute it at one input. -/
def fnExactPartsWrong : ChangeSpec := { name := "fnExactParts", fn := fun _ => fun
  | [d] => { results := [.lit (.bool false)], args := [d] }
  | _ => none }
def FnExactPartsWrongFalsely : Prop := fnExactPartsRow.holds Try.pinned (OpenSpec.ofChange fnExactPartsWrong)

/-- 'laws.FnExactFreeLine': WHATEVER THE INPUT: true; the input reads as it did. -/
def fnExactFreeLineSpec : ChangeSpec := { name := "fnExactFreeLine", fn := fun _ => fun
  | [d1, d2] => { results := [.lit (.bool true)], args := [d1, d2] }
  | _ => none }
def fnExactFreeLineRow : OpenClaim := { program := "ytahfemlfdpbkkaa", sum := "ddf09b6ebe8d142b7ad77a6bdc8ae86d5e99365b577821a70b0791bd4ba23db2", func := "loop.example/g00482/laws.FnExactFreeLine", spec := "fnExactFreeLine", apart := false }
def FnExactFreeLineSaid : Prop := fnExactFreeLineRow.holds Try.pinned (OpenSpec.ofChange fnExactFreeLineSpec)

/-- ITS FALSE NEIGHBOUR: 'it returns false'. Refute it at one input. -/
def fnExactFreeLineWrong : ChangeSpec := { name := "fnExactFreeLine", fn := fun _ => fun
  | [d1, d2] => { results := [.lit (.bool false)], args := [d1, d2] }
  | _ => none }
def FnExactFreeLineWrongFalsely : Prop := fnExactFreeLineRow.holds Try.pinned (OpenSpec.ofChange fnExactFreeLineWrong)

/-- 'laws.FnExactCount': WHATEVER THE INPUT: true; the input reads as it did. -/
def fnExactCountSpec : ChangeSpec := { name := "fnExactCount", fn := fun _ => fun
  | [d1, d2] => { results := [.lit (.bool true)], args := [d1, d2] }
  | _ => none }
def fnExactCountRow : OpenClaim := { program := "ytahfemlfdpbkkaa", sum := "ddf09b6ebe8d142b7ad77a6bdc8ae86d5e99365b577821a70b0791bd4ba23db2", func := "loop.example/g00482/laws.FnExactCount", spec := "fnExactCount", apart := false }
def FnExactCountSaid : Prop := fnExactCountRow.holds Try.pinned (OpenSpec.ofChange fnExactCountSpec)

/-- ITS FALSE NEIGHBOUR: 'it returns false'. Refute it at one input. -/
def fnExactCountWrong : ChangeSpec := { name := "fnExactCount", fn := fun _ => fun
  | [d1, d2] => { results := [.lit (.bool false)], args := [d1, d2] }
  | _ => none }
def FnExactCountWrongFalsely : Prop := fnExactCountRow.holds Try.pinned (OpenSpec.ofChange fnExactCountWrong)

/-- 'laws.FnExactMayOpen': WHATEVER THE INPUT: true; the input reads as it did. -/
def fnExactMayOpenSpec : ChangeSpec := { name := "fnExactMayOpen", fn := fun _ => fun
  | [d1, d2] => { results := [.lit (.bool true)], args := [d1, d2] }
  | _ => none }
def fnExactMayOpenRow : OpenClaim := { program := "ytahfemlfdpbkkaa", sum := "ddf09b6ebe8d142b7ad77a6bdc8ae86d5e99365b577821a70b0791bd4ba23db2", func := "loop.example/g00482/laws.FnExactMayOpen", spec := "fnExactMayOpen", unfollowed := true, recurses := true, apart := false }
def FnExactMayOpenSaid : Prop := fnExactMayOpenRow.holds Try.pinned (OpenSpec.ofChange fnExactMayOpenSpec)

/-- ITS FALSE NEIGHBOUR: 'it returns false'. Refute it at one input. -/
def fnExactMayOpenWrong : ChangeSpec := { name := "fnExactMayOpen", fn := fun _ => fun
  | [d1, d2] => { results := [.lit (.bool false)], args := [d1, d2] }
  | _ => none }
def FnExactMayOpenWrongFalsely : Prop := fnExactMayOpenRow.holds Try.pinned (OpenSpec.ofChange fnExactMayOpenWrong)

/-- 'laws.FnExactGetItem': WHATEVER THE INPUT: true; the input reads as it did. -/
def fnExactGetItemSpec : ChangeSpec := { name := "fnExactGetItem", fn := fun _ => fun
  | [d] => { results := [.lit (.bool true)], args := [d] }
  | _ => none }
def fnExactGetItemRow : OpenClaim := { program := "ytahfemlfdpbkkaa", sum := "ddf09b6ebe8d142b7ad77a6bdc8ae86d5e99365b577821a70b0791bd4ba23db2", func := "loop.example/g00482/laws.FnExactGetItem", spec := "fnExactGetItem", apart := false }
def FnExactGetItemSaid : Prop := fnExactGetItemRow.holds Try.pinned (OpenSpec.ofChange fnExactGetItemSpec)

/-- ITS FALSE NEIGHBOUR: 'it returns false'. Refute it at one input. -/
def fnExactGetItemWrong : ChangeSpec := { name := "fnExactGetItem", fn := fun _ => fun
  | [d] => { results := [.lit (.bool false)], args := [d] }
  | _ => none }
def FnExactGetItemWrongFalsely : Prop := fnExactGetItemRow.holds Try.pinned (OpenSpec.ofChange fnExactGetItemWrong)

/-- 'laws.FnExactCtlOk': WHATEVER THE INPUT: true; the input reads as it did. -/
def fnExactCtlOkSpec : ChangeSpec := { name := "fnExactCtlOk", fn := fun _ => fun
  | [d] => { results := [.lit (.bool true)], args := [d] }
  | _ => none }
def fnExactCtlOkRow : OpenClaim := { program := "ytahfemlfdpbkkaa", sum := "ddf09b6ebe8d142b7ad77a6bdc8ae86d5e99365b577821a70b0791bd4ba23db2", func := "loop.example/g00482/laws.FnExactCtlOk", spec := "fnExactCtlOk", apart := false }
def FnExactCtlOkSaid : Prop := fnExactCtlOkRow.holds Try.pinned (OpenSpec.ofChange fnExactCtlOkSpec)

/-- ITS FALSE NEIGHBOUR: 'it returns false'. Refute it at one input. -/
def fnExactCtlOkWrong : ChangeSpec := { name := "fnExactCtlOk", fn := fun _ => fun
  | [d] => { results := [.lit (.bool false)], args := [d] }
  | _ => none }
def FnExactCtlOkWrongFalsely : Prop := fnExactCtlOkRow.holds Try.pinned (OpenSpec.ofChange fnExactCtlOkWrong)

/-- 'laws.FnExactAnswer': WHATEVER THE INPUT: true; the input reads as it did. -/
def fnExactAnswerSpec : ChangeSpec := { name := "fnExactAnswer", fn := fun _ => fun
  | [d] => { results := [.lit (.bool true)], args := [d] }
  | _ => none }
def fnExactAnswerRow : OpenClaim := { program := "ytahfemlfdpbkkaa", sum := "ddf09b6ebe8d142b7ad77a6bdc8ae86d5e99365b577821a70b0791bd4ba23db2", func := "loop.example/g00482/laws.FnExactAnswer", spec := "fnExactAnswer", apart := false }
def FnExactAnswerSaid : Prop := fnExactAnswerRow.holds Try.pinned (OpenSpec.ofChange fnExactAnswerSpec)

/-- ITS FALSE NEIGHBOUR: 'it returns false'. Refute it at one input. -/
def fnExactAnswerWrong : ChangeSpec := { name := "fnExactAnswer", fn := fun _ => fun
  | [d] => { results := [.lit (.bool false)], args := [d] }
  | _ => none }
def FnExactAnswerWrongFalsely : Prop := fnExactAnswerRow.holds Try.pinned (OpenSpec.ofChange fnExactAnswerWrong)

/-- 'laws.FnExactWaiters': WHATEVER THE INPUT: true; the input reads as it did. -/
def fnExactWaitersSpec : ChangeSpec := { name := "fnExactWaiters", fn := fun _ => fun
  | [d1, d2] => { results := [.lit (.bool true)], args := [d1, d2] }
  | _ => none }
def fnExactWaitersRow : OpenClaim := { program := "ytahfemlfdpbkkaa", sum := "ddf09b6ebe8d142b7ad77a6bdc8ae86d5e99365b577821a70b0791bd4ba23db2", func := "loop.example/g00482/laws.FnExactWaiters", spec := "fnExactWaiters", unfollowed := true, recurses := true, apart := false }
def FnExactWaitersSaid : Prop := fnExactWaitersRow.holds Try.pinned (OpenSpec.ofChange fnExactWaitersSpec)

/-- ITS FALSE NEIGHBOUR: 'it returns false'. Refute it at one input. -/
def fnExactWaitersWrong : ChangeSpec := { name := "fnExactWaiters", fn := fun _ => fun
  | [d1, d2] => { results := [.lit (.bool false)], args := [d1, d2] }
  | _ => none }
def FnExactWaitersWrongFalsely : Prop := fnExactWaitersRow.holds Try.pinned (OpenSpec.ofChange fnExactWaitersWrong)

/-- 'laws.FnExactHouseOk': WHATEVER THE INPUT: true; the input reads as it did. -/
def fnExactHouseOkSpec : ChangeSpec := { name := "fnExactHouseOk", fn := fun _ => fun
  | [d] => { results := [.lit (.bool true)], args := [d] }
  | _ => none }
def fnExactHouseOkRow : OpenClaim := { program := "ytahfemlfdpbkkaa", sum := "ddf09b6ebe8d142b7ad77a6bdc8ae86d5e99365b577821a70b0791bd4ba23db2", func := "loop.example/g00482/laws.FnExactHouseOk", spec := "fnExactHouseOk", unfollowed := true, recurses := true, apart := false }
def FnExactHouseOkSaid : Prop := fnExactHouseOkRow.holds Try.pinned (OpenSpec.ofChange fnExactHouseOkSpec)

/-- ITS FALSE NEIGHBOUR: 'it returns false'. Refute it at one input. -/
def fnExactHouseOkWrong : ChangeSpec := { name := "fnExactHouseOk", fn := fun _ => fun
  | [d] => { results := [.lit (.bool false)], args := [d] }
  | _ => none }
def FnExactHouseOkWrongFalsely : Prop := fnExactHouseOkRow.holds Try.pinned (OpenSpec.ofChange fnExactHouseOkWrong)

/-- 'laws.FnExactPutCtl': WHATEVER THE INPUT: true; the input reads as it did. -/
def fnExactPutCtlSpec : ChangeSpec := { name := "fnExactPutCtl", fn := fun _ => fun
  | [d] => { results := [.lit (.bool true)], args := [d] }
  | _ => none }
def fnExactPutCtlRow : OpenClaim := { program := "ytahfemlfdpbkkaa", sum := "ddf09b6ebe8d142b7ad77a6bdc8ae86d5e99365b577821a70b0791bd4ba23db2", func := "loop.example/g00482/laws.FnExactPutCtl", spec := "fnExactPutCtl", apart := false }
def FnExactPutCtlSaid : Prop := fnExactPutCtlRow.holds Try.pinned (OpenSpec.ofChange fnExactPutCtlSpec)

/-- ITS FALSE NEIGHBOUR: 'it returns false'. Refute it at one input. -/
def fnExactPutCtlWrong : ChangeSpec := { name := "fnExactPutCtl", fn := fun _ => fun
  | [d] => { results := [.lit (.bool false)], args := [d] }
  | _ => none }
def FnExactPutCtlWrongFalsely : Prop := fnExactPutCtlRow.holds Try.pinned (OpenSpec.ofChange fnExactPutCtlWrong)

/- THE SECOND FORM. 'bulk': how many values and letters a reading holds, each counted each time it is reached (what is shared counts as often as it is met; a slice's spare places count too). A statement '..UptoSaid' is the law's where the arguments, and the package variables that the reading takes, are together of bulk at most 1048576: NARROWER than '..Said'. Prove '..Said' where nothing that the law and all that it calls make is longer than what came in: it says more and counts as full. Else prove '..UptoSaid'. A law counts once. -/
mutual
def uptoBulk {H : Type} : DataW H → Nat
  | .lit (.string bytes) => bytes.length + 1
  | .lit _ => 1
  | .nil => 1
  | .ptr d => uptoBulk d + 1
  | .slice elems spare => uptoBulkAll elems + uptoBulkAll spare + 1
  | .agg parts => uptoBulkAll parts + 1
  | .iface _ d => uptoBulk d + 1
  | .map entries => uptoBulkEntries entries + 1
  | .held _ => 1
def uptoBulkAll {H : Type} : List (DataW H) → Nat
  | [] => 0
  | d :: r => uptoBulk d + uptoBulkAll r
def uptoBulkEntries {H : Type} : List (Lit × DataW H) → Nat
  | [] => 0
  | x :: r => uptoBulkEntry x + uptoBulkEntries r
def uptoBulkEntry {H : Type} : Lit × DataW H → Nat
  | (.string bytes, d) => bytes.length + uptoBulk d + 1
  | (_, d) => uptoBulk d + 1
 end
def uptoSmall : (H : Type) → List (DataW H) → Bool := fun _ ds => decide (uptoBulkAll ds ≤ 1048576)
def OpenSpec.upto (s : _root_.Go.ChangeSpec) : _root_.Go.OpenSpec := { _root_.Go.OpenSpec.ofChange s with cond := some uptoSmall }

/-- 'laws.FnExactTell', WHERE WHAT IT READS IS OF BULK AT MOST 1048576: true; the input reads as it did. -/
def fnExactTellUptoRow : OpenClaim := { program := "ytahfemlfdpbkkaa", sum := "ddf09b6ebe8d142b7ad77a6bdc8ae86d5e99365b577821a70b0791bd4ba23db2", func := "loop.example/g00482/laws.FnExactTell", spec := "fnExactTell", apart := false, narrowed := true }
def FnExactTellUptoSaid : Prop := fnExactTellUptoRow.holds Try.pinned (OpenSpec.upto fnExactTellSpec)

/-- 'laws.FnExactPutItem', WHERE WHAT IT READS IS OF BULK AT MOST 1048576: true; the input reads as it did. -/
def fnExactPutItemUptoRow : OpenClaim := { program := "ytahfemlfdpbkkaa", sum := "ddf09b6ebe8d142b7ad77a6bdc8ae86d5e99365b577821a70b0791bd4ba23db2", func := "loop.example/g00482/laws.FnExactPutItem", spec := "fnExactPutItem", apart := false, narrowed := true }
def FnExactPutItemUptoSaid : Prop := fnExactPutItemUptoRow.holds Try.pinned (OpenSpec.upto fnExactPutItemSpec)

/-- 'laws.FnExactParts', WHERE WHAT IT READS IS OF BULK AT MOST 1048576: true; the input reads as it did. -/
def fnExactPartsUptoRow : OpenClaim := { program := "ytahfemlfdpbkkaa", sum := "ddf09b6ebe8d142b7ad77a6bdc8ae86d5e99365b577821a70b0791bd4ba23db2", func := "loop.example/g00482/laws.FnExactParts", spec := "fnExactParts", apart := false, narrowed := true }
def FnExactPartsUptoSaid : Prop := fnExactPartsUptoRow.holds Try.pinned (OpenSpec.upto fnExactPartsSpec)

/-- 'laws.FnExactFreeLine', WHERE WHAT IT READS IS OF BULK AT MOST 1048576: true; the input reads as it did. -/
def fnExactFreeLineUptoRow : OpenClaim := { program := "ytahfemlfdpbkkaa", sum := "ddf09b6ebe8d142b7ad77a6bdc8ae86d5e99365b577821a70b0791bd4ba23db2", func := "loop.example/g00482/laws.FnExactFreeLine", spec := "fnExactFreeLine", apart := false, narrowed := true }
def FnExactFreeLineUptoSaid : Prop := fnExactFreeLineUptoRow.holds Try.pinned (OpenSpec.upto fnExactFreeLineSpec)

/-- 'laws.FnExactCount', WHERE WHAT IT READS IS OF BULK AT MOST 1048576: true; the input reads as it did. -/
def fnExactCountUptoRow : OpenClaim := { program := "ytahfemlfdpbkkaa", sum := "ddf09b6ebe8d142b7ad77a6bdc8ae86d5e99365b577821a70b0791bd4ba23db2", func := "loop.example/g00482/laws.FnExactCount", spec := "fnExactCount", apart := false, narrowed := true }
def FnExactCountUptoSaid : Prop := fnExactCountUptoRow.holds Try.pinned (OpenSpec.upto fnExactCountSpec)

/-- 'laws.FnExactMayOpen', WHERE WHAT IT READS IS OF BULK AT MOST 1048576: true; the input reads as it did. -/
def fnExactMayOpenUptoRow : OpenClaim := { program := "ytahfemlfdpbkkaa", sum := "ddf09b6ebe8d142b7ad77a6bdc8ae86d5e99365b577821a70b0791bd4ba23db2", func := "loop.example/g00482/laws.FnExactMayOpen", spec := "fnExactMayOpen", unfollowed := true, recurses := true, apart := false, narrowed := true }
def FnExactMayOpenUptoSaid : Prop := fnExactMayOpenUptoRow.holds Try.pinned (OpenSpec.upto fnExactMayOpenSpec)

/-- 'laws.FnExactGetItem', WHERE WHAT IT READS IS OF BULK AT MOST 1048576: true; the input reads as it did. -/
def fnExactGetItemUptoRow : OpenClaim := { program := "ytahfemlfdpbkkaa", sum := "ddf09b6ebe8d142b7ad77a6bdc8ae86d5e99365b577821a70b0791bd4ba23db2", func := "loop.example/g00482/laws.FnExactGetItem", spec := "fnExactGetItem", apart := false, narrowed := true }
def FnExactGetItemUptoSaid : Prop := fnExactGetItemUptoRow.holds Try.pinned (OpenSpec.upto fnExactGetItemSpec)

/-- 'laws.FnExactCtlOk', WHERE WHAT IT READS IS OF BULK AT MOST 1048576: true; the input reads as it did. -/
def fnExactCtlOkUptoRow : OpenClaim := { program := "ytahfemlfdpbkkaa", sum := "ddf09b6ebe8d142b7ad77a6bdc8ae86d5e99365b577821a70b0791bd4ba23db2", func := "loop.example/g00482/laws.FnExactCtlOk", spec := "fnExactCtlOk", apart := false, narrowed := true }
def FnExactCtlOkUptoSaid : Prop := fnExactCtlOkUptoRow.holds Try.pinned (OpenSpec.upto fnExactCtlOkSpec)

/-- 'laws.FnExactAnswer', WHERE WHAT IT READS IS OF BULK AT MOST 1048576: true; the input reads as it did. -/
def fnExactAnswerUptoRow : OpenClaim := { program := "ytahfemlfdpbkkaa", sum := "ddf09b6ebe8d142b7ad77a6bdc8ae86d5e99365b577821a70b0791bd4ba23db2", func := "loop.example/g00482/laws.FnExactAnswer", spec := "fnExactAnswer", apart := false, narrowed := true }
def FnExactAnswerUptoSaid : Prop := fnExactAnswerUptoRow.holds Try.pinned (OpenSpec.upto fnExactAnswerSpec)

/-- 'laws.FnExactWaiters', WHERE WHAT IT READS IS OF BULK AT MOST 1048576: true; the input reads as it did. -/
def fnExactWaitersUptoRow : OpenClaim := { program := "ytahfemlfdpbkkaa", sum := "ddf09b6ebe8d142b7ad77a6bdc8ae86d5e99365b577821a70b0791bd4ba23db2", func := "loop.example/g00482/laws.FnExactWaiters", spec := "fnExactWaiters", unfollowed := true, recurses := true, apart := false, narrowed := true }
def FnExactWaitersUptoSaid : Prop := fnExactWaitersUptoRow.holds Try.pinned (OpenSpec.upto fnExactWaitersSpec)

/-- 'laws.FnExactHouseOk', WHERE WHAT IT READS IS OF BULK AT MOST 1048576: true; the input reads as it did. -/
def fnExactHouseOkUptoRow : OpenClaim := { program := "ytahfemlfdpbkkaa", sum := "ddf09b6ebe8d142b7ad77a6bdc8ae86d5e99365b577821a70b0791bd4ba23db2", func := "loop.example/g00482/laws.FnExactHouseOk", spec := "fnExactHouseOk", unfollowed := true, recurses := true, apart := false, narrowed := true }
def FnExactHouseOkUptoSaid : Prop := fnExactHouseOkUptoRow.holds Try.pinned (OpenSpec.upto fnExactHouseOkSpec)

/-- 'laws.FnExactPutCtl', WHERE WHAT IT READS IS OF BULK AT MOST 1048576: true; the input reads as it did. -/
def fnExactPutCtlUptoRow : OpenClaim := { program := "ytahfemlfdpbkkaa", sum := "ddf09b6ebe8d142b7ad77a6bdc8ae86d5e99365b577821a70b0791bd4ba23db2", func := "loop.example/g00482/laws.FnExactPutCtl", spec := "fnExactPutCtl", apart := false, narrowed := true }
def FnExactPutCtlUptoSaid : Prop := fnExactPutCtlUptoRow.holds Try.pinned (OpenSpec.upto fnExactPutCtlSpec)

end Rows
end Go.Proofs.Ytahfemlfdpbkkaa
