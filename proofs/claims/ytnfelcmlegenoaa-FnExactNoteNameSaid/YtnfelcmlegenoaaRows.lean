/-
  No cell of these rows narrows 'for every input' (looked for: loops, veiled, ifaces, maps, wideKeys, modest, calm, conditions, laid).
  DERIVED. THE GIVEN ROWS OF THIS SEAT. 12 by the template 'for every input the law returns true; each argument reads behind the call as it read before'; 0 by the template 'total and deterministic' (their statements: YtnfelcmlegenoaaTotals.lean).
  GIVEN WITH THE SEED: the statements are not yours to turn. If you find one false, say at which input.
  Laid BY PROGRAM, IN A SANDBOX (cutbox-rows.mjs): the forced cells as the released guide's own fill.sh prints them over the translation e29f41a1a66029b8… (all of the seat's roots in one cut). By AI agents, Wed Nov 11 2026. No macro, syntax, notation, axiom, sorry.
-/
import Derived.Test.YtnfelcmlegenoaaChecked
import GoSem.Claim
import GoSem.ClaimJoined
import GoSem.ClaimMapViews
import Derived.JoinedTies
import Derived.KernelRfl
namespace Go.Proofs.Ytnfelcmlegenoaa
/- THE CELL 'sum', in the pinned program and in every row, IS THE sha256 OF THE DUMP (.gsa) THAT YtnfelcmlegenoaaProg.lean LOADS. Nothing in Lean hashes anything: it is a label: what it is worth is what the hold of that sum in a sandbox is worth. -/
noncomputable def Try.pinned : Pinned := { name := "ytnfelcmlegenoaa", sum := "e29f41a1a66029b83e1431aeb0358e88e3426785477232b07dac42e05bca3c06", checked := Try.checked }
namespace Rows
def none {H : Type} : Left H := { results := [], args := [] }

/-- 'laws.FnExactNoteName': WHATEVER THE INPUT: true; the input reads as it did. -/
def fnExactNoteNameSpec : ChangeSpec := { name := "fnExactNoteName", fn := fun _ => fun
  | [d] => { results := [.lit (.bool true)], args := [d] }
  | _ => none }
def fnExactNoteNameRow : OpenClaim := { program := "ytnfelcmlegenoaa", sum := "e29f41a1a66029b83e1431aeb0358e88e3426785477232b07dac42e05bca3c06", func := "loop.example/g00482/laws.FnExactNoteName", spec := "fnExactNoteName", apart := false }
def FnExactNoteNameSaid : Prop := fnExactNoteNameRow.holds Try.pinned (OpenSpec.ofChange fnExactNoteNameSpec)

/-- ITS FALSE NEIGHBOUR: 'it returns false'. Refute it at one input. -/
def fnExactNoteNameWrong : ChangeSpec := { name := "fnExactNoteName", fn := fun _ => fun
  | [d] => { results := [.lit (.bool false)], args := [d] }
  | _ => none }
def FnExactNoteNameWrongFalsely : Prop := fnExactNoteNameRow.holds Try.pinned (OpenSpec.ofChange fnExactNoteNameWrong)

/-- 'laws.FnExactNoteOk': WHATEVER THE INPUT: true; the input reads as it did. -/
def fnExactNoteOkSpec : ChangeSpec := { name := "fnExactNoteOk", fn := fun _ => fun
  | [d] => { results := [.lit (.bool true)], args := [d] }
  | _ => none }
def fnExactNoteOkRow : OpenClaim := { program := "ytnfelcmlegenoaa", sum := "e29f41a1a66029b83e1431aeb0358e88e3426785477232b07dac42e05bca3c06", func := "loop.example/g00482/laws.FnExactNoteOk", spec := "fnExactNoteOk", apart := false }
def FnExactNoteOkSaid : Prop := fnExactNoteOkRow.holds Try.pinned (OpenSpec.ofChange fnExactNoteOkSpec)

/-- ITS FALSE NEIGHBOUR: 'it returns false'. Refute it at one input. -/
def fnExactNoteOkWrong : ChangeSpec := { name := "fnExactNoteOk", fn := fun _ => fun
  | [d] => { results := [.lit (.bool false)], args := [d] }
  | _ => none }
def FnExactNoteOkWrongFalsely : Prop := fnExactNoteOkRow.holds Try.pinned (OpenSpec.ofChange fnExactNoteOkWrong)

/-- 'laws.FnExactWordOf': WHATEVER THE INPUT: true; the input reads as it did. -/
def fnExactWordOfSpec : ChangeSpec := { name := "fnExactWordOf", fn := fun _ => fun
  | [d] => { results := [.lit (.bool true)], args := [d] }
  | _ => none }
def fnExactWordOfRow : OpenClaim := { program := "ytnfelcmlegenoaa", sum := "e29f41a1a66029b83e1431aeb0358e88e3426785477232b07dac42e05bca3c06", func := "loop.example/g00482/laws.FnExactWordOf", spec := "fnExactWordOf", apart := false }
def FnExactWordOfSaid : Prop := fnExactWordOfRow.holds Try.pinned (OpenSpec.ofChange fnExactWordOfSpec)

/-- ITS FALSE NEIGHBOUR: 'it returns false'. Refute it at one input. -/
def fnExactWordOfWrong : ChangeSpec := { name := "fnExactWordOf", fn := fun _ => fun
  | [d] => { results := [.lit (.bool false)], args := [d] }
  | _ => none }
def FnExactWordOfWrongFalsely : Prop := fnExactWordOfRow.holds Try.pinned (OpenSpec.ofChange fnExactWordOfWrong)

/-- 'laws.FnExactNextSt': WHATEVER THE INPUT: true; the input reads as it did. -/
def fnExactNextStSpec : ChangeSpec := { name := "fnExactNextSt", fn := fun _ => fun
  | [d1, d2] => { results := [.lit (.bool true)], args := [d1, d2] }
  | _ => none }
def fnExactNextStRow : OpenClaim := { program := "ytnfelcmlegenoaa", sum := "e29f41a1a66029b83e1431aeb0358e88e3426785477232b07dac42e05bca3c06", func := "loop.example/g00482/laws.FnExactNextSt", spec := "fnExactNextSt", apart := false }
def FnExactNextStSaid : Prop := fnExactNextStRow.holds Try.pinned (OpenSpec.ofChange fnExactNextStSpec)

/-- ITS FALSE NEIGHBOUR: 'it returns false'. Refute it at one input. -/
def fnExactNextStWrong : ChangeSpec := { name := "fnExactNextSt", fn := fun _ => fun
  | [d1, d2] => { results := [.lit (.bool false)], args := [d1, d2] }
  | _ => none }
def FnExactNextStWrongFalsely : Prop := fnExactNextStRow.holds Try.pinned (OpenSpec.ofChange fnExactNextStWrong)

/-- 'laws.FnExactLineOk': WHATEVER THE INPUT: true; the input reads as it did. -/
def fnExactLineOkSpec : ChangeSpec := { name := "fnExactLineOk", fn := fun _ => fun
  | [d] => { results := [.lit (.bool true)], args := [d] }
  | _ => none }
def fnExactLineOkRow : OpenClaim := { program := "ytnfelcmlegenoaa", sum := "e29f41a1a66029b83e1431aeb0358e88e3426785477232b07dac42e05bca3c06", func := "loop.example/g00482/laws.FnExactLineOk", spec := "fnExactLineOk", apart := false }
def FnExactLineOkSaid : Prop := fnExactLineOkRow.holds Try.pinned (OpenSpec.ofChange fnExactLineOkSpec)

/-- ITS FALSE NEIGHBOUR: 'it returns false'. Refute it at one input. -/
def fnExactLineOkWrong : ChangeSpec := { name := "fnExactLineOk", fn := fun _ => fun
  | [d] => { results := [.lit (.bool false)], args := [d] }
  | _ => none }
def FnExactLineOkWrongFalsely : Prop := fnExactLineOkRow.holds Try.pinned (OpenSpec.ofChange fnExactLineOkWrong)

/-- 'laws.FnExactLineAt': WHATEVER THE INPUT: true; the input reads as it did. -/
def fnExactLineAtSpec : ChangeSpec := { name := "fnExactLineAt", fn := fun _ => fun
  | [d1, d2] => { results := [.lit (.bool true)], args := [d1, d2] }
  | _ => none }
def fnExactLineAtRow : OpenClaim := { program := "ytnfelcmlegenoaa", sum := "e29f41a1a66029b83e1431aeb0358e88e3426785477232b07dac42e05bca3c06", func := "loop.example/g00482/laws.FnExactLineAt", spec := "fnExactLineAt", unfollowed := true, recurses := true, apart := false }
def FnExactLineAtSaid : Prop := fnExactLineAtRow.holds Try.pinned (OpenSpec.ofChange fnExactLineAtSpec)

/-- ITS FALSE NEIGHBOUR: 'it returns false'. Refute it at one input. -/
def fnExactLineAtWrong : ChangeSpec := { name := "fnExactLineAt", fn := fun _ => fun
  | [d1, d2] => { results := [.lit (.bool false)], args := [d1, d2] }
  | _ => none }
def FnExactLineAtWrongFalsely : Prop := fnExactLineAtRow.holds Try.pinned (OpenSpec.ofChange fnExactLineAtWrong)

/-- 'laws.FnExactWayOk': WHATEVER THE INPUT: true; the input reads as it did. -/
def fnExactWayOkSpec : ChangeSpec := { name := "fnExactWayOk", fn := fun _ => fun
  | [d] => { results := [.lit (.bool true)], args := [d] }
  | _ => none }
def fnExactWayOkRow : OpenClaim := { program := "ytnfelcmlegenoaa", sum := "e29f41a1a66029b83e1431aeb0358e88e3426785477232b07dac42e05bca3c06", func := "loop.example/g00482/laws.FnExactWayOk", spec := "fnExactWayOk", apart := false }
def FnExactWayOkSaid : Prop := fnExactWayOkRow.holds Try.pinned (OpenSpec.ofChange fnExactWayOkSpec)

/-- ITS FALSE NEIGHBOUR: 'it returns false'. Refute it at one input. -/
def fnExactWayOkWrong : ChangeSpec := { name := "fnExactWayOk", fn := fun _ => fun
  | [d] => { results := [.lit (.bool false)], args := [d] }
  | _ => none }
def FnExactWayOkWrongFalsely : Prop := fnExactWayOkRow.holds Try.pinned (OpenSpec.ofChange fnExactWayOkWrong)

/-- 'laws.FnExactSockOk': WHATEVER THE INPUT: true; the input reads as it did. -/
def fnExactSockOkSpec : ChangeSpec := { name := "fnExactSockOk", fn := fun _ => fun
  | [d] => { results := [.lit (.bool true)], args := [d] }
  | _ => none }
def fnExactSockOkRow : OpenClaim := { program := "ytnfelcmlegenoaa", sum := "e29f41a1a66029b83e1431aeb0358e88e3426785477232b07dac42e05bca3c06", func := "loop.example/g00482/laws.FnExactSockOk", spec := "fnExactSockOk", apart := false }
def FnExactSockOkSaid : Prop := fnExactSockOkRow.holds Try.pinned (OpenSpec.ofChange fnExactSockOkSpec)

/-- ITS FALSE NEIGHBOUR: 'it returns false'. Refute it at one input. -/
def fnExactSockOkWrong : ChangeSpec := { name := "fnExactSockOk", fn := fun _ => fun
  | [d] => { results := [.lit (.bool false)], args := [d] }
  | _ => none }
def FnExactSockOkWrongFalsely : Prop := fnExactSockOkRow.holds Try.pinned (OpenSpec.ofChange fnExactSockOkWrong)

/-- 'laws.FnExactAskerAt': WHATEVER THE INPUT: true; the input reads as it did. -/
def fnExactAskerAtSpec : ChangeSpec := { name := "fnExactAskerAt", fn := fun _ => fun
  | [d1, d2] => { results := [.lit (.bool true)], args := [d1, d2] }
  | _ => none }
def fnExactAskerAtRow : OpenClaim := { program := "ytnfelcmlegenoaa", sum := "e29f41a1a66029b83e1431aeb0358e88e3426785477232b07dac42e05bca3c06", func := "loop.example/g00482/laws.FnExactAskerAt", spec := "fnExactAskerAt", unfollowed := true, recurses := true, apart := false }
def FnExactAskerAtSaid : Prop := fnExactAskerAtRow.holds Try.pinned (OpenSpec.ofChange fnExactAskerAtSpec)

/-- ITS FALSE NEIGHBOUR: 'it returns false'. Refute it at one input. -/
def fnExactAskerAtWrong : ChangeSpec := { name := "fnExactAskerAt", fn := fun _ => fun
  | [d1, d2] => { results := [.lit (.bool false)], args := [d1, d2] }
  | _ => none }
def FnExactAskerAtWrongFalsely : Prop := fnExactAskerAtRow.holds Try.pinned (OpenSpec.ofChange fnExactAskerAtWrong)

/-- 'laws.FnExactWalk': WHATEVER THE INPUT: true; the input reads as it did. -/
def fnExactWalkSpec : ChangeSpec := { name := "fnExactWalk", fn := fun _ => fun
  | [d1, d2] => { results := [.lit (.bool true)], args := [d1, d2] }
  | _ => none }
def fnExactWalkRow : OpenClaim := { program := "ytnfelcmlegenoaa", sum := "e29f41a1a66029b83e1431aeb0358e88e3426785477232b07dac42e05bca3c06", func := "loop.example/g00482/laws.FnExactWalk", spec := "fnExactWalk", apart := false }
def FnExactWalkSaid : Prop := fnExactWalkRow.holds Try.pinned (OpenSpec.ofChange fnExactWalkSpec)

/-- ITS FALSE NEIGHBOUR: 'it returns false'. Refute it at one input. -/
def fnExactWalkWrong : ChangeSpec := { name := "fnExactWalk", fn := fun _ => fun
  | [d1, d2] => { results := [.lit (.bool false)], args := [d1, d2] }
  | _ => none }
def FnExactWalkWrongFalsely : Prop := fnExactWalkRow.holds Try.pinned (OpenSpec.ofChange fnExactWalkWrong)

/-- 'laws.FnExactAskerOk': WHATEVER THE INPUT: true; the input reads as it did. -/
def fnExactAskerOkSpec : ChangeSpec := { name := "fnExactAskerOk", fn := fun _ => fun
  | [d] => { results := [.lit (.bool true)], args := [d] }
  | _ => none }
def fnExactAskerOkRow : OpenClaim := { program := "ytnfelcmlegenoaa", sum := "e29f41a1a66029b83e1431aeb0358e88e3426785477232b07dac42e05bca3c06", func := "loop.example/g00482/laws.FnExactAskerOk", spec := "fnExactAskerOk", apart := false }
def FnExactAskerOkSaid : Prop := fnExactAskerOkRow.holds Try.pinned (OpenSpec.ofChange fnExactAskerOkSpec)

/-- ITS FALSE NEIGHBOUR: 'it returns false'. Refute it at one input. -/
def fnExactAskerOkWrong : ChangeSpec := { name := "fnExactAskerOk", fn := fun _ => fun
  | [d] => { results := [.lit (.bool false)], args := [d] }
  | _ => none }
def FnExactAskerOkWrongFalsely : Prop := fnExactAskerOkRow.holds Try.pinned (OpenSpec.ofChange fnExactAskerOkWrong)

/-- 'laws.FnExactSockAt': WHATEVER THE INPUT: true; the input reads as it did. -/
def fnExactSockAtSpec : ChangeSpec := { name := "fnExactSockAt", fn := fun _ => fun
  | [d1, d2] => { results := [.lit (.bool true)], args := [d1, d2] }
  | _ => none }
def fnExactSockAtRow : OpenClaim := { program := "ytnfelcmlegenoaa", sum := "e29f41a1a66029b83e1431aeb0358e88e3426785477232b07dac42e05bca3c06", func := "loop.example/g00482/laws.FnExactSockAt", spec := "fnExactSockAt", unfollowed := true, recurses := true, apart := false }
def FnExactSockAtSaid : Prop := fnExactSockAtRow.holds Try.pinned (OpenSpec.ofChange fnExactSockAtSpec)

/-- ITS FALSE NEIGHBOUR: 'it returns false'. Refute it at one input. -/
def fnExactSockAtWrong : ChangeSpec := { name := "fnExactSockAt", fn := fun _ => fun
  | [d1, d2] => { results := [.lit (.bool false)], args := [d1, d2] }
  | _ => none }
def FnExactSockAtWrongFalsely : Prop := fnExactSockAtRow.holds Try.pinned (OpenSpec.ofChange fnExactSockAtWrong)

/- THE SECOND FORM. 'bulk': how many values and letters a reading holds, each counted each time it is reached (what is shared counts as often as it is met; a slice's spare places count too). A statement '..UptoSaid' is the law's where the arguments, and the package variables that the reading takes, are together of bulk at most 1048576: NARROWER than '..Said'. Prove '..Said' where nothing that the law and all that it calls make is longer than what came in: it says more and counts as full. Else prove '..UptoSaid'. A law counts once. -/
mutual
def uptoBulk {H : Type} : DataW H → Nat
  | .lit (.string bytes) => bytes.length + 1
  | .lit _ => 1
  | .nil => 1
  | .ptr d => uptoBulk d + 1
  | .slice elems spare => uptoBulkAll elems + uptoBulkAll spare + 1
  | .agg parts => uptoBulkAll parts + 1
  | .iface _ d => uptoBulk d + 1
  | .map entries => uptoBulkEntries entries + 1
  | .held _ => 1
def uptoBulkAll {H : Type} : List (DataW H) → Nat
  | [] => 0
  | d :: r => uptoBulk d + uptoBulkAll r
def uptoBulkEntries {H : Type} : List (Lit × DataW H) → Nat
  | [] => 0
  | x :: r => uptoBulkEntry x + uptoBulkEntries r
def uptoBulkEntry {H : Type} : Lit × DataW H → Nat
  | (.string bytes, d) => bytes.length + uptoBulk d + 1
  | (_, d) => uptoBulk d + 1
 end
def uptoSmall : (H : Type) → List (DataW H) → Bool := fun _ ds => decide (uptoBulkAll ds ≤ 1048576)
def OpenSpec.upto (s : _root_.Go.ChangeSpec) : _root_.Go.OpenSpec := { _root_.Go.OpenSpec.ofChange s with cond := some uptoSmall }

/-- 'laws.FnExactNoteName', WHERE WHAT IT READS IS OF BULK AT MOST 1048576: true; the input reads as it did. -/
def fnExactNoteNameUptoRow : OpenClaim := { program := "ytnfelcmlegenoaa", sum := "e29f41a1a66029b83e1431aeb0358e88e3426785477232b07dac42e05bca3c06", func := "loop.example/g00482/laws.FnExactNoteName", spec := "fnExactNoteName", apart := false, narrowed := true }
def FnExactNoteNameUptoSaid : Prop := fnExactNoteNameUptoRow.holds Try.pinned (OpenSpec.upto fnExactNoteNameSpec)

/-- 'laws.FnExactNoteOk', WHERE WHAT IT READS IS OF BULK AT MOST 1048576: true; the input reads as it did. -/
def fnExactNoteOkUptoRow : OpenClaim := { program := "ytnfelcmlegenoaa", sum := "e29f41a1a66029b83e1431aeb0358e88e3426785477232b07dac42e05bca3c06", func := "loop.example/g00482/laws.FnExactNoteOk", spec := "fnExactNoteOk", apart := false, narrowed := true }
def FnExactNoteOkUptoSaid : Prop := fnExactNoteOkUptoRow.holds Try.pinned (OpenSpec.upto fnExactNoteOkSpec)

/-- 'laws.FnExactWordOf', WHERE WHAT IT READS IS OF BULK AT MOST 1048576: true; the input reads as it did. -/
def fnExactWordOfUptoRow : OpenClaim := { program := "ytnfelcmlegenoaa", sum := "e29f41a1a66029b83e1431aeb0358e88e3426785477232b07dac42e05bca3c06", func := "loop.example/g00482/laws.FnExactWordOf", spec := "fnExactWordOf", apart := false, narrowed := true }
def FnExactWordOfUptoSaid : Prop := fnExactWordOfUptoRow.holds Try.pinned (OpenSpec.upto fnExactWordOfSpec)

/-- 'laws.FnExactNextSt', WHERE WHAT IT READS IS OF BULK AT MOST 1048576: true; the input reads as it did. -/
def fnExactNextStUptoRow : OpenClaim := { program := "ytnfelcmlegenoaa", sum := "e29f41a1a66029b83e1431aeb0358e88e3426785477232b07dac42e05bca3c06", func := "loop.example/g00482/laws.FnExactNextSt", spec := "fnExactNextSt", apart := false, narrowed := true }
def FnExactNextStUptoSaid : Prop := fnExactNextStUptoRow.holds Try.pinned (OpenSpec.upto fnExactNextStSpec)

/-- 'laws.FnExactLineOk', WHERE WHAT IT READS IS OF BULK AT MOST 1048576: true; the input reads as it did. -/
def fnExactLineOkUptoRow : OpenClaim := { program := "ytnfelcmlegenoaa", sum := "e29f41a1a66029b83e1431aeb0358e88e3426785477232b07dac42e05bca3c06", func := "loop.example/g00482/laws.FnExactLineOk", spec := "fnExactLineOk", apart := false, narrowed := true }
def FnExactLineOkUptoSaid : Prop := fnExactLineOkUptoRow.holds Try.pinned (OpenSpec.upto fnExactLineOkSpec)

/-- 'laws.FnExactLineAt', WHERE WHAT IT READS IS OF BULK AT MOST 1048576: true; the input reads as it did. -/
def fnExactLineAtUptoRow : OpenClaim := { program := "ytnfelcmlegenoaa", sum := "e29f41a1a66029b83e1431aeb0358e88e3426785477232b07dac42e05bca3c06", func := "loop.example/g00482/laws.FnExactLineAt", spec := "fnExactLineAt", unfollowed := true, recurses := true, apart := false, narrowed := true }
def FnExactLineAtUptoSaid : Prop := fnExactLineAtUptoRow.holds Try.pinned (OpenSpec.upto fnExactLineAtSpec)

/-- 'laws.FnExactWayOk', WHERE WHAT IT READS IS OF BULK AT MOST 1048576: true; the input reads as it did. -/
def fnExactWayOkUptoRow : OpenClaim := { program := "ytnfelcmlegenoaa", sum := "e29f41a1a66029b83e1431aeb0358e88e3426785477232b07dac42e05bca3c06", func := "loop.example/g00482/laws.FnExactWayOk", spec := "fnExactWayOk", apart := false, narrowed := true }
def FnExactWayOkUptoSaid : Prop := fnExactWayOkUptoRow.holds Try.pinned (OpenSpec.upto fnExactWayOkSpec)

/-- 'laws.FnExactSockOk', WHERE WHAT IT READS IS OF BULK AT MOST 1048576: true; the input reads as it did. -/
def fnExactSockOkUptoRow : OpenClaim := { program := "ytnfelcmlegenoaa", sum := "e29f41a1a66029b83e1431aeb0358e88e3426785477232b07dac42e05bca3c06", func := "loop.example/g00482/laws.FnExactSockOk", spec := "fnExactSockOk", apart := false, narrowed := true }
def FnExactSockOkUptoSaid : Prop := fnExactSockOkUptoRow.holds Try.pinned (OpenSpec.upto fnExactSockOkSpec)

/-- 'laws.FnExactAskerAt', WHERE WHAT IT READS IS OF BULK AT MOST 1048576: true; the input reads as it did. -/
def fnExactAskerAtUptoRow : OpenClaim := { program := "ytnfelcmlegenoaa", sum := "e29f41a1a66029b83e1431aeb0358e88e3426785477232b07dac42e05bca3c06", func := "loop.example/g00482/laws.FnExactAskerAt", spec := "fnExactAskerAt", unfollowed := true, recurses := true, apart := false, narrowed := true }
def FnExactAskerAtUptoSaid : Prop := fnExactAskerAtUptoRow.holds Try.pinned (OpenSpec.upto fnExactAskerAtSpec)

/-- 'laws.FnExactWalk', WHERE WHAT IT READS IS OF BULK AT MOST 1048576: true; the input reads as it did. -/
def fnExactWalkUptoRow : OpenClaim := { program := "ytnfelcmlegenoaa", sum := "e29f41a1a66029b83e1431aeb0358e88e3426785477232b07dac42e05bca3c06", func := "loop.example/g00482/laws.FnExactWalk", spec := "fnExactWalk", apart := false, narrowed := true }
def FnExactWalkUptoSaid : Prop := fnExactWalkUptoRow.holds Try.pinned (OpenSpec.upto fnExactWalkSpec)

/-- 'laws.FnExactAskerOk', WHERE WHAT IT READS IS OF BULK AT MOST 1048576: true; the input reads as it did. -/
def fnExactAskerOkUptoRow : OpenClaim := { program := "ytnfelcmlegenoaa", sum := "e29f41a1a66029b83e1431aeb0358e88e3426785477232b07dac42e05bca3c06", func := "loop.example/g00482/laws.FnExactAskerOk", spec := "fnExactAskerOk", apart := false, narrowed := true }
def FnExactAskerOkUptoSaid : Prop := fnExactAskerOkUptoRow.holds Try.pinned (OpenSpec.upto fnExactAskerOkSpec)

/-- 'laws.FnExactSockAt', WHERE WHAT IT READS IS OF BULK AT MOST 1048576: true; the input reads as it did. -/
def fnExactSockAtUptoRow : OpenClaim := { program := "ytnfelcmlegenoaa", sum := "e29f41a1a66029b83e1431aeb0358e88e3426785477232b07dac42e05bca3c06", func := "loop.example/g00482/laws.FnExactSockAt", spec := "fnExactSockAt", unfollowed := true, recurses := true, apart := false, narrowed := true }
def FnExactSockAtUptoSaid : Prop := fnExactSockAtUptoRow.holds Try.pinned (OpenSpec.upto fnExactSockAtSpec)

end Rows
end Go.Proofs.Ytnfelcmlegenoaa
