/-
  No cell of these rows narrows 'for every input' (looked for: loops, veiled, ifaces, maps, wideKeys, modest, calm, conditions, laid).
  DERIVED. THE GIVEN ROWS OF THIS SEAT. 7 by the template 'for every input the law returns true; each argument reads behind the call as it read before'; 0 by the template 'total and deterministic' (their statements: YtaimfkfpglhijaaTotals.lean).
  GIVEN WITH THE SEED: the statements are not yours to turn. If you find one false, say at which input.
  Laid BY PROGRAM, IN A SANDBOX (cutbox-rows.mjs): the forced cells as the released guide's own fill.sh prints them over the translation 22c93227179dadb3… (all of the seat's roots in one cut). By AI agents, Wed Nov 11 2026. No macro, syntax, notation, axiom, sorry.
-/
import Derived.Test.YtaimfkfpglhijaaChecked
import GoSem.Claim
import GoSem.ClaimJoined
import GoSem.ClaimMapViews
import Derived.JoinedTies
import Derived.KernelRfl
namespace Go.Proofs.Ytaimfkfpglhijaa
/- THE CELL 'sum', in the pinned program and in every row, IS THE sha256 OF THE DUMP (.gsa) THAT YtaimfkfpglhijaaProg.lean LOADS. Nothing in Lean hashes anything: it is a label: what it is worth is what the hold of that sum in a sandbox is worth. -/
noncomputable def Try.pinned : Pinned := { name := "ytaimfkfpglhijaa", sum := "22c93227179dadb3d8abe318bb505194992cdbb90bb64bc2fc189f9dd05b1eda", checked := Try.checked }
namespace Rows
def none {H : Type} : Left H := { results := [], args := [] }

/-- 'laws.FnItems': WHATEVER THE INPUT: true; the input reads as it did. -/
def fnItemsSpec : ChangeSpec := { name := "fnItems", fn := fun _ => fun
  | [d] => { results := [.lit (.bool true)], args := [d] }
  | _ => none }
def fnItemsRow : OpenClaim := { program := "ytaimfkfpglhijaa", sum := "22c93227179dadb3d8abe318bb505194992cdbb90bb64bc2fc189f9dd05b1eda", func := "loop.example/g00482/laws.FnItems", spec := "fnItems", apart := false }
def FnItemsSaid : Prop := fnItemsRow.holds Try.pinned (OpenSpec.ofChange fnItemsSpec)

/-- ITS FALSE NEIGHBOUR: 'it returns false'. Refute it at one input. -/
def fnItemsWrong : ChangeSpec := { name := "fnItems", fn := fun _ => fun
  | [d] => { results := [.lit (.bool false)], args := [d] }
  | _ => none }
def FnItemsWrongFalsely : Prop := fnItemsRow.holds Try.pinned (OpenSpec.ofChange fnItemsWrong)

/-- 'laws.FnFar': WHATEVER THE INPUT: true; the input reads as it did. -/
def fnFarSpec : ChangeSpec := { name := "fnFar", fn := fun _ => fun
  | [d] => { results := [.lit (.bool true)], args := [d] }
  | _ => none }
def fnFarRow : OpenClaim := { program := "ytaimfkfpglhijaa", sum := "22c93227179dadb3d8abe318bb505194992cdbb90bb64bc2fc189f9dd05b1eda", func := "loop.example/g00482/laws.FnFar", spec := "fnFar", apart := false }
def FnFarSaid : Prop := fnFarRow.holds Try.pinned (OpenSpec.ofChange fnFarSpec)

/-- ITS FALSE NEIGHBOUR: 'it returns false'. Refute it at one input. -/
def fnFarWrong : ChangeSpec := { name := "fnFar", fn := fun _ => fun
  | [d] => { results := [.lit (.bool false)], args := [d] }
  | _ => none }
def FnFarWrongFalsely : Prop := fnFarRow.holds Try.pinned (OpenSpec.ofChange fnFarWrong)

/-- 'laws.FnSocks': WHATEVER THE INPUT: true; the input reads as it did. -/
def fnSocksSpec : ChangeSpec := { name := "fnSocks", fn := fun _ => fun
  | [d] => { results := [.lit (.bool true)], args := [d] }
  | _ => none }
def fnSocksRow : OpenClaim := { program := "ytaimfkfpglhijaa", sum := "22c93227179dadb3d8abe318bb505194992cdbb90bb64bc2fc189f9dd05b1eda", func := "loop.example/g00482/laws.FnSocks", spec := "fnSocks", apart := false }
def FnSocksSaid : Prop := fnSocksRow.holds Try.pinned (OpenSpec.ofChange fnSocksSpec)

/-- ITS FALSE NEIGHBOUR: 'it returns false'. Refute it at one input. -/
def fnSocksWrong : ChangeSpec := { name := "fnSocks", fn := fun _ => fun
  | [d] => { results := [.lit (.bool false)], args := [d] }
  | _ => none }
def FnSocksWrongFalsely : Prop := fnSocksRow.holds Try.pinned (OpenSpec.ofChange fnSocksWrong)

/-- 'laws.FnWays': WHATEVER THE INPUT: true; the input reads as it did. -/
def fnWaysSpec : ChangeSpec := { name := "fnWays", fn := fun _ => fun
  | [d] => { results := [.lit (.bool true)], args := [d] }
  | _ => none }
def fnWaysRow : OpenClaim := { program := "ytaimfkfpglhijaa", sum := "22c93227179dadb3d8abe318bb505194992cdbb90bb64bc2fc189f9dd05b1eda", func := "loop.example/g00482/laws.FnWays", spec := "fnWays", apart := false }
def FnWaysSaid : Prop := fnWaysRow.holds Try.pinned (OpenSpec.ofChange fnWaysSpec)

/-- ITS FALSE NEIGHBOUR: 'it returns false'. Refute it at one input. -/
def fnWaysWrong : ChangeSpec := { name := "fnWays", fn := fun _ => fun
  | [d] => { results := [.lit (.bool false)], args := [d] }
  | _ => none }
def FnWaysWrongFalsely : Prop := fnWaysRow.holds Try.pinned (OpenSpec.ofChange fnWaysWrong)

/-- 'laws.FnCtls': WHATEVER THE INPUT: true; the input reads as it did. -/
def fnCtlsSpec : ChangeSpec := { name := "fnCtls", fn := fun _ => fun
  | [d] => { results := [.lit (.bool true)], args := [d] }
  | _ => none }
def fnCtlsRow : OpenClaim := { program := "ytaimfkfpglhijaa", sum := "22c93227179dadb3d8abe318bb505194992cdbb90bb64bc2fc189f9dd05b1eda", func := "loop.example/g00482/laws.FnCtls", spec := "fnCtls", apart := false }
def FnCtlsSaid : Prop := fnCtlsRow.holds Try.pinned (OpenSpec.ofChange fnCtlsSpec)

/-- ITS FALSE NEIGHBOUR: 'it returns false'. Refute it at one input. -/
def fnCtlsWrong : ChangeSpec := { name := "fnCtls", fn := fun _ => fun
  | [d] => { results := [.lit (.bool false)], args := [d] }
  | _ => none }
def FnCtlsWrongFalsely : Prop := fnCtlsRow.holds Try.pinned (OpenSpec.ofChange fnCtlsWrong)

/-- 'laws.FnParts': WHATEVER THE INPUT: true; the input reads as it did. -/
def fnPartsSpec : ChangeSpec := { name := "fnParts", fn := fun _ => fun
  | [d] => { results := [.lit (.bool true)], args := [d] }
  | _ => none }
def fnPartsRow : OpenClaim := { program := "ytaimfkfpglhijaa", sum := "22c93227179dadb3d8abe318bb505194992cdbb90bb64bc2fc189f9dd05b1eda", func := "loop.example/g00482/laws.FnParts", spec := "fnParts", unfollowed := true, recurses := true, apart := false }
def FnPartsSaid : Prop := fnPartsRow.holds Try.pinned (OpenSpec.ofChange fnPartsSpec)

/-- ITS FALSE NEIGHBOUR: 'it returns false'. Refute it at one input. -/
def fnPartsWrong : ChangeSpec := { name := "fnParts", fn := fun _ => fun
  | [d] => { results := [.lit (.bool false)], args := [d] }
  | _ => none }
def FnPartsWrongFalsely : Prop := fnPartsRow.holds Try.pinned (OpenSpec.ofChange fnPartsWrong)

/-- 'laws.FnHouses': WHATEVER THE INPUT: true; the input reads as it did. -/
def fnHousesSpec : ChangeSpec := { name := "fnHouses", fn := fun _ => fun
  | [d] => { results := [.lit (.bool true)], args := [d] }
  | _ => none }
def fnHousesRow : OpenClaim := { program := "ytaimfkfpglhijaa", sum := "22c93227179dadb3d8abe318bb505194992cdbb90bb64bc2fc189f9dd05b1eda", func := "loop.example/g00482/laws.FnHouses", spec := "fnHouses", unfollowed := true, recurses := true, apart := false }
def FnHousesSaid : Prop := fnHousesRow.holds Try.pinned (OpenSpec.ofChange fnHousesSpec)

/-- ITS FALSE NEIGHBOUR: 'it returns false'. Refute it at one input. -/
def fnHousesWrong : ChangeSpec := { name := "fnHouses", fn := fun _ => fun
  | [d] => { results := [.lit (.bool false)], args := [d] }
  | _ => none }
def FnHousesWrongFalsely : Prop := fnHousesRow.holds Try.pinned (OpenSpec.ofChange fnHousesWrong)

/- THE SECOND FORM. 'bulk': how many values and letters a reading holds, each counted each time it is reached (what is shared counts as often as it is met; a slice's spare places count too). A statement '..UptoSaid' is the law's where the arguments, and the package variables that the reading takes, are together of bulk at most 1048576: NARROWER than '..Said'. Prove '..Said' where nothing that the law and all that it calls make is longer than what came in: it says more and counts as full. Else prove '..UptoSaid'. A law counts once. -/
mutual
def uptoBulk {H : Type} : DataW H → Nat
  | .lit (.string bytes) => bytes.length + 1
  | .lit _ => 1
  | .nil => 1
  | .ptr d => uptoBulk d + 1
  | .slice elems spare => uptoBulkAll elems + uptoBulkAll spare + 1
  | .agg parts => uptoBulkAll parts + 1
  | .iface _ d => uptoBulk d + 1
  | .map entries => uptoBulkEntries entries + 1
  | .held _ => 1
def uptoBulkAll {H : Type} : List (DataW H) → Nat
  | [] => 0
  | d :: r => uptoBulk d + uptoBulkAll r
def uptoBulkEntries {H : Type} : List (Lit × DataW H) → Nat
  | [] => 0
  | x :: r => uptoBulkEntry x + uptoBulkEntries r
def uptoBulkEntry {H : Type} : Lit × DataW H → Nat
  | (.string bytes, d) => bytes.length + uptoBulk d + 1
  | (_, d) => uptoBulk d + 1
 end
def uptoSmall : (H : Type) → List (DataW H) → Bool := fun _ ds => decide (uptoBulkAll ds ≤ 1048576)
def OpenSpec.upto (s : _root_.Go.ChangeSpec) : _root_.Go.OpenSpec := { _root_.Go.OpenSpec.ofChange s with cond := some uptoSmall }

/-- 'laws.FnItems', WHERE WHAT IT READS IS OF BULK AT MOST 1048576: true; the input reads as it did. -/
def fnItemsUptoRow : OpenClaim := { program := "ytaimfkfpglhijaa", sum := "22c93227179dadb3d8abe318bb505194992cdbb90bb64bc2fc189f9dd05b1eda", func := "loop.example/g00482/laws.FnItems", spec := "fnItems", apart := false, narrowed := true }
def FnItemsUptoSaid : Prop := fnItemsUptoRow.holds Try.pinned (OpenSpec.upto fnItemsSpec)

/-- 'laws.FnFar', WHERE WHAT IT READS IS OF BULK AT MOST 1048576: true; the input reads as it did. -/
def fnFarUptoRow : OpenClaim := { program := "ytaimfkfpglhijaa", sum := "22c93227179dadb3d8abe318bb505194992cdbb90bb64bc2fc189f9dd05b1eda", func := "loop.example/g00482/laws.FnFar", spec := "fnFar", apart := false, narrowed := true }
def FnFarUptoSaid : Prop := fnFarUptoRow.holds Try.pinned (OpenSpec.upto fnFarSpec)

/-- 'laws.FnSocks', WHERE WHAT IT READS IS OF BULK AT MOST 1048576: true; the input reads as it did. -/
def fnSocksUptoRow : OpenClaim := { program := "ytaimfkfpglhijaa", sum := "22c93227179dadb3d8abe318bb505194992cdbb90bb64bc2fc189f9dd05b1eda", func := "loop.example/g00482/laws.FnSocks", spec := "fnSocks", apart := false, narrowed := true }
def FnSocksUptoSaid : Prop := fnSocksUptoRow.holds Try.pinned (OpenSpec.upto fnSocksSpec)

/-- 'laws.FnWays', WHERE WHAT IT READS IS OF BULK AT MOST 1048576: true; the input reads as it did. -/
def fnWaysUptoRow : OpenClaim := { program := "ytaimfkfpglhijaa", sum := "22c93227179dadb3d8abe318bb505194992cdbb90bb64bc2fc189f9dd05b1eda", func := "loop.example/g00482/laws.FnWays", spec := "fnWays", apart := false, narrowed := true }
def FnWaysUptoSaid : Prop := fnWaysUptoRow.holds Try.pinned (OpenSpec.upto fnWaysSpec)

/-- 'laws.FnCtls', WHERE WHAT IT READS IS OF BULK AT MOST 1048576: true; the input reads as it did. -/
def fnCtlsUptoRow : OpenClaim := { program := "ytaimfkfpglhijaa", sum := "22c93227179dadb3d8abe318bb505194992cdbb90bb64bc2fc189f9dd05b1eda", func := "loop.example/g00482/laws.FnCtls", spec := "fnCtls", apart := false, narrowed := true }
def FnCtlsUptoSaid : Prop := fnCtlsUptoRow.holds Try.pinned (OpenSpec.upto fnCtlsSpec)

/-- 'laws.FnParts', WHERE WHAT IT READS IS OF BULK AT MOST 1048576: true; the input reads as it did. -/
def fnPartsUptoRow : OpenClaim := { program := "ytaimfkfpglhijaa", sum := "22c93227179dadb3d8abe318bb505194992cdbb90bb64bc2fc189f9dd05b1eda", func := "loop.example/g00482/laws.FnParts", spec := "fnParts", unfollowed := true, recurses := true, apart := false, narrowed := true }
def FnPartsUptoSaid : Prop := fnPartsUptoRow.holds Try.pinned (OpenSpec.upto fnPartsSpec)

/-- 'laws.FnHouses', WHERE WHAT IT READS IS OF BULK AT MOST 1048576: true; the input reads as it did. -/
def fnHousesUptoRow : OpenClaim := { program := "ytaimfkfpglhijaa", sum := "22c93227179dadb3d8abe318bb505194992cdbb90bb64bc2fc189f9dd05b1eda", func := "loop.example/g00482/laws.FnHouses", spec := "fnHouses", unfollowed := true, recurses := true, apart := false, narrowed := true }
def FnHousesUptoSaid : Prop := fnHousesUptoRow.holds Try.pinned (OpenSpec.upto fnHousesSpec)

end Rows
end Go.Proofs.Ytaimfkfpglhijaa
