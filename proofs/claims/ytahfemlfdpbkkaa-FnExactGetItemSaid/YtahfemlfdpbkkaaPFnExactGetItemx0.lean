-- Written by a program of this session (myprint.py, over the kit's print): contracts of FnExactGetItem
import Derived.Test.YtahfemlfdpbkkaaProg
import Derived.Test.YtahfemlfdpbkkaaVExt
import Derived.Test.YtahfemlfdpbkkaaVConv
import Derived.Test.YtahfemlfdpbkkaaVFar
import Derived.Test.YtahfemlfdpbkkaaVSq
import Derived.Below
import Derived.Deep.Draws
import Derived.Deep.AppendLies
import Derived.Maps.AppendAt
import Derived.OwnWalk
import Derived.Laws.BytesArg
import Derived.Laws.MakeOwn
import Derived.Laws.OwnMore
import Derived.Deep.OwnRows
import Derived.Tactics
import Derived.Lib.ConvBytes
import Derived.Laws.Slices
import Derived.WalkKit
import Derived.KernelRfl
import Derived.RowKit3
import Derived.Deep.LoopGhost
import Derived.Deep.QuietTactic
import Derived.BigQuiet
import Derived.WideLaws
import Derived.Deep.DeepCutAuto
import Derived.Deep.CutBlock
import Derived.Deep.RegionHeld3
import Derived.Laws.Rows
import Derived.Lib.AppendStr
import Derived.ArgAppend
import Derived.Laws.IdiomCopy
import Derived.OrdersHeld
import Derived.Laws.BitsLemmas
import Derived.RowKit
import Derived.WalkSpells
import Derived.Shelf.Abstract
import Derived.Test.YtahfemlfdpbkkaaWWords
import Derived.Test.YtahfemlfdpbkkaaWLast
import Derived.Test.YtahfemlfdpbkkaaWTab
import Derived.Test.YtahfemlfdpbkkaaWFour
import Derived.Test.YtahfemlfdpbkkaaWQPut
import Derived.Test.YtahfemlfdpbkkaaWApart
import Derived.Test.YtahfemlfdpbkkaaWArr
import Derived.Test.YtahfemlfdpbkkaaWZeros
import Derived.Test.YtahfemlfdpbkkaaWFoot
import Derived.Test.YtahfemlfdpbkkaaWKept
import Derived.Test.YtahfemlfdpbkkaaWShare
import Derived.Test.YtahfemlfdpbkkaaWN
import Derived.Test.YtahfemlfdpbkkaaWFootNe
import Derived.Test.YtahfemlfdpbkkaaWAt
import Derived.Test.YtahfemlfdpbkkaaWEqStruct
import Derived.Test.YtahfemlfdpbkkaaWRepsOne
import Derived.Test.YtahfemlfdpbkkaaWInv
import Derived.Test.YtahfemlfdpbkkaaWInvWords
import Derived.Test.YtahfemlfdpbkkaaWGuard
import Derived.Test.YtahfemlfdpbkkaaWNEv
import Derived.Test.YtahfemlfdpbkkaaWMore
namespace Go.Proofs.Ytahfemlfdpbkkaa.PFnExactGetItem
open Go.RowKit Go.Proofs.YtahfemlfdpbkkaaW.PrintWords Go.Proofs.YtahfemlfdpbkkaaW.PrintLast Go.Proofs.YtahfemlfdpbkkaaW.PrintMore Go.Proofs.YtahfemlfdpbkkaaV
attribute [local go_sem] max2_int min2_int max_two min_two max_three min_three max_four min_four   -- for this text's walks alone
set_option linter.unusedVariables false
set_option linter.unusedSimpArgs false



def errW : Option Int → Value
 | none => .nilIface
 | some c => .iface 0 (.int .i64 c)
theorem errW_none : errW none = .nilIface := rfl
theorem errW_some (c : Int) : errW (some c) = .iface 0 (.int .i64 c) := rfl

theorem info5 : (Try.prog.info? 5).map (fun i => (i.zero, i.size, i.bytes)) = some (some (.int .u8 0), 1, 1) := by kernel_rfl
-- the values' own types

end Go.Proofs.Ytahfemlfdpbkkaa.PFnExactGetItem
