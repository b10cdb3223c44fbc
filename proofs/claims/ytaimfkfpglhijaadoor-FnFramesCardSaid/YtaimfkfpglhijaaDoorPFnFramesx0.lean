-- Written by a program of this session (myprint.py, over the kit's print): contracts of FnFrames
import Derived.Test.YtaimfkfpglhijaaDoorProg
import Derived.Test.YtaimfkfpglhijaaDoorVExt
import Derived.Test.YtaimfkfpglhijaaDoorVConv
import Derived.Test.YtaimfkfpglhijaaDoorVFar
import Derived.Test.YtaimfkfpglhijaaDoorVSq
import Derived.Below
import Derived.Deep.Draws
import Derived.Deep.AppendLies
import Derived.Maps.AppendAt
import Derived.OwnWalk
import Derived.Laws.BytesArg
import Derived.Laws.MakeOwn
import Derived.Laws.OwnMore
import Derived.Deep.OwnRows
import Derived.Tactics
import Derived.Lib.ConvBytes
import Derived.Laws.Slices
import Derived.WalkKit
import Derived.KernelRfl
import Derived.RowKit3
import Derived.Deep.LoopGhost
import Derived.Deep.QuietTactic
import Derived.BigQuiet
import Derived.WideLaws
import Derived.Deep.DeepCutAuto
import Derived.Deep.CutBlock
import Derived.Deep.RegionHeld3
import Derived.Laws.Rows
import Derived.Lib.AppendStr
import Derived.ArgAppend
import Derived.Laws.IdiomCopy
import Derived.OrdersHeld
import Derived.Laws.BitsLemmas
import Derived.RowKit
import Derived.WalkSpells
import Derived.Shelf.Abstract
import Derived.Test.YtaimfkfpglhijaaDoorWWords
import Derived.Test.YtaimfkfpglhijaaDoorWLast
import Derived.Test.YtaimfkfpglhijaaDoorWTab
import Derived.Test.YtaimfkfpglhijaaDoorWFour
import Derived.Test.YtaimfkfpglhijaaDoorWQPut
import Derived.Test.YtaimfkfpglhijaaDoorWApart
import Derived.Test.YtaimfkfpglhijaaDoorWArr
import Derived.Test.YtaimfkfpglhijaaDoorWZeros
import Derived.Test.YtaimfkfpglhijaaDoorWFoot
import Derived.Test.YtaimfkfpglhijaaDoorWKept
import Derived.Test.YtaimfkfpglhijaaDoorWShare
import Derived.Test.YtaimfkfpglhijaaDoorWN
import Derived.Test.YtaimfkfpglhijaaDoorWFootNe
import Derived.Test.YtaimfkfpglhijaaDoorWAt
import Derived.Test.YtaimfkfpglhijaaDoorWEqStruct
import Derived.Test.YtaimfkfpglhijaaDoorWRepsOne
import Derived.Test.YtaimfkfpglhijaaDoorWInv
import Derived.Test.YtaimfkfpglhijaaDoorWInvWords
import Derived.Test.YtaimfkfpglhijaaDoorWGuard
import Derived.Test.YtaimfkfpglhijaaDoorWNEv
import Derived.Test.YtaimfkfpglhijaaDoorWMore
namespace Go.Proofs.YtaimfkfpglhijaaDoor.PFnFrames
open Go.RowKit Go.Proofs.YtaimfkfpglhijaaDoorW.PrintWords Go.Proofs.YtaimfkfpglhijaaDoorW.PrintLast Go.Proofs.YtaimfkfpglhijaaDoorW.PrintMore Go.Proofs.YtaimfkfpglhijaaDoorV
attribute [local go_sem] max2_int min2_int max_two min_two max_three min_three max_four min_four   -- for this text's walks alone
set_option linter.unusedVariables false
set_option linter.unusedSimpArgs false



def errW : Option Int → Value
 | none => .nilIface
 | some c => .iface 0 (.int .i64 c)
theorem errW_none : errW none = .nilIface := rfl
theorem errW_some (c : Int) : errW (some c) = .iface 0 (.int .i64 c) := rfl

theorem info3 : (Tryd.prog.info? 3).map (fun i => (i.zero, i.size, i.bytes)) = some (some (.int .i64 0), 1, 8) := by kernel_rfl
theorem info5 : (Tryd.prog.info? 5).map (fun i => (i.zero, i.size, i.bytes)) = some (some (.int .u8 0), 1, 1) := by kernel_rfl
theorem info9 : (Tryd.prog.info? 9).map (fun i => (i.zero, i.size, i.bytes)) = some (some (.string ⟨#[]⟩), 1, 16) := by kernel_rfl
-- the values' own types

end Go.Proofs.YtaimfkfpglhijaaDoor.PFnFrames
