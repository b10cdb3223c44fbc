-- Written by a program of this session (myprint.py, over the kit's print): contracts of FnItems
import Derived.Test.YtiffahfpfgnjnaaProg
import Derived.Test.YtiffahfpfgnjnaaVExt
import Derived.Test.YtiffahfpfgnjnaaVConv
import Derived.Test.YtiffahfpfgnjnaaVFar
import Derived.Test.YtiffahfpfgnjnaaVSq
import Derived.Below
import Derived.Deep.Draws
import Derived.Deep.AppendLies
import Derived.Maps.AppendAt
import Derived.OwnWalk
import Derived.Laws.BytesArg
import Derived.Laws.MakeOwn
import Derived.Laws.OwnMore
import Derived.Deep.OwnRows
import Derived.Tactics
import Derived.Lib.ConvBytes
import Derived.Laws.Slices
import Derived.WalkKit
import Derived.KernelRfl
import Derived.RowKit3
import Derived.Deep.LoopGhost
import Derived.Deep.QuietTactic
import Derived.BigQuiet
import Derived.WideLaws
import Derived.Deep.DeepCutAuto
import Derived.Deep.CutBlock
import Derived.Deep.RegionHeld3
import Derived.Laws.Rows
import Derived.Lib.AppendStr
import Derived.ArgAppend
import Derived.Laws.IdiomCopy
import Derived.OrdersHeld
import Derived.Laws.BitsLemmas
import Derived.RowKit
import Derived.WalkSpells
import Derived.Shelf.Abstract
import Derived.Test.YtiffahfpfgnjnaaWWords
import Derived.Test.YtiffahfpfgnjnaaWLast
import Derived.Test.YtiffahfpfgnjnaaWTab
import Derived.Test.YtiffahfpfgnjnaaWFour
import Derived.Test.YtiffahfpfgnjnaaWQPut
import Derived.Test.YtiffahfpfgnjnaaWApart
import Derived.Test.YtiffahfpfgnjnaaWArr
import Derived.Test.YtiffahfpfgnjnaaWZeros
import Derived.Test.YtiffahfpfgnjnaaWFoot
import Derived.Test.YtiffahfpfgnjnaaWKept
import Derived.Test.YtiffahfpfgnjnaaWShare
import Derived.Test.YtiffahfpfgnjnaaWN
import Derived.Test.YtiffahfpfgnjnaaWFootNe
import Derived.Test.YtiffahfpfgnjnaaWAt
import Derived.Test.YtiffahfpfgnjnaaWEqStruct
import Derived.Test.YtiffahfpfgnjnaaWRepsOne
import Derived.Test.YtiffahfpfgnjnaaWInv
import Derived.Test.YtiffahfpfgnjnaaWInvWords
import Derived.Test.YtiffahfpfgnjnaaWGuard
import Derived.Test.YtiffahfpfgnjnaaWNEv
import Derived.Test.YtiffahfpfgnjnaaWMore
namespace Go.Proofs.Ytiffahfpfgnjnaa.PFnItems
open Go.RowKit Go.Proofs.YtiffahfpfgnjnaaW.PrintWords Go.Proofs.YtiffahfpfgnjnaaW.PrintLast Go.Proofs.YtiffahfpfgnjnaaW.PrintMore Go.Proofs.YtiffahfpfgnjnaaV
attribute [local go_sem] max2_int min2_int max_two min_two max_three min_three max_four min_four   -- for this text's walks alone
set_option linter.unusedVariables false
set_option linter.unusedSimpArgs false



def errW : Option Int → Value
 | none => .nilIface
 | some c => .iface 0 (.int .i64 c)
theorem errW_none : errW none = .nilIface := rfl
theorem errW_some (c : Int) : errW (some c) = .iface 0 (.int .i64 c) := rfl

theorem info3 : (Try.prog.info? 3).map (fun i => (i.zero, i.size, i.bytes)) = some (some (.int .i64 0), 1, 8) := by kernel_rfl
theorem info5 : (Try.prog.info? 5).map (fun i => (i.zero, i.size, i.bytes)) = some (some (.int .u8 0), 1, 1) := by kernel_rfl
theorem info9 : (Try.prog.info? 9).map (fun i => (i.zero, i.size, i.bytes)) = some (some (.string ⟨#[]⟩), 1, 16) := by kernel_rfl
-- the values' own types

end Go.Proofs.Ytiffahfpfgnjnaa.PFnItems
