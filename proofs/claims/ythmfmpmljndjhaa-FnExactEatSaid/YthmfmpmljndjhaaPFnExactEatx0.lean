-- Written by a program of this session (myprint.py, over the kit's print): contracts of FnExactEat
import Derived.Test.YthmfmpmljndjhaaProg
import Derived.Test.YthmfmpmljndjhaaVExt
import Derived.Test.YthmfmpmljndjhaaVConv
import Derived.Test.YthmfmpmljndjhaaVFar
import Derived.Test.YthmfmpmljndjhaaVSq
import Derived.Below
import Derived.Deep.Draws
import Derived.Deep.AppendLies
import Derived.Maps.AppendAt
import Derived.OwnWalk
import Derived.Laws.BytesArg
import Derived.Laws.MakeOwn
import Derived.Laws.OwnMore
import Derived.Deep.OwnRows
import Derived.Tactics
import Derived.Lib.ConvBytes
import Derived.Laws.Slices
import Derived.WalkKit
import Derived.KernelRfl
import Derived.RowKit3
import Derived.Deep.LoopGhost
import Derived.Deep.QuietTactic
import Derived.BigQuiet
import Derived.WideLaws
import Derived.Deep.DeepCutAuto
import Derived.Deep.CutBlock
import Derived.Deep.RegionHeld3
import Derived.Laws.Rows
import Derived.Lib.AppendStr
import Derived.ArgAppend
import Derived.Laws.IdiomCopy
import Derived.OrdersHeld
import Derived.Laws.BitsLemmas
import Derived.RowKit
import Derived.WalkSpells
import Derived.Shelf.Abstract
import Derived.Test.YthmfmpmljndjhaaWWords
import Derived.Test.YthmfmpmljndjhaaWLast
import Derived.Test.YthmfmpmljndjhaaWTab
import Derived.Test.YthmfmpmljndjhaaWFour
import Derived.Test.YthmfmpmljndjhaaWQPut
import Derived.Test.YthmfmpmljndjhaaWApart
import Derived.Test.YthmfmpmljndjhaaWArr
import Derived.Test.YthmfmpmljndjhaaWZeros
import Derived.Test.YthmfmpmljndjhaaWFoot
import Derived.Test.YthmfmpmljndjhaaWKept
import Derived.Test.YthmfmpmljndjhaaWShare
import Derived.Test.YthmfmpmljndjhaaWN
import Derived.Test.YthmfmpmljndjhaaWFootNe
import Derived.Test.YthmfmpmljndjhaaWAt
import Derived.Test.YthmfmpmljndjhaaWEqStruct
import Derived.Test.YthmfmpmljndjhaaWRepsOne
import Derived.Test.YthmfmpmljndjhaaWInv
import Derived.Test.YthmfmpmljndjhaaWInvWords
import Derived.Test.YthmfmpmljndjhaaWGuard
import Derived.Test.YthmfmpmljndjhaaWNEv
import Derived.Test.YthmfmpmljndjhaaWMore
namespace Go.Proofs.Ythmfmpmljndjhaa.PFnExactEat
open Go.RowKit Go.Proofs.YthmfmpmljndjhaaW.PrintWords Go.Proofs.YthmfmpmljndjhaaW.PrintLast Go.Proofs.YthmfmpmljndjhaaW.PrintMore Go.Proofs.YthmfmpmljndjhaaV
attribute [local go_sem] max2_int min2_int max_two min_two max_three min_three max_four min_four   -- for this text's walks alone
set_option linter.unusedVariables false
set_option linter.unusedSimpArgs false



def errW : Option Int → Value
 | none => .nilIface
 | some c => .iface 0 (.int .i64 c)
theorem errW_none : errW none = .nilIface := rfl
theorem errW_some (c : Int) : errW (some c) = .iface 0 (.int .i64 c) := rfl

theorem info5 : (Try.prog.info? 5).map (fun i => (i.zero, i.size, i.bytes)) = some (some (.int .u8 0), 1, 1) := by kernel_rfl
-- the values' own types

end Go.Proofs.Ythmfmpmljndjhaa.PFnExactEat
