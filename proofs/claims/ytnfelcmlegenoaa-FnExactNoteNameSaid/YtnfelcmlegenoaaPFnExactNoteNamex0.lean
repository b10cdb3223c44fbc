-- Written by a program of this session (myprint.py, over the kit's print): contracts of FnExactNoteName
import Derived.Test.YtnfelcmlegenoaaProg
import Derived.Test.YtnfelcmlegenoaaVExt
import Derived.Below
import Derived.Deep.Draws
import Derived.Deep.AppendLies
import Derived.Maps.AppendAt
import Derived.OwnWalk
import Derived.Laws.BytesArg
import Derived.Laws.MakeOwn
import Derived.Laws.OwnMore
import Derived.Deep.OwnRows
import Derived.Tactics
import Derived.Lib.ConvBytes
import Derived.Laws.Slices
import Derived.WalkKit
import Derived.KernelRfl
import Derived.RowKit3
import Derived.Deep.LoopGhost
import Derived.Deep.QuietTactic
import Derived.BigQuiet
import Derived.WideLaws
import Derived.Deep.DeepCutAuto
import Derived.Deep.CutBlock
import Derived.Deep.RegionHeld3
import Derived.Laws.Rows
import Derived.Lib.AppendStr
import Derived.ArgAppend
import Derived.Laws.IdiomCopy
import Derived.OrdersHeld
import Derived.Laws.BitsLemmas
import Derived.RowKit
import Derived.WalkSpells
import Derived.Shelf.Abstract
import Derived.Test.YtnfelcmlegenoaaWWords
import Derived.Test.YtnfelcmlegenoaaWLast
import Derived.Test.YtnfelcmlegenoaaWTab
import Derived.Test.YtnfelcmlegenoaaWFour
import Derived.Test.YtnfelcmlegenoaaWQPut
import Derived.Test.YtnfelcmlegenoaaWApart
import Derived.Test.YtnfelcmlegenoaaWArr
import Derived.Test.YtnfelcmlegenoaaWZeros
import Derived.Test.YtnfelcmlegenoaaWFoot
import Derived.Test.YtnfelcmlegenoaaWKept
import Derived.Test.YtnfelcmlegenoaaWShare
import Derived.Test.YtnfelcmlegenoaaWN
import Derived.Test.YtnfelcmlegenoaaWFootNe
import Derived.Test.YtnfelcmlegenoaaWAt
import Derived.Test.YtnfelcmlegenoaaWEqStruct
import Derived.Test.YtnfelcmlegenoaaWRepsOne
import Derived.Test.YtnfelcmlegenoaaWInv
import Derived.Test.YtnfelcmlegenoaaWInvWords
import Derived.Test.YtnfelcmlegenoaaWGuard
import Derived.Test.YtnfelcmlegenoaaWNEv
import Derived.Test.YtnfelcmlegenoaaWMore
namespace Go.Proofs.Ytnfelcmlegenoaa.PFnExactNoteName
open Go.RowKit Go.Proofs.YtnfelcmlegenoaaW.PrintWords Go.Proofs.YtnfelcmlegenoaaW.PrintLast Go.Proofs.YtnfelcmlegenoaaW.PrintMore
attribute [local go_sem] max2_int min2_int max_two min_two max_three min_three max_four min_four   -- for this text's walks alone
set_option linter.unusedVariables false
set_option linter.unusedSimpArgs false



def errW : Option Int → Value
  | none => .nilIface
  | some c => .iface 0 (.int .i64 c)
theorem errW_none : errW none = .nilIface := rfl
theorem errW_some (c : Int) : errW (some c) = .iface 0 (.int .i64 c) := rfl

theorem info9 : (Try.prog.info? 9).map (fun i => (i.zero, i.size, i.bytes)) = some (some (.string ⟨#[]⟩), 1, 16) := by kernel_rfl
-- the values' own types

end Go.Proofs.Ytnfelcmlegenoaa.PFnExactNoteName
