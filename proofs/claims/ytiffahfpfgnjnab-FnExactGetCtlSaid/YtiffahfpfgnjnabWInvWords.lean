-- Part of the print's words: what this session's texts name (trim.py)
import Derived.Test.YtiffahfpfgnjnabWInv
import Derived.Test.YtiffahfpfgnjnabWFootNe
namespace Go.Proofs.YtiffahfpfgnjnabW.PrintWords
open Go.RowKit
end Go.Proofs.YtiffahfpfgnjnabW.PrintWords
namespace Go.Proofs.YtiffahfpfgnjnabW.PrintLast
section
variable {ops : Array Oper} {a : Act} {o og : Oper} {g : Nat} {t : Tmp} {u : Bool}
end
end Go.Proofs.YtiffahfpfgnjnabW.PrintLast
