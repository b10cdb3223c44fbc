-- Part of the print's words: what this session's texts name (trim.py)
import Derived.Test.YtiffahfpfgnjnaaWInv
import Derived.Test.YtiffahfpfgnjnaaWFootNe
namespace Go.Proofs.YtiffahfpfgnjnaaW.PrintWords
open Go.RowKit
end Go.Proofs.YtiffahfpfgnjnaaW.PrintWords
namespace Go.Proofs.YtiffahfpfgnjnaaW.PrintLast
section
variable {ops : Array Oper} {a : Act} {o og : Oper} {g : Nat} {t : Tmp} {u : Bool}
end
end Go.Proofs.YtiffahfpfgnjnaaW.PrintLast
