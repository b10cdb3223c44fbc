-- Part of the print's words: what this session's texts name (trim.py)
import Derived.Test.YtahfemlfdpbkkaaWInv
import Derived.Test.YtahfemlfdpbkkaaWFootNe
namespace Go.Proofs.YtahfemlfdpbkkaaW.PrintWords
open Go.RowKit
end Go.Proofs.YtahfemlfdpbkkaaW.PrintWords
namespace Go.Proofs.YtahfemlfdpbkkaaW.PrintLast
section
variable {ops : Array Oper} {a : Act} {o og : Oper} {g : Nat} {t : Tmp} {u : Bool}
end
end Go.Proofs.YtahfemlfdpbkkaaW.PrintLast
