-- Part of the print's words: what this session's texts name (trim.py)
import Derived.Test.YtaimfkfpglhijaaWInv
import Derived.Test.YtaimfkfpglhijaaWFootNe
namespace Go.Proofs.YtaimfkfpglhijaaW.PrintWords
open Go.RowKit
end Go.Proofs.YtaimfkfpglhijaaW.PrintWords
namespace Go.Proofs.YtaimfkfpglhijaaW.PrintLast
section
variable {ops : Array Oper} {a : Act} {o og : Oper} {g : Nat} {t : Tmp} {u : Bool}
end
end Go.Proofs.YtaimfkfpglhijaaW.PrintLast
