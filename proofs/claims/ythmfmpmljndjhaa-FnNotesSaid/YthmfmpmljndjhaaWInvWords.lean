-- Part of the print's words: what this session's texts name (trim.py)
import Derived.Test.YthmfmpmljndjhaaWInv
import Derived.Test.YthmfmpmljndjhaaWFootNe
namespace Go.Proofs.YthmfmpmljndjhaaW.PrintWords
open Go.RowKit
end Go.Proofs.YthmfmpmljndjhaaW.PrintWords
namespace Go.Proofs.YthmfmpmljndjhaaW.PrintLast
section
variable {ops : Array Oper} {a : Act} {o og : Oper} {g : Nat} {t : Tmp} {u : Bool}
end
end Go.Proofs.YthmfmpmljndjhaaW.PrintLast
