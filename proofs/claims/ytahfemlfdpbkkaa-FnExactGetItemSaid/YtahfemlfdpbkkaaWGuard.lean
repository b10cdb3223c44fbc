-- Part of the print's words: what this session's texts name (trim.py)
import Derived.Test.YtahfemlfdpbkkaaWWords
namespace Go.Proofs.YtahfemlfdpbkkaaW.PrintWords
open Go.RowKit
section
variable {P : Program} {ops : Array Oper} {rest : List Oper} {o : Oper} {a : Act} {Q : Exit → Act → World → Prop} {W : World}
end
end Go.Proofs.YtahfemlfdpbkkaaW.PrintWords
