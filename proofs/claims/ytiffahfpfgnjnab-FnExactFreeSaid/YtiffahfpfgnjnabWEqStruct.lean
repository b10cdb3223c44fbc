-- Part of the print's words: what this session's texts name (trim.py)
import Derived.Test.YtiffahfpfgnjnabWWords
import Derived.Laws.StructEq
namespace Go.Proofs.YtiffahfpfgnjnabW.PrintWords
open Go.RowKit
section
variable {P : Program} {d : Nat} {xs ys : Array Value} {f : Field} {fs : List Field} {a b : Value} {r s : Bool} {w : World}
end
end Go.Proofs.YtiffahfpfgnjnabW.PrintWords
