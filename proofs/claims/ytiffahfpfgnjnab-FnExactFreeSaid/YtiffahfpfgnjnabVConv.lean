-- Part of the print's words: what this session's texts name (trim.py)
import Derived.Test.YtiffahfpfgnjnabWWords
namespace Go.Proofs.YtiffahfpfgnjnabV
open Go.RowKit
end Go.Proofs.YtiffahfpfgnjnabV
