-- Part of the print's words: what this session's texts name (trim.py)
import Derived.Test.YtahfemlfdpbkkaaWWords
namespace Go.Proofs.YtahfemlfdpbkkaaV
open Go.RowKit
end Go.Proofs.YtahfemlfdpbkkaaV
