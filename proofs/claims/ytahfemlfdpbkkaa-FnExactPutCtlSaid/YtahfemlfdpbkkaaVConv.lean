-- Part of the print's words: what this session's texts name (trim.py)
/- A conversion of a slice, said for each way to write the slice's length. -/
import Derived.Test.YtahfemlfdpbkkaaWWords
namespace Go.Proofs.YtahfemlfdpbkkaaV
open Go.RowKit
end Go.Proofs.YtahfemlfdpbkkaaV
