-- Part of the print's words: what this session's texts name (trim.py)
/- Words for the contracts that the print does not give: the first place at which a test holds. -/
namespace Go.Proofs.YtahfemlfdpbkkaaV
theorem bne_nil (l : List UInt8) : (l != []) = !l.isEmpty := by cases l <;> rfl
theorem beq_nil (l : List UInt8) : (l == []) = l.isEmpty := by cases l <;> rfl
end Go.Proofs.YtahfemlfdpbkkaaV
