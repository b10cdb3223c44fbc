/- Words for the contracts that the print does not give: the first place at which a test holds. -/
namespace Go.Proofs.YtiffahfpfgnjnaaV
/-- The place (from i on) of the first element that passes, or -1. -/
def idxF {α : Type} (p : α → Bool) : List α → Int → Int
  | [], _ => -1
  | x :: l, i => if p x then i else idxF p l (i + 1)
theorem bne_nil (l : List UInt8) : (l != []) = !l.isEmpty := by cases l <;> rfl
theorem beq_nil (l : List UInt8) : (l == []) = l.isEmpty := by cases l <;> rfl
end Go.Proofs.YtiffahfpfgnjnaaV
