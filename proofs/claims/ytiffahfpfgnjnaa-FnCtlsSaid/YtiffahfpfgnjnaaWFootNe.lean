-- Part of the print's words: what this session's texts name (trim.py)
import Derived.Test.YtiffahfpfgnjnaaWN
namespace Go.Proofs.YtiffahfpfgnjnaaW.PrintWords
open Go.RowKit
namespace Kd
section
variable {α : Type} {d : Kd α} {W : World} {g n : Nat} {S ok : Nat → Prop} {A : Option Addr} {ad : Addr} {xs : List α}
end
end Kd
end Go.Proofs.YtiffahfpfgnjnaaW.PrintWords
