-- Part of the print's words: what this session's texts name (trim.py)
import Derived.Test.YtiffahfpfgnjnaaWWords
namespace Go.Proofs.YtiffahfpfgnjnaaV
open Go.RowKit
theorem conv_len {P : Program} {t u : TypeId} {A : Option Addr} {n c : Nat} {W : World} {v : Value} (h : (convert t u (.slice A n c)).run P W = .ok v W) (m : Nat) (e : m = n) : (convert t u (.slice A m c)).run P W = .ok v W := by
  subst e
  exact h
end Go.Proofs.YtiffahfpfgnjnaaV
