/- Words for the loops that mark a list's elements and look at the marks again, and for loops that pick. -/
import Derived.Test.YtiffahfpfgnjnabVBase
namespace Go.Proofs.YtiffahfpfgnjnabV
open Go.RowKit Go.Proofs.YtiffahfpfgnjnabW.PrintWords
set_option linter.unusedVariables false
section
variable {α : Type}
/-- n elements, marked from k on, c numbers each. -/
def mkl (mk : Int → α) (c k : Int) (n : Nat) : List α := (List.range n).map (fun j : Nat => mk (k + c * (j : Int)))
theorem mkl_len (mk : Int → α) (c k : Int) (n : Nat) : (mkl mk c k n).length = n := by simp [mkl]
theorem mkl_get (mk : Int → α) (c k : Int) (n i : Nat) (h : i < (mkl mk c k n).length) : (mkl mk c k n)[i] = mk (k + c * (i : Int)) := by simp [mkl]
theorem mul_step (c k : Int) (i : Nat) : k + c * (i : Int) + c = k + c * ((i + 1 : Nat) : Int) := by
  rw [Int.natCast_add, Int.mul_add]
  omega
theorem mul_bound {c k B : Int} {i n : Nat} (hc : 0 ≤ c) (h : i < n) (hB : k + c * (n : Int) ≤ B) : k + c * (i : Int) + c ≤ B := by
  rw [mul_step]
  have : c * ((i + 1 : Nat) : Int) ≤ c * (n : Int) := Int.mul_le_mul_of_nonneg_left (by omega) hc
  omega
theorem mul_low {c k : Int} (i : Nat) (hc : 0 ≤ c) (h0 : 0 ≤ k) : 0 ≤ k + c * (i : Int) := by
  have : 0 ≤ c * (i : Int) := Int.mul_nonneg hc (by omega)
  omega
theorem mark_loop {g : Nat → List α → Int → Int → Option (Int × List α)} {mk : Int → α} {c B : Int} (hc : 0 ≤ c)
    (hend : ∀ (x : List α) (k : Int) (i : Nat), ¬ i < x.length → Ev (fun n => g n x k (i : Int)) (k, x))
    (hstep : ∀ (x : List α) (k : Int) (i : Nat) (r : Int × List α), i < x.length → x.length ≤ 4611686018427387904 → 0 ≤ k → k + c ≤ B → Ev (fun n => g n (x.set i (mk k)) (k + c) ((i : Int) + 1)) r → Ev (fun n => g n x k (i : Int)) r)
    (l : List α) (hl : l.length ≤ 4611686018427387904) (k0 : Int) (h0 : 0 ≤ k0) (h1 : k0 + c * (l.length : Int) ≤ B) : Ev (fun n => g n l k0 0) (k0 + c * (l.length : Int), mkl mk c k0 l.length) := by
  have key : ∀ (d : Nat) (x : List α) (i : Nat), i + d = l.length → x.length = l.length → x.take i = (mkl mk c k0 l.length).take i → Ev (fun n => g n x (k0 + c * (i : Int)) (i : Int)) (k0 + c * (l.length : Int), mkl mk c k0 l.length) := by
    intro d
    induction d with
    | zero =>
      intro x i hi hx ht
      have e : i = l.length := by omega
      rw [e, List.take_of_length_le (by omega), List.take_of_length_le (by rw [mkl_len]; omega)] at ht
      rw [e, ← ht]
      exact hend _ _ _ (by omega)
    | succ d ih =>
      intro x i hi hx ht
      refine hstep x _ i _ (by omega) (by omega) (mul_low i hc h0) (mul_bound hc (by omega) h1) ?_
      have h := ih (x.set i (mk (k0 + c * (i : Int)))) (i + 1) (by omega) (by simp [hx]) (take_set x (mkl mk c k0 l.length) i _ (by omega) (by rw [mkl_len]; omega) ht (mkl_get _ _ _ _ _ _))
      rw [← mul_step, Int.natCast_add] at h
      exact h
  have h := key l.length l 0 (by omega) rfl rfl
  simpa using h
theorem held_loop {g : Nat → List α → Int → Int → Option Int} {mk : Int → α} {c B : Int} (hc : 0 ≤ c)
    (hend : ∀ (x : List α) (k : Int) (i : Nat), ¬ i < x.length → Ev (fun n => g n x k (i : Int)) k)
    (hstep : ∀ (x : List α) (k : Int) (i : Nat) (r : Int) (hi : i < x.length), x[i] = mk k → x.length ≤ 4611686018427387904 → 0 ≤ k → k + c ≤ B → Ev (fun n => g n x (k + c) ((i : Int) + 1)) r → Ev (fun n => g n x k (i : Int)) r)
    (m : Nat) (hm : m ≤ 4611686018427387904) (k0 : Int) (h0 : 0 ≤ k0) (h1 : k0 + c * (m : Int) ≤ B) : Ev (fun n => g n (mkl mk c k0 m) k0 0) (k0 + c * (m : Int)) := by
  have key : ∀ (d i : Nat), i + d = m → Ev (fun n => g n (mkl mk c k0 m) (k0 + c * (i : Int)) (i : Int)) (k0 + c * (m : Int)) := by
    intro d
    induction d with
    | zero =>
      intro i hi
      have e : i = m := by omega
      rw [e]
      exact hend _ _ _ (by rw [mkl_len]; omega)
    | succ d ih =>
      intro i hi
      refine hstep _ _ i _ (by rw [mkl_len]; omega) (mkl_get _ _ _ _ _ _) (by rw [mkl_len]; omega) (mul_low i hc h0) (mul_bound hc (by omega) h1) ?_
      have h := ih (i + 1) (by omega)
      rw [← mul_step, Int.natCast_add] at h
      exact h
  have h := key m 0 (by omega)
  simpa using h
theorem getD_set {z : α} (x : List α) (i : Nat) (v : α) (h : i < x.length) : (x.set i v).getD ((i : Int)).toNat z = v := by
  simp [List.getD_eq_getElem?_getD, h]
end
end Go.Proofs.YtiffahfpfgnjnabV
