/- Words for the pure statements: rounds enough ('Ev'), ranges, loops over an index. Numbers and lists alone. -/
import Derived.Test.YtiffahfpfgnjnaaWWords
import Derived.Test.YtiffahfpfgnjnaaWMore
namespace Go.Proofs.YtiffahfpfgnjnaaV
open Go.RowKit Go.Proofs.YtiffahfpfgnjnaaW.PrintWords
set_option linter.unusedVariables false

section
variable {α β : Type} {r : α}
theorem ev_now (r : α) : Ev (fun _ => some r) r := ⟨0, fun _ _ => rfl⟩
theorem ev_eq {o : Option α} (h : o = some r) : Ev (fun _ => o) r := ⟨0, fun _ _ => h⟩
theorem ev_pos {c : Prop} [Decidable c] {a b : Nat → Option α} (h : c) (k : Ev a r) : Ev (fun n => if c then a n else b n) r := by
  obtain ⟨K, hk⟩ := k
  exact ⟨K, fun n hn => (if_pos h).trans (hk n hn)⟩
theorem ev_neg {c : Prop} [Decidable c] {a b : Nat → Option α} (h : ¬ c) (k : Ev b r) : Ev (fun n => if c then a n else b n) r := by
  obtain ⟨K, hk⟩ := k
  exact ⟨K, fun n hn => (if_neg h).trans (hk n hn)⟩
theorem ev_ite {c : Prop} [Decidable c] {a b : Nat → Option α} (h : c → Ev a r) (h' : ¬ c → Ev b r) : Ev (fun n => if c then a n else b n) r := by
  by_cases hc : c
  · exact ev_pos hc (h hc)
  · exact ev_neg hc (h' hc)
theorem ev_bind {g : Nat → Option β} {f : Nat → β → Option α} {a : β} (h : Ev g a) (k : Ev (fun n => f n a) r) : Ev (fun n => (g n).bind (f n)) r := by
  obtain ⟨K, hk⟩ := h
  obtain ⟨L, hl⟩ := k
  exact ⟨max K L, fun n hn => (congrArg (fun o => o.bind (f n)) (hk n (by omega))).trans (hl n (by omega))⟩
theorem ev_bind1 {o : Option β} {f : Nat → β → Option α} {a : β} (h : o = some a) (k : Ev (fun n => f n a) r) : Ev (fun n => o.bind (f n)) r := ev_bind (ev_eq h) k
theorem ev_step {g f : Nat → Option α} (h : ∀ k, g (k + 1) = f k) (k : Ev f r) : Ev g r := by
  obtain ⟨K, hk⟩ := k
  refine ⟨K + 1, fun n hn => ?_⟩
  obtain ⟨m, rfl⟩ : ∃ m, n = m + 1 := ⟨n - 1, by omega⟩
  rw [h]
  exact hk m (by omega)
theorem ev_congr {g f : Nat → Option α} (h : ∀ k, g k = f k) (k : Ev f r) : Ev g r := by
  obtain ⟨K, hk⟩ := k
  exact ⟨K, fun n hn => (h n).trans (hk n hn)⟩
theorem ev_as {g : Nat → Option α} {r r' : α} (k : Ev g r) (h : r = r') : Ev g r' := h ▸ k
theorem ev_rounds {g : Nat → Option α} (h : Ev g r) : ∃ k, g k = some r := by
  obtain ⟨K, hk⟩ := h
  exact ⟨K, hk K (Nat.le_refl _)⟩
end

theorem w64 {x : Int} (h0 : -9223372036854775808 ≤ x) (h1 : x ≤ 9223372036854775807) : wrap64 x = x := by
  unfold wrap64
  omega

/-- b ≤ a ≤ c. -/
def inB (a b c : Int) : Bool := decide (b ≤ a) && decide (a ≤ c)
theorem inB_iff (a b c : Int) : inB a b c = true ↔ b ≤ a ∧ a ≤ c := by simp [inB]
theorem inB_false (a b c : Int) : inB a b c = false ↔ a < b ∨ c < a := by
  rw [← Bool.not_eq_true, inB_iff]
  omega
theorem in_some (a b c : Int) : (if b ≤ a then (some (decide (a ≤ c))) else (some false)) = some (inB a b c) := by
  unfold inB
  by_cases h : b ≤ a <;> simp [h]

/-- p at i, i + 1, .., d of them. -/
def allF (p : Int → Bool) : Int → Nat → Bool
  | _, 0 => true
  | i, d + 1 => p i && allF p (i + 1) d
theorem allF_iff (p : Int → Bool) (d : Nat) : ∀ i : Int, allF p i d = true ↔ ∀ j : Int, i ≤ j → j < i + d → p j = true := by
  induction d with
  | zero => exact fun i => ⟨fun _ j h1 h2 => by omega, fun _ => rfl⟩
  | succ d ih =>
    intro i
    rw [allF, Bool.and_eq_true, ih (i + 1)]
    constructor
    · rintro ⟨h1, h2⟩ j h3 h4
      by_cases e : j = i
      · rw [e]; exact h1
      · exact h2 j (by omega) (by omega)
    · intro h
      exact ⟨h i (by omega) (by omega), fun j h1 h2 => h j (by omega) (by omega)⟩
/-- Byte i of s is from a to b. -/
def byteIn (s : ByteArray) (a b : Int) (i : Int) : Bool := decide (a ≤ bt s i) && decide (bt s i ≤ b)
theorem byteIn_iff (s : ByteArray) (a b i : Int) : byteIn s a b i = true ↔ a ≤ bt s i ∧ bt s i ≤ b := by simp [byteIn]
theorem byteIn_false (s : ByteArray) (a b i : Int) : byteIn s a b i = false ↔ bt s i < a ∨ b < bt s i := by
  rw [← Bool.not_eq_true, byteIn_iff]
  omega
def nameB (s : ByteArray) : Bool := allF (byteIn s 97 122) 0 s.size && inB s.size 1 8
def textB (s : ByteArray) : Bool := allF (byteIn s 32 126) 0 s.size && decide ((s.size : Int) ≤ 100)
theorem rd_nth (l : List Int) (i : Nat) (h : i < l.length) : rd l (i : Int) = l[i] := by
  simp [rd, List.getD_eq_getElem?_getD, List.getElem?_eq_getElem h]
theorem rdOf_nth {α : Type} (z : α) (l : List α) (i : Nat) (h : i < l.length) : rdOf z l (i : Int) = l[i] := by
  simp [rdOf, List.getD_eq_getElem?_getD, List.getElem?_eq_getElem h]
theorem getD_nth {α : Type} (z : α) (l : List α) (i : Nat) (h : i < l.length) : l.getD ((i : Int)).toNat z = l[i] := by
  simp [List.getD_eq_getElem?_getD, List.getElem?_eq_getElem h]
theorem mem_sum {α : Type} (f : α → Nat) : ∀ (l : List α) (x : α), x ∈ l → f x ≤ (l.map f).sum
  | [], x, h => by simp at h
  | y :: l, x, h => by
    rw [List.map_cons, List.sum_cons]
    rcases List.mem_cons.1 h with rfl | h
    · omega
    · have := mem_sum f l x h
      omega
/-- One more element of a list that is filled from the left. -/
theorem take_set {α : Type} (x y : List α) (i : Nat) (v : α) (hx : i < x.length) (hy : i < y.length) (ht : x.take i = y.take i) (hv : y[i] = v) : (x.set i v).take (i + 1) = y.take (i + 1) := by
  rw [List.take_succ_eq_append_getElem (by simpa using hx), List.take_succ_eq_append_getElem hy, List.getElem_set_self, hv]
  rw [List.take_set_of_le (Nat.le_refl i), ht]
end Go.Proofs.YtiffahfpfgnjnaaV
