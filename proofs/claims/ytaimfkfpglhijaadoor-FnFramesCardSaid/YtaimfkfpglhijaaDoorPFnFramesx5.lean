-- Written by a program of this session (myprint.py, over the kit's print): contracts of FnFrames
import Derived.Test.YtaimfkfpglhijaaDoorPFnFramesx0
import Derived.Test.YtaimfkfpglhijaaDoorPFnFramesx2
import Derived.Test.YtaimfkfpglhijaaDoorPFnFramesx3
import Derived.Test.YtaimfkfpglhijaaDoorPFnFramesx4
namespace Go.Proofs.YtaimfkfpglhijaaDoor.PFnFrames
open Go.RowKit Go.Proofs.YtaimfkfpglhijaaDoorW.PrintWords Go.Proofs.YtaimfkfpglhijaaDoorW.PrintLast Go.Proofs.YtaimfkfpglhijaaDoorW.PrintMore Go.Proofs.YtaimfkfpglhijaaDoorV
attribute [local go_sem] max2_int min2_int max_two min_two max_three min_three max_four min_four   -- for this text's walks alone
set_option linter.unusedVariables false
set_option linter.unusedSimpArgs false

/-! ### impl_FrameText: function 9, by hand: each kind by itself -/
def impl_FrameText.tail (nm : ByteArray) (t : ByteArray) : Option ByteArray := if t.toList = ([] : List UInt8) then some nm else if t.size ≤ 1000000 then some (nm ++ ((⟨#[32]⟩ : ByteArray) ++ t)) else none
def impl_FrameText.f (k : Nat) (a0_0 : Int) (a0_1 : ByteArray) (a0_2 : Int) : Option ByteArray :=
 (impl_FrameOk.f k a0_0 a0_1 a0_2).bind fun b => if b = true then (
  if a0_0 = 5 then (impl_NumText.f a0_2).bind fun s => some ((⟨#[114, 101, 97, 100, 121]⟩ : ByteArray) ++ ((⟨#[32]⟩ : ByteArray) ++ s)) else
  if a0_0 = 1 then impl_FrameText.tail (⟨#[104, 101, 108, 108, 111]⟩ : ByteArray) a0_1 else
  if a0_0 = 2 then impl_FrameText.tail (⟨#[113, 117, 101, 114, 121]⟩ : ByteArray) a0_1 else
  if a0_0 = 3 then impl_FrameText.tail (⟨#[98, 121, 101]⟩ : ByteArray) a0_1 else
  if a0_0 = 4 then impl_FrameText.tail (⟨#[114, 111, 119]⟩ : ByteArray) a0_1 else
  if a0_0 = 6 then impl_FrameText.tail (⟨#[101, 114, 114, 111, 114]⟩ : ByteArray) a0_1 else
  none) else some (⟨#[]⟩ : ByteArray)
theorem impl_FrameText.mono : ∀ a0 a1 a2 k, LeO (impl_FrameText.f k a0 a1 a2) (impl_FrameText.f (k + 1) a0 a1 a2) := by
 intro a0 a1 a2 k
 exact LeO.bind (impl_FrameOk.mono _ _ _ _) (fun _ => LeO.refl _)
set_option maxHeartbeats 8000000 in
set_option maxRecDepth 100000 in
theorem impl_FrameText.at1_0 (k : Nat) (a0_1 : ByteArray) (a0_2 : Int) (r : ByteArray) (w : World) (hok : impl_FrameOk.f k 1 a0_1 a0_2 = some true) (c : a0_1.toList = ([] : List UInt8)) (h : (⟨#[104, 101, 108, 108, 111]⟩ : ByteArray) = r) : Calls Tryd.prog 9 #[.agg #[.int .i64 1, .string a0_1, .int .i64 a0_2]] w fun e w' => e = .returned (.string r) ∧ Below w.heap.size w w' := by
 subst h
 have c1 : (a0_1.toList == ([] : List UInt8)) = true := by rw [c]; rfl
 have c2 : a0_1.toList.isEmpty = true := by rw [c]; rfl
 go_enter Tryd.func9, Tryd.ntmps9
 go_wp2_with (go_at_call 7; refine (impl_FrameOk.calls k _ a0_1 a0_2 true _ hok).mono ?_; rintro e w1 ⟨rfl, b1⟩; have ha1 : (w.alloc (.cells #[.int .i64 1, .string a0_1, .int .i64 a0_2] 25)).heap[w.heap.size]? = some (.cells #[.int .i64 1, .string a0_1, .int .i64 a0_2] 25) := blk_new w _; have hl1 := blk_lt ha1; have hs1 : w.heap.size < w1.heap.size := Nat.lt_of_lt_of_le hl1 b1.size; have hne : w.heap.size ≠ w1.heap.size := Nat.ne_of_lt hs1; have hb1 := (b1.block _ hl1).trans ha1; have hc0 : w1.cell? ⟨w.heap.size, 0, none⟩ = some (.int .i64 1) := (blk_cell hb1 0).trans rfl; have hc1 : w1.cell? ⟨w.heap.size, 1, none⟩ = some (.string a0_1) := (blk_cell hb1 1).trans rfl; have hc2 : w1.cell? ⟨w.heap.size, 2, none⟩ = some (.int .i64 a0_2) := (blk_cell hb1 2).trans rfl; clear hb1)
 go_ret
 exact ⟨rfl, by have hb0 : Below w.heap.size w w1 := (below_alloc (Below.refl _ _) _).trans (b1.mono (Nat.le_of_lt hl1)); exact below_alloc hb0 _⟩
set_option maxHeartbeats 8000000 in
set_option maxRecDepth 100000 in
theorem impl_FrameText.at1_1 (k : Nat) (a0_1 : ByteArray) (a0_2 : Int) (r : ByteArray) (w : World) (hok : impl_FrameOk.f k 1 a0_1 a0_2 = some true) (c : a0_1.toList ≠ ([] : List UInt8)) (hs : a0_1.size ≤ 1000000) (h : (⟨#[104, 101, 108, 108, 111]⟩ : ByteArray) ++ ((⟨#[32]⟩ : ByteArray) ++ a0_1) = r) : Calls Tryd.prog 9 #[.agg #[.int .i64 1, .string a0_1, .int .i64 a0_2]] w fun e w' => e = .returned (.string r) ∧ Below w.heap.size w w' := by
 subst h
 have c1 : (a0_1.toList == ([] : List UInt8)) = false := beq_eq_false_iff_ne.2 c
 have c2 : a0_1.toList.isEmpty = false := by simpa using c
 have hs2 : ((⟨#[32]⟩ : ByteArray) ++ a0_1).size ≤ 1000001 := by rw [ByteArray.size_append]; show 1 + _ ≤ _; omega
 have s1 : 5 + (1 + a0_1.size) ≤ 9223372036854775807 := by omega
 have s2 : 1 + a0_1.size ≤ 9223372036854775807 := by omega
 go_enter Tryd.func9, Tryd.ntmps9
 go_wp2_with (go_at_call 7; refine (impl_FrameOk.calls k _ a0_1 a0_2 true _ hok).mono ?_; rintro e w1 ⟨rfl, b1⟩; have ha1 : (w.alloc (.cells #[.int .i64 1, .string a0_1, .int .i64 a0_2] 25)).heap[w.heap.size]? = some (.cells #[.int .i64 1, .string a0_1, .int .i64 a0_2] 25) := blk_new w _; have hl1 := blk_lt ha1; have hs1 : w.heap.size < w1.heap.size := Nat.lt_of_lt_of_le hl1 b1.size; have hne : w.heap.size ≠ w1.heap.size := Nat.ne_of_lt hs1; have hb1 := (b1.block _ hl1).trans ha1; have hc0 : w1.cell? ⟨w.heap.size, 0, none⟩ = some (.int .i64 1) := (blk_cell hb1 0).trans rfl; have hc1 : w1.cell? ⟨w.heap.size, 1, none⟩ = some (.string a0_1) := (blk_cell hb1 1).trans rfl; have hc2 : w1.cell? ⟨w.heap.size, 2, none⟩ = some (.int .i64 a0_2) := (blk_cell hb1 2).trans rfl; clear hb1)
 go_ret
 exact ⟨rfl, by have hb0 : Below w.heap.size w w1 := (below_alloc (Below.refl _ _) _).trans (b1.mono (Nat.le_of_lt hl1)); exact below_alloc hb0 _⟩
set_option maxHeartbeats 8000000 in
set_option maxRecDepth 100000 in
theorem impl_FrameText.at2_0 (k : Nat) (a0_1 : ByteArray) (a0_2 : Int) (r : ByteArray) (w : World) (hok : impl_FrameOk.f k 2 a0_1 a0_2 = some true) (c : a0_1.toList = ([] : List UInt8)) (h : (⟨#[113, 117, 101, 114, 121]⟩ : ByteArray) = r) : Calls Tryd.prog 9 #[.agg #[.int .i64 2, .string a0_1, .int .i64 a0_2]] w fun e w' => e = .returned (.string r) ∧ Below w.heap.size w w' := by
 subst h
 have c1 : (a0_1.toList == ([] : List UInt8)) = true := by rw [c]; rfl
 have c2 : a0_1.toList.isEmpty = true := by rw [c]; rfl
 go_enter Tryd.func9, Tryd.ntmps9
 go_wp2_with (go_at_call 7; refine (impl_FrameOk.calls k _ a0_1 a0_2 true _ hok).mono ?_; rintro e w1 ⟨rfl, b1⟩; have ha1 : (w.alloc (.cells #[.int .i64 2, .string a0_1, .int .i64 a0_2] 25)).heap[w.heap.size]? = some (.cells #[.int .i64 2, .string a0_1, .int .i64 a0_2] 25) := blk_new w _; have hl1 := blk_lt ha1; have hs1 : w.heap.size < w1.heap.size := Nat.lt_of_lt_of_le hl1 b1.size; have hne : w.heap.size ≠ w1.heap.size := Nat.ne_of_lt hs1; have hb1 := (b1.block _ hl1).trans ha1; have hc0 : w1.cell? ⟨w.heap.size, 0, none⟩ = some (.int .i64 2) := (blk_cell hb1 0).trans rfl; have hc1 : w1.cell? ⟨w.heap.size, 1, none⟩ = some (.string a0_1) := (blk_cell hb1 1).trans rfl; have hc2 : w1.cell? ⟨w.heap.size, 2, none⟩ = some (.int .i64 a0_2) := (blk_cell hb1 2).trans rfl; clear hb1)
 go_ret
 exact ⟨rfl, by have hb0 : Below w.heap.size w w1 := (below_alloc (Below.refl _ _) _).trans (b1.mono (Nat.le_of_lt hl1)); exact below_alloc hb0 _⟩
set_option maxHeartbeats 8000000 in
set_option maxRecDepth 100000 in
theorem impl_FrameText.at2_1 (k : Nat) (a0_1 : ByteArray) (a0_2 : Int) (r : ByteArray) (w : World) (hok : impl_FrameOk.f k 2 a0_1 a0_2 = some true) (c : a0_1.toList ≠ ([] : List UInt8)) (hs : a0_1.size ≤ 1000000) (h : (⟨#[113, 117, 101, 114, 121]⟩ : ByteArray) ++ ((⟨#[32]⟩ : ByteArray) ++ a0_1) = r) : Calls Tryd.prog 9 #[.agg #[.int .i64 2, .string a0_1, .int .i64 a0_2]] w fun e w' => e = .returned (.string r) ∧ Below w.heap.size w w' := by
 subst h
 have c1 : (a0_1.toList == ([] : List UInt8)) = false := beq_eq_false_iff_ne.2 c
 have c2 : a0_1.toList.isEmpty = false := by simpa using c
 have hs2 : ((⟨#[32]⟩ : ByteArray) ++ a0_1).size ≤ 1000001 := by rw [ByteArray.size_append]; show 1 + _ ≤ _; omega
 have s1 : 5 + (1 + a0_1.size) ≤ 9223372036854775807 := by omega
 have s2 : 1 + a0_1.size ≤ 9223372036854775807 := by omega
 go_enter Tryd.func9, Tryd.ntmps9
 go_wp2_with (go_at_call 7; refine (impl_FrameOk.calls k _ a0_1 a0_2 true _ hok).mono ?_; rintro e w1 ⟨rfl, b1⟩; have ha1 : (w.alloc (.cells #[.int .i64 2, .string a0_1, .int .i64 a0_2] 25)).heap[w.heap.size]? = some (.cells #[.int .i64 2, .string a0_1, .int .i64 a0_2] 25) := blk_new w _; have hl1 := blk_lt ha1; have hs1 : w.heap.size < w1.heap.size := Nat.lt_of_lt_of_le hl1 b1.size; have hne : w.heap.size ≠ w1.heap.size := Nat.ne_of_lt hs1; have hb1 := (b1.block _ hl1).trans ha1; have hc0 : w1.cell? ⟨w.heap.size, 0, none⟩ = some (.int .i64 2) := (blk_cell hb1 0).trans rfl; have hc1 : w1.cell? ⟨w.heap.size, 1, none⟩ = some (.string a0_1) := (blk_cell hb1 1).trans rfl; have hc2 : w1.cell? ⟨w.heap.size, 2, none⟩ = some (.int .i64 a0_2) := (blk_cell hb1 2).trans rfl; clear hb1)
 go_ret
 exact ⟨rfl, by have hb0 : Below w.heap.size w w1 := (below_alloc (Below.refl _ _) _).trans (b1.mono (Nat.le_of_lt hl1)); exact below_alloc hb0 _⟩
set_option maxHeartbeats 8000000 in
set_option maxRecDepth 100000 in
theorem impl_FrameText.at3_0 (k : Nat) (a0_1 : ByteArray) (a0_2 : Int) (r : ByteArray) (w : World) (hok : impl_FrameOk.f k 3 a0_1 a0_2 = some true) (c : a0_1.toList = ([] : List UInt8)) (h : (⟨#[98, 121, 101]⟩ : ByteArray) = r) : Calls Tryd.prog 9 #[.agg #[.int .i64 3, .string a0_1, .int .i64 a0_2]] w fun e w' => e = .returned (.string r) ∧ Below w.heap.size w w' := by
 subst h
 have c1 : (a0_1.toList == ([] : List UInt8)) = true := by rw [c]; rfl
 have c2 : a0_1.toList.isEmpty = true := by rw [c]; rfl
 go_enter Tryd.func9, Tryd.ntmps9
 go_wp2_with (go_at_call 7; refine (impl_FrameOk.calls k _ a0_1 a0_2 true _ hok).mono ?_; rintro e w1 ⟨rfl, b1⟩; have ha1 : (w.alloc (.cells #[.int .i64 3, .string a0_1, .int .i64 a0_2] 25)).heap[w.heap.size]? = some (.cells #[.int .i64 3, .string a0_1, .int .i64 a0_2] 25) := blk_new w _; have hl1 := blk_lt ha1; have hs1 : w.heap.size < w1.heap.size := Nat.lt_of_lt_of_le hl1 b1.size; have hne : w.heap.size ≠ w1.heap.size := Nat.ne_of_lt hs1; have hb1 := (b1.block _ hl1).trans ha1; have hc0 : w1.cell? ⟨w.heap.size, 0, none⟩ = some (.int .i64 3) := (blk_cell hb1 0).trans rfl; have hc1 : w1.cell? ⟨w.heap.size, 1, none⟩ = some (.string a0_1) := (blk_cell hb1 1).trans rfl; have hc2 : w1.cell? ⟨w.heap.size, 2, none⟩ = some (.int .i64 a0_2) := (blk_cell hb1 2).trans rfl; clear hb1)
 go_ret
 exact ⟨rfl, by have hb0 : Below w.heap.size w w1 := (below_alloc (Below.refl _ _) _).trans (b1.mono (Nat.le_of_lt hl1)); exact below_alloc hb0 _⟩
set_option maxHeartbeats 8000000 in
set_option maxRecDepth 100000 in
theorem impl_FrameText.at3_1 (k : Nat) (a0_1 : ByteArray) (a0_2 : Int) (r : ByteArray) (w : World) (hok : impl_FrameOk.f k 3 a0_1 a0_2 = some true) (c : a0_1.toList ≠ ([] : List UInt8)) (hs : a0_1.size ≤ 1000000) (h : (⟨#[98, 121, 101]⟩ : ByteArray) ++ ((⟨#[32]⟩ : ByteArray) ++ a0_1) = r) : Calls Tryd.prog 9 #[.agg #[.int .i64 3, .string a0_1, .int .i64 a0_2]] w fun e w' => e = .returned (.string r) ∧ Below w.heap.size w w' := by
 subst h
 have c1 : (a0_1.toList == ([] : List UInt8)) = false := beq_eq_false_iff_ne.2 c
 have c2 : a0_1.toList.isEmpty = false := by simpa using c
 have hs2 : ((⟨#[32]⟩ : ByteArray) ++ a0_1).size ≤ 1000001 := by rw [ByteArray.size_append]; show 1 + _ ≤ _; omega
 have s1 : 3 + (1 + a0_1.size) ≤ 9223372036854775807 := by omega
 have s2 : 1 + a0_1.size ≤ 9223372036854775807 := by omega
 go_enter Tryd.func9, Tryd.ntmps9
 go_wp2_with (go_at_call 7; refine (impl_FrameOk.calls k _ a0_1 a0_2 true _ hok).mono ?_; rintro e w1 ⟨rfl, b1⟩; have ha1 : (w.alloc (.cells #[.int .i64 3, .string a0_1, .int .i64 a0_2] 25)).heap[w.heap.size]? = some (.cells #[.int .i64 3, .string a0_1, .int .i64 a0_2] 25) := blk_new w _; have hl1 := blk_lt ha1; have hs1 : w.heap.size < w1.heap.size := Nat.lt_of_lt_of_le hl1 b1.size; have hne : w.heap.size ≠ w1.heap.size := Nat.ne_of_lt hs1; have hb1 := (b1.block _ hl1).trans ha1; have hc0 : w1.cell? ⟨w.heap.size, 0, none⟩ = some (.int .i64 3) := (blk_cell hb1 0).trans rfl; have hc1 : w1.cell? ⟨w.heap.size, 1, none⟩ = some (.string a0_1) := (blk_cell hb1 1).trans rfl; have hc2 : w1.cell? ⟨w.heap.size, 2, none⟩ = some (.int .i64 a0_2) := (blk_cell hb1 2).trans rfl; clear hb1)
 go_ret
 exact ⟨rfl, by have hb0 : Below w.heap.size w w1 := (below_alloc (Below.refl _ _) _).trans (b1.mono (Nat.le_of_lt hl1)); exact below_alloc hb0 _⟩
set_option maxHeartbeats 8000000 in
set_option maxRecDepth 100000 in
theorem impl_FrameText.at4_0 (k : Nat) (a0_1 : ByteArray) (a0_2 : Int) (r : ByteArray) (w : World) (hok : impl_FrameOk.f k 4 a0_1 a0_2 = some true) (c : a0_1.toList = ([] : List UInt8)) (h : (⟨#[114, 111, 119]⟩ : ByteArray) = r) : Calls Tryd.prog 9 #[.agg #[.int .i64 4, .string a0_1, .int .i64 a0_2]] w fun e w' => e = .returned (.string r) ∧ Below w.heap.size w w' := by
 subst h
 have c1 : (a0_1.toList == ([] : List UInt8)) = true := by rw [c]; rfl
 have c2 : a0_1.toList.isEmpty = true := by rw [c]; rfl
 go_enter Tryd.func9, Tryd.ntmps9
 go_wp2_with (go_at_call 7; refine (impl_FrameOk.calls k _ a0_1 a0_2 true _ hok).mono ?_; rintro e w1 ⟨rfl, b1⟩; have ha1 : (w.alloc (.cells #[.int .i64 4, .string a0_1, .int .i64 a0_2] 25)).heap[w.heap.size]? = some (.cells #[.int .i64 4, .string a0_1, .int .i64 a0_2] 25) := blk_new w _; have hl1 := blk_lt ha1; have hs1 : w.heap.size < w1.heap.size := Nat.lt_of_lt_of_le hl1 b1.size; have hne : w.heap.size ≠ w1.heap.size := Nat.ne_of_lt hs1; have hb1 := (b1.block _ hl1).trans ha1; have hc0 : w1.cell? ⟨w.heap.size, 0, none⟩ = some (.int .i64 4) := (blk_cell hb1 0).trans rfl; have hc1 : w1.cell? ⟨w.heap.size, 1, none⟩ = some (.string a0_1) := (blk_cell hb1 1).trans rfl; have hc2 : w1.cell? ⟨w.heap.size, 2, none⟩ = some (.int .i64 a0_2) := (blk_cell hb1 2).trans rfl; clear hb1)
 go_ret
 exact ⟨rfl, by have hb0 : Below w.heap.size w w1 := (below_alloc (Below.refl _ _) _).trans (b1.mono (Nat.le_of_lt hl1)); exact below_alloc hb0 _⟩
set_option maxHeartbeats 8000000 in
set_option maxRecDepth 100000 in
theorem impl_FrameText.at4_1 (k : Nat) (a0_1 : ByteArray) (a0_2 : Int) (r : ByteArray) (w : World) (hok : impl_FrameOk.f k 4 a0_1 a0_2 = some true) (c : a0_1.toList ≠ ([] : List UInt8)) (hs : a0_1.size ≤ 1000000) (h : (⟨#[114, 111, 119]⟩ : ByteArray) ++ ((⟨#[32]⟩ : ByteArray) ++ a0_1) = r) : Calls Tryd.prog 9 #[.agg #[.int .i64 4, .string a0_1, .int .i64 a0_2]] w fun e w' => e = .returned (.string r) ∧ Below w.heap.size w w' := by
 subst h
 have c1 : (a0_1.toList == ([] : List UInt8)) = false := beq_eq_false_iff_ne.2 c
 have c2 : a0_1.toList.isEmpty = false := by simpa using c
 have hs2 : ((⟨#[32]⟩ : ByteArray) ++ a0_1).size ≤ 1000001 := by rw [ByteArray.size_append]; show 1 + _ ≤ _; omega
 have s1 : 3 + (1 + a0_1.size) ≤ 9223372036854775807 := by omega
 have s2 : 1 + a0_1.size ≤ 9223372036854775807 := by omega
 go_enter Tryd.func9, Tryd.ntmps9
 go_wp2_with (go_at_call 7; refine (impl_FrameOk.calls k _ a0_1 a0_2 true _ hok).mono ?_; rintro e w1 ⟨rfl, b1⟩; have ha1 : (w.alloc (.cells #[.int .i64 4, .string a0_1, .int .i64 a0_2] 25)).heap[w.heap.size]? = some (.cells #[.int .i64 4, .string a0_1, .int .i64 a0_2] 25) := blk_new w _; have hl1 := blk_lt ha1; have hs1 : w.heap.size < w1.heap.size := Nat.lt_of_lt_of_le hl1 b1.size; have hne : w.heap.size ≠ w1.heap.size := Nat.ne_of_lt hs1; have hb1 := (b1.block _ hl1).trans ha1; have hc0 : w1.cell? ⟨w.heap.size, 0, none⟩ = some (.int .i64 4) := (blk_cell hb1 0).trans rfl; have hc1 : w1.cell? ⟨w.heap.size, 1, none⟩ = some (.string a0_1) := (blk_cell hb1 1).trans rfl; have hc2 : w1.cell? ⟨w.heap.size, 2, none⟩ = some (.int .i64 a0_2) := (blk_cell hb1 2).trans rfl; clear hb1)
 go_ret
 exact ⟨rfl, by have hb0 : Below w.heap.size w w1 := (below_alloc (Below.refl _ _) _).trans (b1.mono (Nat.le_of_lt hl1)); exact below_alloc hb0 _⟩
set_option maxHeartbeats 8000000 in
set_option maxRecDepth 100000 in
theorem impl_FrameText.at6_0 (k : Nat) (a0_1 : ByteArray) (a0_2 : Int) (r : ByteArray) (w : World) (hok : impl_FrameOk.f k 6 a0_1 a0_2 = some true) (c : a0_1.toList = ([] : List UInt8)) (h : (⟨#[101, 114, 114, 111, 114]⟩ : ByteArray) = r) : Calls Tryd.prog 9 #[.agg #[.int .i64 6, .string a0_1, .int .i64 a0_2]] w fun e w' => e = .returned (.string r) ∧ Below w.heap.size w w' := by
 subst h
 have c1 : (a0_1.toList == ([] : List UInt8)) = true := by rw [c]; rfl
 have c2 : a0_1.toList.isEmpty = true := by rw [c]; rfl
 go_enter Tryd.func9, Tryd.ntmps9
 go_wp2_with (go_at_call 7; refine (impl_FrameOk.calls k _ a0_1 a0_2 true _ hok).mono ?_; rintro e w1 ⟨rfl, b1⟩; have ha1 : (w.alloc (.cells #[.int .i64 6, .string a0_1, .int .i64 a0_2] 25)).heap[w.heap.size]? = some (.cells #[.int .i64 6, .string a0_1, .int .i64 a0_2] 25) := blk_new w _; have hl1 := blk_lt ha1; have hs1 : w.heap.size < w1.heap.size := Nat.lt_of_lt_of_le hl1 b1.size; have hne : w.heap.size ≠ w1.heap.size := Nat.ne_of_lt hs1; have hb1 := (b1.block _ hl1).trans ha1; have hc0 : w1.cell? ⟨w.heap.size, 0, none⟩ = some (.int .i64 6) := (blk_cell hb1 0).trans rfl; have hc1 : w1.cell? ⟨w.heap.size, 1, none⟩ = some (.string a0_1) := (blk_cell hb1 1).trans rfl; have hc2 : w1.cell? ⟨w.heap.size, 2, none⟩ = some (.int .i64 a0_2) := (blk_cell hb1 2).trans rfl; clear hb1)
 go_ret
 exact ⟨rfl, by have hb0 : Below w.heap.size w w1 := (below_alloc (Below.refl _ _) _).trans (b1.mono (Nat.le_of_lt hl1)); exact below_alloc hb0 _⟩
set_option maxHeartbeats 8000000 in
set_option maxRecDepth 100000 in
theorem impl_FrameText.at6_1 (k : Nat) (a0_1 : ByteArray) (a0_2 : Int) (r : ByteArray) (w : World) (hok : impl_FrameOk.f k 6 a0_1 a0_2 = some true) (c : a0_1.toList ≠ ([] : List UInt8)) (hs : a0_1.size ≤ 1000000) (h : (⟨#[101, 114, 114, 111, 114]⟩ : ByteArray) ++ ((⟨#[32]⟩ : ByteArray) ++ a0_1) = r) : Calls Tryd.prog 9 #[.agg #[.int .i64 6, .string a0_1, .int .i64 a0_2]] w fun e w' => e = .returned (.string r) ∧ Below w.heap.size w w' := by
 subst h
 have c1 : (a0_1.toList == ([] : List UInt8)) = false := beq_eq_false_iff_ne.2 c
 have c2 : a0_1.toList.isEmpty = false := by simpa using c
 have hs2 : ((⟨#[32]⟩ : ByteArray) ++ a0_1).size ≤ 1000001 := by rw [ByteArray.size_append]; show 1 + _ ≤ _; omega
 have s1 : 5 + (1 + a0_1.size) ≤ 9223372036854775807 := by omega
 have s2 : 1 + a0_1.size ≤ 9223372036854775807 := by omega
 go_enter Tryd.func9, Tryd.ntmps9
 go_wp2_with (go_at_call 7; refine (impl_FrameOk.calls k _ a0_1 a0_2 true _ hok).mono ?_; rintro e w1 ⟨rfl, b1⟩; have ha1 : (w.alloc (.cells #[.int .i64 6, .string a0_1, .int .i64 a0_2] 25)).heap[w.heap.size]? = some (.cells #[.int .i64 6, .string a0_1, .int .i64 a0_2] 25) := blk_new w _; have hl1 := blk_lt ha1; have hs1 : w.heap.size < w1.heap.size := Nat.lt_of_lt_of_le hl1 b1.size; have hne : w.heap.size ≠ w1.heap.size := Nat.ne_of_lt hs1; have hb1 := (b1.block _ hl1).trans ha1; have hc0 : w1.cell? ⟨w.heap.size, 0, none⟩ = some (.int .i64 6) := (blk_cell hb1 0).trans rfl; have hc1 : w1.cell? ⟨w.heap.size, 1, none⟩ = some (.string a0_1) := (blk_cell hb1 1).trans rfl; have hc2 : w1.cell? ⟨w.heap.size, 2, none⟩ = some (.int .i64 a0_2) := (blk_cell hb1 2).trans rfl; clear hb1)
 go_ret
 exact ⟨rfl, by have hb0 : Below w.heap.size w w1 := (below_alloc (Below.refl _ _) _).trans (b1.mono (Nat.le_of_lt hl1)); exact below_alloc hb0 _⟩
set_option maxHeartbeats 8000000 in
set_option maxRecDepth 100000 in
theorem impl_FrameText.at5 (k : Nat) (a0_1 : ByteArray) (a0_2 : Int) (s : ByteArray) (r : ByteArray) (w : World) (hok : impl_FrameOk.f k 5 a0_1 a0_2 = some true) (hn : impl_NumText.f a0_2 = some s) (h : (⟨#[114, 101, 97, 100, 121]⟩ : ByteArray) ++ ((⟨#[32]⟩ : ByteArray) ++ s) = r) : Calls Tryd.prog 9 #[.agg #[.int .i64 5, .string a0_1, .int .i64 a0_2]] w fun e w' => e = .returned (.string r) ∧ Below w.heap.size w w' := by
 subst h
 have hs : s.size = 1 := by
  unfold impl_NumText.f at hn
  split at hn
  ·
   cases hn; rfl
  split at hn
  ·
   cases hn; rfl
  split at hn
  ·
   cases hn; rfl
  cases hn
 have s1 : 5 + (1 + s.size) ≤ 9223372036854775807 := by omega
 have s2 : 1 + s.size ≤ 9223372036854775807 := by omega
 go_enter Tryd.func9, Tryd.ntmps9
 go_wp2_with (first | (go_at_call 7; refine (impl_FrameOk.calls k _ a0_1 a0_2 true _ hok).mono ?_; rintro e w1 ⟨rfl, b1⟩; have ha1 : (w.alloc (.cells #[.int .i64 5, .string a0_1, .int .i64 a0_2] 25)).heap[w.heap.size]? = some (.cells #[.int .i64 5, .string a0_1, .int .i64 a0_2] 25) := blk_new w _; have hl1 := blk_lt ha1; have hs1 : w.heap.size < w1.heap.size := Nat.lt_of_lt_of_le hl1 b1.size; have hne : w.heap.size ≠ w1.heap.size := Nat.ne_of_lt hs1; have hb1 := (b1.block _ hl1).trans ha1; have hc0 : w1.cell? ⟨w.heap.size, 0, none⟩ = some (.int .i64 5) := (blk_cell hb1 0).trans rfl; have hc1 : w1.cell? ⟨w.heap.size, 1, none⟩ = some (.string a0_1) := (blk_cell hb1 1).trans rfl; have hc2 : w1.cell? ⟨w.heap.size, 2, none⟩ = some (.int .i64 a0_2) := (blk_cell hb1 2).trans rfl; clear hb1) | (go_at_call 23; refine (impl_NumText.calls a0_2 s _ hn).mono ?_; rintro e w2 ⟨rfl, d2⟩))
 go_ret
 exact ⟨rfl, by have hb0 : Below w.heap.size w w1 := (below_alloc (Below.refl _ _) _).trans (b1.mono (Nat.le_of_lt hl1)); exact Below.trans (below_alloc hb0 _) (Below.mono d2.below (Nat.le_trans (Nat.le_of_lt hs1) (Nat.le_of_lt (by simp))))⟩
set_option maxHeartbeats 8000000 in
set_option maxRecDepth 100000 in
theorem impl_FrameText.out (k : Nat) (a0_0 : Int) (a0_1 : ByteArray) (a0_2 : Int) (r : ByteArray) (w : World) (hok : impl_FrameOk.f k a0_0 a0_1 a0_2 = some false) (h : (⟨#[]⟩ : ByteArray) = r) : Calls Tryd.prog 9 #[.agg #[.int .i64 a0_0, .string a0_1, .int .i64 a0_2]] w fun e w' => e = .returned (.string r) ∧ Below w.heap.size w w' := by
 subst h
 go_enter Tryd.func9, Tryd.ntmps9
 go_wp2_with (go_at_call 7; refine (impl_FrameOk.calls k _ a0_1 a0_2 false _ hok).mono ?_; rintro e w1 ⟨rfl, b1⟩)
 go_ret
 exact ⟨rfl, (below_alloc (Below.refl _ _) _).trans (b1.mono (Nat.le_of_lt (blk_lt (blk_new w _))))⟩
set_option maxHeartbeats 8000000 in
set_option maxRecDepth 100000 in
theorem impl_FrameText.calls (k : Nat) (a0_0 : Int) (a0_1 : ByteArray) (a0_2 : Int) (r : ByteArray) (w : World) (h : impl_FrameText.f k a0_0 a0_1 a0_2 = some r) :
  Calls Tryd.prog 9 #[.agg #[.int .i64 a0_0, .string a0_1, .int .i64 a0_2]] w fun e w' => e = .returned (.string r) ∧ Below w.heap.size w w' := by
 have hf := h
 clear h
 unfold impl_FrameText.f at hf
 obtain ⟨b, hok, h⟩ := Option.bind_eq_some_iff.mp hf
 clear hf
 cases b with
 | false => exact impl_FrameText.out k _ _ _ r w hok (Option.some.inj (by simpa using h))
 | true =>
  simp only [if_true] at h
  by_cases c5 : a0_0 = 5
  ·
   rw [if_pos c5] at h
   subst c5
   obtain ⟨s, hn, h⟩ := Option.bind_eq_some_iff.mp h
   exact impl_FrameText.at5 k _ _ s r w hok hn (Option.some.inj h)
  rw [if_neg c5] at h
  by_cases c1 : a0_0 = 1
  ·
   rw [if_pos c1] at h
   subst c1
   unfold impl_FrameText.tail at h
   split at h
   case isTrue c => exact impl_FrameText.at1_0 k _ _ r w hok c (Option.some.inj h)
   case isFalse c =>
   split at h
   case isTrue hs => exact impl_FrameText.at1_1 k _ _ r w hok c hs (Option.some.inj h)
   case isFalse => cases h
  rw [if_neg c1] at h
  by_cases c2 : a0_0 = 2
  ·
   rw [if_pos c2] at h
   subst c2
   unfold impl_FrameText.tail at h
   split at h
   case isTrue c => exact impl_FrameText.at2_0 k _ _ r w hok c (Option.some.inj h)
   case isFalse c =>
   split at h
   case isTrue hs => exact impl_FrameText.at2_1 k _ _ r w hok c hs (Option.some.inj h)
   case isFalse => cases h
  rw [if_neg c2] at h
  by_cases c3 : a0_0 = 3
  ·
   rw [if_pos c3] at h
   subst c3
   unfold impl_FrameText.tail at h
   split at h
   case isTrue c => exact impl_FrameText.at3_0 k _ _ r w hok c (Option.some.inj h)
   case isFalse c =>
   split at h
   case isTrue hs => exact impl_FrameText.at3_1 k _ _ r w hok c hs (Option.some.inj h)
   case isFalse => cases h
  rw [if_neg c3] at h
  by_cases c4 : a0_0 = 4
  ·
   rw [if_pos c4] at h
   subst c4
   unfold impl_FrameText.tail at h
   split at h
   case isTrue c => exact impl_FrameText.at4_0 k _ _ r w hok c (Option.some.inj h)
   case isFalse c =>
   split at h
   case isTrue hs => exact impl_FrameText.at4_1 k _ _ r w hok c hs (Option.some.inj h)
   case isFalse => cases h
  rw [if_neg c4] at h
  by_cases c6 : a0_0 = 6
  ·
   rw [if_pos c6] at h
   subst c6
   unfold impl_FrameText.tail at h
   split at h
   case isTrue c => exact impl_FrameText.at6_0 k _ _ r w hok c (Option.some.inj h)
   case isFalse c =>
   split at h
   case isTrue hs => exact impl_FrameText.at6_1 k _ _ r w hok c hs (Option.some.inj h)
   case isFalse => cases h
  rw [if_neg c6] at h
  cases h

/-! ### spec_NumText: function 24 -/
def spec_NumText.l0 : Nat → Int → ByteArray → Int → Option (ByteArray)
 | 0, _, _, _ => none
 | k + 1, x0, x3, x4 => if x4 = 0 then (if x0 < 0 then (if 1 + x3.size ≤ 9223372036854775807 then (some ((⟨#[45]⟩ : ByteArray) ++ x3)) else (none)) else (some x3)) else (if (Int.tmod x4 10) < 0 then ((some (([(wrap64 (48 + (wrap64 (-(Int.tmod x4 10))))) % 256] : List Int) : List Int)).bind fun y244 => (if (strOfNums y244).size + x3.size ≤ 9223372036854775807 then (spec_NumText.l0 k x0 ((strOfNums y244) ++ x3) (wrap64 (Int.tdiv x4 10))) else (none))) else ((some (([(wrap64 (48 + (Int.tmod x4 10))) % 256] : List Int) : List Int)).bind fun y247 => (if (strOfNums y247).size + x3.size ≤ 9223372036854775807 then (spec_NumText.l0 k x0 ((strOfNums y247) ++ x3) (wrap64 (Int.tdiv x4 10))) else (none))))
def spec_NumText.f (k : Nat) (a0 : Int) : Option (ByteArray) := if a0 = 0 then (some (⟨#[48]⟩ : ByteArray)) else (spec_NumText.l0 k a0 (⟨#[]⟩ : ByteArray) a0)
theorem spec_NumText.mono_l : ∀ k, (∀ y0 y1 y2, LeO (spec_NumText.l0 k y0 y1 y2) (spec_NumText.l0 (k + 1) y0 y1 y2))
 | 0 => fun _ _ _ r h => by simp [spec_NumText.l0] at h
 | k + 1 => by
  have ih0 := spec_NumText.mono_l k
  ·
   intro y0 y1 y2
   unfold spec_NumText.l0
   repeat' first
   | (with_reducible exact ih0 _ _ _)
   | (with_reducible exact LeO.refl _)
   | (with_reducible exact LeO.none _)
   | (with_reducible refine LeO.ite ?_ ?_)
   | (with_reducible refine LeO.bind ?_ (fun _ => ?_))
   | exact ih0 _ _ _
   | exact LeO.none _
   | refine LeO.ite ?_ ?_
   | refine LeO.bind ?_ (fun _ => ?_)
theorem spec_NumText.mono : ∀ a0 k, LeO (spec_NumText.f k a0) (spec_NumText.f (k + 1) a0) := by
 intro a0 k
 have ih0 := spec_NumText.mono_l k
 unfold spec_NumText.f
 repeat' first
   | (with_reducible exact ih0 _ _ _)
   | (with_reducible exact LeO.refl _)
   | (with_reducible exact LeO.none _)
   | (with_reducible refine LeO.ite ?_ ?_)
   | (with_reducible refine LeO.bind ?_ (fun _ => ?_))
   | exact ih0 _ _ _
   | exact LeO.none _
   | refine LeO.ite ?_ ?_
   | refine LeO.bind ?_ (fun _ => ?_)
set_option maxHeartbeats 8000000 in
set_option maxRecDepth 100000 in
theorem spec_NumText.calls (k : Nat) (a0 : Int) (r : ByteArray) (w : World) (h : spec_NumText.f k a0 = some r) :
  Calls Tryd.prog 24 #[.int .i64 a0] w fun e w' => e = .returned (.string r) ∧ Below w.heap.size w w' := by
 have HB := Aside0.mk (Below.refl w.heap.size w)
 have H : (if a0 = 0 then (some (⟨#[48]⟩ : ByteArray)) else (spec_NumText.l0 k a0 (⟨#[]⟩ : ByteArray) a0)) = some r := h
 clear h
 by_cases c2 : a0 = 0
 ·
  rw [if_pos c2] at H
  have c2b0 : (a0 == 0) = true := beq_iff_eq.mpr c2
  have c2b1 : (a0 != 0) = false := bne_eq_false_iff_eq.mpr c2
  clear c2
  obtain rfl := Option.some.inj H
  go_enter Tryd.func24, Tryd.ntmps24
  go_wp2
  go_ret
  exact ⟨by first | rfl | (simp [errW_none, errW_some] <;> rfl) | (simp [*, errW_none, errW_some] <;> rfl), qB HB⟩
 ·
  rw [if_neg c2] at H
  have c2b0 : (a0 == 0) = false := beq_eq_false_iff_ne.mpr c2
  have c2b1 : (a0 != 0) = true := bne_iff_ne.mpr c2
  have H' := Aside0.mk H
  clear H
  go_enter Tryd.func24, Tryd.ntmps24
  go_wp2
  go_loopg [3, 4] k (fun kq v3 v4 w' => ∃ (x3_1 : ByteArray) (x4_1 : Int), v3 = .string x3_1 ∧ v4 = .int .i64 x4_1 ∧ Aside0 (spec_NumText.l0 kq a0 x3_1 x4_1 = some r) ∧ Aside0 (kq ≤ k) ∧ Aside0 (Below w.heap.size w w'))
  case atStart => exact ⟨((⟨#[]⟩ : ByteArray)), (a0), eqq_, eqq_, H', ⟨Nat.le_refl _⟩, ⟨qB HB⟩⟩
  case round =>
   clear H'
   try clear c2
   try clear c2b0
   try clear c2b1
   try clear p2
   obtain ⟨x3_1, x4_1, rfl, rfl, HA, HK1, HB⟩ := hrel
   cases gk with
   | zero => exact absurd HA.out (by simp [spec_NumText.l0])
   | succ k1 =>
    have H := HA.out
    clear HA
    simp only [spec_NumText.l0] at H
    by_cases c3 : x4_1 = 0
    ·
     rw [if_pos c3] at H
     have c3b0 : (x4_1 == 0) = true := beq_iff_eq.mpr c3
     have c3b1 : (x4_1 != 0) = false := bne_eq_false_iff_eq.mpr c3
     clear c3
     by_cases c4 : a0 < 0
     ·
      rw [if_pos c4] at H
      have c4b0 : decide (a0 < 0) = true := decide_eq_true c4
      clear c4
      by_cases c5 : 1 + x3_1.size ≤ 9223372036854775807
      ·
       rw [if_pos c5] at H
       have c5b0 := eq_true c5
       have c5b1 : decide (1 + x3_1.size ≤ 9223372036854775807) = true := decide_eq_true c5
       try have c5b2 : (9223372036854775807 < 1 + x3_1.size) = False := eq_false (Nat.not_lt.2 c5)
       obtain rfl := Option.some.inj H
       go_wp2
       go_ret
       exact ⟨by first | rfl | (simp [errW_none, errW_some] <;> rfl) | (simp [*, errW_none, errW_some] <;> rfl), qB HB⟩
      ·
       rw [if_neg c5] at H
       exact absurd H (by simp)
     ·
      rw [if_neg c4] at H
      have c4b0 : decide (a0 < 0) = false := decide_eq_false c4
      clear c4
      obtain rfl := Option.some.inj H
      go_wp2
      go_ret
      exact ⟨by first | rfl | (simp [errW_none, errW_some] <;> rfl) | (simp [*, errW_none, errW_some] <;> rfl), qB HB⟩
    ·
     rw [if_neg c3] at H
     have c3b0 : (x4_1 == 0) = false := beq_eq_false_iff_ne.mpr c3
     have c3b1 : (x4_1 != 0) = true := bne_iff_ne.mpr c3
     by_cases c6 : (Int.tmod x4_1 10) < 0
     ·
      rw [if_pos c6] at H
      have c6b0 : decide ((Int.tmod x4_1 10) < 0) = true := decide_eq_true c6
      clear c6
      obtain ⟨y244, hy244⟩ : ∃ y_ : List Int, y_ = (([(wrap64 (48 + (wrap64 (-(Int.tmod x4_1 10))))) % 256] : List Int)) := ⟨_, rfl⟩
      replace H := mk_ H hy244
      (try dsimp only at H)
      have Ny244 := Aside0.mk hy244
      clear hy244
      by_cases c7 : (strOfNums y244).size + x3_1.size ≤ 9223372036854775807
      ·
       rw [if_pos c7] at H
       have c7b0 := eq_true c7
       have c7b1 : decide ((strOfNums y244).size + x3_1.size ≤ 9223372036854775807) = true := decide_eq_true c7
       try have c7b2 : (9223372036854775807 < (strOfNums y244).size + x3_1.size) = False := eq_false (Nat.not_lt.2 c7)
       have H' := Aside0.mk H
       clear H
       go_wp2_with (first | ((with_reducible refine gate_dst (N := 22) rfl ?_); refine Kd.R_lit (Kd.int .u8) _ 5 ?hg (N := 22) ?hd (xs := ([(wrap64 (48 + (wrap64 (-(Int.tmod x4_1 10))))) % 256] : List Int)) (inner := [.int .u8 ((wrap64 (48 + (wrap64 (-(Int.tmod x4_1 10))))) % 256)]) (ok := fun _ => True) (okp := fun _ => True) ?hr ?hp (fun _ hk => hk) trivial (Below.refl _ _) (Nat.le_refl _) (by simp) ?_; (case hd => rfl); (case hg => rfl); (case hr => first | (go_simp; done) | (go_simp; rfl)); (case hp => exact (Reps.one (show Kd.M (Kd.int .u8) _ _ _ ((wrap64 (48 + (wrap64 (-(Int.tmod x4_1 10))))) % 256) [.int .u8 ((wrap64 (48 + (wrap64 (-(Int.tmod x4_1 10))))) % 256)] from rfl) (Reps.none _ _))); intro v245 w8 ho9 hb hg_ hnew_; clear hg_ hnew_; (first | rw [← Ny244.out] at ho9 | (simp only [Int.reduceToNat] at ho9; rw [← Ny244.out] at ho9)); have HO246 := am_ (Kd.R_lower ho9 (below_size (qB HB))); replace HB := am_ (below_step (qB HB) hb); clear hb ho9; have hcv10 := own_string (P := Tryd.prog) Tryd.underlying22 Tryd.underlying5 Tryd.underlying9 (Kd.own_of_R HO246.out)))
       go_roundg k1
       case measure => have := HK1.out; omega
       case rel => exact ⟨((strOfNums y244) ++ x3_1), (wrap64 (Int.tdiv x4_1 10)), eqq_, eqq_, H', ⟨by have := HK1.out; omega⟩, ⟨qB HB⟩⟩
      ·
       rw [if_neg c7] at H
       exact absurd H (by simp)
     ·
      rw [if_neg c6] at H
      have c6b0 : decide ((Int.tmod x4_1 10) < 0) = false := decide_eq_false c6
      clear c6
      obtain ⟨y247, hy247⟩ : ∃ y_ : List Int, y_ = (([(wrap64 (48 + (Int.tmod x4_1 10))) % 256] : List Int)) := ⟨_, rfl⟩
      replace H := mk_ H hy247
      (try dsimp only at H)
      have Ny247 := Aside0.mk hy247
      clear hy247
      by_cases c11 : (strOfNums y247).size + x3_1.size ≤ 9223372036854775807
      ·
       rw [if_pos c11] at H
       have c11b0 := eq_true c11
       have c11b1 : decide ((strOfNums y247).size + x3_1.size ≤ 9223372036854775807) = true := decide_eq_true c11
       try have c11b2 : (9223372036854775807 < (strOfNums y247).size + x3_1.size) = False := eq_false (Nat.not_lt.2 c11)
       have H' := Aside0.mk H
       clear H
       go_wp2_with (first | ((with_reducible refine gate_dst (N := 22) rfl ?_); refine Kd.R_lit (Kd.int .u8) _ 5 ?hg (N := 22) ?hd (xs := ([(wrap64 (48 + (Int.tmod x4_1 10))) % 256] : List Int)) (inner := [.int .u8 ((wrap64 (48 + (Int.tmod x4_1 10))) % 256)]) (ok := fun _ => True) (okp := fun _ => True) ?hr ?hp (fun _ hk => hk) trivial (Below.refl _ _) (Nat.le_refl _) (by simp) ?_; (case hd => rfl); (case hg => rfl); (case hr => first | (go_simp; done) | (go_simp; rfl)); (case hp => exact (Reps.one (show Kd.M (Kd.int .u8) _ _ _ ((wrap64 (48 + (Int.tmod x4_1 10))) % 256) [.int .u8 ((wrap64 (48 + (Int.tmod x4_1 10))) % 256)] from rfl) (Reps.none _ _))); intro v248 w12 ho13 hb hg_ hnew_; clear hg_ hnew_; (first | rw [← Ny247.out] at ho13 | (simp only [Int.reduceToNat] at ho13; rw [← Ny247.out] at ho13)); have HO249 := am_ (Kd.R_lower ho13 (below_size (qB HB))); replace HB := am_ (below_step (qB HB) hb); clear hb ho13; have hcv14 := own_string (P := Tryd.prog) Tryd.underlying22 Tryd.underlying5 Tryd.underlying9 (Kd.own_of_R HO249.out)))
       go_roundg k1
       case measure => have := HK1.out; omega
       case rel => exact ⟨((strOfNums y247) ++ x3_1), (wrap64 (Int.tdiv x4_1 10)), eqq_, eqq_, H', ⟨by have := HK1.out; omega⟩, ⟨qB HB⟩⟩
      ·
       rw [if_neg c11] at H
       exact absurd H (by simp)

/-! ### spec_FrameText: function 10 -/
def spec_FrameText.f (k : Nat) (a0_0 : Int) (a0_1 : ByteArray) (a0_2 : Int) : Option (ByteArray) := (some (([(⟨#[104, 101, 108, 108, 111]⟩ : ByteArray), (⟨#[113, 117, 101, 114, 121]⟩ : ByteArray), (⟨#[98, 121, 101]⟩ : ByteArray), (⟨#[114, 111, 119]⟩ : ByteArray), (⟨#[114, 101, 97, 100, 121]⟩ : ByteArray), (⟨#[101, 114, 114, 111, 114]⟩ : ByteArray)] : List ByteArray) : List ByteArray)).bind fun y251 => ((spec_FrameOk.f k a0_0 a0_1 a0_2).bind fun t254 => (if t254 = true then (if 0 ≤ (wrap64 (a0_0 - 1)) then (if (wrap64 (a0_0 - 1)) < (y251.length : Int) then (if a0_0 = 5 then (if (rdOf ByteArray.empty y251 (wrap64 (a0_0 - 1))).size + 1 ≤ 9223372036854775807 then ((spec_NumText.f k a0_2).bind fun t256 => (if ((rdOf ByteArray.empty y251 (wrap64 (a0_0 - 1))) ++ (⟨#[32]⟩ : ByteArray)).size + t256.size ≤ 9223372036854775807 then (some (((rdOf ByteArray.empty y251 (wrap64 (a0_0 - 1))) ++ (⟨#[32]⟩ : ByteArray)) ++ t256)) else (none))) else (none)) else (if a0_1.toList = ([] : List UInt8) then (some (rdOf ByteArray.empty y251 (wrap64 (a0_0 - 1)))) else (if (rdOf ByteArray.empty y251 (wrap64 (a0_0 - 1))).size + 1 ≤ 9223372036854775807 then (if ((rdOf ByteArray.empty y251 (wrap64 (a0_0 - 1))) ++ (⟨#[32]⟩ : ByteArray)).size + a0_1.size ≤ 9223372036854775807 then (some (((rdOf ByteArray.empty y251 (wrap64 (a0_0 - 1))) ++ (⟨#[32]⟩ : ByteArray)) ++ a0_1)) else (none)) else (none)))) else (none)) else (none)) else (some (⟨#[]⟩ : ByteArray))))
theorem spec_FrameText.mono : ∀ a0 a1 a2 k, LeO (spec_FrameText.f k a0 a1 a2) (spec_FrameText.f (k + 1) a0 a1 a2) := by
 intro a0 a1 a2 k
 unfold spec_FrameText.f
 repeat' first
   | (with_reducible exact spec_FrameOk.mono _ _ _ _)
   | (with_reducible exact spec_NumText.mono _ _)
   | (with_reducible exact LeO.refl _)
   | (with_reducible exact LeO.none _)
   | (with_reducible refine LeO.ite ?_ ?_)
   | (with_reducible refine LeO.bind ?_ (fun _ => ?_))
   | exact spec_FrameOk.mono _ _ _ _
   | exact spec_NumText.mono _ _
   | exact LeO.none _
   | refine LeO.ite ?_ ?_
   | refine LeO.bind ?_ (fun _ => ?_)
set_option maxHeartbeats 8000000 in
set_option maxRecDepth 100000 in
theorem spec_FrameText.calls (k : Nat) (a0_0 : Int) (a0_1 : ByteArray) (a0_2 : Int) (r : ByteArray) (w : World) (h : spec_FrameText.f k a0_0 a0_1 a0_2 = some r) :
  Calls Tryd.prog 10 #[.agg #[.int .i64 a0_0, .string a0_1, .int .i64 a0_2]] w fun e w' => e = .returned (.string r) ∧ Below w.heap.size w w' := by
 have hu25 := Tryd.underlying25
 have HB := Aside0.mk (Below.refl w.heap.size w)
 have H : ((some (([(⟨#[104, 101, 108, 108, 111]⟩ : ByteArray), (⟨#[113, 117, 101, 114, 121]⟩ : ByteArray), (⟨#[98, 121, 101]⟩ : ByteArray), (⟨#[114, 111, 119]⟩ : ByteArray), (⟨#[114, 101, 97, 100, 121]⟩ : ByteArray), (⟨#[101, 114, 114, 111, 114]⟩ : ByteArray)] : List ByteArray) : List ByteArray)).bind fun y251 => ((spec_FrameOk.f k a0_0 a0_1 a0_2).bind fun t254 => (if t254 = true then (if 0 ≤ (wrap64 (a0_0 - 1)) then (if (wrap64 (a0_0 - 1)) < (y251.length : Int) then (if a0_0 = 5 then (if (rdOf ByteArray.empty y251 (wrap64 (a0_0 - 1))).size + 1 ≤ 9223372036854775807 then ((spec_NumText.f k a0_2).bind fun t256 => (if ((rdOf ByteArray.empty y251 (wrap64 (a0_0 - 1))) ++ (⟨#[32]⟩ : ByteArray)).size + t256.size ≤ 9223372036854775807 then (some (((rdOf ByteArray.empty y251 (wrap64 (a0_0 - 1))) ++ (⟨#[32]⟩ : ByteArray)) ++ t256)) else (none))) else (none)) else (if a0_1.toList = ([] : List UInt8) then (some (rdOf ByteArray.empty y251 (wrap64 (a0_0 - 1)))) else (if (rdOf ByteArray.empty y251 (wrap64 (a0_0 - 1))).size + 1 ≤ 9223372036854775807 then (if ((rdOf ByteArray.empty y251 (wrap64 (a0_0 - 1))) ++ (⟨#[32]⟩ : ByteArray)).size + a0_1.size ≤ 9223372036854775807 then (some (((rdOf ByteArray.empty y251 (wrap64 (a0_0 - 1))) ++ (⟨#[32]⟩ : ByteArray)) ++ a0_1)) else (none)) else (none)))) else (none)) else (none)) else (some (⟨#[]⟩ : ByteArray))))) = some r := h
 clear h
 obtain ⟨y251, hy251⟩ : ∃ y_ : List ByteArray, y_ = (([(⟨#[104, 101, 108, 108, 111]⟩ : ByteArray), (⟨#[113, 117, 101, 114, 121]⟩ : ByteArray), (⟨#[98, 121, 101]⟩ : ByteArray), (⟨#[114, 111, 119]⟩ : ByteArray), (⟨#[114, 101, 97, 100, 121]⟩ : ByteArray), (⟨#[101, 114, 114, 111, 114]⟩ : ByteArray)] : List ByteArray)) := ⟨_, rfl⟩
 replace H := mk_ H hy251
 (try dsimp only at H)
 have Ny251 := Aside0.mk hy251
 clear hy251
 obtain ⟨t254, A2, H⟩ := bd_ H
 have HC3 := Aside0.mk H
 clear H
 go_enter Tryd.func10, Tryd.ntmps10
 go_upto_if 8 with (first | ((with_reducible refine gate_dst (N := 1) rfl ?_); refine box_event ?hg (N := 1) ?hd (cs := #[.int .i64 a0_0, .string a0_1, .int .i64 a0_2]) (t := 25) ?hr ?_; (case hd => rfl); (case hg => rfl); (case hr => first | (go_simp; done) | (go_simp; rfl)); intro gb250 hg w4 hbox hb; have BK250 := am_ (hbox); have GW250 := am_ ((gG_ hg (qB HB))); have IGW250 := gI_ GW250; have GE250 := am_ ((gG_ hg (qB HB))); have IGE250 := gI_ GE250; replace HB := am_ (below_step (qB HB) hb); clear hb hbox hg) | ((with_reducible refine gate_dst (N := 5) rfl ?_); refine Kd.R_lit Kd.string _ 9 ?hg (N := 5) ?hd (xs := ([(⟨#[104, 101, 108, 108, 111]⟩ : ByteArray), (⟨#[113, 117, 101, 114, 121]⟩ : ByteArray), (⟨#[98, 121, 101]⟩ : ByteArray), (⟨#[114, 111, 119]⟩ : ByteArray), (⟨#[114, 101, 97, 100, 121]⟩ : ByteArray), (⟨#[101, 114, 114, 111, 114]⟩ : ByteArray)] : List ByteArray)) (inner := [.string (⟨#[104, 101, 108, 108, 111]⟩ : ByteArray), .string (⟨#[113, 117, 101, 114, 121]⟩ : ByteArray), .string (⟨#[98, 121, 101]⟩ : ByteArray), .string (⟨#[114, 111, 119]⟩ : ByteArray), .string (⟨#[114, 101, 97, 100, 121]⟩ : ByteArray), .string (⟨#[101, 114, 114, 111, 114]⟩ : ByteArray)]) (ok := fun _ => True) (okp := fun _ => True) ?hr ?hp (fun _ hk => hk) trivial (Below.refl _ _) (Nat.le_refl _) (by simp) ?_; (case hd => rfl); (case hg => rfl); (case hr => first | (go_simp; done) | (go_simp; rfl)); (case hp => exact (Reps.one (show Kd.M Kd.string _ _ _ (⟨#[104, 101, 108, 108, 111]⟩ : ByteArray) [.string (⟨#[104, 101, 108, 108, 111]⟩ : ByteArray)] from rfl) (Reps.one (show Kd.M Kd.string _ _ _ (⟨#[113, 117, 101, 114, 121]⟩ : ByteArray) [.string (⟨#[113, 117, 101, 114, 121]⟩ : ByteArray)] from rfl) (Reps.one (show Kd.M Kd.string _ _ _ (⟨#[98, 121, 101]⟩ : ByteArray) [.string (⟨#[98, 121, 101]⟩ : ByteArray)] from rfl) (Reps.one (show Kd.M Kd.string _ _ _ (⟨#[114, 111, 119]⟩ : ByteArray) [.string (⟨#[114, 111, 119]⟩ : ByteArray)] from rfl) (Reps.one (show Kd.M Kd.string _ _ _ (⟨#[114, 101, 97, 100, 121]⟩ : ByteArray) [.string (⟨#[114, 101, 97, 100, 121]⟩ : ByteArray)] from rfl) (Reps.one (show Kd.M Kd.string _ _ _ (⟨#[101, 114, 114, 111, 114]⟩ : ByteArray) [.string (⟨#[101, 114, 114, 111, 114]⟩ : ByteArray)] from rfl) (Reps.none _ _)))))))); intro v252 w5 ho6 hb hg_ hnew_; clear hg_ hnew_; (first | rw [← Ny251.out] at ho6 | (simp only [Int.reduceToNat] at ho6; rw [← Ny251.out] at ho6)); have HO253 := am_ (Kd.R_lower ho6 (below_size (qB HB))); replace BK250 := am_ (blk_below (qK BK250) hb); replace HB := am_ (below_step (qB HB) hb); clear hb ho6; obtain ⟨z7_0, z7_1, z7_2⟩ := cz3 BK250.out; obtain ⟨f7_0, f7_1, f7_2⟩ := fz3 BK250.out) | ((with_reducible refine gate_callee (f := 8) rfl ?_); refine goesL_ (some 7) rfl rfl Tryd.func8 (by kernel_rfl) rfl #[.agg #[.int .i64 a0_0, .string a0_1, .int .i64 a0_2]] rfl la_ ?_; (with_reducible refine (spec_FrameOk.calls k a0_0 a0_1 a0_2 t254 _ A2.out).mono ?_); rintro e w8 ⟨rfl, hb⟩; refine ⟨_, rfl, ?_⟩; replace HO253 := am_ (Kd.R_below (qR HO253) hb); replace BK250 := am_ (blk_below (qK BK250) hb); replace HB := am_ (below_step (qB HB) hb); (try clear hb); (try clear hb2); (try clear hk); (try clear hi)))
 (try simp only [Act.put, List.setIfInBounds_toArray, List.set_cons_zero, List.set_cons_succ])
 have H := HC3.out
 clear HC3
 by_cases c9 : t254 = true
 ·
  subst c9
  rw [if_pos rfl] at H
  obtain ⟨ji10, hji10⟩ : ∃ j_ : Int, (wrap64 (a0_0 - 1)) = j_ := ⟨_, rfl⟩
  replace H : (if 0 ≤ (ji10) then (if (ji10) < (y251.length : Int) then (if a0_0 = 5 then (if (rdOf ByteArray.empty y251 (ji10)).size + 1 ≤ 9223372036854775807 then ((spec_NumText.f k a0_2).bind fun t256 => (if ((rdOf ByteArray.empty y251 (ji10)) ++ (⟨#[32]⟩ : ByteArray)).size + t256.size ≤ 9223372036854775807 then (some (((rdOf ByteArray.empty y251 (ji10)) ++ (⟨#[32]⟩ : ByteArray)) ++ t256)) else (none))) else (none)) else (if a0_1.toList = ([] : List UInt8) then (some (rdOf ByteArray.empty y251 (ji10))) else (if (rdOf ByteArray.empty y251 (ji10)).size + 1 ≤ 9223372036854775807 then (if ((rdOf ByteArray.empty y251 (ji10)) ++ (⟨#[32]⟩ : ByteArray)).size + a0_1.size ≤ 9223372036854775807 then (some (((rdOf ByteArray.empty y251 (ji10)) ++ (⟨#[32]⟩ : ByteArray)) ++ a0_1)) else (none)) else (none)))) else (none)) else (none)) = some r := by first | (rw [hji10] at H; exact H) | (simp only [hji10] at H ⊢; exact H)
  have hji10w : (IntKind.i64.wrap (a0_0 - 1)) = ji10 := (i64_w _).trans hji10
  by_cases c11 : 0 ≤ (ji10)
  ·
   rw [if_pos c11] at H
   have c11b0 : decide (0 ≤ (ji10)) = true := decide_eq_true c11
   clear c11
   (first | rw [c11b0] | (simp only [i64_w, i32_w]; rw [c11b0]) | skip)
   by_cases c12 : (ji10) < (y251.length : Int)
   ·
    rw [if_pos c12] at H
    have c12b0 : decide ((ji10) < (y251.length : Int)) = true := decide_eq_true c12
    clear c12
    by_cases c13 : a0_0 = 5
    ·
     rw [if_pos c13] at H
     have c13b0 : (a0_0 == 5) = true := beq_iff_eq.mpr c13
     have c13b1 : (a0_0 != 5) = false := bne_eq_false_iff_eq.mpr c13
     clear c13
     by_cases c14 : (rdOf ByteArray.empty y251 (ji10)).size + 1 ≤ 9223372036854775807
     ·
      rw [if_pos c14] at H
      have c14b0 := eq_true c14
      have c14b1 : decide ((rdOf ByteArray.empty y251 (ji10)).size + 1 ≤ 9223372036854775807) = true := decide_eq_true c14
      try have c14b2 : (9223372036854775807 < (rdOf ByteArray.empty y251 (ji10)).size + 1) = False := eq_false (Nat.not_lt.2 c14)
      obtain ⟨t256, A15, H⟩ := bd_ H
      by_cases c16 : ((rdOf ByteArray.empty y251 (ji10)) ++ (⟨#[32]⟩ : ByteArray)).size + t256.size ≤ 9223372036854775807
      ·
       rw [if_pos c16] at H
       have c16b0 := eq_true c16
       have c16b1 : decide (((rdOf ByteArray.empty y251 (ji10)) ++ (⟨#[32]⟩ : ByteArray)).size + t256.size ≤ 9223372036854775807) = true := decide_eq_true c16
       try have c16b2 : (9223372036854775807 < ((rdOf ByteArray.empty y251 (ji10)) ++ (⟨#[32]⟩ : ByteArray)).size + t256.size) = False := eq_false (Nat.not_lt.2 c16)
       (try (have c16b3 : (9223372036854775807 < ((rdOf ByteArray.empty y251 (ji10))).size + 1 + t256.size) = False := (by have e_ := c16b2; simp only [ByteArray.size_append] at e_; exact e_)))
       obtain rfl := Option.some.inj H
       obtain ⟨z17_0, z17_1, z17_2⟩ := cz3 BK250.out
       obtain ⟨f17_0, f17_1, f17_2⟩ := fz3 BK250.out
       obtain ⟨Ao18, co18, eo18⟩ := Kd.R_slice HO253.out
       subst eo18
       have p255 : 0 ≤ ((ji10) : Int) := od_
       have q255 : (ji10) < (y251.length : Int) := od_
       obtain ⟨ad255, e255, hx255_0⟩ := Kd.at_string (Kd.R_reads' HO253.out).2.2 (ji10) p255 q255
       cases e255
       replace p255 := eq_true p255
       replace q255 := eq_true q255
       go_wp2_with (first | ((with_reducible refine gate_callee (f := 24) rfl ?_); refine goesL_ (some 22) rfl rfl Tryd.func24 (by kernel_rfl) rfl #[.int .i64 a0_2] rfl la_ ?_; (with_reducible refine (spec_NumText.calls k a0_2 t256 _ A15.out).mono ?_); rintro e w19 ⟨rfl, hb⟩; refine ⟨_, rfl, ?_⟩; replace HO253 := am_ (Kd.R_below (qR HO253) hb); replace BK250 := am_ (blk_below (qK BK250) hb); replace HB := am_ (below_step (qB HB) hb); (try clear hb); (try clear hb2); (try clear hk); (try clear hi)))
       go_ret
       exact ⟨by first | rfl | (simp [errW_none, errW_some] <;> rfl) | (simp only [← hji10]; first | rfl | (simp [errW_none, errW_some] <;> rfl)) | (simp [*, errW_none, errW_some] <;> rfl), qB HB⟩
      ·
       rw [if_neg c16] at H
       exact absurd H (by simp)
     ·
      rw [if_neg c14] at H
      exact absurd H (by simp)
    ·
     rw [if_neg c13] at H
     have c13b0 : (a0_0 == 5) = false := beq_eq_false_iff_ne.mpr c13
     have c13b1 : (a0_0 != 5) = true := bne_iff_ne.mpr c13
     by_cases c20 : a0_1.toList = ([] : List UInt8)
     ·
      rw [if_pos c20] at H
      have c20b0 : (a0_1.toList == ([] : List UInt8)) = true := beq_iff_eq.mpr c20
      (try (have c20b0e := c20b0; simp only [Go.Proofs.YtaimfkfpglhijaaDoorV.beq_nil, Go.Proofs.YtaimfkfpglhijaaDoorV.bne_nil] at c20b0e))
      have c20b1 : (a0_1.toList != ([] : List UInt8)) = false := bne_eq_false_iff_eq.mpr c20
      clear c20
      obtain rfl := Option.some.inj H
      obtain ⟨z21_0, z21_1, z21_2⟩ := cz3 BK250.out
      obtain ⟨f21_0, f21_1, f21_2⟩ := fz3 BK250.out
      obtain ⟨Ao22, co22, eo22⟩ := Kd.R_slice HO253.out
      subst eo22
      have p255 : 0 ≤ ((ji10) : Int) := od_
      have q255 : (ji10) < (y251.length : Int) := od_
      obtain ⟨ad255, e255, hx255_0⟩ := Kd.at_string (Kd.R_reads' HO253.out).2.2 (ji10) p255 q255
      cases e255
      replace p255 := eq_true p255
      replace q255 := eq_true q255
      go_wp2
      go_ret
      exact ⟨by first | rfl | (simp [errW_none, errW_some] <;> rfl) | (simp only [← hji10]; first | rfl | (simp [errW_none, errW_some] <;> rfl)) | (simp [*, errW_none, errW_some] <;> rfl), qB HB⟩
     ·
      rw [if_neg c20] at H
      have c20b0 : (a0_1.toList == ([] : List UInt8)) = false := beq_eq_false_iff_ne.mpr c20
      (try (have c20b0e := c20b0; simp only [Go.Proofs.YtaimfkfpglhijaaDoorV.beq_nil, Go.Proofs.YtaimfkfpglhijaaDoorV.bne_nil] at c20b0e))
      have c20b1 : (a0_1.toList != ([] : List UInt8)) = true := bne_iff_ne.mpr c20
      by_cases c23 : (rdOf ByteArray.empty y251 (ji10)).size + 1 ≤ 9223372036854775807
      ·
       rw [if_pos c23] at H
       have c23b0 := eq_true c23
       have c23b1 : decide ((rdOf ByteArray.empty y251 (ji10)).size + 1 ≤ 9223372036854775807) = true := decide_eq_true c23
       try have c23b2 : (9223372036854775807 < (rdOf ByteArray.empty y251 (ji10)).size + 1) = False := eq_false (Nat.not_lt.2 c23)
       by_cases c24 : ((rdOf ByteArray.empty y251 (ji10)) ++ (⟨#[32]⟩ : ByteArray)).size + a0_1.size ≤ 9223372036854775807
       ·
        rw [if_pos c24] at H
        have c24b0 := eq_true c24
        have c24b1 : decide (((rdOf ByteArray.empty y251 (ji10)) ++ (⟨#[32]⟩ : ByteArray)).size + a0_1.size ≤ 9223372036854775807) = true := decide_eq_true c24
        try have c24b2 : (9223372036854775807 < ((rdOf ByteArray.empty y251 (ji10)) ++ (⟨#[32]⟩ : ByteArray)).size + a0_1.size) = False := eq_false (Nat.not_lt.2 c24)
        (try (have c24b3 : (9223372036854775807 < ((rdOf ByteArray.empty y251 (ji10))).size + 1 + a0_1.size) = False := (by have e_ := c24b2; simp only [ByteArray.size_append] at e_; exact e_)))
        obtain rfl := Option.some.inj H
        obtain ⟨z25_0, z25_1, z25_2⟩ := cz3 BK250.out
        obtain ⟨f25_0, f25_1, f25_2⟩ := fz3 BK250.out
        obtain ⟨Ao26, co26, eo26⟩ := Kd.R_slice HO253.out
        subst eo26
        have p255 : 0 ≤ ((ji10) : Int) := od_
        have q255 : (ji10) < (y251.length : Int) := od_
        obtain ⟨ad255, e255, hx255_0⟩ := Kd.at_string (Kd.R_reads' HO253.out).2.2 (ji10) p255 q255
        cases e255
        replace p255 := eq_true p255
        replace q255 := eq_true q255
        go_wp2
        go_ret
        exact ⟨by first | rfl | (simp [errW_none, errW_some] <;> rfl) | (simp only [← hji10]; first | rfl | (simp [errW_none, errW_some] <;> rfl)) | (simp [*, errW_none, errW_some] <;> rfl), qB HB⟩
       ·
        rw [if_neg c24] at H
        exact absurd H (by simp)
      ·
       rw [if_neg c23] at H
       exact absurd H (by simp)
   ·
    rw [if_neg c12] at H
    exact absurd H (by simp)
  ·
   rw [if_neg c11] at H
   exact absurd H (by simp)
 ·
  replace c9 := Bool.eq_false_iff.mpr c9
  subst c9
  rw [if_neg (show ¬ (false = true) by decide)] at H
  obtain rfl := Option.some.inj H
  go_wp2
  go_ret
  exact ⟨by first | rfl | (simp [errW_none, errW_some] <;> rfl) | (simp [*, errW_none, errW_some] <;> rfl), qB HB⟩

/-! ### spec_PutText: function 39 -/
def spec_PutText.f (k : Nat) (l0 : List Int) (a1 : ByteArray) : Option (List Int) := (some (([] : List Int) : List Int)).bind fun y257 => (if y257.length + l0.length < 140737488355328 then ((some (y257 ++ l0 : List Int)).bind fun y260 => ((spec_TextOk.f k a1).bind fun t263 => (if t263 = true then (if y260.length < 140737488355328 then ((some (y260 ++ [((a1.size : Int)) % 256] : List Int)).bind fun y264 => (if y264.length + a1.size < 140737488355328 then (some (y264 ++ bytesOf a1)) else (none))) else (none)) else (some y260)))) else (none))
theorem spec_PutText.mono : ∀ a0 a1 k, LeO (spec_PutText.f k a0 a1) (spec_PutText.f (k + 1) a0 a1) := by
 intro a0 a1 k
 unfold spec_PutText.f
 repeat' first
   | (with_reducible exact spec_TextOk.mono _ _)
   | (with_reducible exact LeO.refl _)
   | (with_reducible exact LeO.none _)
   | (with_reducible refine LeO.ite ?_ ?_)
   | (with_reducible refine LeO.bind ?_ (fun _ => ?_))
   | exact spec_TextOk.mono _ _
   | exact LeO.none _
   | refine LeO.ite ?_ ?_
   | refine LeO.bind ?_ (fun _ => ?_)
set_option maxHeartbeats 8000000 in
set_option maxRecDepth 100000 in
theorem spec_PutText.calls (k : Nat) (A0 : Option Addr) (c0 : Nat) (l0 : List Int) (a1 : ByteArray) (r : List Int) (w : World) (hr0 : Kd.C (Kd.int .u8) w A0 l0.length l0) (hc0 : l0.length ≤ c0) (h : spec_PutText.f k l0 a1 = some r) :
  Calls Tryd.prog 39 #[.slice A0 l0.length c0, .string a1] w fun e w' => ∃ v0_ : Value, e = .returned (v0_) ∧ Kd.R (Kd.int .u8) 5 w' w.heap.size (fun _ => True) v0_ r ∧ Below w.heap.size w w' := by
 have HR0 := Aside0.mk hr0
 have HC0 := Aside0.mk hc0
 clear hr0 hc0
 have HB := Aside0.mk (Below.refl w.heap.size w)
 have H : ((some (([] : List Int) : List Int)).bind fun y257 => (if y257.length + l0.length < 140737488355328 then ((some (y257 ++ l0 : List Int)).bind fun y260 => ((spec_TextOk.f k a1).bind fun t263 => (if t263 = true then (if y260.length < 140737488355328 then ((some (y260 ++ [((a1.size : Int)) % 256] : List Int)).bind fun y264 => (if y264.length + a1.size < 140737488355328 then (some (y264 ++ bytesOf a1)) else (none))) else (none)) else (some y260)))) else (none))) = some r := h
 clear h
 obtain ⟨y257, hy257⟩ : ∃ y_ : List Int, y_ = (([] : List Int)) := ⟨_, rfl⟩
 replace H := mk_ H hy257
 (try dsimp only at H)
 have Ny257 := Aside0.mk hy257
 clear hy257
 by_cases c3 : y257.length + l0.length < 140737488355328
 ·
  rw [if_pos c3] at H
  have LMc3 := Aside0.mk c3
  clear c3
  obtain ⟨y260, hy260⟩ : ∃ y_ : List Int, y_ = (y257 ++ l0) := ⟨_, rfl⟩
  replace H := mk_ H hy260
  (try dsimp only at H)
  have Ny260 := Aside0.mk hy260
  clear hy260
  obtain ⟨t263, A4, H⟩ := bd_ H
  have HC5 := Aside0.mk H
  clear H
  go_enter Tryd.func39, Tryd.ntmps39
  go_upto_if 11 with (first | ((with_reducible refine gate_dst (N := 6) rfl ?_); refine Kd.R_lit (Kd.int .u8) _ 5 ?hg (N := 6) ?hd (xs := ([] : List Int)) (inner := []) (ok := fun _ => True) (okp := fun _ => True) ?hr ?hp (fun _ hk => hk) trivial (Below.refl _ _) (Nat.le_refl _) (by simp) ?_; (case hd => rfl); (case hg => rfl); (case hr => first | (go_simp; done) | (go_simp; rfl)); (case hp => exact (Reps.none _ _)); intro v258 w6 ho7 hb hg_ hnew_; clear hg_ hnew_; (first | rw [← Ny257.out] at ho7 | (simp only [Int.reduceToNat] at ho7; rw [← Ny257.out] at ho7)); have HO259 := am_ (Kd.R_lower ho7 (below_size (qB HB))); replace HB := am_ (below_step (qB HB) hb); clear hb ho7) | ((with_reducible refine gate_builtin (b := .append) (xs := #[.tmp 6, .tmp 7]) rfl ?_); at_builtin; refine Kd.R_append_rows (Kd.int .u8) (w0 := w) w.heap.size rfl (.tmp 6) (.tmp 7) 22 5 (.int .u8 0) 1 rfl Tryd.underlying22 info5 rfl (by decide) (by omega) v258 y257 l0 _ _ _ (fun _ => True) (fun _ => False) rfl rfl ?aO ?aR (fun _ _ h => h) (fun _ h => h.elim) ?aF ?aB ?aS ?aL ?_; (case aR => exact qC (Kd.C_below HR0.out HB.out)); (case aB => exact (qB HB)); (case aF => exact (fun _ _ => trivial)); (case aO => exact (qR HO259)); (case aS => exact (below_size (qB HB))); (case aL => have := LMc3.out; omega); intro v261 w8 ho hb hg hat; rw [← Ny260.out] at ho; replace HB := am_ (hb); have HO262 := am_ (ho); clear HO259; clear ho hb hg hat) | ((with_reducible refine gate_callee (f := 21) rfl ?_); refine goesL_ (some 10) rfl rfl Tryd.func21 (by kernel_rfl) rfl #[.string a1] rfl la_ ?_; (with_reducible refine (spec_TextOk.calls k a1 t263 _ A4.out).mono ?_); rintro e w' ⟨rfl, ⟨nd, rfl⟩⟩; refine ⟨_, rfl, ?_⟩))
  (try simp only [Act.put, List.setIfInBounds_toArray, List.set_cons_zero, List.set_cons_succ])
  (try (rw [drewN_self w8]; generalize hq_ : World.drewN w8 _ = w8; have n0_ : Aside0 (Kd.R (Kd.int .u8) 5 w8 w.heap.size (fun _ => True) v261 y260) := ⟨by rw [← hq_]; exact (qR HO262)⟩; have n1_ : Aside0 (Below w.heap.size w w8) := ⟨by rw [← hq_]; exact (qB HB)⟩; clear HO262 HB hq_; have HO262 := n0_; have HB := n1_; clear n0_ n1_))
  have H := HC5.out
  clear HC5
  by_cases c9 : t263 = true
  ·
   subst c9
   rw [if_pos rfl] at H
   by_cases c10 : y260.length < 140737488355328
   ·
    rw [if_pos c10] at H
    have LMc10 := Aside0.mk c10
    clear c10
    obtain ⟨y264, hy264⟩ : ∃ y_ : List Int, y_ = (y260 ++ [((a1.size : Int)) % 256]) := ⟨_, rfl⟩
    replace H := mk_ H hy264
    (try dsimp only at H)
    have Ny264 := Aside0.mk hy264
    clear hy264
    by_cases c11 : y264.length + a1.size < 140737488355328
    ·
     rw [if_pos c11] at H
     have LMc11 := Aside0.mk c11
     clear c11
     obtain ⟨y267, hy267⟩ : ∃ y_ : List Int, y_ = (y264 ++ bytesOf a1) := ⟨_, rfl⟩
     rw [← hy267] at H
     have Ny267 := Aside0.mk hy267
     clear hy267
     obtain rfl := Option.some.inj H
     go_wp2_with (first | ((with_reducible refine gate_builtin (b := .append) (xs := #[.tmp 13, .tmp 17]) rfl ?_); at_builtin; refine Kd.R_append (Kd.int .u8) (w0 := w) w.heap.size rfl (.tmp 13) (.tmp 17) 22 5 (.int .u8 0) 1 rfl Tryd.underlying22 info5 rfl (by decide) (by omega) v261 y260 (((a1.size : Int)) % 256) [.int .u8 (((a1.size : Int)) % 256)] (fun _ => True) (fun _ => False) rfl rfl ?aP (fun _ hk => hk.elim) ?aF ?aO ?aB ?aS ?aL ?_; (case aP => exact rfl); (case aB => exact (qB HB)); (case aF => exact (fun _ _ => trivial)); (case aO => exact (qR HO262)); (case aS => exact (below_size (qB HB))); (case aL => have := LMc10.out; omega); intro v265 w12 ho hb hg hat; rw [← Ny264.out] at ho; replace HB := am_ (hb); have HO266 := am_ (ho); clear HO262; clear ho hb hg hat) | (at_builtin; refine print_append_str (w0 := w) w.heap.size rfl (.tmp 18) _ 22 9 5 rfl Tryd.underlying22 Tryd.underlying9 info5 v265 y264 a1 rfl rfl ?aO ?aB ?aS ?aL ?_; (case aB => exact (qB HB)); (case aO => exact (Kd.own_of_R (qR HO266))); (case aS => exact (below_size (qB HB))); (case aL => have := LMc11.out; omega); intro v268 w13 ho0 hb hg; have ho := Kd.R_of_own (h1 := fun _ => rfl) (ok := fun _ => True) ho0 (fun _ _ => trivial); clear ho0; have hat := True.intro; rw [← Ny267.out] at ho; change Kd.R (Kd.int .u8) 5 w13 w.heap.size (fun _ => True) v268 y267 at ho; replace HB := am_ (hb); have HO269 := am_ (ho); clear HO266; clear ho hb hg hat))
     go_ret
     exact ⟨_, by first | rfl | (simp [errW_none, errW_some] <;> rfl) | (simp [*, errW_none, errW_some] <;> rfl), qR HO269, qB HB⟩
    ·
     rw [if_neg c11] at H
     exact absurd H (by simp)
   ·
    rw [if_neg c10] at H
    exact absurd H (by simp)
  ·
   replace c9 := Bool.eq_false_iff.mpr c9
   subst c9
   rw [if_neg (show ¬ (false = true) by decide)] at H
   obtain rfl := Option.some.inj H
   go_wp2
   go_ret
   exact ⟨_, by first | rfl | (simp [errW_none, errW_some] <;> rfl) | (simp [*, errW_none, errW_some] <;> rfl), qR HO262, qB HB⟩
 ·
  rw [if_neg c3] at H
  exact absurd H (by simp)

/-! ### spec_PutFrame: function 33 -/
def spec_PutFrame.f (k : Nat) (a0_0 : Int) (a0_1 : ByteArray) (a0_2 : Int) : Option (List Int) := (spec_FrameOk.f k a0_0 a0_1 a0_2).bind fun t271 => (if t271 = true then ((some (([(a0_0) % 256] : List Int) : List Int)).bind fun y275 => (if a0_0 = 5 then (if y275.length < 140737488355328 then (some (y275 ++ [(a0_2) % 256])) else (none)) else (if a0_0 = 3 then (some y275) else ((spec_PutText.f k y275 a0_1).bind fun t281 => (some t281))))) else (some (([] : List Int))))
theorem spec_PutFrame.mono : ∀ a0 a1 a2 k, LeO (spec_PutFrame.f k a0 a1 a2) (spec_PutFrame.f (k + 1) a0 a1 a2) := by
 intro a0 a1 a2 k
 unfold spec_PutFrame.f
 repeat' first
   | (with_reducible exact spec_FrameOk.mono _ _ _ _)
   | (with_reducible exact spec_PutText.mono _ _ _)
   | (with_reducible exact LeO.refl _)
   | (with_reducible exact LeO.none _)
   | (with_reducible refine LeO.ite ?_ ?_)
   | (with_reducible refine LeO.bind ?_ (fun _ => ?_))
   | exact spec_FrameOk.mono _ _ _ _
   | exact spec_PutText.mono _ _ _
   | exact LeO.none _
   | refine LeO.ite ?_ ?_
   | refine LeO.bind ?_ (fun _ => ?_)
set_option maxHeartbeats 8000000 in
set_option maxRecDepth 100000 in
theorem spec_PutFrame.calls (k : Nat) (a0_0 : Int) (a0_1 : ByteArray) (a0_2 : Int) (r : List Int) (w : World) (h : spec_PutFrame.f k a0_0 a0_1 a0_2 = some r) :
  Calls Tryd.prog 33 #[.agg #[.int .i64 a0_0, .string a0_1, .int .i64 a0_2]] w fun e w' => ∃ v0_ : Value, e = .returned (v0_) ∧ Kd.R (Kd.int .u8) 5 w' w.heap.size (fun _ => True) v0_ r ∧ Below w.heap.size w w' := by
 have hu25 := Tryd.underlying25
 have HB := Aside0.mk (Below.refl w.heap.size w)
 have H : ((spec_FrameOk.f k a0_0 a0_1 a0_2).bind fun t271 => (if t271 = true then ((some (([(a0_0) % 256] : List Int) : List Int)).bind fun y275 => (if a0_0 = 5 then (if y275.length < 140737488355328 then (some (y275 ++ [(a0_2) % 256])) else (none)) else (if a0_0 = 3 then (some y275) else ((spec_PutText.f k y275 a0_1).bind fun t281 => (some t281))))) else (some (([] : List Int))))) = some r := h
 clear h
 obtain ⟨t271, A2, H⟩ := bd_ H
 have HC3 := Aside0.mk H
 clear H
 go_enter Tryd.func33, Tryd.ntmps33
 go_upto_if 6 with (first | ((with_reducible refine gate_dst (N := 1) rfl ?_); refine box_event ?hg (N := 1) ?hd (cs := #[.int .i64 a0_0, .string a0_1, .int .i64 a0_2]) (t := 25) ?hr ?_; (case hd => rfl); (case hg => rfl); (case hr => first | (go_simp; done) | (go_simp; rfl)); intro gb270 hg w4 hbox hb; have BK270 := am_ (hbox); have GW270 := am_ ((gG_ hg (qB HB))); have IGW270 := gI_ GW270; have GE270 := am_ ((gG_ hg (qB HB))); have IGE270 := gI_ GE270; replace HB := am_ (below_step (qB HB) hb); clear hb hbox hg; obtain ⟨z5_0, z5_1, z5_2⟩ := cz3 BK270.out; obtain ⟨f5_0, f5_1, f5_2⟩ := fz3 BK270.out) | ((with_reducible refine gate_callee (f := 8) rfl ?_); refine goesL_ (some 5) rfl rfl Tryd.func8 (by kernel_rfl) rfl #[.agg #[.int .i64 a0_0, .string a0_1, .int .i64 a0_2]] rfl la_ ?_; (with_reducible refine (spec_FrameOk.calls k a0_0 a0_1 a0_2 t271 _ A2.out).mono ?_); rintro e w6 ⟨rfl, hb⟩; refine ⟨_, rfl, ?_⟩; replace BK270 := am_ (blk_below (qK BK270) hb); replace HB := am_ (below_step (qB HB) hb); (try clear hb); (try clear hb2); (try clear hk); (try clear hi)))
 (try simp only [Act.put, List.setIfInBounds_toArray, List.set_cons_zero, List.set_cons_succ])
 have H := HC3.out
 clear HC3
 by_cases c7 : t271 = true
 ·
  subst c7
  rw [if_pos rfl] at H
  obtain ⟨y275, hy275⟩ : ∃ y_ : List Int, y_ = (([(a0_0) % 256] : List Int)) := ⟨_, rfl⟩
  replace H := mk_ H hy275
  (try dsimp only at H)
  have Ny275 := Aside0.mk hy275
  clear hy275
  have HC8 := Aside0.mk H
  clear H
  obtain ⟨z9_0, z9_1, z9_2⟩ := cz3 BK270.out
  obtain ⟨f9_0, f9_1, f9_2⟩ := fz3 BK270.out
  go_upto_if 14 with (first | ((with_reducible refine gate_dst (N := 11) rfl ?_); refine Kd.R_lit (Kd.int .u8) _ 5 ?hg (N := 11) ?hd (xs := ([(a0_0) % 256] : List Int)) (inner := [.int .u8 ((a0_0) % 256)]) (ok := fun _ => True) (okp := fun _ => True) ?hr ?hp (fun _ hk => hk) trivial (Below.refl _ _) (Nat.le_refl _) (by simp) ?_; (case hd => rfl); (case hg => rfl); (case hr => first | (go_simp; done) | (go_simp; rfl)); (case hp => exact (Reps.one (show Kd.M (Kd.int .u8) _ _ _ ((a0_0) % 256) [.int .u8 ((a0_0) % 256)] from rfl) (Reps.none _ _))); intro v276 w10 ho11 hb hg_ hnew_; clear hg_ hnew_; (first | rw [← Ny275.out] at ho11 | (simp only [Int.reduceToNat] at ho11; rw [← Ny275.out] at ho11)); have HO277 := am_ (Kd.R_lower ho11 (below_size (qB HB))); replace BK270 := am_ (blk_below (qK BK270) hb); replace HB := am_ (below_step (qB HB) hb); clear hb ho11; obtain ⟨z12_0, z12_1, z12_2⟩ := cz3 BK270.out; obtain ⟨f12_0, f12_1, f12_2⟩ := fz3 BK270.out))
  (try simp only [Act.put, List.setIfInBounds_toArray, List.set_cons_zero, List.set_cons_succ])
  have H := HC8.out
  clear HC8
  by_cases c13 : a0_0 = 5
  ·
   rw [if_pos c13] at H
   have c13b0 : (a0_0 == 5) = true := beq_iff_eq.mpr c13
   have c13b1 : (a0_0 != 5) = false := bne_eq_false_iff_eq.mpr c13
   clear c13
   (first | rw [c13b0] | rw [c13b1] | (simp only [i64_w, i32_w]; rw [c13b0]) | skip)
   by_cases c14 : y275.length < 140737488355328
   ·
    rw [if_pos c14] at H
    have LMc14 := Aside0.mk c14
    clear c14
    obtain ⟨y278, hy278⟩ : ∃ y_ : List Int, y_ = (y275 ++ [(a0_2) % 256]) := ⟨_, rfl⟩
    rw [← hy278] at H
    have Ny278 := Aside0.mk hy278
    clear hy278
    obtain rfl := Option.some.inj H
    obtain ⟨z15_0, z15_1, z15_2⟩ := cz3 BK270.out
    obtain ⟨f15_0, f15_1, f15_2⟩ := fz3 BK270.out
    go_wp2_with (first | ((with_reducible refine gate_builtin (b := .append) (xs := #[.tmp 16, .tmp 20]) rfl ?_); at_builtin; refine Kd.R_append (Kd.int .u8) (w0 := w) w.heap.size rfl (.tmp 16) (.tmp 20) 22 5 (.int .u8 0) 1 rfl Tryd.underlying22 info5 rfl (by decide) (by omega) v276 y275 ((a0_2) % 256) [.int .u8 ((a0_2) % 256)] (fun _ => True) (fun _ => False) rfl rfl ?aP (fun _ hk => hk.elim) ?aF ?aO ?aB ?aS ?aL ?_; (case aP => exact rfl); (case aB => exact (qB HB)); (case aF => exact (fun _ _ => trivial)); (case aO => exact (qR HO277)); (case aS => exact (below_size (qB HB))); (case aL => have := LMc14.out; omega); intro v279 w16 ho hb hg hat; rw [← Ny278.out] at ho; replace BK270 := am_ (blk_grown (qK BK270) hg (Kd.R_ne HO277.out BK270.out (by decide))); replace HB := am_ (hb); have HO280 := am_ (ho); clear HO277; clear ho hb hg hat))
    go_ret
    exact ⟨_, by first | rfl | (simp [errW_none, errW_some] <;> rfl) | (simp [*, errW_none, errW_some] <;> rfl), qR HO280, qB HB⟩
   ·
    rw [if_neg c14] at H
    exact absurd H (by simp)
  ·
   rw [if_neg c13] at H
   have c13b0 : (a0_0 == 5) = false := beq_eq_false_iff_ne.mpr c13
   have c13b1 : (a0_0 != 5) = true := bne_iff_ne.mpr c13
   (first | rw [c13b0] | rw [c13b1] | (simp only [i64_w, i32_w]; rw [c13b0]) | skip)
   by_cases c17 : a0_0 = 3
   ·
    rw [if_pos c17] at H
    have c17b0 : (a0_0 == 3) = true := beq_iff_eq.mpr c17
    have c17b1 : (a0_0 != 3) = false := bne_eq_false_iff_eq.mpr c17
    clear c17
    obtain rfl := Option.some.inj H
    go_wp2
    go_ret
    exact ⟨_, by first | rfl | (simp [errW_none, errW_some] <;> rfl) | (simp [*, errW_none, errW_some] <;> rfl), qR HO277, qB HB⟩
   ·
    rw [if_neg c17] at H
    have c17b0 : (a0_0 == 3) = false := beq_eq_false_iff_ne.mpr c17
    have c17b1 : (a0_0 != 3) = true := bne_iff_ne.mpr c17
    obtain ⟨t281, A18, H⟩ := bd_ H
    obtain rfl := Option.some.inj H
    obtain ⟨z19_0, z19_1, z19_2⟩ := cz3 BK270.out
    obtain ⟨f19_0, f19_1, f19_2⟩ := fz3 BK270.out
    obtain ⟨Ao20, co20, eo20⟩ := Kd.R_slice HO277.out
    subst eo20
    go_wp2_with (first | ((with_reducible refine gate_callee (f := 39) rfl ?_); refine goesL_ (some 28) rfl rfl Tryd.func39 (by kernel_rfl) rfl #[.slice Ao20 y275.length co20, .string a0_1] rfl la_ ?_; (with_reducible refine (spec_PutText.calls k _ _ y275 a0_1 t281 _ ?side1 ?side2 A18.out).mono ?_); (case side1 => exact qC ((Kd.R_reads' HO277.out).2.2)); (case side2 => exact (Kd.R_reads' HO277.out).2.1); rintro e w21 ⟨v282, rfl, ho0, hb⟩; refine ⟨_, rfl, ?_⟩; have HO283 := am_ (Kd.R_lower (Kd.R_new' ho0 (Kd.R_lt (qR HO277))) (below_size (qB HB))); replace HO277 := am_ (eR HO277 ho0 hb); replace BK270 := am_ (blk_below (qK BK270) hb); replace HB := am_ (below_step (qB HB) hb); (try clear hb); (try clear hb2); (try clear hk); (try clear hi); (try clear ho0)))
    go_ret
    exact ⟨_, by first | rfl | (simp [errW_none, errW_some] <;> rfl) | (simp [*, errW_none, errW_some] <;> rfl), by (with_reducible repeat (first | apply Kd.R_alloc | apply Kd.R_drewN | apply Kd.R_drew)); exact Kd.R_mono HO283.out (fun _ hk => trivial), qB HB⟩
 ·
  replace c7 := Bool.eq_false_iff.mpr c7
  subst c7
  rw [if_neg (show ¬ (false = true) by decide)] at H
  obtain ⟨y272, hy272⟩ : ∃ y_ : List Int, y_ = (([] : List Int)) := ⟨_, rfl⟩
  rw [← hy272] at H
  have Ny272 := Aside0.mk hy272
  clear hy272
  obtain rfl := Option.some.inj H
  go_wp2_with (first | ((with_reducible refine gate_dst (N := 7) rfl ?_); refine Kd.R_lit (Kd.int .u8) _ 5 ?hg (N := 7) ?hd (xs := ([] : List Int)) (inner := []) (ok := fun _ => True) (okp := fun _ => True) ?hr ?hp (fun _ hk => hk) trivial (Below.refl _ _) (Nat.le_refl _) (by simp) ?_; (case hd => rfl); (case hg => rfl); (case hr => first | (go_simp; done) | (go_simp; rfl)); (case hp => exact (Reps.none _ _)); intro v273 w22 ho23 hb hg_ hnew_; clear hg_ hnew_; (first | rw [← Ny272.out] at ho23 | (simp only [Int.reduceToNat] at ho23; rw [← Ny272.out] at ho23)); have HO274 := am_ (Kd.R_lower ho23 (below_size (qB HB))); replace BK270 := am_ (blk_below (qK BK270) hb); replace HB := am_ (below_step (qB HB) hb); clear hb ho23))
  go_ret
  exact ⟨_, by first | rfl | (simp [errW_none, errW_some] <;> rfl) | (simp [*, errW_none, errW_some] <;> rfl), qR HO274, qB HB⟩

/-! ### spec_l1Bytes: function 34 -/
def spec_l1Bytes.l0 : Nat → Int → List Int → Int → List Int → Int → Int → Option (List Int × Int × Int)
 | 0, _, _, _, _, _, _ => none
 | k + 1, x1, x5, x6, x1000, x1001, x1002 => if x6 < x1 then ((spec_l1Byte.f x1000 x1001 x1002).bind fun bt287 => (if x5.length < 140737488355328 then (spec_l1Bytes.l0 k x1 (x5 ++ [(bt287.1) % 256]) (wrap64 (x6 + 1)) x1000 bt287.2.1 bt287.2.2) else (none))) else (some (x5, x1001, x1002))
def spec_l1Bytes.f (k : Nat) (s0_0 : List Int) (s0_1 : Int) (s0_2 : Int) (a1 : Int) : Option (List Int × Int × Int) := spec_l1Bytes.l0 k a1 (([] : List Int)) 0 s0_0 s0_1 s0_2
theorem spec_l1Bytes.mono_l : ∀ k, (∀ y0 y1 y2 y3 y4 y5, LeO (spec_l1Bytes.l0 k y0 y1 y2 y3 y4 y5) (spec_l1Bytes.l0 (k + 1) y0 y1 y2 y3 y4 y5))
 | 0 => fun _ _ _ _ _ _ r h => by simp [spec_l1Bytes.l0] at h
 | k + 1 => by
  have ih0 := spec_l1Bytes.mono_l k
  ·
   intro y0 y1 y2 y3 y4 y5
   unfold spec_l1Bytes.l0
   repeat' first
   | (with_reducible exact ih0 _ _ _ _ _ _)
   | (with_reducible exact LeO.refl _)
   | (with_reducible exact LeO.none _)
   | (with_reducible refine LeO.ite ?_ ?_)
   | (with_reducible refine LeO.bind ?_ (fun _ => ?_))
   | exact ih0 _ _ _ _ _ _
   | exact LeO.none _
   | refine LeO.ite ?_ ?_
   | refine LeO.bind ?_ (fun _ => ?_)
theorem spec_l1Bytes.mono : ∀ a0 a1 a2 a3 k, LeO (spec_l1Bytes.f k a0 a1 a2 a3) (spec_l1Bytes.f (k + 1) a0 a1 a2 a3) := by
 intro a0 a1 a2 a3 k
 have ih0 := spec_l1Bytes.mono_l k
 unfold spec_l1Bytes.f
 repeat' first
   | (with_reducible exact ih0 _ _ _ _ _ _)
   | (with_reducible exact LeO.refl _)
   | (with_reducible exact LeO.none _)
   | (with_reducible refine LeO.ite ?_ ?_)
   | (with_reducible refine LeO.bind ?_ (fun _ => ?_))
   | exact ih0 _ _ _ _ _ _
   | exact LeO.none _
   | refine LeO.ite ?_ ?_
   | refine LeO.bind ?_ (fun _ => ?_)
set_option maxHeartbeats 8000000 in
set_option maxRecDepth 100000 in
theorem spec_l1Bytes.calls (k : Nat) (g : Nat) (s0_0 : List Int) (s0_1 : Int) (s0_2 : Int) (a1 : Int) (r1 : List Int) (r2 : Int) (r3 : Int) (w0 w : World) (hI : IsS49 w0 w g s0_0 s0_1 s0_2) (hB : Below w0.heap.size w0 w) (h : spec_l1Bytes.f k s0_0 s0_1 s0_2 a1 = some (r1, r2, r3)) :
  Calls Tryd.prog 34 #[.pointer (some ⟨g, 0, none⟩), .int .i64 a1] w fun e w' => ∃ v0_ : Value, e = .returned (v0_) ∧ Kd.R (Kd.int .u8) 5 w' w.heap.size (fun _ => True) v0_ r1 ∧ IsS49 w0 w' g s0_0 r2 r3 ∧ Below w0.heap.size w0 w' ∧ KeepBut w w' g none := by
 have HI0 := Aside0.mk hI
 have HK := Aside0.mk (KeepBut.refl w g none)
 have HL := Aside0.mk hB.size
 clear hI
 have HW0 := Aside0.mk hB.size
 have HB := Aside0.mk hB
 clear hB
 have H : (spec_l1Bytes.l0 k a1 (([] : List Int)) 0 s0_0 s0_1 s0_2) = some (r1, r2, r3) := h
 clear h
 obtain ⟨y284, hy284⟩ : ∃ y_ : List Int, y_ = (([] : List Int)) := ⟨_, rfl⟩
 rw [← hy284] at H
 have Ny284 := Aside0.mk hy284
 clear hy284
 have H' := Aside0.mk H
 clear H
 go_enter Tryd.func34, Tryd.ntmps34
 go_wp2_with (first | ((with_reducible refine gate_dst (N := 7) rfl ?_); refine Kd.R_lit (Kd.int .u8) _ 5 ?hg (N := 7) ?hd (xs := ([] : List Int)) (inner := []) (ok := fun _ => True) (okp := fun _ => True) ?hr ?hp (fun _ hk => hk) trivial (Below.refl _ _) (Nat.le_refl _) (by simp) ?_; (case hd => rfl); (case hg => rfl); (case hr => first | (go_simp; done) | (go_simp; rfl)); (case hp => exact (Reps.none _ _)); intro v285 w3 ho4 hb hg_ hnew_; clear hg_ hnew_; (first | rw [← Ny284.out] at ho4 | (simp only [Int.reduceToNat] at ho4; rw [← Ny284.out] at ho4)); have HO286 := am_ (Kd.R_lower ho4 (keep_size (w := w) (g := g) (row := none) (by repeat (first | (with_reducible first | exact HK.out | apply KeepBut.set_ | apply keep_drewN | apply keep_drew | apply keep_alloc) | exact HK.out)))); replace HK := am_ (KeepBut.trans (by repeat (first | (with_reducible first | exact HK.out | apply KeepBut.set_ | apply keep_drewN | apply keep_drew | apply keep_alloc) | exact HK.out)) (KeepBut.of_below hb g none) (.inl rfl)); replace HB := am_ (below_step (by repeat (first | (with_reducible first | exact HB.out | apply below_alloc | apply pw_below_drewN | apply below_drew1 | refine below_set ?_ (IsS49.ge HI0.out)) | exact HB.out)) hb); replace HI0 := am_ (IsS49.below (by repeat (first | (with_reducible first | exact HI0.out | apply IsS49.alloc | apply IsS49.drewN | apply IsS49.drew | apply IsS49.set_1 | apply IsS49.set_2) | exact HI0.out)) hb); clear hb ho4))
 go_loopg [5, 6] k (fun kq v5 v6 w' => ∃ (x5_1 : List Int) (x6_1 : Int) (x1001_1 : Int) (x1002_1 : Int), v6 = .int .i64 x6_1 ∧ Aside0 (spec_l1Bytes.l0 kq a1 x5_1 x6_1 s0_0 x1001_1 x1002_1 = some (r1, r2, r3)) ∧ Aside0 (kq ≤ k) ∧ Aside0 (Kd.R (Kd.int .u8) 5 w' w.heap.size (fun _ => True) v5 x5_1) ∧ Aside0 (IsS49 w0 w' g s0_0 x1001_1 x1002_1) ∧ Aside0 (KeepBut w w' g none) ∧ Aside0 (Below w0.heap.size w0 w'))
 case atStart => exact ⟨(y284), (0), (s0_1), (s0_2), eqq_, H', ⟨Nat.le_refl _⟩, ⟨qR HO286⟩, ⟨by repeat (first | (with_reducible first | exact HI0.out | apply IsS49.alloc | apply IsS49.drewN | apply IsS49.drew | apply IsS49.set_1 | apply IsS49.set_2) | exact HI0.out)⟩, ⟨by repeat (first | (with_reducible first | exact HK.out | apply KeepBut.set_ | apply keep_drewN | apply keep_drew | apply keep_alloc) | exact HK.out)⟩, ⟨by repeat (first | (with_reducible first | exact HB.out | apply below_alloc | apply pw_below_drewN | apply below_drew1 | refine below_set ?_ (IsS49.ge HI0.out)) | exact HB.out)⟩⟩
 case round =>
  clear H'
  try clear p2
  try clear c3
  obtain ⟨x5_1, x6_1, x1001_1, x1002_1, rfl, HA, HK1, HO_5, HI0, HK, HB⟩ := hrel
  cases gk with
  | zero => exact absurd HA.out (by simp [spec_l1Bytes.l0])
  | succ k1 =>
   have H := HA.out
   clear HA
   simp only [spec_l1Bytes.l0] at H
   by_cases c5 : x6_1 < a1
   ·
    rw [if_pos c5] at H
    have c5b0 : decide (x6_1 < a1) = true := decide_eq_true c5
    clear c5
    obtain ⟨⟨t287, t288, t289⟩, A6, H⟩ := bd_ H
    (try dsimp only at H)
    by_cases c7 : x5_1.length < 140737488355328
    ·
     rw [if_pos c7] at H
     have LMc7 := Aside0.mk c7
     clear c7
     obtain ⟨y290, hy290⟩ : ∃ y_ : List Int, y_ = (x5_1 ++ [(t287) % 256]) := ⟨_, rfl⟩
     rw [← hy290] at H
     have Ny290 := Aside0.mk hy290
     clear hy290
     have H' := Aside0.mk H
     clear H
     go_wp2_with (first | ((with_reducible refine gate_callee (f := 36) rfl ?_); refine goesL_ (some 15) rfl rfl Tryd.func36 (by kernel_rfl) rfl #[.pointer (some ⟨g, 0, none⟩)] rfl la_ ?_; (with_reducible refine (spec_l1Byte.calls g s0_0 x1001_1 x1002_1 t287 t288 t289 w0 _ ?side1 ?side2 A6.out).mono ?_); (case side1 => repeat (first | (with_reducible first | exact HI0.out | apply IsS49.alloc | apply IsS49.drewN | apply IsS49.drew | apply IsS49.set_1 | apply IsS49.set_2) | exact HI0.out)); (case side2 => repeat (first | (with_reducible first | exact HB.out | apply below_alloc | apply pw_below_drewN | apply below_drew1 | refine below_set ?_ (IsS49.ge HI0.out)) | exact HB.out)); rintro e w8 ⟨rfl, hi, hb, hk⟩; refine ⟨_, rfl, ?_⟩; replace HO_5 := am_ (Kd.R_mono (Kd.R_keep (IsS49.apart (show IsS49 w0 _ g s0_0 x1001_1 x1002_1 from by repeat (first | (with_reducible first | exact HI0.out | apply IsS49.alloc | apply IsS49.drewN | apply IsS49.drew | apply IsS49.set_1 | apply IsS49.set_2) | exact HI0.out)) (qR HO_5) (by decide)) hk (fun _ h => h.2)) (fun _ h => h.1)); replace HK := am_ (KeepBut.trans (by repeat (first | (with_reducible first | exact HK.out | apply KeepBut.set_ | apply keep_drewN | apply keep_drew | apply keep_alloc) | exact HK.out)) hk (.inl rfl)); replace HB := am_ (hb); replace HI0 := am_ (hi); (try clear hb); (try clear hb2); (try clear hk); (try clear hi)) | ((with_reducible refine gate_builtin (b := .append) (xs := #[.tmp 13, .tmp 17]) rfl ?_); at_builtin; refine Kd.R_append (Kd.int .u8) w.heap.size rfl (.tmp 13) (.tmp 17) 22 5 (.int .u8 0) 1 rfl Tryd.underlying22 info5 rfl (by decide) (by omega) u5 x5_1 ((t287) % 256) [.int .u8 ((t287) % 256)] (fun _ => True) (fun _ => False) rfl rfl ?aP (fun _ hk => hk.elim) ?aF ?aO (Below.refl _ _) ?aS ?aL ?_; (case aP => exact rfl); (case aF => exact (fun _ _ => trivial)); (case aO => exact (qR HO_5)); (case aS => exact (keep_size (w := w) (g := g) (row := none) (by repeat (first | (with_reducible first | exact HK.out | apply KeepBut.set_ | apply keep_drewN | apply keep_drew | apply keep_alloc) | exact HK.out)))); (case aL => have := LMc7.out; omega); intro v291 w9 ho hb hg hat; rw [← Ny290.out] at ho; replace HB := am_ (below_weaken (by repeat (first | (with_reducible first | exact HB.out | apply below_alloc | apply pw_below_drewN | apply below_drew1 | refine below_set ?_ (IsS49.ge HI0.out)) | exact HB.out)) HL.out hb); replace HI0 := am_ (IsS49.grown (by repeat (first | (with_reducible first | exact HI0.out | apply IsS49.alloc | apply IsS49.drewN | apply IsS49.drew | apply IsS49.set_1 | apply IsS49.set_2) | exact HI0.out)) hg (IsS49.own_ne HI0.out HO_5.out (by decide))); replace HK := am_ (KeepBut.trans (by repeat (first | (with_reducible first | exact HK.out | apply KeepBut.set_ | apply keep_drewN | apply keep_drew | apply keep_alloc) | exact HK.out)) (KeepBut.of_grown hg g) (Kd.R_base2 HO_5.out)); have HO292 := am_ (ho); clear HO_5; clear ho hb hg hat))
     go_roundg k1
     case measure => have := HK1.out; omega
     case rel => exact ⟨(y290), (wrap64 (x6_1 + 1)), (t288), (t289), eqq_, H', ⟨by have := HK1.out; omega⟩, ⟨qR HO292⟩, ⟨by repeat (first | (with_reducible first | exact HI0.out | apply IsS49.alloc | apply IsS49.drewN | apply IsS49.drew | apply IsS49.set_1 | apply IsS49.set_2) | exact HI0.out)⟩, ⟨by repeat (first | (with_reducible first | exact HK.out | apply KeepBut.set_ | apply keep_drewN | apply keep_drew | apply keep_alloc) | exact HK.out)⟩, ⟨by repeat (first | (with_reducible first | exact HB.out | apply below_alloc | apply pw_below_drewN | apply below_drew1 | refine below_set ?_ (IsS49.ge HI0.out)) | exact HB.out)⟩⟩
    ·
     rw [if_neg c7] at H
     exact absurd H (by simp)
   ·
    rw [if_neg c5] at H
    have c5b0 : decide (x6_1 < a1) = false := decide_eq_false c5
    clear c5
    simp only [Option.some.injEq, Prod.mk.injEq] at H
    obtain ⟨rfl, rfl, rfl⟩ := H
    go_wp2
    go_ret
    exact ⟨_, by first | rfl | (simp [errW_none, errW_some] <;> rfl) | (simp [*, errW_none, errW_some] <;> rfl), qR HO_5, by repeat (first | (with_reducible first | exact HI0.out | apply IsS49.alloc | apply IsS49.drewN | apply IsS49.drew | apply IsS49.set_1 | apply IsS49.set_2) | exact HI0.out), by repeat (first | (with_reducible first | exact HB.out | apply below_alloc | apply pw_below_drewN | apply below_drew1 | refine below_set ?_ (IsS49.ge HI0.out)) | exact HB.out), by repeat (first | (with_reducible first | exact HK.out | apply KeepBut.set_ | apply keep_drewN | apply keep_drew | apply keep_alloc) | exact HK.out)⟩

end Go.Proofs.YtaimfkfpglhijaaDoor.PFnFrames
