/- A server answers one query after the other, according to its transaction status: whatever is drawn. -/
import Derived.Test.YtaimfkfpglhijaaPFnFarx18
import Derived.Test.YtaimfkfpglhijaaVBase
import Derived.Test.YtaimfkfpglhijaaVExt
namespace Go.Proofs.Ytaimfkfpglhijaa.Pure
open Go.RowKit Go.Proofs.Ytaimfkfpglhijaa.PFnFar Go.Proofs.YtaimfkfpglhijaaW.PrintWords Go.Proofs.YtaimfkfpglhijaaW.PrintLast Go.Proofs.YtaimfkfpglhijaaV
set_option linter.unusedVariables false
set_option linter.unusedSimpArgs false
set_option maxRecDepth 20000

structure S41 where
  f0 : Int
  f1 : Int
  f2 : Int
  f3 : Bool
  f4 : List Int
  f5 : List Int
  f6 : Int
  f7 : Int
/-! ### laws_big -/
theorem laws_big_eq (l : List Int) : laws_big.f l = some (decide ((l.length : Int) > 1048576)) := rfl

/-! ### laws_same -/
theorem laws_same_eq (l : List Int) : laws_same.f l l = some true := by
  unfold laws_same.f
  rw [beq_self_eq_true]

/-! ### spec_l1New -/
/-- A cursor's place over its bytes. -/
def curB (b : List Int) (i : Int) : Prop := 0 ≤ i ∧ i ≤ b.length
theorem spec_l1New_l0 (b : List Int) (hb : b.length ≤ 4611686018427387904) (d : Nat) : ∀ (x : Int) (i : Int), 0 ≤ i → i + d = b.length → ∃ h, Ev (fun k => spec_l1New.l0 k b x i) (b, 0, h) := by
  induction d with
  | zero =>
    intro x i h0 h1
    exact ⟨x, ev_step (fun k => spec_l1New.l0.eq_2 ..) (ev_neg (by omega) (ev_now _))⟩
  | succ d ih =>
    intro x i h0 h1
    by_cases c : i < 4000
    · obtain ⟨h, e⟩ := ih (Go.bits .and .i64 (wrap64 ((wrap64 ((wrap64 (x * 137)) + (wrap64 (rd b i)))) + 11)) 1073741823) (i + 1) (by omega) (by omega)
      refine ⟨h, ev_step (fun k => spec_l1New.l0.eq_2 ..) (ev_pos (by omega) (ev_pos c (ev_pos h0 ?_)))⟩
      rw [w64 (x := i + 1) (by omega) (by omega)]
      exact e
    · exact ⟨x, ev_step (fun k => spec_l1New.l0.eq_2 ..) (ev_pos (by omega) (ev_neg c (ev_now _)))⟩
theorem spec_l1New_some (b : List Int) (hb : b.length ≤ 4611686018427387904) : ∃ h, Ev (fun k => spec_l1New.f k b) (b, 0, h) := spec_l1New_l0 b hb b.length _ 0 (by omega) (by omega)

/-! ### spec_l1Byte -/
theorem i64_and255 (n : Int) : Go.bits .and .i64 n 255 = n % 256 := by
  have h255 : (BitVec.ofInt 64 255).toNat = 2 ^ 8 - 1 := by decide
  have key : (BitVec.ofInt 64 n &&& BitVec.ofInt 64 255).toNat = (n % ((2 ^ 64 : Nat) : Int)).toNat % 2 ^ 8 := by
    rw [BitVec.toNat_and, BitVec.toNat_ofInt, h255, Nat.and_two_pow_sub_one_eq_mod]
  show IntKind.i64.wrap ((BitVec.ofInt 64 n &&& BitVec.ofInt 64 255).toNat : Nat) = n % 256
  rw [key, IntKind.wrap_i64]
  omega
theorem spec_l1Byte_some (b : List Int) (i h : Int) (hc : curB b i) (hb : b.length ≤ 4611686018427387904) : ∃ v i' h', spec_l1Byte.f b i h = some (v, i', h') ∧ 0 ≤ v ∧ v < 256 ∧ curB b i' := by
  unfold curB at *
  unfold spec_l1Byte.f
  by_cases c : i < (b.length : Int)
  · rw [if_pos c, if_pos hc.1]
    refine ⟨_, _, _, rfl, ?_, ?_, ?_⟩
    · rw [i64_and255]; omega
    · rw [i64_and255]; omega
    · rw [w64 (by omega) (by omega)]; omega
  · rw [if_neg c]
    refine ⟨_, _, _, rfl, ?_, ?_, hc⟩
    · rw [i64_and255]; omega
    · rw [i64_and255]; omega

/-! ### spec_l1Below -/
theorem tmod_in {v n : Int} (h0 : 0 ≤ v) (hn : 0 < n) : 0 ≤ Int.tmod v n ∧ Int.tmod v n < n := by
  rw [Int.tmod_eq_emod_of_nonneg h0]
  exact ⟨Int.emod_nonneg _ (by omega), Int.emod_lt_of_pos _ hn⟩
theorem spec_l1Below_some (b : List Int) (i h n : Int) (hc : curB b i) (hb : b.length ≤ 4611686018427387904) : ∃ v i' h', spec_l1Below.f b i h n = some (v, i', h') ∧ (0 < n → 0 ≤ v ∧ v < n) ∧ (n ≤ 0 → v = 0) ∧ curB b i' := by
  unfold spec_l1Below.f
  by_cases c0 : n ≤ 0
  · rw [if_pos c0]
    exact ⟨0, i, h, rfl, fun h => by omega, fun _ => rfl, hc⟩
  rw [if_neg c0]
  obtain ⟨v, i1, h1, e1, l1, u1, c1⟩ := spec_l1Byte_some b i h hc hb
  by_cases c1' : n ≤ 256
  · rw [if_pos c1', e1, Option.bind_some, if_neg (by omega)]
    exact ⟨_, _, _, rfl, fun hn => tmod_in l1 hn, fun hn => by omega, c1⟩
  · obtain ⟨v2, i2, h2, e2, l2, u2, c2⟩ := spec_l1Byte_some b i1 h1 c1 hb
    obtain ⟨v3, i3, h3, e3, l3, u3, c3⟩ := spec_l1Byte_some b i2 h2 c2 hb
    rw [if_neg c1', e1, Option.bind_some]
    dsimp only
    rw [e2, Option.bind_some]
    dsimp only
    rw [e3, Option.bind_some, if_neg (by omega)]
    refine ⟨_, _, _, rfl, fun hn => tmod_in ?_ hn, fun hn => by omega, c3⟩
    dsimp only
    rw [w64 (x := v * 65536) (by omega) (by omega), w64 (x := v2 * 256) (by omega) (by omega), w64 (x := v * 65536 + v2 * 256) (by omega) (by omega), w64 (by omega) (by omega)]
    omega

/-! ### spec_l1Int -/
theorem spec_l1Int_some (b : List Int) (i h : Int) (l : List Int) (hl : 0 < l.length) (hc : curB b i) (hb : b.length ≤ 4611686018427387904) : ∃ v i' h', spec_l1Int.f b i h l = some (v, i', h') ∧ v ∈ l ∧ curB b i' := by
  obtain ⟨v, i1, h1, e1, r1, _, c1⟩ := spec_l1Below_some b i h (l.length : Int) hc hb
  have r := r1 (by omega)
  unfold spec_l1Int.f
  rw [e1, Option.bind_some]
  dsimp only
  rw [if_pos r.1, if_pos r.2]
  refine ⟨_, _, _, rfl, ?_, c1⟩
  obtain ⟨m, rfl⟩ := Int.eq_ofNat_of_zero_le r.1
  rw [rd_nth l m (by omega)]
  exact List.getElem_mem _

/-! ### spec_TextOk -/
theorem spec_TextOk_l0 (s : ByteArray) (hs : s.size ≤ 4611686018427387904) (d : Nat) : ∀ i : Int, 0 ≤ i → i + d = s.size → i ≤ 101 → Ev (fun k => spec_TextOk.l0 k s i) (allF (byteIn s 32 126) i d && decide ((s.size : Int) ≤ 100)) := by
  induction d with
  | zero =>
    intro i h0 h1 h2
    refine ev_step (fun k => spec_TextOk.l0.eq_2 ..) ?_
    refine ev_neg (by omega) ?_
    refine ev_step (fun k => spec_TextOk.j1.eq_2 ..) ?_
    refine ev_neg (by decide) ?_
    exact ev_now _
  | succ d ih =>
    intro i h0 h1 h2
    refine ev_step (fun k => spec_TextOk.l0.eq_2 ..) ?_
    refine ev_pos (by omega) ?_
    refine ev_step (fun k => spec_TextOk.j1.eq_2 ..) ?_
    refine ev_ite (fun c0 => ?_) (fun c0 => ?_)
    · have c0' := of_decide_eq_true c0
      refine ev_pos (by omega) (ev_pos (by omega) ?_)
      refine ev_ite (fun c1 => ?_) (fun c1 => ev_ite (fun c2 => ?_) (fun c2 => ?_))
      · refine ev_as (ev_now _) ?_
        have : byteIn s 32 126 i = false := by rw [byteIn_false]; omega
        simp [allF, this]
      · refine ev_as (ev_now _) ?_
        have : byteIn s 32 126 i = false := by rw [byteIn_false]; omega
        simp [allF, this]
      · have : byteIn s 32 126 i = true := by rw [byteIn_iff]; omega
        rw [w64 (by omega) (by omega), allF, this, Bool.true_and]
        exact ih (i + 1) (by omega) (by omega) (by omega)
    · have c0' : ¬ i ≤ 100 := fun h => c0 (decide_eq_true h)
      refine ev_as (ev_now _) ?_
      have : decide ((s.size : Int) ≤ 100) = false := decide_eq_false (by omega)
      rw [this, Bool.and_false]
theorem spec_TextOk_ev (s : ByteArray) (hs : s.size ≤ 4611686018427387904) : Ev (fun k => spec_TextOk.f k s) (textB s) := spec_TextOk_l0 s hs s.size 0 (by omega) (by omega) (by omega)

/-! ### spec_l1In -/
theorem spec_l1In_eq (a b c : Int) : spec_l1In.f a b c = some (inB a b c) := by
  unfold spec_l1In.f inB
  by_cases h : b ≤ a <;> simp [h]

/-! ### spec_l1Name -/
theorem spec_l1Name_l0 (s : ByteArray) (hs : s.size ≤ 4611686018427387904) (d : Nat) : ∀ i : Int, 0 ≤ i → i + d = s.size → Ev (fun k => spec_l1Name.l0 k s i) (allF (byteIn s 97 122) i d && inB s.size 1 8) := by
  induction d with
  | zero =>
    intro i h0 h1
    refine ev_step (fun k => spec_l1Name.l0.eq_2 ..) ?_
    refine ev_neg (by omega) ?_
    rw [spec_l1In_eq]
    exact ev_now _
  | succ d ih =>
    intro i h0 h1
    refine ev_step (fun k => spec_l1Name.l0.eq_2 ..) ?_
    refine ev_pos (by omega) (ev_pos (by omega) ?_)
    refine ev_ite (fun c1 => ?_) (fun c1 => ev_ite (fun c2 => ?_) (fun c2 => ?_))
    · refine ev_as (ev_now _) ?_
      have : byteIn s 97 122 i = false := by rw [byteIn_false]; omega
      simp [allF, this]
    · refine ev_as (ev_now _) ?_
      have : byteIn s 97 122 i = false := by rw [byteIn_false]; omega
      simp [allF, this]
    · have : byteIn s 97 122 i = true := by rw [byteIn_iff]; omega
      rw [w64 (by omega) (by omega), allF, this, Bool.true_and]
      exact ih (i + 1) (by omega) (by omega)
theorem spec_l1Name_ev (s : ByteArray) (hs : s.size ≤ 4611686018427387904) : Ev (fun k => spec_l1Name.f k s) (nameB s) := spec_l1Name_l0 s hs s.size 0 (by omega) (by omega)

/-! ### spec_FrameOk -/
/-- A frame as it has to be. -/
def frameB (k : Int) (t : ByteArray) (s : Int) : Bool :=
  if k = 1 then nameB t && s == 0 else if k = 2 ∨ k = 4 ∨ k = 6 then textB t && s == 0 else if k = 5 then (t.toList == ([] : List UInt8)) && inB s 0 2 else if k = 3 then (t.toList == ([] : List UInt8)) && s == 0 else false
theorem spec_FrameOk_j0 (k : Int) (b : Bool) (t : ByteArray) (s : Int) (ht : t.size ≤ 4611686018427387904) : Ev (fun n => spec_FrameOk.j0 n k b k t s) (if b = true then textB t && s == 0 else if k = 5 then (t.toList == ([] : List UInt8)) && inB s 0 2 else if k = 3 then (t.toList == ([] : List UInt8)) && s == 0 else false) := by
  refine ev_step (fun n => spec_FrameOk.j0.eq_2 ..) (ev_ite (fun c => ?_) (fun c => ev_ite (fun c5 => ev_ite (fun ce => ?_) (fun ce => ?_)) (fun c5 => ev_ite (fun c3 => ev_ite (fun ce => ?_) (fun ce => ?_)) (fun c3 => ?_))))
  · refine ev_bind (spec_TextOk_ev t ht) (ev_ite (fun c1 => ?_) (fun c1 => ?_))
    · exact ev_as (ev_now _) (by simp [c, c1])
    · exact ev_as (ev_now _) (by simp [c, c1])
  · exact ev_bind1 (spec_l1In_eq _ _ _) (ev_as (ev_now _) (by simp [c, c5, ce]))
  · exact ev_as (ev_now _) (by simp [c, c5, ce])
  · exact ev_as (ev_now _) (by simp [c, c3, ce])
  · exact ev_as (ev_now _) (by simp [c, c3, ce])
  · exact ev_as (ev_now _) (by simp [c, c5, c3])
theorem spec_FrameOk_ev (k : Int) (t : ByteArray) (s : Int) (ht : t.size ≤ 4611686018427387904) : Ev (fun n => spec_FrameOk.f n k t s) (frameB k t s) := by
  unfold spec_FrameOk.f
  refine ev_ite (fun c1 => ?_) (fun c1 => ev_ite (fun c2 => ?_) (fun c2 => ev_ite (fun c4 => ?_) (fun c4 => ?_)))
  · refine ev_bind (spec_l1Name_ev t ht) (ev_ite (fun c => ?_) (fun c => ?_))
    · exact ev_as (ev_now _) (by simp [frameB, c1, c])
    · exact ev_as (ev_now _) (by simp [frameB, c1, c])
  · exact ev_as (spec_FrameOk_j0 k _ t s ht) (by simp [frameB, c2])
  · exact ev_as (spec_FrameOk_j0 k _ t s ht) (by simp [frameB, c4])
  · exact ev_as (spec_FrameOk_j0 k _ t s ht) (by simp [frameB, c1, c2, c4])

/-! ### impl_TextOk -/
theorem impl_TextOk_l0 (s : ByteArray) (hs : s.size ≤ 4611686018427387904) (d : Nat) : ∀ i : Int, 0 ≤ i → i + d = s.size → Ev (fun k => impl_TextOk.l0 k s (s.size : Int) i) (allF (byteIn s 32 126) i d && decide ((s.size : Int) ≤ 100)) := by
  induction d with
  | zero =>
    intro i h0 h1
    refine ev_step (fun k => impl_TextOk.l0.eq_2 ..) ?_
    refine ev_neg (by omega) ?_
    exact ev_now _
  | succ d ih =>
    intro i h0 h1
    refine ev_step (fun k => impl_TextOk.l0.eq_2 ..) ?_
    refine ev_pos (by omega) (ev_pos (by omega) (ev_pos (by omega) ?_))
    refine ev_ite (fun c1 => ?_) (fun c1 => ev_ite (fun c2 => ?_) (fun c2 => ?_))
    · refine ev_as (ev_now _) ?_
      have : byteIn s 32 126 i = false := by rw [byteIn_false]; omega
      simp [allF, this]
    · refine ev_as (ev_now _) ?_
      have : byteIn s 32 126 i = false := by rw [byteIn_false]; omega
      simp [allF, this]
    · have : byteIn s 32 126 i = true := by rw [byteIn_iff]; omega
      rw [w64 (by omega) (by omega), allF, this, Bool.true_and]
      exact ih (i + 1) (by omega) (by omega)
theorem impl_TextOk_ev (s : ByteArray) (hs : s.size ≤ 4611686018427387904) : Ev (fun k => impl_TextOk.f k s) (textB s) := impl_TextOk_l0 s hs s.size 0 (by omega) (by omega)

/-! ### impl_isIn -/
theorem impl_isIn_eq (a b c : Int) : impl_isIn.f a b c = some (inB a b c) := by
  unfold impl_isIn.f inB
  by_cases h : b ≤ a <;> simp [h]

/-! ### impl_nameOk -/
theorem impl_nameOk_l0 (s : ByteArray) (hs : s.size ≤ 4611686018427387904) (d : Nat) : ∀ i : Int, 0 ≤ i → i + d = s.size → Ev (fun k => impl_nameOk.l0 k s (s.size : Int) i) (allF (byteIn s 97 122) i d && inB s.size 1 8) := by
  induction d with
  | zero =>
    intro i h0 h1
    refine ev_step (fun k => impl_nameOk.l0.eq_2 ..) ?_
    refine ev_neg (by omega) ?_
    rw [impl_isIn_eq]
    exact ev_now _
  | succ d ih =>
    intro i h0 h1
    refine ev_step (fun k => impl_nameOk.l0.eq_2 ..) ?_
    refine ev_pos (by omega) (ev_pos (by omega) (ev_pos (by omega) ?_))
    refine ev_ite (fun c1 => ?_) (fun c1 => ev_ite (fun c2 => ?_) (fun c2 => ?_))
    · refine ev_as (ev_now _) ?_
      have : byteIn s 97 122 i = false := by rw [byteIn_false]; omega
      simp [allF, this]
    · refine ev_as (ev_now _) ?_
      have : byteIn s 97 122 i = false := by rw [byteIn_false]; omega
      simp [allF, this]
    · have : byteIn s 97 122 i = true := by rw [byteIn_iff]; omega
      rw [w64 (by omega) (by omega), allF, this, Bool.true_and]
      exact ih (i + 1) (by omega) (by omega)
theorem impl_nameOk_ev (s : ByteArray) (hs : s.size ≤ 4611686018427387904) : Ev (fun k => impl_nameOk.f k s) (nameB s) := impl_nameOk_l0 s hs s.size 0 (by omega) (by omega)

/-! ### impl_FrameOk -/
theorem impl_FrameOk_j0 (k : Int) (b : Bool) (t : ByteArray) (s : Int) (ht : t.size ≤ 4611686018427387904) : Ev (fun n => impl_FrameOk.j0 n k b k t s) (if b = true then textB t && s == 0 else if k = 5 then (t.toList == ([] : List UInt8)) && inB s 0 2 else if k = 3 then (t.toList == ([] : List UInt8)) && s == 0 else false) := by
  refine ev_step (fun n => impl_FrameOk.j0.eq_2 ..) (ev_ite (fun c => ?_) (fun c => ev_ite (fun c5 => ev_ite (fun ce => ?_) (fun ce => ?_)) (fun c5 => ev_ite (fun c3 => ?_) (fun c3 => ?_))))
  · refine ev_bind (impl_TextOk_ev t ht) (ev_ite (fun c1 => ?_) (fun c1 => ?_))
    · exact ev_as (ev_now _) (by simp [c, c1])
    · exact ev_as (ev_now _) (by simp [c, c1])
  · exact ev_bind1 (impl_isIn_eq _ _ _) (ev_as (ev_now _) (by simp [c, c5, ce]))
  · exact ev_as (ev_now _) (by simp [c, c5, ce])
  · exact ev_as (ev_now _) (by simp [c, c3])
  · exact ev_as (ev_now _) (by simp [c, c5, c3])
theorem impl_FrameOk_ev (k : Int) (t : ByteArray) (s : Int) (ht : t.size ≤ 4611686018427387904) : Ev (fun n => impl_FrameOk.f n k t s) (frameB k t s) := by
  unfold impl_FrameOk.f
  refine ev_ite (fun c1 => ?_) (fun c1 => ev_ite (fun c2 => ?_) (fun c2 => ev_ite (fun c4 => ?_) (fun c4 => ?_)))
  · refine ev_bind (impl_nameOk_ev t ht) (ev_ite (fun c => ?_) (fun c => ?_))
    · exact ev_as (ev_now _) (by simp [frameB, c1, c])
    · exact ev_as (ev_now _) (by simp [frameB, c1, c])
  · exact ev_as (impl_FrameOk_j0 k _ t s ht) (by simp [frameB, c2])
  · exact ev_as (impl_FrameOk_j0 k _ t s ht) (by simp [frameB, c4])
  · exact ev_as (impl_FrameOk_j0 k _ t s ht) (by simp [frameB, c1, c2, c4])

/-! ### impl_GetFrame -/
/-- All of a list are bytes. -/
def bytesL (l : List Int) : Prop := ∀ x ∈ l, 0 ≤ x ∧ x < 256
theorem rd_byte {l : List Int} (hb : bytesL l) (i : Int) : 0 ≤ rd l i ∧ rd l i < 256 := by
  unfold rd
  rw [List.getD_eq_getElem?_getD]
  by_cases h : i.toNat < l.length
  · rw [List.getElem?_eq_getElem h]
    exact hb _ (List.getElem_mem h)
  · rw [List.getElem?_eq_none (by omega)]
    simp
theorem strN_size (l : List Int) (n : Nat) : (strOfNums ((l.take n).drop 2)).size ≤ l.length := by
  rw [strOfNums_size]
  simp
  omega
/-- The first frame of some bytes: the frame, its length, the code. -/
def getV (l : List Int) : Int × ByteArray × Int × Int × Int :=
  if (l.length : Int) = 0 then (0, ⟨#[]⟩, 0, 0, 1)
  else if rd l 0 = 3 then (3, ⟨#[]⟩, 0, 1, 0)
  else if inB (rd l 0) 1 6 = false then (0, ⟨#[]⟩, 0, 0, 2)
  else if (l.length : Int) < 2 then (0, ⟨#[]⟩, 0, 0, 1)
  else if rd l 0 = 5 then (if inB (rd l 1) 0 2 = true then (5, ⟨#[]⟩, rd l 1, 2, 0) else (0, ⟨#[]⟩, 0, 0, 2))
  else if rd l 1 > 100 then (0, ⟨#[]⟩, 0, 0, 2)
  else if (l.length : Int) < 2 + rd l 1 then (0, ⟨#[]⟩, 0, 0, 1)
  else if frameB (rd l 0) (strOfNums ((l.take (2 + rd l 1).toNat).drop 2)) 0 = true then (rd l 0, strOfNums ((l.take (2 + rd l 1).toNat).drop 2), 0, 2 + rd l 1, 0)
  else (0, ⟨#[]⟩, 0, 0, 2)
theorem empty_toList : (⟨#[]⟩ : ByteArray).toList = [] := by unfold ByteArray.toList; unfold ByteArray.toList.loop; rfl
theorem impl_GetFrame_j0 (l : List Int) (c : Int) (b : Bool) (hl : l.length ≤ 4611686018427387904) (hb : bytesL l) : Ev (fun k => impl_GetFrame.j0 k l 1 b c ⟨#[]⟩ 0)
    (if b = true then (if (l.length : Int) < 2 then (0, ⟨#[]⟩, 0, 0, 1) else if rd l 1 > 100 then (0, ⟨#[]⟩, 0, 0, 2) else if (l.length : Int) < 2 + rd l 1 then (0, ⟨#[]⟩, 0, 0, 1)
      else if frameB c (strOfNums ((l.take (2 + rd l 1).toNat).drop 2)) 0 = true then (c, strOfNums ((l.take (2 + rd l 1).toNat).drop 2), 0, 2 + rd l 1, 0) else (0, ⟨#[]⟩, 0, 0, 2))
     else if frameB c ⟨#[]⟩ 0 = true then (c, ⟨#[]⟩, 0, 1, 0) else (0, ⟨#[]⟩, 0, 0, 2)) := by
  have h1 := rd_byte hb 1
  have w1 : wrap64 (rd l 1) = rd l 1 := w64 (by omega) (by omega)
  have w2 : wrap64 (2 + rd l 1) = 2 + rd l 1 := w64 (by omega) (by omega)
  refine ev_step (fun k => impl_GetFrame.j0.eq_2 ..) ?_
  simp only [w1, w2]
  refine ev_ite (fun c0 => ?_) (fun c0 => ?_)
  · rw [if_pos c0]
    refine ev_ite (fun ca => ?_) (fun ca => ev_pos (by omega) (ev_ite (fun cb => ?_) (fun cb => ev_ite (fun cc => ?_) (fun cc => ev_pos (by omega) (ev_pos (by omega) ?_)))))
    · exact ev_as (ev_now _) (by rw [if_pos ca])
    · exact ev_as (ev_now _) (by rw [if_neg ca, if_pos cb])
    · exact ev_as (ev_now _) (by rw [if_neg ca, if_neg cb, if_pos cc])
    · rw [if_neg ca, if_neg cb, if_neg cc]
      refine ev_bind (impl_FrameOk_ev _ _ _ (Nat.le_trans (strN_size l _) hl)) (ev_ite (fun ck => ?_) (fun ck => ?_))
      · exact ev_as (ev_now _) (by rw [if_pos ck])
      · exact ev_as (ev_now _) (by rw [if_neg ck])
  · rw [if_neg c0]
    refine ev_bind (impl_FrameOk_ev _ _ _ (Nat.zero_le _)) (ev_ite (fun ck => ?_) (fun ck => ?_))
    · exact ev_as (ev_now _) (by rw [if_pos ck])
    · exact ev_as (ev_now _) (by rw [if_neg ck])
theorem impl_GetFrame_ev (l : List Int) (hl : l.length ≤ 4611686018427387904) (hb : bytesL l) : Ev (fun k => impl_GetFrame.f k l) (getV l) := by
  have h0 := rd_byte hb 0
  have h1 := rd_byte hb 1
  have w0 : wrap64 (rd l 0) = rd l 0 := w64 (by omega) (by omega)
  have w1 : wrap64 (rd l 1) = rd l 1 := w64 (by omega) (by omega)
  unfold impl_GetFrame.f getV
  simp only [w0, w1]
  refine ev_ite (fun c => ?_) (fun c => ev_pos (by omega) ?_)
  · exact ev_as (ev_now _) (by rw [if_pos c])
  rw [if_neg c]
  refine ev_ite (fun c3 => ?_) (fun c3 => ?_)
  · rw [c3]
    exact ev_bind (impl_FrameOk_ev 3 ⟨#[]⟩ 0 (Nat.zero_le _)) (ev_pos (by simp [frameB, empty_toList]) (ev_as (ev_now _) (by simp)))
  rw [if_neg c3]
  refine ev_ite (fun c5 => ?_) (fun c5 => ?_)
  · have ci' : ¬ inB (rd l 0) 1 6 = false := by rw [c5]; decide
    rw [if_neg ci', if_pos c5]
    refine ev_ite (fun cl => ?_) (fun cl => ev_pos (by omega) ?_)
    · exact ev_as (ev_now _) (by rw [if_pos cl])
    · refine ev_bind (impl_FrameOk_ev _ ⟨#[]⟩ _ (Nat.zero_le _)) ?_
      have e : frameB (rd l 0) ⟨#[]⟩ (rd l 1) = inB (rd l 1) 0 2 := by simp [frameB, c5, empty_toList]
      rw [e, if_neg cl]
      refine ev_ite (fun ck => ?_) (fun ck => ?_)
      · exact ev_as (ev_now _) (by rw [if_pos ck, c5])
      · exact ev_as (ev_now _) (by rw [if_neg ck])
  rw [if_neg c5]
  have key : ∀ b : Bool, b = decide (rd l 0 = 1 ∨ rd l 0 = 2 ∨ rd l 0 = 4 ∨ rd l 0 = 6) → Ev (fun k => impl_GetFrame.j0 k l 1 b (rd l 0) ⟨#[]⟩ 0) (if inB (rd l 0) 1 6 = false then (0, ⟨#[]⟩, 0, 0, 2)
      else if (l.length : Int) < 2 then (0, ⟨#[]⟩, 0, 0, 1)
      else if rd l 1 > 100 then (0, ⟨#[]⟩, 0, 0, 2)
      else if (l.length : Int) < 2 + rd l 1 then (0, ⟨#[]⟩, 0, 0, 1)
      else if frameB (rd l 0) (strOfNums ((l.take (2 + rd l 1).toNat).drop 2)) 0 = true then (rd l 0, strOfNums ((l.take (2 + rd l 1).toNat).drop 2), 0, 2 + rd l 1, 0)
      else (0, ⟨#[]⟩, 0, 0, 2)) := by
    intro b hb2
    refine ev_as (impl_GetFrame_j0 l (rd l 0) b hl hb) ?_
    by_cases ci : inB (rd l 0) 1 6 = false
    · have hh := (inB_false _ _ _).1 ci
      have hbf : b = false := by rw [hb2]; exact decide_eq_false (by omega)
      have hf : frameB (rd l 0) ⟨#[]⟩ 0 = false := by
        unfold frameB
        rw [if_neg (by omega), if_neg (by omega), if_neg (by omega), if_neg (by omega)]
      simp [ci, hbf, hf]
    · have hh := (inB_iff (rd l 0) 1 6).1 (by simpa using ci)
      have hbt : b = true := by rw [hb2]; exact decide_eq_true (by omega)
      rw [if_pos hbt, if_neg ci]
  refine ev_ite (fun d1 => ?_) (fun d1 => ev_ite (fun d2 => ?_) (fun d2 => ev_ite (fun d4 => ?_) (fun d4 => ?_)))
  · exact key _ (by simp [d1])
  · exact key _ (by simp [d2])
  · exact key _ (by simp [d4])
  · exact key _ (by simp [d1, d2, d4]; rfl)

/-! ### spec_l1Bytes -/
theorem spec_l1Bytes_l0 (b : List Int) (hb : b.length ≤ 4611686018427387904) (n : Int) (hn : n ≤ 1000) (d : Nat) : ∀ (l : List Int) (j i h : Int), n ≤ j + d → 0 ≤ j → l.length + d ≤ 1000 → bytesL l → curB b i → ∃ l' i' h', Ev (fun k => spec_l1Bytes.l0 k n l j b i h) (l', i', h') ∧ bytesL l' ∧ l'.length ≤ 1000 ∧ curB b i' := by
  induction d with
  | zero =>
    intro l j i h hd h0 hl hbl hc
    exact ⟨_, _, _, ev_step (fun k => spec_l1Bytes.l0.eq_2 ..) (ev_neg (by omega) (ev_now _)), hbl, by omega, hc⟩
  | succ d ih =>
    intro l j i h hd h0 hl hbl hc
    by_cases c : j < n
    · obtain ⟨v, i1, h1, e1, v0, v1, c1⟩ := spec_l1Byte_some b i h hc hb
      obtain ⟨l', i2, h2, e2, b2, s2, c2⟩ := ih (l ++ [v % 256]) (j + 1) i1 h1 (by omega) (by omega) (by rw [List.length_append, List.length_cons, List.length_nil]; omega) (fun x hx => by
        rcases List.mem_append.1 hx with hx | hx
        · exact hbl x hx
        · rw [List.mem_singleton] at hx; omega) c1
      refine ⟨l', i2, h2, ev_step (fun k => spec_l1Bytes.l0.eq_2 ..) (ev_pos c (ev_bind1 e1 (ev_pos (by omega) ?_))), b2, s2, c2⟩
      rw [w64 (by omega) (by omega)]
      exact e2
    · exact ⟨_, _, _, ev_step (fun k => spec_l1Bytes.l0.eq_2 ..) (ev_neg c (ev_now _)), hbl, by omega, hc⟩
theorem spec_l1Bytes_some (b : List Int) (i h n : Int) (hn : n ≤ 1000) (hc : curB b i) (hb : b.length ≤ 4611686018427387904) : ∃ l i' h', Ev (fun k => spec_l1Bytes.f k b i h n) (l, i', h') ∧ bytesL l ∧ l.length ≤ 1000 ∧ curB b i' :=
  spec_l1Bytes_l0 b hb n hn n.toNat [] 0 i h (by omega) (by omega) (by simp; omega) (fun _ hx => by cases hx) hc

/-! ### spec_l1Once -/
theorem spec_l1Once_some (b : List Int) (i h n : Int) (hc : curB b i) (hb : b.length ≤ 4611686018427387904) : ∃ v i' h', spec_l1Once.f b i h n = some (v, i', h') ∧ curB b i' := by
  obtain ⟨v, i1, h1, e1, _, _, c1⟩ := spec_l1Below_some b i h n hc hb
  unfold spec_l1Once.f
  rw [e1, Option.bind_some]
  exact ⟨_, _, _, rfl, c1⟩

/-! ### spec_PutText -/
/-- Bytes with a text behind them, if it is one that may stand there. -/
def putTextV (l : List Int) (s : ByteArray) : List Int := if textB s = true then (l ++ [(s.size : Int) % 256]) ++ bytesOf s else l
theorem textB_size (s : ByteArray) (h : textB s = true) : s.size ≤ 100 := by
  unfold textB at h
  rw [Bool.and_eq_true] at h
  have := of_decide_eq_true h.2
  omega
theorem putTextV_len (l : List Int) (s : ByteArray) : (putTextV l s).length ≤ l.length + 101 := by
  unfold putTextV
  split
  · rename_i h
    have := textB_size s h
    rw [List.length_append, List.length_append, bytesOf_length]
    simp only [List.length_cons, List.length_nil]
    omega
  · omega
theorem putTextV_ge (l : List Int) (s : ByteArray) : l.length ≤ (putTextV l s).length := by
  unfold putTextV
  split
  · rw [List.length_append, List.length_append]
    omega
  · omega
theorem spec_PutText_ev (l : List Int) (s : ByteArray) (hl : l.length ≤ 1000000000000) (hs : s.size ≤ 1000000000000) : Ev (fun k => spec_PutText.f k l s) (putTextV l s) := by
  unfold spec_PutText.f putTextV
  simp only [Option.bind_some, List.nil_append, List.length_nil]
  refine ev_pos (by omega) (ev_bind (spec_TextOk_ev s (by omega)) (ev_ite (fun c => ?_) (fun c => ?_)))
  · exact ev_pos (by omega) (ev_pos (by rw [List.length_append]; simp only [List.length_cons, List.length_nil]; omega) (ev_as (ev_now _) (by rw [if_pos c])))
  · exact ev_as (ev_now _) (by rw [if_neg c])

/-! ### spec_PutFrame -/
/-- The bytes of a frame. -/
def putFrameV (k : Int) (t : ByteArray) (s : Int) : List Int := if frameB k t s = true then (if k = 5 then [k % 256] ++ [s % 256] else if k = 3 then [k % 256] else putTextV [k % 256] t) else []
theorem putFrameV_len (k : Int) (t : ByteArray) (s : Int) : (putFrameV k t s).length ≤ 102 := by
  have := putTextV_len [k % 256] t
  simp only [List.length_cons, List.length_nil] at this
  unfold putFrameV
  split
  · split
    · simp
    · split
      · simp
      · omega
  · simp
theorem spec_PutFrame_ev (k : Int) (t : ByteArray) (s : Int) (ht : t.size ≤ 1000000000000) : Ev (fun n => spec_PutFrame.f n k t s) (putFrameV k t s) := by
  unfold spec_PutFrame.f putFrameV
  simp only [Option.bind_some, List.length_cons, List.length_nil]
  refine ev_bind (spec_FrameOk_ev k t s (by omega)) (ev_ite (fun c => ?_) (fun c => ?_))
  · refine ev_ite (fun c1 => ev_pos (by omega) ?_) (fun c1 => ev_ite (fun c2 => ?_) (fun c2 => ?_))
    · exact ev_as (ev_now _) (by rw [if_pos c, if_pos c1])
    · exact ev_as (ev_now _) (by rw [if_pos c, if_neg c1, if_pos c2])
    · exact ev_bind (spec_PutText_ev [k % 256] t (by simp) ht) (ev_as (ev_now _) (by rw [if_pos c, if_neg c1, if_neg c2]))
  · exact ev_as (ev_now _) (by rw [if_neg c])

/-! ### spec_l1Str -/
theorem spec_l1Str_some (b : List Int) (i h : Int) (l : List ByteArray) (hl : 0 < l.length) (hc : curB b i) (hb : b.length ≤ 4611686018427387904) : ∃ v i' h', spec_l1Str.f b i h l = some (v, i', h') ∧ v ∈ l ∧ curB b i' := by
  obtain ⟨v, i1, h1, e1, r1, _, c1⟩ := spec_l1Below_some b i h (l.length : Int) hc hb
  have r := r1 (by omega)
  unfold spec_l1Str.f
  rw [e1, Option.bind_some]
  dsimp only
  rw [if_pos r.1, if_pos r.2]
  refine ⟨_, _, _, rfl, ?_, c1⟩
  obtain ⟨m, rfl⟩ := Int.eq_ofNat_of_zero_le r.1
  rw [rdOf_nth ByteArray.empty l m (by omega)]
  exact List.getElem_mem _

/-! ### spec_l6Draw -/
theorem spec_l6Draw_j0 (b : List Int) (x9 : Int) (c : Bool) (i h k : Int) (t : ByteArray) (s : Int) (ht : t.size ≤ 101) (hc : curB b i) (hb : b.length ≤ 4611686018427387904) : ∃ k' t' s' i' h', Ev (fun n => spec_l6Draw.j0 n x9 c b i h k t s) (k', t', s', i', h') ∧ t'.size ≤ 101 ∧ curB b i' := by
  by_cases c1 : c = true
  · obtain ⟨v, i1, h1, e1, m1, k1⟩ := spec_l1Str_some b i h [(⟨#[]⟩ : ByteArray), (⟨#[97]⟩ : ByteArray), (⟨#[102, 117, 108, 108]⟩ : ByteArray), (⟨#[111, 110, 101]⟩ : ByteArray)] (by simp) hc hb
    have all : ∀ x ∈ [(⟨#[]⟩ : ByteArray), (⟨#[97]⟩ : ByteArray), (⟨#[102, 117, 108, 108]⟩ : ByteArray), (⟨#[111, 110, 101]⟩ : ByteArray)], x.size ≤ 101 := by decide
    exact ⟨_, _, _, _, _, ev_step (fun n => spec_l6Draw.j0.eq_2 ..) (ev_pos c1 (ev_bind1 e1 (ev_now _))), all v m1, k1⟩
  · by_cases c2 : x9 = 5
    · obtain ⟨v, i1, h1, e1, _, _, k1⟩ := spec_l1Below_some b i h 3 hc hb
      exact ⟨_, _, _, _, _, ev_step (fun n => spec_l6Draw.j0.eq_2 ..) (ev_neg c1 (ev_pos c2 (ev_bind1 e1 (ev_now _)))), ht, k1⟩
    · exact ⟨_, _, _, _, _, ev_step (fun n => spec_l6Draw.j0.eq_2 ..) (ev_neg c1 (ev_neg c2 (ev_now _))), ht, hc⟩
theorem spec_l6Draw_some (b : List Int) (i h : Int) (hc : curB b i) (hb : b.length ≤ 4611686018427387904) : ∃ k t s i' h', Ev (fun n => spec_l6Draw.f n b i h) (k, t, s, i', h') ∧ t.size ≤ 101 ∧ curB b i' := by
  unfold spec_l6Draw.f
  obtain ⟨v, i1, h1, e1, _, _, c1⟩ := spec_l1Below_some b i h 6 hc hb
  by_cases d1 : wrap64 (1 + v) = 1
  · obtain ⟨t, i2, h2, e2, m2, c2⟩ := spec_l1Str_some b i1 h1 [(⟨#[109, 97, 105, 110]⟩ : ByteArray), (⟨#[108, 111, 103, 115]⟩ : ByteArray), (⟨#[120]⟩ : ByteArray), (⟨#[97, 100, 109, 105, 110]⟩ : ByteArray)] (by simp) c1 hb
    have all : ∀ x ∈ [(⟨#[109, 97, 105, 110]⟩ : ByteArray), (⟨#[108, 111, 103, 115]⟩ : ByteArray), (⟨#[120]⟩ : ByteArray), (⟨#[97, 100, 109, 105, 110]⟩ : ByteArray)], x.size ≤ 101 := by decide
    exact ⟨_, _, _, _, _, ev_bind1 e1 (ev_pos d1 (ev_bind1 e2 (ev_now _))), all t m2, c2⟩
  by_cases d2 : wrap64 (1 + v) = 2
  · obtain ⟨t, i2, h2, e2, m2, c2⟩ := spec_l1Str_some b i1 h1 [(⟨#[98, 101, 103, 105, 110]⟩ : ByteArray), (⟨#[99, 111, 109, 109, 105, 116]⟩ : ByteArray), (⟨#[114, 111, 108, 108, 98, 97, 99, 107]⟩ : ByteArray), (⟨#[102, 97, 105, 108]⟩ : ByteArray), (⟨#[111, 110, 101]⟩ : ByteArray), (⟨#[116, 119, 111]⟩ : ByteArray), (⟨#[]⟩ : ByteArray)] (by simp) c1 hb
    have all : ∀ x ∈ [(⟨#[98, 101, 103, 105, 110]⟩ : ByteArray), (⟨#[99, 111, 109, 109, 105, 116]⟩ : ByteArray), (⟨#[114, 111, 108, 108, 98, 97, 99, 107]⟩ : ByteArray), (⟨#[102, 97, 105, 108]⟩ : ByteArray), (⟨#[111, 110, 101]⟩ : ByteArray), (⟨#[116, 119, 111]⟩ : ByteArray), (⟨#[]⟩ : ByteArray)], x.size ≤ 101 := by decide
    exact ⟨_, _, _, _, _, ev_bind1 e1 (ev_neg d1 (ev_pos d2 (ev_bind1 e2 (ev_now _)))), all t m2, c2⟩
  by_cases d4 : wrap64 (1 + v) = 4
  · obtain ⟨k, t, s, i2, h2, e2, s2, c2⟩ := spec_l6Draw_j0 b (wrap64 (1 + v)) (wrap64 (1 + v) == 4) i1 h1 (wrap64 (1 + v)) (⟨#[]⟩ : ByteArray) 0 (by decide) c1 hb
    exact ⟨_, _, _, _, _, ev_bind1 e1 (ev_neg d1 (ev_neg d2 (ev_pos d4 e2))), s2, c2⟩
  · obtain ⟨k, t, s, i2, h2, e2, s2, c2⟩ := spec_l6Draw_j0 b (wrap64 (1 + v)) (wrap64 (1 + v) == 6) i1 h1 (wrap64 (1 + v)) (⟨#[]⟩ : ByteArray) 0 (by decide) c1 hb
    exact ⟨_, _, _, _, _, ev_bind1 e1 (ev_neg d1 (ev_neg d2 (ev_neg d4 e2))), s2, c2⟩

/-! ### spec_l1Bend -/
theorem u8_xor_in (a c : Int) : 0 ≤ Go.bits .xor .u8 a c ∧ Go.bits .xor .u8 a c < 256 := by
  show 0 ≤ IntKind.u8.wrap _ ∧ IntKind.u8.wrap _ < 256
  rw [IntKind.wrap_u8]
  omega
theorem spec_l1Bend_some (b : List Int) (i h : Int) (l : List Int) (hl : l.length ≤ 1000) (hbl : bytesL l) (hc : curB b i) (hb : b.length ≤ 4611686018427387904) : ∃ l' i' h', spec_l1Bend.f b i h l = some (l', i', h') ∧ bytesL l' ∧ l'.length ≤ 1001 ∧ curB b i' := by
  unfold spec_l1Bend.f
  simp only [Option.bind_some, List.nil_append, List.length_nil]
  rw [if_pos (by omega)]
  obtain ⟨v, i1, h1, e1, _, _, c1⟩ := spec_l1Below_some b i h 8 hc hb
  rw [e1, Option.bind_some]
  dsimp only
  by_cases d0 : v = 0
  · rw [if_pos d0]
    by_cases z : (l.length : Int) > 0
    · rw [if_pos z]
      obtain ⟨j, i2, h2, e2, r2, _, c2⟩ := spec_l1Below_some b i1 h1 (l.length : Int) c1 hb
      have r := r2 (by omega)
      rw [e2, Option.bind_some]
      dsimp only
      rw [if_pos r.1, if_pos r.2]
      obtain ⟨x, i3, h3, e3, _, _, c3⟩ := spec_l1Below_some b i2 h2 255 c2 hb
      rw [e3, Option.bind_some]
      refine ⟨_, _, _, rfl, fun y hy => ?_, by rw [List.length_set]; omega, c3⟩
      rcases List.mem_or_eq_of_mem_set hy with hy | rfl
      · exact hbl y hy
      · exact u8_xor_in _ _
    · rw [if_neg z]
      exact ⟨_, _, _, rfl, hbl, by omega, c1⟩
  rw [if_neg d0]
  by_cases d1 : v = 1
  · rw [if_pos d1]
    by_cases z : (l.length : Int) > 0
    · rw [if_pos z]
      obtain ⟨j, i2, h2, e2, r2, _, c2⟩ := spec_l1Below_some b i1 h1 (l.length : Int) c1 hb
      have r := r2 (by omega)
      rw [e2, Option.bind_some]
      dsimp only
      rw [if_pos r.1, if_pos (by omega)]
      exact ⟨_, _, _, rfl, fun y hy => hbl y (List.mem_of_mem_take hy), by rw [List.length_take]; omega, c2⟩
    · rw [if_neg z]
      exact ⟨_, _, _, rfl, hbl, by omega, c1⟩
  rw [if_neg d1]
  by_cases d2 : v = 2
  · rw [if_pos d2]
    obtain ⟨x, i2, h2, e2, x0, x1, c2⟩ := spec_l1Byte_some b i1 h1 c1 hb
    rw [e2, Option.bind_some]
    dsimp only
    rw [if_pos (by omega)]
    refine ⟨_, _, _, rfl, fun y hy => ?_, by rw [List.length_append, List.length_cons, List.length_nil]; omega, c2⟩
    rcases List.mem_append.1 hy with hy | hy
    · exact hbl y hy
    · rw [List.mem_singleton] at hy; omega
  · rw [if_neg d2]
    exact ⟨_, _, _, rfl, hbl, by omega, c1⟩

/-! ### spec_l6Bytes -/
theorem bytesOf_L (s : ByteArray) : bytesL (bytesOf s) := by
  intro x hx
  unfold bytesOf at hx
  obtain ⟨c, _, rfl⟩ := List.mem_map.1 hx
  have := c.toNat_lt
  omega
theorem putFrameV_L (k : Int) (t : ByteArray) (s : Int) : bytesL (putFrameV k t s) := by
  intro x hx
  unfold putFrameV at hx
  split at hx
  · split at hx
    · simp only [List.cons_append, List.nil_append, List.mem_cons, List.not_mem_nil, or_false] at hx
      rcases hx with rfl | rfl <;> omega
    · split at hx
      · rw [List.mem_singleton] at hx; omega
      · unfold putTextV at hx
        split at hx
        · rcases List.mem_append.1 hx with hx | hx
          · simp only [List.cons_append, List.nil_append, List.mem_cons, List.not_mem_nil, or_false] at hx
            rcases hx with rfl | rfl <;> omega
          · exact bytesOf_L t x hx
        · rw [List.mem_singleton] at hx; omega
  · cases hx
theorem spec_l6Bytes_some (b : List Int) (i h : Int) (hc : curB b i) (hb : b.length ≤ 4611686018427387904) : ∃ l i' h', Ev (fun k => spec_l6Bytes.f k b i h) (l, i', h') ∧ bytesL l ∧ l.length ≤ 1001 ∧ curB b i' := by
  unfold spec_l6Bytes.f
  obtain ⟨k, t, s, i1, h1, e1, s1, c1⟩ := spec_l6Draw_some b i h hc hb
  obtain ⟨o, i2, h2, e2, c2⟩ := spec_l1Once_some b i1 h1 6 c1 hb
  by_cases c : o = true
  · obtain ⟨n, i3, h3, e3, r3, z3, c3⟩ := spec_l1Below_some b i2 h2 4 c2 hb
    have r := r3 (by omega)
    obtain ⟨l, i4, h4, e4, b4, s4, c4⟩ := spec_l1Bytes_some b i3 h3 n (by omega) c3 hb
    exact ⟨_, _, _, ev_bind e1 (ev_bind (spec_PutFrame_ev k t s (by omega)) (ev_bind1 e2 (ev_pos c (ev_bind1 e3 (ev_bind e4 (ev_now _)))))), b4, (by show l.length ≤ _; omega), c4⟩
  · obtain ⟨l, i3, h3, e3, b3, s3, c3⟩ := spec_l1Bend_some b i2 h2 (putFrameV k t s) (by have := putFrameV_len k t s; omega) (putFrameV_L k t s) c2 hb
    exact ⟨_, _, _, ev_bind e1 (ev_bind (spec_PutFrame_ev k t s (by omega)) (ev_bind1 e2 (ev_neg c (ev_bind1 e3 (ev_now _))))), b3, s3, c3⟩

/-! ### spec_l8Draw -/
theorem spec_l8Draw_l1 (b : List Int) (hb : b.length ≤ 4611686018427387904) (d : Nat) : ∀ (x0 x1 x2 : Int) (x3 : Bool) (l4 l5 : List Int) (x6 x7 i h : Int), d ≤ 3 → l5.length + 102 * d ≤ 2000 → bytesL l5 → curB b i → ∃ l5' x6' x7' i' h', Ev (fun k => spec_l8Draw.l1 k (d : Int) b i h x0 x1 x2 x3 l4 l5 x6 x7) (x0, x1, x2, x3, l4, l5', x6', x7', i', h') ∧ bytesL l5' ∧ l5'.length ≤ 2000 ∧ curB b i' := by
  induction d with
  | zero =>
    intro x0 x1 x2 x3 l4 l5 x6 x7 i h _ hl hbl hc
    by_cases c : x1 = 2
    · obtain ⟨v, i1, h1, e1, _, _, c1⟩ := spec_l1Below_some b i h 3 hc hb
      exact ⟨_, _, _, _, _, ev_step (fun k => spec_l8Draw.l1.eq_2 ..) (ev_neg (by omega) (ev_pos c (ev_bind1 e1 (ev_now _)))), hbl, by omega, c1⟩
    · exact ⟨_, _, _, _, _, ev_step (fun k => spec_l8Draw.l1.eq_2 ..) (ev_neg (by omega) (ev_neg c (ev_now _))), hbl, by omega, hc⟩
  | succ d ih =>
    intro x0 x1 x2 x3 l4 l5 x6 x7 i h hd hl hbl hc
    obtain ⟨k, t, s, i1, h1, e1, s1, c1⟩ := spec_l6Draw_some b i h hc hb
    have hp := putFrameV_len k t s
    have hw : wrap64 (((d + 1 : Nat) : Int) - 1) = (d : Int) := by rw [w64 (by omega) (by omega)]; omega
    have hbl' : bytesL (l5 ++ putFrameV k t s) := fun x hx => by
      rcases List.mem_append.1 hx with hx | hx
      · exact hbl x hx
      · exact putFrameV_L k t s x hx
    have hl' : (l5 ++ putFrameV k t s).length + 102 * d ≤ 2000 := by rw [List.length_append]; omega
    by_cases c : x1 = 2
    · obtain ⟨v, i2, h2, e2, c2⟩ := spec_l1Once_some b i1 h1 3 c1 hb
      by_cases cv : v = true
      · obtain ⟨l5', x6', x7', i3, h3, e3, b3, s3, c3⟩ := ih x0 x1 x2 x3 l4 (l5 ++ putFrameV k t s) x6 ((l5 ++ putFrameV k t s).length : Int) i2 h2 (by omega) hl' hbl' c2
        refine ⟨l5', x6', x7', i3, h3, ev_step (fun k => spec_l8Draw.l1.eq_2 ..) (ev_pos (by omega) (ev_bind e1 (ev_bind (spec_PutFrame_ev k t s (by omega)) (ev_pos (by omega) (ev_bind1 rfl (ev_pos c (ev_bind1 e2 (ev_pos cv ?_)))))))), b3, s3, c3⟩
        rw [hw]
        exact e3
      · obtain ⟨l5', x6', x7', i3, h3, e3, b3, s3, c3⟩ := ih x0 x1 x2 x3 l4 (l5 ++ putFrameV k t s) x6 x7 i2 h2 (by omega) hl' hbl' c2
        refine ⟨l5', x6', x7', i3, h3, ev_step (fun k => spec_l8Draw.l1.eq_2 ..) (ev_pos (by omega) (ev_bind e1 (ev_bind (spec_PutFrame_ev k t s (by omega)) (ev_pos (by omega) (ev_bind1 rfl (ev_pos c (ev_bind1 e2 (ev_neg cv ?_)))))))), b3, s3, c3⟩
        rw [hw]
        exact e3
    · obtain ⟨l5', x6', x7', i3, h3, e3, b3, s3, c3⟩ := ih x0 x1 x2 x3 l4 (l5 ++ putFrameV k t s) x6 x7 i1 h1 (by omega) hl' hbl' c1
      refine ⟨l5', x6', x7', i3, h3, ev_step (fun k => spec_l8Draw.l1.eq_2 ..) (ev_pos (by omega) (ev_bind e1 (ev_bind (spec_PutFrame_ev k t s (by omega)) (ev_pos (by omega) (ev_bind1 rfl (ev_neg c ?_)))))), b3, s3, c3⟩
      rw [hw]
      exact e3
theorem spec_l8Draw_j1 (b : List Int) (hb : b.length ≤ 4611686018427387904) (x0 x1 x2 : Int) (x3 : Bool) (l4 : List Int) (x6 x7 i h : Int) (hc : curB b i) : ∃ l5' x6' x7' i' h', Ev (fun k => spec_l8Draw.j1 k b i h x0 x1 x2 x3 l4 x6 x7) (x0, x1, x2, x3, l4, l5', x6', x7', i', h') ∧ bytesL l5' ∧ l5'.length ≤ 2000 ∧ curB b i' := by
  obtain ⟨v, i1, h1, e1, v1, _, c1⟩ := spec_l1Below_some b i h 4 hc hb
  have hv := v1 (by omega)
  obtain ⟨d, rfl⟩ := Int.eq_ofNat_of_zero_le hv.1
  obtain ⟨l5', x6', x7', i2, h2, e2, b2, s2, c2⟩ := spec_l8Draw_l1 b hb d x0 x1 x2 x3 l4 [] x6 x7 i1 h1 (by omega) (by simp only [List.length_nil]; omega) (fun _ hx => by cases hx) c1
  exact ⟨_, _, _, _, _, ev_step (fun k => spec_l8Draw.j1.eq_2 ..) (ev_bind1 e1 e2), b2, s2, c2⟩
theorem spec_l8Draw_l0 (b : List Int) (hb : b.length ≤ 4611686018427387904) (d : Nat) : ∀ (x0 x1 x2 : Int) (x3 : Bool) (l4 : List Int) (x6 x7 i h : Int), d ≤ 3 → l4.length + 102 * d ≤ 2000 → bytesL l4 → curB b i → ∃ l4' l5' x6' x7' i' h', Ev (fun k => spec_l8Draw.l0 k (d : Int) b i h x0 x1 x2 x3 l4 x6 x7) (x0, x1, x2, x3, l4', l5', x6', x7', i', h') ∧ bytesL l4' ∧ l4'.length ≤ 4000 ∧ bytesL l5' ∧ l5'.length ≤ 2000 ∧ curB b i' := by
  induction d with
  | zero =>
    intro x0 x1 x2 x3 l4 x6 x7 i h _ hl hbl hc
    obtain ⟨v, i1, h1, e1, c1⟩ := spec_l1Once_some b i h 4 hc hb
    by_cases cv : v = true
    · obtain ⟨q, i2, h2, e2, b2, s2, c2⟩ := spec_l6Bytes_some b i1 h1 c1 hb
      obtain ⟨l5', x6', x7', i3, h3, e3, b3, s3, c3⟩ := spec_l8Draw_j1 b hb x0 x1 x2 x3 (l4 ++ q) x6 x7 i2 h2 c2
      exact ⟨_, _, _, _, _, _, ev_step (fun k => spec_l8Draw.l0.eq_2 ..) (ev_neg (by omega) (ev_bind1 e1 (ev_pos cv (ev_bind e2 (ev_pos (by show l4.length + q.length < _; omega) e3))))), fun x hx => by
        rcases List.mem_append.1 hx with hx | hx
        · exact hbl x hx
        · exact b2 x hx, by rw [List.length_append]; omega, b3, s3, c3⟩
    · obtain ⟨l5', x6', x7', i3, h3, e3, b3, s3, c3⟩ := spec_l8Draw_j1 b hb x0 x1 x2 x3 l4 x6 x7 i1 h1 c1
      exact ⟨_, _, _, _, _, _, ev_step (fun k => spec_l8Draw.l0.eq_2 ..) (ev_neg (by omega) (ev_bind1 e1 (ev_neg cv e3))), hbl, by omega, b3, s3, c3⟩
  | succ d ih =>
    intro x0 x1 x2 x3 l4 x6 x7 i h hd hl hbl hc
    obtain ⟨k, t, s, i1, h1, e1, s1, c1⟩ := spec_l6Draw_some b i h hc hb
    have hp := putFrameV_len k t s
    have hw : wrap64 (((d + 1 : Nat) : Int) - 1) = (d : Int) := by rw [w64 (by omega) (by omega)]; omega
    have hbl' : bytesL (l4 ++ putFrameV k t s) := fun x hx => by
      rcases List.mem_append.1 hx with hx | hx
      · exact hbl x hx
      · exact putFrameV_L k t s x hx
    obtain ⟨l4', l5', x6', x7', i3, h3, e3, g3⟩ := ih x0 x1 x2 x3 (l4 ++ putFrameV k t s) x6 x7 i1 h1 (by omega) (by rw [List.length_append]; omega) hbl' c1
    refine ⟨l4', l5', x6', x7', i3, h3, ev_step (fun k => spec_l8Draw.l0.eq_2 ..) (ev_pos (by omega) (ev_bind e1 (ev_bind (spec_PutFrame_ev k t s (by omega)) (ev_pos (by omega) ?_)))), g3⟩
    rw [hw]
    exact e3
def drawnS (x : S41) : Prop := bytesL x.f4 ∧ x.f4.length ≤ 4000 ∧ bytesL x.f5 ∧ x.f5.length ≤ 2000
theorem spec_l8Draw_some (b : List Int) (i h : Int) (hc : curB b i) (hb : b.length ≤ 4611686018427387904) : ∃ (x : S41) (i' h' : Int), Ev (fun k => spec_l8Draw.f k b i h) (x.f0, x.f1, x.f2, x.f3, x.f4, x.f5, x.f6, x.f7, i', h') ∧ drawnS x ∧ curB b i' := by
  unfold spec_l8Draw.f
  obtain ⟨v1, i1, h1, e1, _, _, c1⟩ := spec_l1Below_some b i h 9 hc hb
  obtain ⟨v2, i2, h2, e2, _, _, c2⟩ := spec_l1Below_some b i1 h1 2 c1 hb
  obtain ⟨v3, i3, h3, e3, _, _, c3⟩ := spec_l1Below_some b i2 h2 3 c2 hb
  obtain ⟨v4, i4, h4, e4, c4⟩ := spec_l1Once_some b i3 h3 6 c3 hb
  obtain ⟨v5, i5, h5, e5, w5, _, c5⟩ := spec_l1Below_some b i4 h4 4 c4 hb
  have hv := w5 (by omega)
  obtain ⟨d, rfl⟩ := Int.eq_ofNat_of_zero_le hv.1
  obtain ⟨l4', l5', x6', x7', i6, h6, e6, b4, s4, b5, s5, c6⟩ := spec_l8Draw_l0 b hb d (wrap64 (1 + v1)) (wrap64 (1 + v2)) (wrap64 (1 + v3)) v4 [] 0 0 i5 h5 (by omega) (by simp only [List.length_nil]; omega) (fun _ hx => by cases hx) c5
  exact ⟨⟨wrap64 (1 + v1), wrap64 (1 + v2), wrap64 (1 + v3), v4, l4', l5', x6', x7'⟩, i6, h6, ev_bind1 e1 (ev_bind1 e2 (ev_bind1 e3 (ev_bind1 e4 (ev_bind1 e5 e6)))), ⟨b4, s4, b5, s5⟩, c6⟩

/-! ### spec_l8Any -/
theorem spec_l8Any_some (b : List Int) (i h : Int) (hc : curB b i) (hb : b.length ≤ 4611686018427387904) : ∃ (x : S41) (i' h' : Int), Ev (fun k => spec_l8Any.f k b i h) (x.f0, x.f1, x.f2, x.f3, x.f4, x.f5, x.f6, x.f7, i', h') ∧ drawnS x ∧ curB b i' := by
  unfold spec_l8Any.f
  obtain ⟨x, i1, h1, e1, g1, c1⟩ := spec_l8Draw_some b i h hc hb
  obtain ⟨v, i2, h2, e2, _, _, c2⟩ := spec_l1Below_some b i1 h1 16 c1 hb
  by_cases d0 : v = 0
  · obtain ⟨a, i3, h3, e3, _, c3⟩ := spec_l1Int_some b i2 h2 [0, 9999, 10000] (by simp) c2 hb
    exact ⟨⟨a, x.f1, x.f2, x.f3, x.f4, x.f5, x.f6, x.f7⟩, _, _, ev_bind e1 (ev_bind1 e2 (ev_pos d0 (ev_bind1 e3 (ev_now _)))), g1, c3⟩
  by_cases d1 : v = 1
  · obtain ⟨a, i3, h3, e3, _, c3⟩ := spec_l1Int_some b i2 h2 [0, 1, 2, 3] (by simp) c2 hb
    exact ⟨⟨x.f0, a, x.f2, x.f3, x.f4, x.f5, x.f6, x.f7⟩, _, _, ev_bind e1 (ev_bind1 e2 (ev_neg d0 (ev_pos d1 (ev_bind1 e3 (ev_now _))))), g1, c3⟩
  by_cases d2 : v = 2
  · obtain ⟨a, i3, h3, e3, _, c3⟩ := spec_l1Int_some b i2 h2 [0, 4] (by simp) c2 hb
    exact ⟨⟨x.f0, x.f1, a, x.f3, x.f4, x.f5, x.f6, x.f7⟩, _, _, ev_bind e1 (ev_bind1 e2 (ev_neg d0 (ev_neg d1 (ev_pos d2 (ev_bind1 e3 (ev_now _)))))), g1, c3⟩
  by_cases d3 : v = 3
  · obtain ⟨a, i3, h3, e3, _, c3⟩ := spec_l1Int_some b i2 h2 [(-1), 1, 3] (by simp) c2 hb
    exact ⟨⟨x.f0, x.f1, x.f2, x.f3, x.f4, x.f5, a, x.f7⟩, _, _, ev_bind e1 (ev_bind1 e2 (ev_neg d0 (ev_neg d1 (ev_neg d2 (ev_pos d3 (ev_bind1 e3 (ev_now _))))))), g1, c3⟩
  by_cases d4 : v = 4
  · obtain ⟨a, i3, h3, e3, _, c3⟩ := spec_l1Int_some b i2 h2 [(-1), 1, 900] (by simp) c2 hb
    exact ⟨⟨x.f0, x.f1, x.f2, x.f3, x.f4, x.f5, x.f6, a⟩, _, _, ev_bind e1 (ev_bind1 e2 (ev_neg d0 (ev_neg d1 (ev_neg d2 (ev_neg d3 (ev_pos d4 (ev_bind1 e3 (ev_now _)))))))), g1, c3⟩
  by_cases d5 : v = 5
  · obtain ⟨a, i3, h3, e3, m3, c3⟩ := spec_l1Int_some b i2 h2 [238, 239, 240, 241] (by simp) c2 hb
    have ha : a ≤ 1000 := by
      have all : ∀ z ∈ ([238, 239, 240, 241] : List Int), z ≤ 1000 := by decide
      exact all a m3
    obtain ⟨q, i4, h4, e4, b4, s4, c4⟩ := spec_l1Bytes_some b i3 h3 a ha c3 hb
    exact ⟨⟨x.f0, x.f1, x.f2, x.f3, q, x.f5, x.f6, x.f7⟩, _, _, ev_bind e1 (ev_bind1 e2 (ev_neg d0 (ev_neg d1 (ev_neg d2 (ev_neg d3 (ev_neg d4 (ev_pos d5 (ev_bind1 e3 (ev_bind e4 (ev_now _)))))))))), ⟨b4, by show q.length ≤ 4000; omega, g1.2.2.1, g1.2.2.2⟩, c4⟩
  exact ⟨x, _, _, ev_bind e1 (ev_bind1 e2 (ev_neg d0 (ev_neg d1 (ev_neg d2 (ev_neg d3 (ev_neg d4 (ev_neg d5 (ev_now _)))))))), g1, c2⟩

/-! ### spec_l7Query -/
theorem spec_l7Query_some (b : List Int) (i h : Int) (hc : curB b i) (hb : b.length ≤ 4611686018427387904) : ∃ v i' h', spec_l7Query.f b i h = some (v, i', h') ∧ v.size ≤ 10 ∧ curB b i' := by
  unfold spec_l7Query.f
  obtain ⟨v, i1, h1, e1, m1, c1⟩ := spec_l1Str_some b i h [(⟨#[98, 101, 103, 105, 110]⟩ : ByteArray), (⟨#[98, 101, 103, 105, 110]⟩ : ByteArray), (⟨#[99, 111, 109, 109, 105, 116]⟩ : ByteArray), (⟨#[99, 111, 109, 109, 105, 116]⟩ : ByteArray), (⟨#[114, 111, 108, 108, 98, 97, 99, 107]⟩ : ByteArray), (⟨#[102, 97, 105, 108]⟩ : ByteArray), (⟨#[111, 110, 101]⟩ : ByteArray), (⟨#[116, 119, 111]⟩ : ByteArray), (⟨#[116, 104, 114, 101, 101]⟩ : ByteArray)] (by simp) hc hb
  rw [e1, Option.bind_some]
  refine ⟨_, _, _, rfl, ?_, c1⟩
  have all : ∀ x ∈ [(⟨#[98, 101, 103, 105, 110]⟩ : ByteArray), (⟨#[98, 101, 103, 105, 110]⟩ : ByteArray), (⟨#[99, 111, 109, 109, 105, 116]⟩ : ByteArray), (⟨#[99, 111, 109, 109, 105, 116]⟩ : ByteArray), (⟨#[114, 111, 108, 108, 98, 97, 99, 107]⟩ : ByteArray), (⟨#[102, 97, 105, 108]⟩ : ByteArray), (⟨#[111, 110, 101]⟩ : ByteArray), (⟨#[116, 119, 111]⟩ : ByteArray), (⟨#[116, 104, 114, 101, 101]⟩ : ByteArray)], x.size ≤ 10 := by decide
  exact all v m1

/-! ### spec_DrawAnswer -/
theorem spec_DrawAnswer_some (b : List Int) (hb : b.length ≤ 4611686018427387904) : ∃ (x : S41), Ev (fun k => spec_DrawAnswer.f k b) (x.f0, x.f1, x.f2, x.f3, x.f4, x.f5, x.f6, x.f7) ∧ drawnS x := by
  unfold spec_DrawAnswer.f
  obtain ⟨h0, e0⟩ := spec_l1New_some b hb
  obtain ⟨x, i1, h1, e1, g1, c1⟩ := spec_l8Any_some b 0 h0 ⟨by omega, by omega⟩ hb
  obtain ⟨v, i2, h2, e2, c2⟩ := spec_l1Once_some b i1 h1 2 c1 hb
  by_cases cv : v = true
  · obtain ⟨q, i3, h3, e3, s3, c3⟩ := spec_l7Query_some b i2 h2 c2 hb
    have hp := putFrameV_len 2 q 0
    exact ⟨⟨x.f0, 2, x.f2, false, x.f4, putFrameV 2 q 0, x.f6, 0⟩, ev_bind e0 (ev_bind e1 (ev_bind1 e2 (ev_pos cv (ev_bind1 e3 (ev_bind (spec_PutFrame_ev 2 q 0 (by omega)) (ev_now _)))))), g1.1, g1.2.1, putFrameV_L 2 q 0, by show (putFrameV 2 q 0).length ≤ _; omega⟩
  · exact ⟨x, ev_bind e0 (ev_bind e1 (ev_bind1 e2 (ev_neg cv (ev_now _)))), g1⟩

/-! ### impl_sockIdOk -/
theorem impl_sockIdOk_eq (a : Int) : impl_sockIdOk.f a = some (inB a 1 9999) := by
  unfold impl_sockIdOk.f
  rw [impl_isIn_eq]
  rfl

/-! ### spec_SockOk -/
/-- A socket as it has to be: number, kind, holders, what came in, what went out, status, what is done. -/
def sockB (id ki ho : Int) (inp out : List Int) (st dn : Int) : Bool :=
  inB id 1 9999 && (inB ho 1 3 && (!(decide ((inp.length : Int) > 240)) &&
    (if ki = 1 then st == 0 && dn == 0 else if ki = 2 then inB st 0 2 && inB dn 0 (out.length : Int) else false)))
theorem spec_SockOk_j0 (b : Bool) (x0 x1 x2 : Int) (x3 : Bool) (x4 x5 : List Int) (x6 x7 : Int) : Ev (fun k => spec_SockOk.j0 k b x0 x1 x2 x3 x4 x5 x6 x7)
    (!b && (if x1 = 1 then x6 == 0 && x7 == 0 else inB x6 0 2 && inB x7 0 (x5.length : Int))) := by
  refine ev_step (fun k => spec_SockOk.j0.eq_2 ..) ?_
  refine ev_ite (fun c => ?_) (fun c => ?_)
  · exact ev_as (ev_now _) (by simp [c])
  have hb : b = false := by simpa using c
  refine ev_ite (fun c1 => ev_ite (fun c2 => ?_) (fun c2 => ?_)) (fun c1 => ?_)
  · exact ev_as (ev_now _) (by simp [hb, c1, c2])
  · exact ev_as (ev_now _) (by simp [c1, c2])
  · refine ev_bind1 (spec_l1In_eq _ _ _) ?_
    refine ev_ite (fun c2 => ?_) (fun c2 => ?_)
    · exact ev_bind1 (spec_l1In_eq _ _ _) (ev_as (ev_now _) (by simp [hb, c1, c2]))
    · exact ev_as (ev_now _) (by simp [c1, c2])
theorem spec_SockOk_ev (x : S41) : Ev (fun k => spec_SockOk.f k x.f0 x.f1 x.f2 x.f3 x.f4 x.f5 x.f6 x.f7) (sockB x.f0 x.f1 x.f2 x.f4 x.f5 x.f6 x.f7) := by
  obtain ⟨x0, x1, x2, x3, x4, x5, x6, x7⟩ := x
  unfold spec_SockOk.f sockB
  have hk : inB x1 1 2 = true → (if x1 = 1 then x6 == 0 && x7 == 0 else inB x6 0 2 && inB x7 0 (x5.length : Int)) = (if x1 = 1 then x6 == 0 && x7 == 0 else if x1 = 2 then inB x6 0 2 && inB x7 0 (x5.length : Int) else false) := by
    intro h
    have := (inB_iff _ _ _).1 h
    by_cases e : x1 = 1
    · simp [e]
    · have e2 : x1 = 2 := by omega
      simp [e2]
  have hk2 : ¬ inB x1 1 2 = true → (if x1 = 1 then x6 == 0 && x7 == 0 else if x1 = 2 then inB x6 0 2 && inB x7 0 (x5.length : Int) else false) = false := by
    intro h
    have e1 : ¬ x1 = 1 := fun e => h (by rw [e]; rfl)
    have e2 : ¬ x1 = 2 := fun e => h (by rw [e]; rfl)
    simp [e1, e2]
  refine ev_bind1 (spec_l1In_eq _ _ _) ?_
  refine ev_ite (fun c => ?_) (fun c => ?_)
  · refine ev_bind1 (spec_l1In_eq _ _ _) ?_
    refine ev_ite (fun c2 => ?_) (fun c2 => ?_)
    · refine ev_bind1 (spec_l1In_eq _ _ _) ?_
      refine ev_ite (fun c3 => ?_) (fun c3 => ?_)
      · exact ev_as (spec_SockOk_j0 ..) (by rw [c, c3, hk c2]; simp)
      · exact ev_as (spec_SockOk_j0 ..) (by simp [c3])
    · exact ev_as (spec_SockOk_j0 ..) (by simp only [hk2 c2]; simp)
  · exact ev_as (spec_SockOk_j0 ..) (by simp [c])

/-! ### impl_SockOk -/
theorem impl_SockOk_j0 (b : Bool) (x0 x1 x2 : Int) (x3 : Bool) (x4 x5 : List Int) (x6 x7 : Int) : Ev (fun k => impl_SockOk.j0 k b x0 x1 x2 x3 x4 x5 x6 x7)
    (!b && (if x1 = 1 then x6 == 0 && x7 == 0 else if x1 = 2 then inB x6 0 2 && inB x7 0 (x5.length : Int) else false)) := by
  refine ev_step (fun k => impl_SockOk.j0.eq_2 ..) ?_
  refine ev_ite (fun c => ?_) (fun c => ?_)
  · exact ev_as (ev_now _) (by simp [c])
  have hb : b = false := by simpa using c
  refine ev_ite (fun c1 => ev_ite (fun c2 => ?_) (fun c2 => ?_)) (fun c1 => ev_ite (fun c2 => ?_) (fun c2 => ?_))
  · exact ev_as (ev_now _) (by simp [hb, c1, c2])
  · exact ev_as (ev_now _) (by simp [c1, c2])
  · refine ev_bind1 (impl_isIn_eq _ _ _) ?_
    refine ev_ite (fun c3 => ?_) (fun c3 => ?_)
    · exact ev_bind1 (impl_isIn_eq _ _ _) (ev_as (ev_now _) (by simp [hb, c2, c3]))
    · exact ev_as (ev_now _) (by simp [c2, c3])
  · exact ev_as (ev_now _) (by simp [c1, c2])
theorem impl_SockOk_ev (x : S41) : Ev (fun k => impl_SockOk.f k x.f0 x.f1 x.f2 x.f3 x.f4 x.f5 x.f6 x.f7) (sockB x.f0 x.f1 x.f2 x.f4 x.f5 x.f6 x.f7) := by
  obtain ⟨x0, x1, x2, x3, x4, x5, x6, x7⟩ := x
  unfold impl_SockOk.f sockB
  refine ev_bind1 (impl_sockIdOk_eq _) ?_
  refine ev_ite (fun c => ?_) (fun c => ?_)
  · refine ev_bind1 (impl_isIn_eq _ _ _) ?_
    refine ev_ite (fun c2 => ?_) (fun c2 => ?_)
    · exact ev_as (impl_SockOk_j0 ..) (by rw [c, c2]; simp)
    · exact ev_as (impl_SockOk_j0 ..) (by simp [c2])
  · exact ev_as (impl_SockOk_j0 ..) (by simp [c])

/-! ### spec_NextSt -/
/-- The status that a word leads to. -/
def nextV (st w : Int) : Int := if st = 0 then (if w = 1 then 1 else 0) else if st = 1 then (if w = 4 then 2 else if w = 2 ∨ w = 3 then 0 else 1) else if st = 2 then (if w = 2 ∨ w = 3 then 0 else 2) else 0
theorem spec_NextSt_ev (st w : Int) : Ev (fun k => spec_NextSt.f k st w) (nextV st w) := by
  have key : ∀ b : Bool, b = decide (w = 2 ∨ w = 3) → Ev (fun k => spec_NextSt.j0 k st w b) (nextV st w) := by
    intro b hb
    refine ev_step (fun k => spec_NextSt.j0.eq_2 ..) ?_
    refine ev_as (ev_eq (r := nextV st w) ?_) rfl
    unfold nextV
    by_cases s0 : st = 0
    · simp only [s0, if_true]
      split <;> rfl
    · simp only [s0, if_false]
      by_cases s1 : st = 1
      · simp only [s1, if_true]
        by_cases h4 : w = 4
        · simp [h4]
        · by_cases h2 : w = 2 ∨ w = 3 <;> simp [h4, h2, hb]
      · simp only [s1, if_false]
        by_cases s2 : st = 2
        · by_cases h2 : w = 2 ∨ w = 3 <;> simp [s2, h2, hb]
        · simp [s2]
  unfold spec_NextSt.f
  refine ev_ite (fun c => ?_) (fun c => ?_)
  · exact key true (by simp [c])
  · exact key _ (by simp [c]; rfl)

/-! ### impl_NextSt -/
theorem impl_NextSt_ev (st w : Int) : Ev (fun k => impl_NextSt.f k st w) (nextV st w) := by
  have k2 : ∀ b c : Bool, Ev (fun k => impl_NextSt.j2 k st b c) (if c = true then 2 else if st = 1 ∨ st = 2 then (if b = true then 0 else st) else 0) := by
    intro b c
    refine ev_step (fun k => impl_NextSt.j2.eq_2 ..) ?_
    refine ev_as (ev_eq (r := (if c = true then 2 else if st = 1 ∨ st = 2 then (if b = true then 0 else st) else 0)) ?_) rfl
    by_cases hc : c = true
    · simp [hc]
    · by_cases s1 : st = 1
      · by_cases hb : b = true <;> simp [hc, s1, hb]
      · by_cases s2 : st = 2
        · by_cases hb : b = true <;> simp [hc, s2, hb]
        · simp [hc, s1, s2]
  have k1 : ∀ b c : Bool, Ev (fun k => impl_NextSt.j1 k st w b c) (if c = true then 1 else if st = 1 ∧ w = 4 then 2 else if st = 1 ∨ st = 2 then (if b = true then 0 else st) else 0) := by
    intro b c
    refine ev_step (fun k => impl_NextSt.j1.eq_2 ..) ?_
    refine ev_ite (fun hc => ?_) (fun hc => ev_ite (fun s1 => ?_) (fun s1 => ?_))
    · exact ev_as (ev_now _) (by simp [hc])
    · refine ev_as (k2 _ _) ?_
      by_cases h4 : w = 4 <;> simp [hc, s1, h4]
    · refine ev_as (k2 _ _) ?_
      simp [hc, s1]
  have key : ∀ b : Bool, b = decide (w = 2 ∨ w = 3) → Ev (fun k => impl_NextSt.j0 k st w b) (nextV st w) := by
    intro b hb
    refine ev_step (fun k => impl_NextSt.j0.eq_2 ..) ?_
    refine ev_ite (fun s0 => ?_) (fun s0 => ?_)
    · refine ev_as (k1 _ _) ?_
      by_cases h1 : w = 1 <;> simp [nextV, s0, h1]
    · refine ev_as (k1 _ _) ?_
      unfold nextV
      by_cases s1 : st = 1
      · by_cases h4 : w = 4
        · simp [s1, h4]
        · by_cases h2 : w = 2 ∨ w = 3 <;> simp [s1, h4, h2, hb]
      · by_cases s2 : st = 2
        · by_cases h2 : w = 2 ∨ w = 3 <;> simp [s2, h2, hb]
        · simp [s0, s1, s2]
  unfold impl_NextSt.f
  refine ev_ite (fun c => ?_) (fun c => ?_)
  · exact key true (by simp [c])
  · exact key _ (by simp [c]; rfl)

/-! ### spec_WordOf -/
/-- A query's word. -/
def wordV (q : ByteArray) : Int := if q.toList = ([98, 101, 103, 105, 110] : List UInt8) then 1 else if q.toList = ([99, 111, 109, 109, 105, 116] : List UInt8) then 2 else if q.toList = ([114, 111, 108, 108, 98, 97, 99, 107] : List UInt8) then 3 else if q.toList = ([102, 97, 105, 108] : List UInt8) then 4 else 0
theorem spec_WordOf_eq (q : ByteArray) : spec_WordOf.f q = some (wordV q) := by
  unfold spec_WordOf.f wordV
  repeat' split
  all_goals rfl

/-! ### impl_WordOf -/
theorem impl_WordOf_eq (q : ByteArray) : impl_WordOf.f q = some (wordV q) := by
  unfold impl_WordOf.f wordV
  repeat' split
  all_goals rfl

/-! ### slices_Clone_byte -/
theorem slices_Clone_byte_eq (l : List Int) (h : l.length ≤ 1000000000000) : slices_Clone_byte.f l = some l := by
  unfold slices_Clone_byte.f
  simp only [Option.bind_some, List.nil_append, List.length_nil]
  rw [if_pos (by omega)]

/-! ### impl_PutText -/
theorem impl_PutText_ev (l : List Int) (s : ByteArray) (hl : l.length ≤ 1000000000000) (hs : s.size ≤ 1000000000000) : Ev (fun k => impl_PutText.f k l s) (putTextV l s) := by
  unfold impl_PutText.f putTextV
  simp only [Option.bind_some]
  refine ev_bind1 (slices_Clone_byte_eq l (by omega)) (ev_bind (impl_TextOk_ev s (by omega)) (ev_ite (fun c => ?_) (fun c => ?_)))
  · exact ev_pos (by omega) (ev_pos (by rw [List.length_append]; simp only [List.length_cons, List.length_nil]; omega) (ev_as (ev_now _) (by rw [if_pos c])))
  · exact ev_as (ev_now _) (by rw [if_neg c])

/-! ### impl_PutFrame -/
theorem impl_PutFrame_ev (k : Int) (t : ByteArray) (s : Int) (ht : t.size ≤ 1000000000000) : Ev (fun n => impl_PutFrame.f n k t s) (putFrameV k t s) := by
  unfold impl_PutFrame.f putFrameV
  simp only [Option.bind_some, List.length_cons, List.length_nil]
  refine ev_bind (impl_FrameOk_ev k t s (by omega)) (ev_ite (fun c => ?_) (fun c => ?_))
  · refine ev_ite (fun c1 => ev_pos (by omega) ?_) (fun c1 => ev_ite (fun c2 => ?_) (fun c2 => ?_))
    · exact ev_as (ev_now _) (by rw [if_pos c, if_pos c1])
    · exact ev_as (ev_now _) (by rw [if_pos c, if_neg c1, if_pos c2])
    · exact ev_bind (impl_PutText_ev [k % 256] t (by simp) ht) (ev_as (ev_now _) (by rw [if_pos c, if_neg c1, if_neg c2]))
  · exact ev_as (ev_now _) (by rw [if_neg c])

/-! ### impl_sockCopy -/
theorem impl_sockCopy_eq (x : S41) (h4 : x.f4.length ≤ 1000000000000) (h5 : x.f5.length ≤ 1000000000000) : impl_sockCopy.f x.f0 x.f1 x.f2 x.f3 x.f4 x.f5 x.f6 x.f7 = some (x.f0, x.f1, x.f2, x.f3, x.f4, x.f5, x.f6, x.f7) := by
  unfold impl_sockCopy.f
  rw [slices_Clone_byte_eq _ h4, Option.bind_some, slices_Clone_byte_eq _ h5, Option.bind_some]

/-! ### spec_AnswerTo -/
/-- The two frames that answer a query, or none. -/
def answV (st : Int) (q : ByteArray) : List S47 :=
  if (inB st 0 2 && textB q) = false then []
  else [if st = 2 ∧ ¬ (wordV q = 2 ∨ wordV q = 3) then ⟨6, ⟨#[97, 98, 111, 114, 116, 101, 100]⟩, 0⟩ else if wordV q = 4 then ⟨6, ⟨#[102, 97, 105, 108, 101, 100]⟩, 0⟩ else if st = 2 ∧ wordV q = 2 then ⟨4, ⟨#[114, 111, 108, 108, 98, 97, 99, 107]⟩, 0⟩ else ⟨4, q, 0⟩, ⟨5, ⟨#[]⟩, nextV st (wordV q)⟩]
theorem spec_AnswerTo_ev (st : Int) (q : ByteArray) (hq : q.size ≤ 4611686018427387904) : Ev (fun k => spec_AnswerTo.f k st q) (answV st q) := by
  have k2 : ∀ b : Bool, b = decide (st = 2 ∧ ¬ (wordV q = 2 ∨ wordV q = 3)) → (inB st 0 2 && textB q) = true → Ev (fun k => spec_AnswerTo.j2 k st (wordV q) b 4 q 0) (answV st q) := by
    intro b hb hok
    have ho : ¬ (inB st 0 2 && textB q) = false := by simp [hok]
    unfold answV
    rw [if_neg ho]
    refine ev_step (fun k => spec_AnswerTo.j2.eq_2 ..) (ev_ite (fun c => ?_) (fun c => ev_ite (fun c4 => ?_) (fun c4 => ev_ite (fun cs => ev_ite (fun c2 => ?_) (fun c2 => ?_)) (fun cs => ?_))))
    all_goals refine ev_bind (spec_NextSt_ev _ _) (ev_as (ev_now _) ?_)
    · rw [hb] at c
      rw [if_pos (of_decide_eq_true c)]
    all_goals (rw [hb] at c; rw [if_neg (fun h => c (decide_eq_true h))])
    · rw [if_pos c4]
    · rw [if_neg c4, if_pos ⟨cs, c2⟩]
    · rw [if_neg c4, if_neg (fun h => c2 h.2)]
    · rw [if_neg c4, if_neg (fun h => cs h.1)]
  have k1 : ∀ b : Bool, b = decide (wordV q = 2 ∨ wordV q = 3) → (inB st 0 2 && textB q) = true → Ev (fun k => spec_AnswerTo.j1 k st q (wordV q) b) (answV st q) := by
    intro b hb hok
    refine ev_step (fun k => spec_AnswerTo.j1.eq_2 ..) (ev_ite (fun c => ?_) (fun c => ?_))
    · exact k2 _ (by rw [hb]; by_cases h : wordV q = 2 ∨ wordV q = 3 <;> simp [c, h]) hok
    · exact k2 _ (by simp [c]) hok
  have k0 : ∀ b : Bool, b = !(inB st 0 2 && textB q) → Ev (fun k => spec_AnswerTo.j0 k st q b) (answV st q) := by
    intro b hb
    refine ev_step (fun k => spec_AnswerTo.j0.eq_2 ..) (ev_ite (fun c => ?_) (fun c => ?_))
    · rw [hb] at c
      exact ev_as (ev_now _) (by unfold answV; rw [if_pos (by revert c; generalize (inB st 0 2 && textB q) = z; cases z <;> simp)])
    · rw [hb] at c
      have hok : (inB st 0 2 && textB q) = true := by revert c; generalize (inB st 0 2 && textB q) = z; cases z <;> simp
      refine ev_bind1 (spec_WordOf_eq _) (ev_ite (fun c2 => ?_) (fun c2 => ?_))
      · exact k1 _ (by simp [c2]) hok
      · exact k1 _ (by simp [c2]; rfl) hok
  unfold spec_AnswerTo.f
  refine ev_bind1 (spec_l1In_eq _ _ _) (ev_ite (fun c => ?_) (fun c => ?_))
  · exact ev_bind (spec_TextOk_ev q hq) (k0 _ (by simp [c]))
  · exact k0 _ (by simp [c])

/-! ### impl_AnswerTo -/
theorem impl_AnswerTo_ev (st : Int) (q : ByteArray) (hq : q.size ≤ 4611686018427387904) : Ev (fun k => impl_AnswerTo.f k st q) (answV st q) := by
  have k2 : ∀ b : Bool, b = decide (st = 2 ∧ ¬ (wordV q = 2 ∨ wordV q = 3)) → (inB st 0 2 && textB q) = true → Ev (fun k => impl_AnswerTo.j1 k st (wordV q) b 4 q 0) (answV st q) := by
    intro b hb hok
    have ho : ¬ (inB st 0 2 && textB q) = false := by simp [hok]
    unfold answV
    rw [if_neg ho]
    refine ev_step (fun k => impl_AnswerTo.j1.eq_2 ..) (ev_ite (fun c => ?_) (fun c => ev_ite (fun c4 => ?_) (fun c4 => ev_ite (fun cs => ev_ite (fun c2 => ?_) (fun c2 => ?_)) (fun cs => ?_))))
    all_goals refine ev_bind (impl_NextSt_ev _ _) (ev_as (ev_now _) ?_)
    · rw [hb] at c
      rw [if_pos (of_decide_eq_true c)]
    all_goals (rw [hb] at c; rw [if_neg (fun h => c (decide_eq_true h))])
    · rw [if_pos c4]
    · rw [if_neg c4, if_pos ⟨cs, c2⟩]
    · rw [if_neg c4, if_neg (fun h => c2 h.2)]
    · rw [if_neg c4, if_neg (fun h => cs h.1)]
  have k0 : ∀ b : Bool, b = !(inB st 0 2 && textB q) → Ev (fun k => impl_AnswerTo.j0 k st q b) (answV st q) := by
    intro b hb
    refine ev_step (fun k => impl_AnswerTo.j0.eq_2 ..) (ev_ite (fun c => ?_) (fun c => ?_))
    · rw [hb] at c
      exact ev_as (ev_now _) (by unfold answV; rw [if_pos (by revert c; generalize (inB st 0 2 && textB q) = z; cases z <;> simp)])
    · rw [hb] at c
      have hok : (inB st 0 2 && textB q) = true := by revert c; generalize (inB st 0 2 && textB q) = z; cases z <;> simp
      refine ev_bind1 (impl_WordOf_eq _) (ev_ite (fun cs => ev_ite (fun c2 => ?_) (fun c2 => ?_)) (fun cs => ?_))
      · exact k2 _ (by simp [c2]) hok
      · exact k2 _ (by by_cases h3 : wordV q = 3 <;> simp [cs, c2, h3, bne]) hok
      · exact k2 _ (by simp [cs]) hok
  unfold impl_AnswerTo.f
  refine ev_bind1 (impl_isIn_eq _ _ _) (ev_ite (fun c => ?_) (fun c => ?_))
  · exact ev_bind (impl_TextOk_ev q hq) (k0 _ (by simp [c]))
  · exact k0 _ (by simp [c])

/-! ### spec_l8Copy -/
theorem spec_l8Copy_eq (x : S41) (h4 : x.f4.length ≤ 1000000000000) (h5 : x.f5.length ≤ 1000000000000) : spec_l8Copy.f x.f0 x.f1 x.f2 x.f3 x.f4 x.f5 x.f6 x.f7 = some (x.f0, x.f1, x.f2, x.f3, x.f4, x.f5, x.f6, x.f7) := by
  unfold spec_l8Copy.f
  simp only [Option.bind_some, List.nil_append, List.length_nil]
  rw [if_pos (by omega), if_pos (by omega)]

/-! ### spec_Answer -/
/-- What a line's socket is after its far end has answered by two frames, and that it did. -/
def ans2 (x : S41) (n st : Int) (a b : S47) : Int × Int × Int × Bool × List Int × List Int × Int × Int × Bool :=
  if (x.f4.length : Int) + ((putFrameV a.f0 a.f1 a.f2 ++ putFrameV b.f0 b.f1 b.f2).length : Int) > 240 then (x.f0, x.f1, x.f2, x.f3, x.f4, x.f5, x.f6, x.f7, false)
  else (x.f0, x.f1, x.f2, x.f3, x.f4 ++ (putFrameV a.f0 a.f1 a.f2 ++ putFrameV b.f0 b.f1 b.f2), x.f5, st, wrap64 (x.f7 + n), true)
theorem spec_Answer_j1 (x : S41) (n st : Int) (a b : S47) (h4 : x.f4.length ≤ 1000000000) (h5 : x.f5.length ≤ 1000000000) (ha : a.f1.size ≤ 1000000000) (hb : b.f1.size ≤ 1000000000) :
    Ev (fun k => spec_Answer.j1 k n [a, b] x.f0 x.f1 x.f2 x.f3 x.f4 x.f5 x.f6 x.f7 x.f0 x.f1 x.f2 x.f3 x.f4 x.f5 st x.f7) (ans2 x n st a b) := by
  have pa := putFrameV_len a.f0 a.f1 a.f2
  have pb := putFrameV_len b.f0 b.f1 b.f2
  have e1 : Ev (fun k => spec_PutFrame.f k (rd_T47 [a, b] 0).f0 (rd_T47 [a, b] 0).f1 (rd_T47 [a, b] 0).f2) (putFrameV a.f0 a.f1 a.f2) := spec_PutFrame_ev a.f0 a.f1 a.f2 (by omega)
  have e2 : Ev (fun k => spec_PutFrame.f k (rd_T47 [a, b] 1).f0 (rd_T47 [a, b] 1).f1 (rd_T47 [a, b] 1).f2) (putFrameV b.f0 b.f1 b.f2) := spec_PutFrame_ev b.f0 b.f1 b.f2 (by omega)
  have w : wrap64 (240 - (x.f4.length : Int)) = 240 - (x.f4.length : Int) := w64 (by omega) (by omega)
  unfold ans2
  refine ev_step (fun k => spec_Answer.j1.eq_2 ..) (ev_pos (by simp) (ev_bind e1 (ev_pos (by simp) (ev_bind e2 (ev_pos (by omega) (ev_bind1 rfl ?_))))))
  simp only [w]
  have hl : (putFrameV a.f0 a.f1 a.f2 ++ putFrameV b.f0 b.f1 b.f2).length ≤ 204 := by rw [List.length_append]; omega
  refine ev_ite (fun c => ?_) (fun c => ev_pos (by omega) ?_)
  · exact ev_bind1 (spec_l8Copy_eq x (by omega) (by omega)) (ev_as (ev_now _) (by rw [if_pos (by omega)]))
  · exact ev_as (ev_now _) (by rw [if_neg (by omega)])
theorem spec_Answer_no (x : S41) (y0 y1 y2 : Int) (y3 : Bool) (y4 y5 : List Int) (y6 y7 : Int) : Ev (fun k => spec_Answer.j0 k true y0 y1 y2 y3 y4 y5 y6 y7 x.f0 x.f1 x.f2 x.f3 x.f4 x.f5 x.f6 x.f7) (x.f0, x.f1, x.f2, x.f3, x.f4, x.f5, x.f6, x.f7, false) :=
  ev_step (fun k => spec_Answer.j0.eq_2 ..) (ev_pos rfl (ev_now _))

/-! ### spec_GetFrame -/
theorem spec_GetFrame_ev (l : List Int) (hl : l.length ≤ 4611686018427387904) (hb : bytesL l) : Ev (fun k => spec_GetFrame.f k l) (getV l) := by
  have h0 := rd_byte hb 0
  have h1 := rd_byte hb 1
  have w0 : wrap64 (rd l 0) = rd l 0 := w64 (by omega) (by omega)
  have w1 : wrap64 (rd l 1) = rd l 1 := w64 (by omega) (by omega)
  have w2 : wrap64 (2 + rd l 1) = 2 + rd l 1 := w64 (by omega) (by omega)
  have w3 : wrap64 ((l.length : Int) - 2) = (l.length : Int) - 2 := w64 (by omega) (by omega)
  unfold spec_GetFrame.f getV
  simp only [w0, w1, w2, w3]
  refine ev_ite (fun c => ?_) (fun c => ev_pos (by omega) ?_)
  · exact ev_as (ev_now _) (by rw [if_pos c])
  rw [if_neg c]
  refine ev_bind1 (spec_l1In_eq _ _ _) (ev_ite (fun ci => ?_) (fun ci => ?_))
  · have ci' : ¬ inB (rd l 0) 1 6 = false := by simp [ci]
    refine ev_ite (fun c3 => ?_) (fun c3 => ev_ite (fun cl => ?_) (fun cl => ev_ite (fun c5 => ev_pos (by omega) ?_) (fun c5 => ev_pos (by omega) ?_)))
    · rw [c3]
      exact ev_bind (spec_FrameOk_ev 3 ⟨#[]⟩ 0 (Nat.zero_le _)) (ev_pos (by simp [frameB, empty_toList]) (ev_as (ev_now _) (by simp)))
    · exact ev_as (ev_now _) (by rw [if_neg c3, if_neg ci', if_pos (by omega)])
    · refine ev_bind (spec_FrameOk_ev _ ⟨#[]⟩ _ (Nat.zero_le _)) ?_
      have e : frameB (rd l 0) ⟨#[]⟩ (rd l 1) = inB (rd l 1) 0 2 := by simp [frameB, c5, empty_toList]
      rw [e, if_neg c3, if_neg ci', if_neg (show ¬ (l.length : Int) < 2 by omega), if_pos c5]
      refine ev_ite (fun ck => ?_) (fun ck => ?_)
      · exact ev_as (ev_now _) (by rw [if_pos ck, c5])
      · exact ev_as (ev_now _) (by rw [if_neg ck])
    · rw [if_neg c3, if_neg ci', if_neg (show ¬ (l.length : Int) < 2 by omega), if_neg c5]
      refine ev_ite (fun ca => ?_) (fun ca => ev_ite (fun cb => ?_) (fun cb => ev_pos (by omega) (ev_pos (by omega) ?_)))
      · exact ev_as (ev_now _) (by rw [if_pos ca])
      · exact ev_as (ev_now _) (by rw [if_neg ca, if_pos (by omega)])
      · rw [if_neg ca, if_neg (show ¬ (l.length : Int) < 2 + rd l 1 by omega)]
        refine ev_bind (spec_FrameOk_ev _ _ _ (Nat.le_trans (strN_size l _) hl)) (ev_ite (fun ck => ?_) (fun ck => ?_))
        · exact ev_as (ev_now _) (by rw [if_pos ck])
        · exact ev_as (ev_now _) (by rw [if_neg ck])
  · have ci2 : inB (rd l 0) 1 6 = false := by simpa using ci
    have c3 : ¬ rd l 0 = 3 := by intro h; rw [h] at ci; exact ci (by decide)
    exact ev_as (ev_now _) (by rw [if_neg c3, if_pos ci2])

/-! ### impl_Answer -/
theorem impl_Answer_j1 (x : S41) (n st : Int) (a b : S47) (h4 : x.f4.length ≤ 1000000000) (h5 : x.f5.length ≤ 1000000000) (ha : a.f1.size ≤ 1000000000) (hb : b.f1.size ≤ 1000000000) :
    Ev (fun k => impl_Answer.j1 k n [a, b] x.f0 x.f1 x.f2 x.f3 x.f4 x.f5 x.f6 x.f7 x.f0 x.f1 x.f2 x.f3 x.f4 x.f5 st x.f7) (ans2 x n st a b) := by
  have pa := putFrameV_len a.f0 a.f1 a.f2
  have pb := putFrameV_len b.f0 b.f1 b.f2
  have e1 : Ev (fun k => impl_PutFrame.f k (rd_T47 [a, b] 0).f0 (rd_T47 [a, b] 0).f1 (rd_T47 [a, b] 0).f2) (putFrameV a.f0 a.f1 a.f2) := impl_PutFrame_ev a.f0 a.f1 a.f2 (by omega)
  have e2 : Ev (fun k => impl_PutFrame.f k (rd_T47 [a, b] 1).f0 (rd_T47 [a, b] 1).f1 (rd_T47 [a, b] 1).f2) (putFrameV b.f0 b.f1 b.f2) := impl_PutFrame_ev b.f0 b.f1 b.f2 (by omega)
  have w1 : wrap64 (0 + 1) = 1 := w64 (by omega) (by omega)
  have w2 : wrap64 (1 + 1) = 2 := w64 (by omega) (by omega)
  have hl : (putFrameV a.f0 a.f1 a.f2 ++ putFrameV b.f0 b.f1 b.f2).length ≤ 204 := by rw [List.length_append]; omega
  have hq : ((x.f4 ++ putFrameV a.f0 a.f1 a.f2) ++ putFrameV b.f0 b.f1 b.f2).length = x.f4.length + (putFrameV a.f0 a.f1 a.f2 ++ putFrameV b.f0 b.f1 b.f2).length := by simp only [List.length_append]; omega
  have hL : ((([a, b] : List S47).length : Nat) : Int) = 2 := rfl
  unfold ans2
  refine ev_step (fun k => impl_Answer.j1.eq_2 ..) (ev_step (fun k => impl_Answer.l0.eq_2 ..) ?_)
  rw [hL]
  refine ev_pos (by omega) (ev_pos (by omega) (ev_pos (by omega) (ev_bind e1 (ev_pos (by omega) ?_))))
  rw [w1]
  refine ev_step (fun k => impl_Answer.l0.eq_2 ..) ?_
  rw [hL]
  refine ev_pos (by omega) (ev_pos (by omega) (ev_pos (by omega) (ev_bind e2 (ev_pos (by rw [List.length_append]; omega) ?_))))
  rw [w2]
  refine ev_step (fun k => impl_Answer.l0.eq_2 ..) (ev_neg (by omega) ?_)
  refine ev_ite (fun c => ?_) (fun c => ?_)
  · rw [hq] at c
    exact ev_bind1 (impl_sockCopy_eq x (by omega) (by omega)) (ev_as (ev_now _) (by rw [if_pos (by omega)]))
  · rw [hq] at c
    exact ev_as (ev_now _) (by rw [if_neg (by omega), List.append_assoc])
theorem impl_Answer_no (x : S41) (y0 y1 y2 : Int) (y3 : Bool) (y4 y5 : List Int) (y6 y7 : Int) : Ev (fun k => impl_Answer.j0 k true y0 y1 y2 y3 y4 y5 y6 y7 x.f0 x.f1 x.f2 x.f3 x.f4 x.f5 x.f6 x.f7) (x.f0, x.f1, x.f2, x.f3, x.f4, x.f5, x.f6, x.f7, false) :=
  ev_step (fun k => impl_Answer.j0.eq_2 ..) (ev_pos rfl (ev_now _))
theorem getV_text (l : List Int) (hc : (getV l).2.2.2.2 = 0) (hk : (getV l).1 = 2) : textB (getV l).2.1 = true := by
  unfold getV at hc hk ⊢
  by_cases c1 : (l.length : Int) = 0
  · rw [if_pos c1] at hk
    exact absurd hk (by decide)
  rw [if_neg c1] at hc hk ⊢
  by_cases c2 : rd l 0 = 3
  · rw [if_pos c2] at hk
    exact absurd hk (by decide)
  rw [if_neg c2] at hc hk ⊢
  by_cases c3 : inB (rd l 0) 1 6 = false
  · rw [if_pos c3] at hk
    exact absurd hk (by decide)
  rw [if_neg c3] at hc hk ⊢
  by_cases c4 : (l.length : Int) < 2
  · rw [if_pos c4] at hk
    exact absurd hk (by decide)
  rw [if_neg c4] at hc hk ⊢
  by_cases c5 : rd l 0 = 5
  · rw [if_pos c5] at hk
    split at hk
    · exact absurd hk (by show ¬ (5 : Int) = 2; decide)
    · exact absurd hk (by decide)
  rw [if_neg c5] at hc hk ⊢
  by_cases c6 : rd l 1 > 100
  · rw [if_pos c6] at hk
    exact absurd hk (by decide)
  rw [if_neg c6] at hc hk ⊢
  by_cases c7 : (l.length : Int) < 2 + rd l 1
  · rw [if_pos c7] at hk
    exact absurd hk (by decide)
  rw [if_neg c7] at hc hk ⊢
  by_cases c8 : frameB (rd l 0) (strOfNums ((l.take (2 + rd l 1).toNat).drop 2)) 0 = true
  · rw [if_pos c8] at hk ⊢
    have h2 : rd l 0 = 2 := hk
    rw [h2] at c8
    unfold frameB at c8
    rw [if_neg (by decide), if_pos (by decide), Bool.and_eq_true] at c8
    exact c8.1
  · rw [if_neg c8] at hk
    exact absurd hk (by decide)
theorem getV_size (l : List Int) : (getV l).2.1.size ≤ l.length := by
  unfold getV
  repeat' split
  all_goals first | (show (⟨#[]⟩ : ByteArray).size ≤ _; exact Nat.zero_le _) | skip
  show (strOfNums _).size ≤ _
  rw [strOfNums_size, List.length_drop, List.length_take]
  omega
theorem ans2_len (x : S41) (n st : Int) (a b : S47) (h4 : x.f4.length ≤ 2000000) (h5 : x.f5.length ≤ 2000000) : (ans2 x n st a b).2.2.2.2.1.length ≤ 4000000 ∧ (ans2 x n st a b).2.2.2.2.2.1.length ≤ 4000000 := by
  have pa := putFrameV_len a.f0 a.f1 a.f2
  have pb := putFrameV_len b.f0 b.f1 b.f2
  unfold ans2
  split
  · exact ⟨by show x.f4.length ≤ _; omega, by show x.f5.length ≤ _; omega⟩
  · exact ⟨by show (x.f4 ++ (_ ++ _)).length ≤ _; rw [List.length_append, List.length_append]; omega, by show x.f5.length ≤ _; omega⟩
/-- Both answer alike. -/
theorem answer_both (x : S41) (h4 : x.f4.length ≤ 2000000) (h5 : x.f5.length ≤ 2000000) (hb : bytesL x.f5) :
    ∃ r : Int × Int × Int × Bool × List Int × List Int × Int × Int × Bool, Ev (fun k => spec_Answer.f k x.f0 x.f1 x.f2 x.f3 x.f4 x.f5 x.f6 x.f7) r ∧ Ev (fun k => impl_Answer.f k x.f0 x.f1 x.f2 x.f3 x.f4 x.f5 x.f6 x.f7) r ∧ r.2.2.2.2.1.length ≤ 4000000 ∧ r.2.2.2.2.2.1.length ≤ 4000000 := by
  have no : ∀ y : S41, y = x → y.f4.length ≤ 4000000 ∧ y.f5.length ≤ 4000000 := by
    rintro y rfl
    omega
  have cs := spec_l8Copy_eq x (by omega) (by omega)
  have ci := impl_sockCopy_eq x (by omega) (by omega)
  by_cases hs : sockB x.f0 x.f1 x.f2 x.f4 x.f5 x.f6 x.f7 = true
  · by_cases h1 : x.f1 = 2
    · by_cases h3 : x.f3 = true
      · refine ⟨(x.f0, x.f1, x.f2, x.f3, x.f4, x.f5, x.f6, x.f7, false), ev_bind1 cs (ev_bind (spec_SockOk_ev x) (ev_pos hs (ev_pos h1 ?_))), ev_bind1 ci (ev_bind (impl_SockOk_ev x) (ev_pos hs (ev_pos h1 ?_))), no x rfl⟩
        · refine ev_step (fun k => spec_Answer.j0.eq_2 ..) (ev_pos h3 (ev_now _))
        · refine ev_step (fun k => impl_Answer.j0.eq_2 ..) (ev_pos h3 (ev_now _))
      · have hd : 0 ≤ x.f7 ∧ x.f7 ≤ (x.f5.length : Int) ∧ inB x.f6 0 2 = true := by
          unfold sockB at hs
          rw [h1] at hs
          simp only [Bool.and_eq_true] at hs
          have hz : (inB x.f6 0 2 && inB x.f7 0 (x.f5.length : Int)) = true := hs.2.2.2
          rw [Bool.and_eq_true] at hz
          have := (inB_iff _ _ _).1 hz.2
          exact ⟨this.1, this.2, hz.1⟩
        have hbd : bytesL (x.f5.drop (x.f7 : Int).toNat) := fun z hz => hb z (List.mem_of_mem_drop hz)
        have hdl : (x.f5.drop (x.f7 : Int).toNat).length ≤ 2000000 := by rw [List.length_drop]; omega
        have gs := spec_GetFrame_ev (x.f5.drop (x.f7 : Int).toNat) (by omega) hbd
        have gi := impl_GetFrame_ev (x.f5.drop (x.f7 : Int).toNat) (by omega) hbd
        have tz := getV_size (x.f5.drop (x.f7 : Int).toNat)
        have tt := getV_text (x.f5.drop (x.f7 : Int).toNat)
        generalize getV (x.f5.drop (x.f7 : Int).toNat) = g at *
        by_cases hc : g.2.2.2.2 = 0
        · by_cases hk : g.1 = 2
          · have ht := tt hc hk
            have hq : g.2.1.size ≤ 4611686018427387904 := by omega
            have hA : ∃ a b : S47, answV x.f6 g.2.1 = [a, b] ∧ a.f1.size ≤ 1000000000 ∧ b.f1.size ≤ 1000000000 := by
              unfold answV
              rw [if_neg (by rw [hd.2.2, ht]; decide)]
              refine ⟨_, _, rfl, ?_, ?_⟩
              · split
                · show (7 : Nat) ≤ _; omega
                · split
                  · show (6 : Nat) ≤ _; omega
                  · split
                    · show (8 : Nat) ≤ _; omega
                    · show g.2.1.size ≤ _; omega
              · show (0 : Nat) ≤ _; omega
            obtain ⟨a, b, hab, ha, hb'⟩ := hA
            have aw := spec_AnswerTo_ev x.f6 g.2.1 hq
            have ai := impl_AnswerTo_ev x.f6 g.2.1 hq
            rw [hab] at aw ai
            refine ⟨ans2 x g.2.2.2.1 (nextV x.f6 (wordV g.2.1)) a b, ev_bind1 cs (ev_bind (spec_SockOk_ev x) (ev_pos hs (ev_pos h1 ?_))), ev_bind1 ci (ev_bind (impl_SockOk_ev x) (ev_pos hs (ev_pos h1 ?_))), ans2_len x _ _ a b h4 h5⟩
            · exact ev_step (fun k => spec_Answer.j0.eq_2 ..) (ev_neg h3 (ev_pos hd.1 (ev_pos hd.2.1 (ev_bind gs (ev_pos hc (ev_pos hk (ev_bind aw (ev_bind1 (spec_WordOf_eq _) (ev_bind (spec_NextSt_ev _ _) (spec_Answer_j1 x _ _ a b (by omega) (by omega) ha hb'))))))))))
            · exact ev_step (fun k => impl_Answer.j0.eq_2 ..) (ev_neg h3 (ev_pos hd.1 (ev_pos hd.2.1 (ev_bind gi (ev_pos hc (ev_pos hk (ev_bind ai (ev_bind1 (impl_WordOf_eq _) (ev_bind (impl_NextSt_ev _ _) (impl_Answer_j1 x _ _ a b (by omega) (by omega) ha hb'))))))))))
          · refine ⟨ans2 x g.2.2.2.1 x.f6 ⟨6, ⟨#[102, 111, 114, 109]⟩, 0⟩ ⟨5, ⟨#[]⟩, x.f6⟩, ev_bind1 cs (ev_bind (spec_SockOk_ev x) (ev_pos hs (ev_pos h1 ?_))), ev_bind1 ci (ev_bind (impl_SockOk_ev x) (ev_pos hs (ev_pos h1 ?_))), ans2_len x _ _ _ _ h4 h5⟩
            · exact ev_step (fun k => spec_Answer.j0.eq_2 ..) (ev_neg h3 (ev_pos hd.1 (ev_pos hd.2.1 (ev_bind gs (ev_pos hc (ev_neg hk (spec_Answer_j1 x _ _ _ _ (by omega) (by omega) (show (4 : Nat) ≤ _ by omega) (show (0 : Nat) ≤ _ by omega))))))))
            · exact ev_step (fun k => impl_Answer.j0.eq_2 ..) (ev_neg h3 (ev_pos hd.1 (ev_pos hd.2.1 (ev_bind gi (ev_pos hc (ev_neg hk (impl_Answer_j1 x _ _ _ _ (by omega) (by omega) (show (4 : Nat) ≤ _ by omega) (show (0 : Nat) ≤ _ by omega))))))))
        · refine ⟨(x.f0, x.f1, x.f2, x.f3, x.f4, x.f5, x.f6, x.f7, false), ev_bind1 cs (ev_bind (spec_SockOk_ev x) (ev_pos hs (ev_pos h1 ?_))), ev_bind1 ci (ev_bind (impl_SockOk_ev x) (ev_pos hs (ev_pos h1 ?_))), no x rfl⟩
          · exact ev_step (fun k => spec_Answer.j0.eq_2 ..) (ev_neg h3 (ev_pos hd.1 (ev_pos hd.2.1 (ev_bind gs (ev_neg hc (ev_now _))))))
          · exact ev_step (fun k => impl_Answer.j0.eq_2 ..) (ev_neg h3 (ev_pos hd.1 (ev_pos hd.2.1 (ev_bind gi (ev_neg hc (ev_now _))))))
    · exact ⟨(x.f0, x.f1, x.f2, x.f3, x.f4, x.f5, x.f6, x.f7, false), ev_bind1 cs (ev_bind (spec_SockOk_ev x) (ev_pos hs (ev_neg h1 (spec_Answer_no x ..)))), ev_bind1 ci (ev_bind (impl_SockOk_ev x) (ev_pos hs (ev_neg h1 (impl_Answer_no x ..)))), no x rfl⟩
  · exact ⟨(x.f0, x.f1, x.f2, x.f3, x.f4, x.f5, x.f6, x.f7, false), ev_bind1 cs (ev_bind (spec_SockOk_ev x) (ev_neg hs (spec_Answer_no x ..))), ev_bind1 ci (ev_bind (impl_SockOk_ev x) (ev_neg hs (impl_Answer_no x ..))), no x rfl⟩

/-! ### laws_sameSock -/
theorem laws_sameSock_eq (x : S41) : laws_sameSock.f x.f0 x.f1 x.f2 x.f3 x.f4 x.f5 x.f6 x.f7 x.f0 x.f1 x.f2 x.f3 x.f4 x.f5 x.f6 x.f7 = some true := by
  unfold laws_sameSock.f
  rw [if_pos rfl, if_pos rfl, if_pos rfl, if_pos (beq_self_eq_true _), laws_same_eq, Option.bind_some, if_pos rfl, laws_same_eq, Option.bind_some, if_pos rfl, if_pos rfl, beq_self_eq_true]

theorem getV_n (l : List Int) (hb : bytesL l) : 0 ≤ (getV l).2.2.2.1 ∧ (getV l).2.2.2.1 ≤ (l.length : Int) ∧ ((getV l).2.2.2.2 ≠ 0 → (getV l).2.2.2.1 = 0) := by
  have h1 := rd_byte hb 1
  unfold getV
  by_cases c0 : (l.length : Int) = 0
  · rw [if_pos c0]; exact ⟨Int.le_refl _, by show (0 : Int) ≤ _; omega, fun _ => rfl⟩
  rw [if_neg c0]
  by_cases c1 : rd l 0 = 3
  · rw [if_pos c1]; exact ⟨by show (0 : Int) ≤ 1; decide, by show (1 : Int) ≤ _; omega, fun h => absurd rfl h⟩
  rw [if_neg c1]
  by_cases c2 : inB (rd l 0) 1 6 = false
  · rw [if_pos c2]; exact ⟨Int.le_refl _, by show (0 : Int) ≤ _; omega, fun _ => rfl⟩
  rw [if_neg c2]
  by_cases c3 : (l.length : Int) < 2
  · rw [if_pos c3]; exact ⟨Int.le_refl _, by show (0 : Int) ≤ _; omega, fun _ => rfl⟩
  rw [if_neg c3]
  by_cases c4 : rd l 0 = 5
  · rw [if_pos c4]
    by_cases c5 : inB (rd l 1) 0 2 = true
    · rw [if_pos c5]; exact ⟨by show (0 : Int) ≤ 2; decide, by show (2 : Int) ≤ _; omega, fun h => absurd rfl h⟩
    · rw [if_neg c5]; exact ⟨Int.le_refl _, by show (0 : Int) ≤ _; omega, fun _ => rfl⟩
  rw [if_neg c4]
  by_cases c6 : rd l 1 > 100
  · rw [if_pos c6]; exact ⟨Int.le_refl _, by show (0 : Int) ≤ _; omega, fun _ => rfl⟩
  rw [if_neg c6]
  by_cases c7 : (l.length : Int) < 2 + rd l 1
  · rw [if_pos c7]; exact ⟨Int.le_refl _, by show (0 : Int) ≤ _; omega, fun _ => rfl⟩
  rw [if_neg c7]
  split
  · exact ⟨by show 0 ≤ 2 + rd l 1; omega, by show 2 + rd l 1 ≤ _; omega, fun h => absurd rfl h⟩
  · exact ⟨Int.le_refl _, by show (0 : Int) ≤ _; omega, fun _ => rfl⟩
theorem strN_bytes (s : ByteArray) : strOfNums (bytesOf s) = s := by
  have e : (bytesOf s).map (fun n => UInt8.ofNat n.toNat) = s.data.toList := by
    unfold bytesOf
    rw [List.map_map]
    conv => rhs; rw [← List.map_id s.data.toList]
    refine List.map_congr_left (fun b _ => ?_)
    simp
  unfold strOfNums
  rw [e]
theorem nameB_textB (s : ByteArray) (h : nameB s = true) : textB s = true := by
  unfold nameB at h
  rw [Bool.and_eq_true, allF_iff, inB_iff] at h
  unfold textB
  rw [Bool.and_eq_true, allF_iff]
  refine ⟨fun j h0 h1 => ?_, decide_eq_true (by omega)⟩
  have := (byteIn_iff _ _ _ _).1 (h.1 j h0 h1)
  exact (byteIn_iff _ _ _ _).2 (by omega)
theorem rd_zero (a : Int) (l : List Int) : rd (a :: l) 0 = a := rfl
theorem rd_one (a b : Int) (l : List Int) : rd (a :: b :: l) 1 = b := rfl
theorem putTextV_eq (k : Int) (t : ByteArray) (h0 : 0 ≤ k) (h1 : k < 256) (h : textB t = true) : putTextV [k % 256] t = k :: (t.size : Int) :: bytesOf t := by
  have hs := textB_size t h
  unfold putTextV
  rw [if_pos h, Int.emod_eq_of_lt h0 h1, Int.emod_eq_of_lt (by omega) (by omega)]
  rfl
theorem get_put (k : Int) (t : ByteArray) (s : Int) (tl : List Int) (h : frameB k t s = true) : ∃ t', getV (putFrameV k t s ++ tl) = (k, t', s, ((putFrameV k t s).length : Int), 0) ∧ t'.toList = t.toList := by
  unfold putFrameV
  rw [if_pos h]
  by_cases c5 : k = 5
  · subst c5
    simp only [frameB, if_neg (show ¬ (5 : Int) = 1 by decide), if_neg (show ¬ ((5 : Int) = 2 ∨ (5 : Int) = 4 ∨ (5 : Int) = 6) by decide), if_true, Bool.and_eq_true, beq_iff_eq] at h
    have hi := (inB_iff _ _ _).1 h.2
    refine ⟨⟨#[]⟩, ?_, by rw [empty_toList, h.1]⟩
    rw [if_pos rfl, show (5 : Int) % 256 = 5 by decide, Int.emod_eq_of_lt hi.1 (by omega)]
    show getV (5 :: s :: tl) = _
    unfold getV
    rw [rd_zero, rd_one, if_neg (by simp only [List.length_cons]; omega), if_neg (by decide), if_neg (by decide), if_neg (by simp only [List.length_cons]; omega), if_pos rfl, if_pos h.2]
    rfl
  by_cases c3 : k = 3
  · subst c3
    simp only [frameB, if_neg (show ¬ (3 : Int) = 1 by decide), if_neg (show ¬ ((3 : Int) = 2 ∨ (3 : Int) = 4 ∨ (3 : Int) = 6) by decide), if_neg (show ¬ (3 : Int) = 5 by decide), if_true, Bool.and_eq_true, beq_iff_eq] at h
    refine ⟨⟨#[]⟩, ?_, by rw [empty_toList, h.1]⟩
    rw [if_neg c5, if_pos rfl, show (3 : Int) % 256 = 3 by decide, h.2]
    show getV (3 :: tl) = _
    unfold getV
    rw [rd_zero, if_neg (by simp only [List.length_cons]; omega), if_pos rfl]
    rfl
  have hk : (k = 1 ∨ k = 2 ∨ k = 4 ∨ k = 6) ∧ textB t = true ∧ s = 0 := by
    unfold frameB at h
    split at h
    · rw [Bool.and_eq_true, beq_iff_eq] at h
      exact ⟨by omega, nameB_textB t h.1, h.2⟩
    · split at h
      · rw [Bool.and_eq_true, beq_iff_eq] at h
        exact ⟨by omega, h⟩
      · exact absurd h (by first | decide | simp [c5, c3])
  obtain ⟨hk, ht, hs⟩ := hk
  subst hs
  have hz := textB_size t ht
  refine ⟨t, ?_, rfl⟩
  rw [if_neg c5, if_neg c3, putTextV_eq k t (by omega) (by omega) ht]
  show getV (k :: (t.size : Int) :: (bytesOf t ++ tl)) = _
  have hl := bytesOf_length t
  have e : (((k :: (t.size : Int) :: (bytesOf t ++ tl)).take (2 + (t.size : Int)).toNat).drop 2) = bytesOf t := by
    rw [show (2 + (t.size : Int)).toNat = t.size + 1 + 1 by omega, List.take_succ_cons, List.take_succ_cons, List.drop_succ_cons, List.drop_succ_cons, List.drop_zero, ← hl, List.take_left']
    rfl
  unfold getV
  rw [rd_zero, rd_one, e, strN_bytes]
  rw [if_neg (by simp only [List.length_cons]; omega), if_neg c3, if_neg (by rw [Bool.eq_false_iff]; exact fun c => c ((inB_iff _ _ _).2 (by omega))), if_neg (by simp only [List.length_cons]; omega), if_neg c5, if_neg (by omega), if_neg (by simp only [List.length_cons, List.length_append, hl]; omega), if_pos h]
  simp only [List.length_cons, hl, Prod.mk.injEq, true_and, and_true]
  omega
theorem put_pos (a : S47) (h : frameB a.f0 a.f1 a.f2 = true) : 0 < (putFrameV a.f0 a.f1 a.f2).length := by
  unfold putFrameV
  rw [if_pos h]
  split
  · simp
  · split
    · simp
    · have := putTextV_ge [a.f0 % 256] a.f1
      simp only [List.length_cons, List.length_nil] at this
      omega
/-- Two frames are read again, one behind the other. -/
theorem frames_two (a b : S47) (ha : frameB a.f0 a.f1 a.f2 = true) (hb : frameB b.f0 b.f1 b.f2 = true) :
    ∃ l, Ev (fun k => impl_Frames.f k (putFrameV a.f0 a.f1 a.f2 ++ putFrameV b.f0 b.f1 b.f2)) (l, 0) ∧ (l.length : Int) = 2 ∧ (rd_T47 l 1).f0 = b.f0 ∧ (rd_T47 l 1).f2 = b.f2 := by
  obtain ⟨t1, e1, _⟩ := get_put a.f0 a.f1 a.f2 (putFrameV b.f0 b.f1 b.f2) ha
  obtain ⟨t2, e2, _⟩ := get_put b.f0 b.f1 b.f2 [] hb
  rw [List.append_nil] at e2
  have la := putFrameV_len a.f0 a.f1 a.f2
  have lb := putFrameV_len b.f0 b.f1 b.f2
  have pa := put_pos a ha
  have pb := put_pos b hb
  have bb := putFrameV_L b.f0 b.f1 b.f2
  have bab : bytesL (putFrameV a.f0 a.f1 a.f2 ++ putFrameV b.f0 b.f1 b.f2) := fun x hx => by
    rcases List.mem_append.1 hx with hx | hx
    · exact putFrameV_L a.f0 a.f1 a.f2 x hx
    · exact bb x hx
  have g1 := ev_as (impl_GetFrame_ev _ (by rw [List.length_append]; omega) bab) e1
  have g2 := ev_as (impl_GetFrame_ev _ (by omega) bb) e2
  have hlen : (putFrameV a.f0 a.f1 a.f2 ++ putFrameV b.f0 b.f1 b.f2).length = (putFrameV a.f0 a.f1 a.f2).length + (putFrameV b.f0 b.f1 b.f2).length := List.length_append
  refine ⟨[(⟨a.f0, t1, a.f2⟩ : S47), ⟨b.f0, t2, b.f2⟩], ?_, rfl, rfl, rfl⟩
  unfold impl_Frames.f
  refine ev_step (fun k => impl_Frames.l0.eq_2 ..) (ev_pos (by omega) (ev_bind g1 (ev_pos rfl (ev_pos (by simp) (ev_pos (by show 0 ≤ ((_ : Nat) : Int); omega) (ev_pos (by show ((_ : Nat) : Int) ≤ _; omega) ?_))))))
  simp only [Int.toNat_natCast, List.drop_left, List.nil_append]
  refine ev_step (fun k => impl_Frames.l0.eq_2 ..) (ev_pos (by omega) (ev_bind g2 (ev_pos rfl (ev_pos (by simp) (ev_pos (by show 0 ≤ ((_ : Nat) : Int); omega) (ev_pos (by show ((_ : Nat) : Int) ≤ _; omega) ?_))))))
  simp only [Int.toNat_natCast, List.drop_length, List.cons_append, List.nil_append]
  exact ev_step (fun k => impl_Frames.l0.eq_2 ..) (ev_neg (by simp) (ev_now _))
theorem next_in (st w : Int) : inB (nextV st w) 0 2 = true := by
  unfold nextV
  repeat' split
  all_goals decide
def yesV (x : S41) (a b : S47) (n st : Int) : Int × Int × Int × Bool × List Int × List Int × Int × Int × Bool :=
  (x.f0, x.f1, x.f2, x.f3, x.f4 ++ (putFrameV a.f0 a.f1 a.f2 ++ putFrameV b.f0 b.f1 b.f2), x.f5, st, wrap64 (x.f7 + n), true)
def farOk (x : S41) (a b : S47) (st : Int) : Prop :=
  sockB x.f0 x.f1 x.f2 x.f4 x.f5 x.f6 x.f7 = true ∧ x.f1 = 2 ∧ 0 ≤ x.f7 ∧ x.f7 ≤ (x.f5.length : Int) ∧ (getV (x.f5.drop (x.f7 : Int).toNat)).2.2.2.2 = 0 ∧ frameB a.f0 a.f1 a.f2 = true ∧ frameB b.f0 b.f1 b.f2 = true ∧ b.f0 = 5 ∧ b.f2 = st ∧ inB st 0 2 = true
  ∧ (x.f4.length : Int) + ((putFrameV a.f0 a.f1 a.f2 ++ putFrameV b.f0 b.f1 b.f2).length : Int) ≤ 240 ∧ ((getV (x.f5.drop (x.f7 : Int).toNat)).1 = 2 → st = nextV x.f6 (wordV (getV (x.f5.drop (x.f7 : Int).toNat)).2.1)) ∧ ((getV (x.f5.drop (x.f7 : Int).toNat)).1 ≠ 2 → st = x.f6)
def noV (x : S41) : Int × Int × Int × Bool × List Int × List Int × Int × Int × Bool := (x.f0, x.f1, x.f2, x.f3, x.f4, x.f5, x.f6, x.f7, false)
theorem answer_full (x : S41) (h4 : x.f4.length ≤ 2000000) (h5 : x.f5.length ≤ 2000000) (hb : bytesL x.f5) :
    (Ev (fun k => spec_Answer.f k x.f0 x.f1 x.f2 x.f3 x.f4 x.f5 x.f6 x.f7) (noV x) ∧ Ev (fun k => impl_Answer.f k x.f0 x.f1 x.f2 x.f3 x.f4 x.f5 x.f6 x.f7) (noV x))
    ∨ ∃ (a b : S47) (st : Int), farOk x a b st ∧ Ev (fun k => spec_Answer.f k x.f0 x.f1 x.f2 x.f3 x.f4 x.f5 x.f6 x.f7) (yesV x a b (getV (x.f5.drop (x.f7 : Int).toNat)).2.2.2.1 st) ∧ Ev (fun k => impl_Answer.f k x.f0 x.f1 x.f2 x.f3 x.f4 x.f5 x.f6 x.f7) (yesV x a b (getV (x.f5.drop (x.f7 : Int).toNat)).2.2.2.1 st) := by
  have cs := spec_l8Copy_eq x (by omega) (by omega)
  have ci := impl_sockCopy_eq x (by omega) (by omega)
  by_cases hs : sockB x.f0 x.f1 x.f2 x.f4 x.f5 x.f6 x.f7 = true
  · by_cases h1 : x.f1 = 2
    · by_cases h3 : x.f3 = true
      · refine .inl ⟨ev_bind1 cs (ev_bind (spec_SockOk_ev x) (ev_pos hs (ev_pos h1 ?_))), ev_bind1 ci (ev_bind (impl_SockOk_ev x) (ev_pos hs (ev_pos h1 ?_)))⟩
        · refine ev_step (fun k => spec_Answer.j0.eq_2 ..) (ev_pos h3 (ev_now _))
        · refine ev_step (fun k => impl_Answer.j0.eq_2 ..) (ev_pos h3 (ev_now _))
      · have hd : 0 ≤ x.f7 ∧ x.f7 ≤ (x.f5.length : Int) ∧ inB x.f6 0 2 = true := by
          unfold sockB at hs
          rw [h1] at hs
          simp only [Bool.and_eq_true] at hs
          have hz : (inB x.f6 0 2 && inB x.f7 0 (x.f5.length : Int)) = true := hs.2.2.2
          rw [Bool.and_eq_true] at hz
          have := (inB_iff _ _ _).1 hz.2
          exact ⟨this.1, this.2, hz.1⟩
        have hbd : bytesL (x.f5.drop (x.f7 : Int).toNat) := fun z hz => hb z (List.mem_of_mem_drop hz)
        have hdl : (x.f5.drop (x.f7 : Int).toNat).length ≤ 2000000 := by rw [List.length_drop]; omega
        have gs := spec_GetFrame_ev (x.f5.drop (x.f7 : Int).toNat) (by omega) hbd
        have gi := impl_GetFrame_ev (x.f5.drop (x.f7 : Int).toNat) (by omega) hbd
        have tz := getV_size (x.f5.drop (x.f7 : Int).toNat)
        have tt := getV_text (x.f5.drop (x.f7 : Int).toNat)
        unfold farOk
        generalize getV (x.f5.drop (x.f7 : Int).toNat) = g at *
        by_cases hc : g.2.2.2.2 = 0
        · by_cases hk : g.1 = 2
          · have ht := tt hc hk
            have hq : g.2.1.size ≤ 4611686018427387904 := by omega
            have hA : ∃ a b : S47, answV x.f6 g.2.1 = [a, b] ∧ a.f1.size ≤ 1000000000 ∧ b.f1.size ≤ 1000000000 ∧ frameB a.f0 a.f1 a.f2 = true ∧ frameB b.f0 b.f1 b.f2 = true ∧ b.f0 = 5 ∧ b.f2 = nextV x.f6 (wordV g.2.1) := by
              unfold answV
              rw [if_neg (by rw [hd.2.2, ht]; decide)]
              refine ⟨_, _, rfl, ?_, ?_, ?_, ?_, rfl, rfl⟩
              · split
                · show (7 : Nat) ≤ _; omega
                · split
                  · show (6 : Nat) ≤ _; omega
                  · split
                    · show (8 : Nat) ≤ _; omega
                    · show g.2.1.size ≤ _; omega
              · show (0 : Nat) ≤ _; omega
              · split
                · decide
                · split
                  · decide
                  · split
                    · decide
                    · show frameB 4 g.2.1 0 = true
                      unfold frameB
                      rw [if_neg (by decide), if_pos (by decide), ht]
                      decide
              · show frameB 5 (⟨#[]⟩ : ByteArray) (nextV x.f6 (wordV g.2.1)) = true
                unfold frameB
                rw [if_neg (by decide), if_neg (by decide), if_pos rfl, empty_toList, next_in]
                decide
            obtain ⟨a, b, hab, ha, hb', fa, fb, b0, b2⟩ := hA
            have aw := spec_AnswerTo_ev x.f6 g.2.1 hq
            have ai := impl_AnswerTo_ev x.f6 g.2.1 hq
            rw [hab] at aw ai
            have es : Ev (fun k => spec_Answer.f k x.f0 x.f1 x.f2 x.f3 x.f4 x.f5 x.f6 x.f7) (ans2 x g.2.2.2.1 (nextV x.f6 (wordV g.2.1)) a b) := ev_bind1 cs (ev_bind (spec_SockOk_ev x) (ev_pos hs (ev_pos h1 (ev_step (fun k => spec_Answer.j0.eq_2 ..) (ev_neg h3 (ev_pos hd.1 (ev_pos hd.2.1 (ev_bind gs (ev_pos hc (ev_pos hk (ev_bind aw (ev_bind1 (spec_WordOf_eq _) (ev_bind (spec_NextSt_ev _ _) (spec_Answer_j1 x _ _ a b (by omega) (by omega) ha hb'))))))))))))))
            have ei : Ev (fun k => impl_Answer.f k x.f0 x.f1 x.f2 x.f3 x.f4 x.f5 x.f6 x.f7) (ans2 x g.2.2.2.1 (nextV x.f6 (wordV g.2.1)) a b) := ev_bind1 ci (ev_bind (impl_SockOk_ev x) (ev_pos hs (ev_pos h1 (ev_step (fun k => impl_Answer.j0.eq_2 ..) (ev_neg h3 (ev_pos hd.1 (ev_pos hd.2.1 (ev_bind gi (ev_pos hc (ev_pos hk (ev_bind ai (ev_bind1 (impl_WordOf_eq _) (ev_bind (impl_NextSt_ev _ _) (impl_Answer_j1 x _ _ a b (by omega) (by omega) ha hb'))))))))))))))
            by_cases hL : (x.f4.length : Int) + ((putFrameV a.f0 a.f1 a.f2 ++ putFrameV b.f0 b.f1 b.f2).length : Int) > 240
            · unfold ans2 at es ei
              rw [if_pos hL] at es ei
              exact .inl ⟨es, ei⟩
            · unfold ans2 at es ei
              rw [if_neg hL] at es ei
              exact .inr ⟨a, b, nextV x.f6 (wordV g.2.1), ⟨hs, h1, hd.1, hd.2.1, hc, fa, fb, b0, b2, next_in _ _, by omega, fun _ => rfl, fun h => absurd hk h⟩, es, ei⟩
          · have es : Ev (fun k => spec_Answer.f k x.f0 x.f1 x.f2 x.f3 x.f4 x.f5 x.f6 x.f7) (ans2 x g.2.2.2.1 x.f6 ⟨6, ⟨#[102, 111, 114, 109]⟩, 0⟩ ⟨5, ⟨#[]⟩, x.f6⟩) := ev_bind1 cs (ev_bind (spec_SockOk_ev x) (ev_pos hs (ev_pos h1 (ev_step (fun k => spec_Answer.j0.eq_2 ..) (ev_neg h3 (ev_pos hd.1 (ev_pos hd.2.1 (ev_bind gs (ev_pos hc (ev_neg hk (spec_Answer_j1 x _ _ _ _ (by omega) (by omega) (show (4 : Nat) ≤ _ by omega) (show (0 : Nat) ≤ _ by omega))))))))))))
            have ei : Ev (fun k => impl_Answer.f k x.f0 x.f1 x.f2 x.f3 x.f4 x.f5 x.f6 x.f7) (ans2 x g.2.2.2.1 x.f6 ⟨6, ⟨#[102, 111, 114, 109]⟩, 0⟩ ⟨5, ⟨#[]⟩, x.f6⟩) := ev_bind1 ci (ev_bind (impl_SockOk_ev x) (ev_pos hs (ev_pos h1 (ev_step (fun k => impl_Answer.j0.eq_2 ..) (ev_neg h3 (ev_pos hd.1 (ev_pos hd.2.1 (ev_bind gi (ev_pos hc (ev_neg hk (impl_Answer_j1 x _ _ _ _ (by omega) (by omega) (show (4 : Nat) ≤ _ by omega) (show (0 : Nat) ≤ _ by omega))))))))))))
            have fb : frameB 5 (⟨#[]⟩ : ByteArray) x.f6 = true := by
              unfold frameB
              rw [if_neg (by decide), if_neg (by decide), if_pos rfl, empty_toList, hd.2.2]
              decide
            by_cases hL : (x.f4.length : Int) + ((putFrameV 6 (⟨#[102, 111, 114, 109]⟩ : ByteArray) 0 ++ putFrameV 5 (⟨#[]⟩ : ByteArray) x.f6).length : Int) > 240
            · unfold ans2 at es ei
              rw [if_pos hL] at es ei
              exact .inl ⟨es, ei⟩
            · unfold ans2 at es ei
              rw [if_neg hL] at es ei
              exact .inr ⟨⟨6, ⟨#[102, 111, 114, 109]⟩, 0⟩, ⟨5, ⟨#[]⟩, x.f6⟩, x.f6, ⟨hs, h1, hd.1, hd.2.1, hc, by decide, fb, rfl, rfl, hd.2.2, by simp only; omega, fun h => absurd h hk, fun _ => rfl⟩, es, ei⟩
        · refine .inl ⟨ev_bind1 cs (ev_bind (spec_SockOk_ev x) (ev_pos hs (ev_pos h1 ?_))), ev_bind1 ci (ev_bind (impl_SockOk_ev x) (ev_pos hs (ev_pos h1 ?_)))⟩
          · exact ev_step (fun k => spec_Answer.j0.eq_2 ..) (ev_neg h3 (ev_pos hd.1 (ev_pos hd.2.1 (ev_bind gs (ev_neg hc (ev_now _))))))
          · exact ev_step (fun k => impl_Answer.j0.eq_2 ..) (ev_neg h3 (ev_pos hd.1 (ev_pos hd.2.1 (ev_bind gi (ev_neg hc (ev_now _))))))
    · exact .inl ⟨ev_bind1 cs (ev_bind (spec_SockOk_ev x) (ev_pos hs (ev_neg h1 (spec_Answer_no x ..)))), ev_bind1 ci (ev_bind (impl_SockOk_ev x) (ev_pos hs (ev_neg h1 (impl_Answer_no x ..))))⟩
  · exact .inl ⟨ev_bind1 cs (ev_bind (spec_SockOk_ev x) (ev_neg hs (spec_Answer_no x ..))), ev_bind1 ci (ev_bind (impl_SockOk_ev x) (ev_neg hs (impl_Answer_no x ..)))⟩
theorem far_yes (x : S41) (a b : S47) (st : Int) (h5 : x.f5.length ≤ 2000) (hb : bytesL x.f5) (h : farOk x a b st) :
    Ev (fun k => laws_FnFar.j0 k true false x.f0 x.f1 x.f2 x.f3 x.f4 x.f5 x.f6 x.f7 x.f0 x.f1 x.f2 x.f3 (x.f4 ++ (putFrameV a.f0 a.f1 a.f2 ++ putFrameV b.f0 b.f1 b.f2)) x.f5 st (wrap64 (x.f7 + (getV (x.f5.drop (x.f7 : Int).toNat)).2.2.2.1))) true := by
  obtain ⟨hs, h1, h70, h71, hc, fa, fb, b0, b2, hst, hL, k2, k3⟩ := h
  have hbd : bytesL (x.f5.drop (x.f7 : Int).toNat) := fun z hz => hb z (List.mem_of_mem_drop hz)
  have gi := impl_GetFrame_ev (x.f5.drop (x.f7 : Int).toNat) (by rw [List.length_drop]; omega) hbd
  have gn := getV_n (x.f5.drop (x.f7 : Int).toNat) hbd
  rw [List.length_drop] at gn
  obtain ⟨fl, ef, fl2, f0, f2⟩ := frames_two a b fa fb
  have hdrop : (x.f4 ++ (putFrameV a.f0 a.f1 a.f2 ++ putFrameV b.f0 b.f1 b.f2)).drop ((x.f4.length : Int)).toNat = putFrameV a.f0 a.f1 a.f2 ++ putFrameV b.f0 b.f1 b.f2 := by rw [Int.toNat_natCast, List.drop_left]
  have hlen : (x.f4 ++ (putFrameV a.f0 a.f1 a.f2 ++ putFrameV b.f0 b.f1 b.f2)).length = x.f4.length + (putFrameV a.f0 a.f1 a.f2 ++ putFrameV b.f0 b.f1 b.f2).length := List.length_append
  generalize putFrameV a.f0 a.f1 a.f2 ++ putFrameV b.f0 b.f1 b.f2 = fr at *
  generalize hg : getV (x.f5.drop (x.f7 : Int).toNat) = g at *
  have hw : wrap64 (x.f7 + g.2.2.2.1) = x.f7 + g.2.2.2.1 := w64 (by omega) (by omega)
  have hsk : sockB x.f0 x.f1 x.f2 (x.f4 ++ fr) x.f5 st (wrap64 (x.f7 + g.2.2.2.1)) = true := by
    unfold sockB at hs ⊢
    rw [h1] at hs ⊢
    simp only [Bool.and_eq_true] at hs ⊢
    have hz : (inB x.f6 0 2 && inB x.f7 0 (x.f5.length : Int)) = true := hs.2.2.2
    have hnew : (inB st 0 2 && inB (wrap64 (x.f7 + g.2.2.2.1)) 0 (x.f5.length : Int)) = true := by
      rw [hst, hw, Bool.true_and]
      exact (inB_iff _ _ _).2 (by omega)
    refine ⟨hs.1, hs.2.1, ?_, hnew⟩
    have h3 := hs.2.2.1
    first
      | exact h3
      | (rw [hlen]; exact decide_eq_true (by omega))
      | (simp only [hlen, decide_eq_true_eq, Bool.not_eq_true', decide_eq_false_iff_not] at h3 ⊢; omega)
  have sk := impl_SockOk_ev (⟨x.f0, x.f1, x.f2, x.f3, x.f4 ++ fr, x.f5, st, wrap64 (x.f7 + g.2.2.2.1)⟩ : S41)
  simp only at sk
  rw [hsk] at sk
  refine ev_step (fun k => laws_FnFar.j0.eq_2 ..) (ev_neg (by simp) (ev_pos rfl (ev_pos h70 (ev_pos h71 (ev_bind gi (ev_pos hc (ev_pos rfl (ev_bind sk (ev_pos rfl (ev_bind1 (laws_same_eq _) ?_))))))))))
  refine ev_step (fun k => laws_FnFar.j1.eq_2 ..) (ev_neg (by simp) (ev_pos (by omega) (ev_pos (by omega) ?_)))
  rw [hdrop]
  refine ev_bind ef (ev_pos rfl (ev_pos fl2 (ev_pos (by show (1 : Int) < (fl.length : Int); omega) (ev_pos (by show (rd_T47 fl 1).f0 = 5; rw [f0, b0]) ?_))))
  simp only [f2, b2, bne_self_eq_false]
  refine ev_step (fun k => laws_FnFar.j2.eq_2 ..) (ev_neg (by simp) (ev_ite (fun hk => ?_) (fun hk => ?_)))
  · refine ev_bind1 (impl_WordOf_eq _) (ev_bind (impl_NextSt_ev _ _) (ev_as (ev_now _) ?_))
    rw [k2 hk, beq_self_eq_true]
  · exact ev_pos (k3 hk) (ev_now _)
theorem FnFar : laws_FnFar.Pure := by
  intro b _ hm hw
  refine ev_rounds ?_
  have hb : b.length ≤ 4611686018427387904 := by omega
  unfold laws_FnFar.f
  refine ev_bind1 (laws_big_eq b) (ev_ite (fun _ => ev_now _) (fun cb => ?_))
  obtain ⟨x, e1, g4, s4, g5, s5⟩ := spec_DrawAnswer_some b hb
  refine ev_bind e1 ?_
  rcases answer_full x (by omega) (by omega) g5 with ⟨es, ei⟩ | ⟨a, c, st, hf, es, ei⟩
  · refine ev_bind ei (ev_bind es (ev_neg (by simp [noV]) (ev_bind1 (laws_sameSock_eq x) ?_)))
    exact ev_step (fun k => laws_FnFar.j0.eq_2 ..) (ev_neg (by simp) (ev_neg (by simp [noV]) (ev_bind1 (laws_sameSock_eq x) (ev_now _))))
  · refine ev_bind ei (ev_bind es (ev_neg (by simp [yesV]) (ev_bind1 (laws_sameSock_eq (⟨x.f0, x.f1, x.f2, x.f3, x.f4 ++ (putFrameV a.f0 a.f1 a.f2 ++ putFrameV c.f0 c.f1 c.f2), x.f5, st, wrap64 (x.f7 + (getV (x.f5.drop (x.f7 : Int).toNat)).2.2.2.1)⟩ : S41)) ?_)))
    exact far_yes x a c st s5 g5 hf
end Go.Proofs.Ytaimfkfpglhijaa.Pure
