/- What comes in is appended in order, what is eaten is the first frame, a socket that nobody holds is gone. -/
import Derived.Test.YtiffahfpfgnjnaaPFnSocksx18
import Derived.Test.YtiffahfpfgnjnaaVBase
import Derived.Test.YtiffahfpfgnjnaaVExt
namespace Go.Proofs.Ytiffahfpfgnjnaa.Pure
open Go.RowKit Go.Proofs.Ytiffahfpfgnjnaa.PFnSocks Go.Proofs.YtiffahfpfgnjnaaW.PrintWords Go.Proofs.YtiffahfpfgnjnaaW.PrintLast Go.Proofs.YtiffahfpfgnjnaaV
set_option linter.unusedVariables false
set_option linter.unusedSimpArgs false
set_option maxRecDepth 20000

/-! ### laws_big -/
theorem laws_big_eq (l : List Int) : laws_big.f l = some (decide ((l.length : Int) > 1048576)) := rfl

/-! ### laws_same -/
theorem laws_same_eq (l : List Int) : laws_same.f l l = some true := by
  unfold laws_same.f
  rw [beq_self_eq_true]

/-! ### spec_l1New -/
/-- A cursor's place over its bytes. -/
def curB (b : List Int) (i : Int) : Prop := 0 ≤ i ∧ i ≤ b.length
theorem spec_l1New_l0 (b : List Int) (hb : b.length ≤ 4611686018427387904) (d : Nat) : ∀ (x : Int) (i : Int), 0 ≤ i → i + d = b.length → ∃ h, Ev (fun k => spec_l1New.l0 k b x i) (b, 0, h) := by
  induction d with
  | zero =>
    intro x i h0 h1
    exact ⟨x, ev_step (fun k => spec_l1New.l0.eq_2 ..) (ev_neg (by omega) (ev_now _))⟩
  | succ d ih =>
    intro x i h0 h1
    by_cases c : i < 4000
    · obtain ⟨h, e⟩ := ih (Go.bits .and .i64 (wrap64 ((wrap64 ((wrap64 (x * 137)) + (wrap64 (rd b i)))) + 11)) 1073741823) (i + 1) (by omega) (by omega)
      refine ⟨h, ev_step (fun k => spec_l1New.l0.eq_2 ..) (ev_pos (by omega) (ev_pos c (ev_pos h0 ?_)))⟩
      rw [w64 (x := i + 1) (by omega) (by omega)]
      exact e
    · exact ⟨x, ev_step (fun k => spec_l1New.l0.eq_2 ..) (ev_pos (by omega) (ev_neg c (ev_now _)))⟩
theorem spec_l1New_some (b : List Int) (hb : b.length ≤ 4611686018427387904) : ∃ h, Ev (fun k => spec_l1New.f k b) (b, 0, h) := spec_l1New_l0 b hb b.length _ 0 (by omega) (by omega)

/-! ### spec_l1Byte -/
theorem i64_and255 (n : Int) : Go.bits .and .i64 n 255 = n % 256 := by
  have h255 : (BitVec.ofInt 64 255).toNat = 2 ^ 8 - 1 := by decide
  have key : (BitVec.ofInt 64 n &&& BitVec.ofInt 64 255).toNat = (n % ((2 ^ 64 : Nat) : Int)).toNat % 2 ^ 8 := by
    rw [BitVec.toNat_and, BitVec.toNat_ofInt, h255, Nat.and_two_pow_sub_one_eq_mod]
  show IntKind.i64.wrap ((BitVec.ofInt 64 n &&& BitVec.ofInt 64 255).toNat : Nat) = n % 256
  rw [key, IntKind.wrap_i64]
  omega
theorem spec_l1Byte_some (b : List Int) (i h : Int) (hc : curB b i) (hb : b.length ≤ 4611686018427387904) : ∃ v i' h', spec_l1Byte.f b i h = some (v, i', h') ∧ 0 ≤ v ∧ v < 256 ∧ curB b i' := by
  unfold curB at *
  unfold spec_l1Byte.f
  by_cases c : i < (b.length : Int)
  · rw [if_pos c, if_pos hc.1]
    refine ⟨_, _, _, rfl, ?_, ?_, ?_⟩
    · rw [i64_and255]; omega
    · rw [i64_and255]; omega
    · rw [w64 (by omega) (by omega)]; omega
  · rw [if_neg c]
    refine ⟨_, _, _, rfl, ?_, ?_, hc⟩
    · rw [i64_and255]; omega
    · rw [i64_and255]; omega

/-! ### spec_l1Below -/
theorem tmod_in {v n : Int} (h0 : 0 ≤ v) (hn : 0 < n) : 0 ≤ Int.tmod v n ∧ Int.tmod v n < n := by
  rw [Int.tmod_eq_emod_of_nonneg h0]
  exact ⟨Int.emod_nonneg _ (by omega), Int.emod_lt_of_pos _ hn⟩
theorem spec_l1Below_some (b : List Int) (i h n : Int) (hc : curB b i) (hb : b.length ≤ 4611686018427387904) : ∃ v i' h', spec_l1Below.f b i h n = some (v, i', h') ∧ (0 < n → 0 ≤ v ∧ v < n) ∧ (n ≤ 0 → v = 0) ∧ curB b i' := by
  unfold spec_l1Below.f
  by_cases c0 : n ≤ 0
  · rw [if_pos c0]
    exact ⟨0, i, h, rfl, fun h => by omega, fun _ => rfl, hc⟩
  rw [if_neg c0]
  obtain ⟨v, i1, h1, e1, l1, u1, c1⟩ := spec_l1Byte_some b i h hc hb
  by_cases c1' : n ≤ 256
  · rw [if_pos c1', e1, Option.bind_some, if_neg (by omega)]
    exact ⟨_, _, _, rfl, fun hn => tmod_in l1 hn, fun hn => by omega, c1⟩
  · obtain ⟨v2, i2, h2, e2, l2, u2, c2⟩ := spec_l1Byte_some b i1 h1 c1 hb
    obtain ⟨v3, i3, h3, e3, l3, u3, c3⟩ := spec_l1Byte_some b i2 h2 c2 hb
    rw [if_neg c1', e1, Option.bind_some]
    dsimp only
    rw [e2, Option.bind_some]
    dsimp only
    rw [e3, Option.bind_some, if_neg (by omega)]
    refine ⟨_, _, _, rfl, fun hn => tmod_in ?_ hn, fun hn => by omega, c3⟩
    dsimp only
    rw [w64 (x := v * 65536) (by omega) (by omega), w64 (x := v2 * 256) (by omega) (by omega), w64 (x := v * 65536 + v2 * 256) (by omega) (by omega), w64 (by omega) (by omega)]
    omega

/-! ### spec_l1Int -/
theorem spec_l1Int_some (b : List Int) (i h : Int) (l : List Int) (hl : 0 < l.length) (hc : curB b i) (hb : b.length ≤ 4611686018427387904) : ∃ v i' h', spec_l1Int.f b i h l = some (v, i', h') ∧ v ∈ l ∧ curB b i' := by
  obtain ⟨v, i1, h1, e1, r1, _, c1⟩ := spec_l1Below_some b i h (l.length : Int) hc hb
  have r := r1 (by omega)
  unfold spec_l1Int.f
  rw [e1, Option.bind_some]
  dsimp only
  rw [if_pos r.1, if_pos r.2]
  refine ⟨_, _, _, rfl, ?_, c1⟩
  obtain ⟨m, rfl⟩ := Int.eq_ofNat_of_zero_le r.1
  rw [rd_nth l m (by omega)]
  exact List.getElem_mem _

/-! ### spec_TextOk -/
theorem spec_TextOk_l0 (s : ByteArray) (hs : s.size ≤ 4611686018427387904) (d : Nat) : ∀ i : Int, 0 ≤ i → i + d = s.size → i ≤ 101 → Ev (fun k => spec_TextOk.l0 k s i) (allF (byteIn s 32 126) i d && decide ((s.size : Int) ≤ 100)) := by
  induction d with
  | zero =>
    intro i h0 h1 h2
    refine ev_step (fun k => spec_TextOk.l0.eq_2 ..) ?_
    refine ev_neg (by omega) ?_
    refine ev_step (fun k => spec_TextOk.j1.eq_2 ..) ?_
    refine ev_neg (by decide) ?_
    exact ev_now _
  | succ d ih =>
    intro i h0 h1 h2
    refine ev_step (fun k => spec_TextOk.l0.eq_2 ..) ?_
    refine ev_pos (by omega) ?_
    refine ev_step (fun k => spec_TextOk.j1.eq_2 ..) ?_
    refine ev_ite (fun c0 => ?_) (fun c0 => ?_)
    · have c0' := of_decide_eq_true c0
      refine ev_pos (by omega) (ev_pos (by omega) ?_)
      refine ev_ite (fun c1 => ?_) (fun c1 => ev_ite (fun c2 => ?_) (fun c2 => ?_))
      · refine ev_as (ev_now _) ?_
        have : byteIn s 32 126 i = false := by rw [byteIn_false]; omega
        simp [allF, this]
      · refine ev_as (ev_now _) ?_
        have : byteIn s 32 126 i = false := by rw [byteIn_false]; omega
        simp [allF, this]
      · have : byteIn s 32 126 i = true := by rw [byteIn_iff]; omega
        rw [w64 (by omega) (by omega), allF, this, Bool.true_and]
        exact ih (i + 1) (by omega) (by omega) (by omega)
    · have c0' : ¬ i ≤ 100 := fun h => c0 (decide_eq_true h)
      refine ev_as (ev_now _) ?_
      have : decide ((s.size : Int) ≤ 100) = false := decide_eq_false (by omega)
      rw [this, Bool.and_false]
theorem spec_TextOk_ev (s : ByteArray) (hs : s.size ≤ 4611686018427387904) : Ev (fun k => spec_TextOk.f k s) (textB s) := spec_TextOk_l0 s hs s.size 0 (by omega) (by omega) (by omega)

/-! ### spec_l1In -/
theorem spec_l1In_eq (a b c : Int) : spec_l1In.f a b c = some (inB a b c) := by
  unfold spec_l1In.f inB
  by_cases h : b ≤ a <;> simp [h]

/-! ### spec_l1Name -/
theorem spec_l1Name_l0 (s : ByteArray) (hs : s.size ≤ 4611686018427387904) (d : Nat) : ∀ i : Int, 0 ≤ i → i + d = s.size → Ev (fun k => spec_l1Name.l0 k s i) (allF (byteIn s 97 122) i d && inB s.size 1 8) := by
  induction d with
  | zero =>
    intro i h0 h1
    refine ev_step (fun k => spec_l1Name.l0.eq_2 ..) ?_
    refine ev_neg (by omega) ?_
    rw [spec_l1In_eq]
    exact ev_now _
  | succ d ih =>
    intro i h0 h1
    refine ev_step (fun k => spec_l1Name.l0.eq_2 ..) ?_
    refine ev_pos (by omega) (ev_pos (by omega) ?_)
    refine ev_ite (fun c1 => ?_) (fun c1 => ev_ite (fun c2 => ?_) (fun c2 => ?_))
    · refine ev_as (ev_now _) ?_
      have : byteIn s 97 122 i = false := by rw [byteIn_false]; omega
      simp [allF, this]
    · refine ev_as (ev_now _) ?_
      have : byteIn s 97 122 i = false := by rw [byteIn_false]; omega
      simp [allF, this]
    · have : byteIn s 97 122 i = true := by rw [byteIn_iff]; omega
      rw [w64 (by omega) (by omega), allF, this, Bool.true_and]
      exact ih (i + 1) (by omega) (by omega)
theorem spec_l1Name_ev (s : ByteArray) (hs : s.size ≤ 4611686018427387904) : Ev (fun k => spec_l1Name.f k s) (nameB s) := spec_l1Name_l0 s hs s.size 0 (by omega) (by omega)

/-! ### spec_FrameOk -/
/-- A frame as it has to be. -/
def frameB (k : Int) (t : ByteArray) (s : Int) : Bool :=
  if k = 1 then nameB t && s == 0 else if k = 2 ∨ k = 4 ∨ k = 6 then textB t && s == 0 else if k = 5 then (t.toList == ([] : List UInt8)) && inB s 0 2 else if k = 3 then (t.toList == ([] : List UInt8)) && s == 0 else false
theorem spec_FrameOk_j0 (k : Int) (b : Bool) (t : ByteArray) (s : Int) (ht : t.size ≤ 4611686018427387904) : Ev (fun n => spec_FrameOk.j0 n k b k t s) (if b = true then textB t && s == 0 else if k = 5 then (t.toList == ([] : List UInt8)) && inB s 0 2 else if k = 3 then (t.toList == ([] : List UInt8)) && s == 0 else false) := by
  refine ev_step (fun n => spec_FrameOk.j0.eq_2 ..) (ev_ite (fun c => ?_) (fun c => ev_ite (fun c5 => ev_ite (fun ce => ?_) (fun ce => ?_)) (fun c5 => ev_ite (fun c3 => ev_ite (fun ce => ?_) (fun ce => ?_)) (fun c3 => ?_))))
  · refine ev_bind (spec_TextOk_ev t ht) (ev_ite (fun c1 => ?_) (fun c1 => ?_))
    · exact ev_as (ev_now _) (by simp [c, c1])
    · exact ev_as (ev_now _) (by simp [c, c1])
  · exact ev_bind1 (spec_l1In_eq _ _ _) (ev_as (ev_now _) (by simp [c, c5, ce]))
  · exact ev_as (ev_now _) (by simp [c, c5, ce])
  · exact ev_as (ev_now _) (by simp [c, c3, ce])
  · exact ev_as (ev_now _) (by simp [c, c3, ce])
  · exact ev_as (ev_now _) (by simp [c, c5, c3])
theorem spec_FrameOk_ev (k : Int) (t : ByteArray) (s : Int) (ht : t.size ≤ 4611686018427387904) : Ev (fun n => spec_FrameOk.f n k t s) (frameB k t s) := by
  unfold spec_FrameOk.f
  refine ev_ite (fun c1 => ?_) (fun c1 => ev_ite (fun c2 => ?_) (fun c2 => ev_ite (fun c4 => ?_) (fun c4 => ?_)))
  · refine ev_bind (spec_l1Name_ev t ht) (ev_ite (fun c => ?_) (fun c => ?_))
    · exact ev_as (ev_now _) (by simp [frameB, c1, c])
    · exact ev_as (ev_now _) (by simp [frameB, c1, c])
  · exact ev_as (spec_FrameOk_j0 k _ t s ht) (by simp [frameB, c2])
  · exact ev_as (spec_FrameOk_j0 k _ t s ht) (by simp [frameB, c4])
  · exact ev_as (spec_FrameOk_j0 k _ t s ht) (by simp [frameB, c1, c2, c4])

/-! ### impl_TextOk -/
theorem impl_TextOk_l0 (s : ByteArray) (hs : s.size ≤ 4611686018427387904) (d : Nat) : ∀ i : Int, 0 ≤ i → i + d = s.size → Ev (fun k => impl_TextOk.l0 k s (s.size : Int) i) (allF (byteIn s 32 126) i d && decide ((s.size : Int) ≤ 100)) := by
  induction d with
  | zero =>
    intro i h0 h1
    refine ev_step (fun k => impl_TextOk.l0.eq_2 ..) ?_
    refine ev_neg (by omega) ?_
    exact ev_now _
  | succ d ih =>
    intro i h0 h1
    refine ev_step (fun k => impl_TextOk.l0.eq_2 ..) ?_
    refine ev_pos (by omega) (ev_pos (by omega) (ev_pos (by omega) ?_))
    refine ev_ite (fun c1 => ?_) (fun c1 => ev_ite (fun c2 => ?_) (fun c2 => ?_))
    · refine ev_as (ev_now _) ?_
      have : byteIn s 32 126 i = false := by rw [byteIn_false]; omega
      simp [allF, this]
    · refine ev_as (ev_now _) ?_
      have : byteIn s 32 126 i = false := by rw [byteIn_false]; omega
      simp [allF, this]
    · have : byteIn s 32 126 i = true := by rw [byteIn_iff]; omega
      rw [w64 (by omega) (by omega), allF, this, Bool.true_and]
      exact ih (i + 1) (by omega) (by omega)
theorem impl_TextOk_ev (s : ByteArray) (hs : s.size ≤ 4611686018427387904) : Ev (fun k => impl_TextOk.f k s) (textB s) := impl_TextOk_l0 s hs s.size 0 (by omega) (by omega)

/-! ### impl_isIn -/
theorem impl_isIn_eq (a b c : Int) : impl_isIn.f a b c = some (inB a b c) := by
  unfold impl_isIn.f inB
  by_cases h : b ≤ a <;> simp [h]

/-! ### impl_nameOk -/
theorem impl_nameOk_l0 (s : ByteArray) (hs : s.size ≤ 4611686018427387904) (d : Nat) : ∀ i : Int, 0 ≤ i → i + d = s.size → Ev (fun k => impl_nameOk.l0 k s (s.size : Int) i) (allF (byteIn s 97 122) i d && inB s.size 1 8) := by
  induction d with
  | zero =>
    intro i h0 h1
    refine ev_step (fun k => impl_nameOk.l0.eq_2 ..) ?_
    refine ev_neg (by omega) ?_
    rw [impl_isIn_eq]
    exact ev_now _
  | succ d ih =>
    intro i h0 h1
    refine ev_step (fun k => impl_nameOk.l0.eq_2 ..) ?_
    refine ev_pos (by omega) (ev_pos (by omega) (ev_pos (by omega) ?_))
    refine ev_ite (fun c1 => ?_) (fun c1 => ev_ite (fun c2 => ?_) (fun c2 => ?_))
    · refine ev_as (ev_now _) ?_
      have : byteIn s 97 122 i = false := by rw [byteIn_false]; omega
      simp [allF, this]
    · refine ev_as (ev_now _) ?_
      have : byteIn s 97 122 i = false := by rw [byteIn_false]; omega
      simp [allF, this]
    · have : byteIn s 97 122 i = true := by rw [byteIn_iff]; omega
      rw [w64 (by omega) (by omega), allF, this, Bool.true_and]
      exact ih (i + 1) (by omega) (by omega)
theorem impl_nameOk_ev (s : ByteArray) (hs : s.size ≤ 4611686018427387904) : Ev (fun k => impl_nameOk.f k s) (nameB s) := impl_nameOk_l0 s hs s.size 0 (by omega) (by omega)

/-! ### impl_FrameOk -/
theorem impl_FrameOk_j0 (k : Int) (b : Bool) (t : ByteArray) (s : Int) (ht : t.size ≤ 4611686018427387904) : Ev (fun n => impl_FrameOk.j0 n k b k t s) (if b = true then textB t && s == 0 else if k = 5 then (t.toList == ([] : List UInt8)) && inB s 0 2 else if k = 3 then (t.toList == ([] : List UInt8)) && s == 0 else false) := by
  refine ev_step (fun n => impl_FrameOk.j0.eq_2 ..) (ev_ite (fun c => ?_) (fun c => ev_ite (fun c5 => ev_ite (fun ce => ?_) (fun ce => ?_)) (fun c5 => ev_ite (fun c3 => ?_) (fun c3 => ?_))))
  · refine ev_bind (impl_TextOk_ev t ht) (ev_ite (fun c1 => ?_) (fun c1 => ?_))
    · exact ev_as (ev_now _) (by simp [c, c1])
    · exact ev_as (ev_now _) (by simp [c, c1])
  · exact ev_bind1 (impl_isIn_eq _ _ _) (ev_as (ev_now _) (by simp [c, c5, ce]))
  · exact ev_as (ev_now _) (by simp [c, c5, ce])
  · exact ev_as (ev_now _) (by simp [c, c3])
  · exact ev_as (ev_now _) (by simp [c, c5, c3])
theorem impl_FrameOk_ev (k : Int) (t : ByteArray) (s : Int) (ht : t.size ≤ 4611686018427387904) : Ev (fun n => impl_FrameOk.f n k t s) (frameB k t s) := by
  unfold impl_FrameOk.f
  refine ev_ite (fun c1 => ?_) (fun c1 => ev_ite (fun c2 => ?_) (fun c2 => ev_ite (fun c4 => ?_) (fun c4 => ?_)))
  · refine ev_bind (impl_nameOk_ev t ht) (ev_ite (fun c => ?_) (fun c => ?_))
    · exact ev_as (ev_now _) (by simp [frameB, c1, c])
    · exact ev_as (ev_now _) (by simp [frameB, c1, c])
  · exact ev_as (impl_FrameOk_j0 k _ t s ht) (by simp [frameB, c2])
  · exact ev_as (impl_FrameOk_j0 k _ t s ht) (by simp [frameB, c4])
  · exact ev_as (impl_FrameOk_j0 k _ t s ht) (by simp [frameB, c1, c2, c4])

/-! ### impl_GetFrame -/
/-- All of a list are bytes. -/
def bytesL (l : List Int) : Prop := ∀ x ∈ l, 0 ≤ x ∧ x < 256
theorem rd_byte {l : List Int} (hb : bytesL l) (i : Int) : 0 ≤ rd l i ∧ rd l i < 256 := by
  unfold rd
  rw [List.getD_eq_getElem?_getD]
  by_cases h : i.toNat < l.length
  · rw [List.getElem?_eq_getElem h]
    exact hb _ (List.getElem_mem h)
  · rw [List.getElem?_eq_none (by omega)]
    simp
theorem strN_size (l : List Int) (n : Nat) : (strOfNums ((l.take n).drop 2)).size ≤ l.length := by
  rw [strOfNums_size]
  simp
  omega
/-- The first frame of some bytes: the frame, its length, the code. -/
def getV (l : List Int) : Int × ByteArray × Int × Int × Int :=
  if (l.length : Int) = 0 then (0, ⟨#[]⟩, 0, 0, 1)
  else if rd l 0 = 3 then (3, ⟨#[]⟩, 0, 1, 0)
  else if inB (rd l 0) 1 6 = false then (0, ⟨#[]⟩, 0, 0, 2)
  else if (l.length : Int) < 2 then (0, ⟨#[]⟩, 0, 0, 1)
  else if rd l 0 = 5 then (if inB (rd l 1) 0 2 = true then (5, ⟨#[]⟩, rd l 1, 2, 0) else (0, ⟨#[]⟩, 0, 0, 2))
  else if rd l 1 > 100 then (0, ⟨#[]⟩, 0, 0, 2)
  else if (l.length : Int) < 2 + rd l 1 then (0, ⟨#[]⟩, 0, 0, 1)
  else if frameB (rd l 0) (strOfNums ((l.take (2 + rd l 1).toNat).drop 2)) 0 = true then (rd l 0, strOfNums ((l.take (2 + rd l 1).toNat).drop 2), 0, 2 + rd l 1, 0)
  else (0, ⟨#[]⟩, 0, 0, 2)
theorem empty_toList : (⟨#[]⟩ : ByteArray).toList = [] := by unfold ByteArray.toList; unfold ByteArray.toList.loop; rfl
theorem impl_GetFrame_j0 (l : List Int) (c : Int) (b : Bool) (hl : l.length ≤ 4611686018427387904) (hb : bytesL l) : Ev (fun k => impl_GetFrame.j0 k l 1 b c ⟨#[]⟩ 0)
    (if b = true then (if (l.length : Int) < 2 then (0, ⟨#[]⟩, 0, 0, 1) else if rd l 1 > 100 then (0, ⟨#[]⟩, 0, 0, 2) else if (l.length : Int) < 2 + rd l 1 then (0, ⟨#[]⟩, 0, 0, 1)
      else if frameB c (strOfNums ((l.take (2 + rd l 1).toNat).drop 2)) 0 = true then (c, strOfNums ((l.take (2 + rd l 1).toNat).drop 2), 0, 2 + rd l 1, 0) else (0, ⟨#[]⟩, 0, 0, 2))
     else if frameB c ⟨#[]⟩ 0 = true then (c, ⟨#[]⟩, 0, 1, 0) else (0, ⟨#[]⟩, 0, 0, 2)) := by
  have h1 := rd_byte hb 1
  have w1 : wrap64 (rd l 1) = rd l 1 := w64 (by omega) (by omega)
  have w2 : wrap64 (2 + rd l 1) = 2 + rd l 1 := w64 (by omega) (by omega)
  refine ev_step (fun k => impl_GetFrame.j0.eq_2 ..) ?_
  simp only [w1, w2]
  refine ev_ite (fun c0 => ?_) (fun c0 => ?_)
  · rw [if_pos c0]
    refine ev_ite (fun ca => ?_) (fun ca => ev_pos (by omega) (ev_ite (fun cb => ?_) (fun cb => ev_ite (fun cc => ?_) (fun cc => ev_pos (by omega) (ev_pos (by omega) ?_)))))
    · exact ev_as (ev_now _) (by rw [if_pos ca])
    · exact ev_as (ev_now _) (by rw [if_neg ca, if_pos cb])
    · exact ev_as (ev_now _) (by rw [if_neg ca, if_neg cb, if_pos cc])
    · rw [if_neg ca, if_neg cb, if_neg cc]
      refine ev_bind (impl_FrameOk_ev _ _ _ (Nat.le_trans (strN_size l _) hl)) (ev_ite (fun ck => ?_) (fun ck => ?_))
      · exact ev_as (ev_now _) (by rw [if_pos ck])
      · exact ev_as (ev_now _) (by rw [if_neg ck])
  · rw [if_neg c0]
    refine ev_bind (impl_FrameOk_ev _ _ _ (Nat.zero_le _)) (ev_ite (fun ck => ?_) (fun ck => ?_))
    · exact ev_as (ev_now _) (by rw [if_pos ck])
    · exact ev_as (ev_now _) (by rw [if_neg ck])
theorem impl_GetFrame_ev (l : List Int) (hl : l.length ≤ 4611686018427387904) (hb : bytesL l) : Ev (fun k => impl_GetFrame.f k l) (getV l) := by
  have h0 := rd_byte hb 0
  have h1 := rd_byte hb 1
  have w0 : wrap64 (rd l 0) = rd l 0 := w64 (by omega) (by omega)
  have w1 : wrap64 (rd l 1) = rd l 1 := w64 (by omega) (by omega)
  unfold impl_GetFrame.f getV
  simp only [w0, w1]
  refine ev_ite (fun c => ?_) (fun c => ev_pos (by omega) ?_)
  · exact ev_as (ev_now _) (by rw [if_pos c])
  rw [if_neg c]
  refine ev_ite (fun c3 => ?_) (fun c3 => ?_)
  · rw [c3]
    exact ev_bind (impl_FrameOk_ev 3 ⟨#[]⟩ 0 (Nat.zero_le _)) (ev_pos (by simp [frameB, empty_toList]) (ev_as (ev_now _) (by simp)))
  rw [if_neg c3]
  refine ev_ite (fun c5 => ?_) (fun c5 => ?_)
  · have ci' : ¬ inB (rd l 0) 1 6 = false := by rw [c5]; decide
    rw [if_neg ci', if_pos c5]
    refine ev_ite (fun cl => ?_) (fun cl => ev_pos (by omega) ?_)
    · exact ev_as (ev_now _) (by rw [if_pos cl])
    · refine ev_bind (impl_FrameOk_ev _ ⟨#[]⟩ _ (Nat.zero_le _)) ?_
      have e : frameB (rd l 0) ⟨#[]⟩ (rd l 1) = inB (rd l 1) 0 2 := by simp [frameB, c5, empty_toList]
      rw [e, if_neg cl]
      refine ev_ite (fun ck => ?_) (fun ck => ?_)
      · exact ev_as (ev_now _) (by rw [if_pos ck, c5])
      · exact ev_as (ev_now _) (by rw [if_neg ck])
  rw [if_neg c5]
  have key : ∀ b : Bool, b = decide (rd l 0 = 1 ∨ rd l 0 = 2 ∨ rd l 0 = 4 ∨ rd l 0 = 6) → Ev (fun k => impl_GetFrame.j0 k l 1 b (rd l 0) ⟨#[]⟩ 0) (if inB (rd l 0) 1 6 = false then (0, ⟨#[]⟩, 0, 0, 2)
      else if (l.length : Int) < 2 then (0, ⟨#[]⟩, 0, 0, 1)
      else if rd l 1 > 100 then (0, ⟨#[]⟩, 0, 0, 2)
      else if (l.length : Int) < 2 + rd l 1 then (0, ⟨#[]⟩, 0, 0, 1)
      else if frameB (rd l 0) (strOfNums ((l.take (2 + rd l 1).toNat).drop 2)) 0 = true then (rd l 0, strOfNums ((l.take (2 + rd l 1).toNat).drop 2), 0, 2 + rd l 1, 0)
      else (0, ⟨#[]⟩, 0, 0, 2)) := by
    intro b hb2
    refine ev_as (impl_GetFrame_j0 l (rd l 0) b hl hb) ?_
    by_cases ci : inB (rd l 0) 1 6 = false
    · have hh := (inB_false _ _ _).1 ci
      have hbf : b = false := by rw [hb2]; exact decide_eq_false (by omega)
      have hf : frameB (rd l 0) ⟨#[]⟩ 0 = false := by
        unfold frameB
        rw [if_neg (by omega), if_neg (by omega), if_neg (by omega), if_neg (by omega)]
      simp [ci, hbf, hf]
    · have hh := (inB_iff (rd l 0) 1 6).1 (by simpa using ci)
      have hbt : b = true := by rw [hb2]; exact decide_eq_true (by omega)
      rw [if_pos hbt, if_neg ci]
  refine ev_ite (fun d1 => ?_) (fun d1 => ev_ite (fun d2 => ?_) (fun d2 => ev_ite (fun d4 => ?_) (fun d4 => ?_)))
  · exact key _ (by simp [d1])
  · exact key _ (by simp [d2])
  · exact key _ (by simp [d4])
  · exact key _ (by simp [d1, d2, d4]; rfl)

/-! ### spec_l1Bytes -/
theorem spec_l1Bytes_l0 (b : List Int) (hb : b.length ≤ 4611686018427387904) (n : Int) (hn : n ≤ 1000) (d : Nat) : ∀ (l : List Int) (j i h : Int), n ≤ j + d → 0 ≤ j → l.length + d ≤ 1000 → bytesL l → curB b i → ∃ l' i' h', Ev (fun k => spec_l1Bytes.l0 k n l j b i h) (l', i', h') ∧ bytesL l' ∧ l'.length ≤ 1000 ∧ curB b i' := by
  induction d with
  | zero =>
    intro l j i h hd h0 hl hbl hc
    exact ⟨_, _, _, ev_step (fun k => spec_l1Bytes.l0.eq_2 ..) (ev_neg (by omega) (ev_now _)), hbl, by omega, hc⟩
  | succ d ih =>
    intro l j i h hd h0 hl hbl hc
    by_cases c : j < n
    · obtain ⟨v, i1, h1, e1, v0, v1, c1⟩ := spec_l1Byte_some b i h hc hb
      obtain ⟨l', i2, h2, e2, b2, s2, c2⟩ := ih (l ++ [v % 256]) (j + 1) i1 h1 (by omega) (by omega) (by rw [List.length_append, List.length_cons, List.length_nil]; omega) (fun x hx => by
        rcases List.mem_append.1 hx with hx | hx
        · exact hbl x hx
        · rw [List.mem_singleton] at hx; omega) c1
      refine ⟨l', i2, h2, ev_step (fun k => spec_l1Bytes.l0.eq_2 ..) (ev_pos c (ev_bind1 e1 (ev_pos (by omega) ?_))), b2, s2, c2⟩
      rw [w64 (by omega) (by omega)]
      exact e2
    · exact ⟨_, _, _, ev_step (fun k => spec_l1Bytes.l0.eq_2 ..) (ev_neg c (ev_now _)), hbl, by omega, hc⟩
theorem spec_l1Bytes_some (b : List Int) (i h n : Int) (hn : n ≤ 1000) (hc : curB b i) (hb : b.length ≤ 4611686018427387904) : ∃ l i' h', Ev (fun k => spec_l1Bytes.f k b i h n) (l, i', h') ∧ bytesL l ∧ l.length ≤ 1000 ∧ curB b i' :=
  spec_l1Bytes_l0 b hb n hn n.toNat [] 0 i h (by omega) (by omega) (by simp; omega) (fun _ hx => by cases hx) hc

/-! ### spec_l1Once -/
theorem spec_l1Once_some (b : List Int) (i h n : Int) (hc : curB b i) (hb : b.length ≤ 4611686018427387904) : ∃ v i' h', spec_l1Once.f b i h n = some (v, i', h') ∧ curB b i' := by
  obtain ⟨v, i1, h1, e1, _, _, c1⟩ := spec_l1Below_some b i h n hc hb
  unfold spec_l1Once.f
  rw [e1, Option.bind_some]
  exact ⟨_, _, _, rfl, c1⟩

/-! ### spec_l1Str -/
theorem spec_l1Str_some (b : List Int) (i h : Int) (l : List ByteArray) (hl : 0 < l.length) (hc : curB b i) (hb : b.length ≤ 4611686018427387904) : ∃ v i' h', spec_l1Str.f b i h l = some (v, i', h') ∧ v ∈ l ∧ curB b i' := by
  obtain ⟨v, i1, h1, e1, r1, _, c1⟩ := spec_l1Below_some b i h (l.length : Int) hc hb
  have r := r1 (by omega)
  unfold spec_l1Str.f
  rw [e1, Option.bind_some]
  dsimp only
  rw [if_pos r.1, if_pos r.2]
  refine ⟨_, _, _, rfl, ?_, c1⟩
  obtain ⟨m, rfl⟩ := Int.eq_ofNat_of_zero_le r.1
  rw [rdOf_nth ByteArray.empty l m (by omega)]
  exact List.getElem_mem _

/-! ### spec_l6Draw -/
theorem spec_l6Draw_j0 (b : List Int) (x9 : Int) (c : Bool) (i h k : Int) (t : ByteArray) (s : Int) (ht : t.size ≤ 101) (hc : curB b i) (hb : b.length ≤ 4611686018427387904) : ∃ k' t' s' i' h', Ev (fun n => spec_l6Draw.j0 n x9 c b i h k t s) (k', t', s', i', h') ∧ t'.size ≤ 101 ∧ curB b i' := by
  by_cases c1 : c = true
  · obtain ⟨v, i1, h1, e1, m1, k1⟩ := spec_l1Str_some b i h [(⟨#[]⟩ : ByteArray), (⟨#[97]⟩ : ByteArray), (⟨#[102, 117, 108, 108]⟩ : ByteArray), (⟨#[111, 110, 101]⟩ : ByteArray)] (by simp) hc hb
    have all : ∀ x ∈ [(⟨#[]⟩ : ByteArray), (⟨#[97]⟩ : ByteArray), (⟨#[102, 117, 108, 108]⟩ : ByteArray), (⟨#[111, 110, 101]⟩ : ByteArray)], x.size ≤ 101 := by decide
    exact ⟨_, _, _, _, _, ev_step (fun n => spec_l6Draw.j0.eq_2 ..) (ev_pos c1 (ev_bind1 e1 (ev_now _))), all v m1, k1⟩
  · by_cases c2 : x9 = 5
    · obtain ⟨v, i1, h1, e1, _, _, k1⟩ := spec_l1Below_some b i h 3 hc hb
      exact ⟨_, _, _, _, _, ev_step (fun n => spec_l6Draw.j0.eq_2 ..) (ev_neg c1 (ev_pos c2 (ev_bind1 e1 (ev_now _)))), ht, k1⟩
    · exact ⟨_, _, _, _, _, ev_step (fun n => spec_l6Draw.j0.eq_2 ..) (ev_neg c1 (ev_neg c2 (ev_now _))), ht, hc⟩
theorem spec_l6Draw_some (b : List Int) (i h : Int) (hc : curB b i) (hb : b.length ≤ 4611686018427387904) : ∃ k t s i' h', Ev (fun n => spec_l6Draw.f n b i h) (k, t, s, i', h') ∧ t.size ≤ 101 ∧ curB b i' := by
  unfold spec_l6Draw.f
  obtain ⟨v, i1, h1, e1, _, _, c1⟩ := spec_l1Below_some b i h 6 hc hb
  by_cases d1 : wrap64 (1 + v) = 1
  · obtain ⟨t, i2, h2, e2, m2, c2⟩ := spec_l1Str_some b i1 h1 [(⟨#[109, 97, 105, 110]⟩ : ByteArray), (⟨#[108, 111, 103, 115]⟩ : ByteArray), (⟨#[120]⟩ : ByteArray), (⟨#[97, 100, 109, 105, 110]⟩ : ByteArray)] (by simp) c1 hb
    have all : ∀ x ∈ [(⟨#[109, 97, 105, 110]⟩ : ByteArray), (⟨#[108, 111, 103, 115]⟩ : ByteArray), (⟨#[120]⟩ : ByteArray), (⟨#[97, 100, 109, 105, 110]⟩ : ByteArray)], x.size ≤ 101 := by decide
    exact ⟨_, _, _, _, _, ev_bind1 e1 (ev_pos d1 (ev_bind1 e2 (ev_now _))), all t m2, c2⟩
  by_cases d2 : wrap64 (1 + v) = 2
  · obtain ⟨t, i2, h2, e2, m2, c2⟩ := spec_l1Str_some b i1 h1 [(⟨#[98, 101, 103, 105, 110]⟩ : ByteArray), (⟨#[99, 111, 109, 109, 105, 116]⟩ : ByteArray), (⟨#[114, 111, 108, 108, 98, 97, 99, 107]⟩ : ByteArray), (⟨#[102, 97, 105, 108]⟩ : ByteArray), (⟨#[111, 110, 101]⟩ : ByteArray), (⟨#[116, 119, 111]⟩ : ByteArray), (⟨#[]⟩ : ByteArray)] (by simp) c1 hb
    have all : ∀ x ∈ [(⟨#[98, 101, 103, 105, 110]⟩ : ByteArray), (⟨#[99, 111, 109, 109, 105, 116]⟩ : ByteArray), (⟨#[114, 111, 108, 108, 98, 97, 99, 107]⟩ : ByteArray), (⟨#[102, 97, 105, 108]⟩ : ByteArray), (⟨#[111, 110, 101]⟩ : ByteArray), (⟨#[116, 119, 111]⟩ : ByteArray), (⟨#[]⟩ : ByteArray)], x.size ≤ 101 := by decide
    exact ⟨_, _, _, _, _, ev_bind1 e1 (ev_neg d1 (ev_pos d2 (ev_bind1 e2 (ev_now _)))), all t m2, c2⟩
  by_cases d4 : wrap64 (1 + v) = 4
  · obtain ⟨k, t, s, i2, h2, e2, s2, c2⟩ := spec_l6Draw_j0 b (wrap64 (1 + v)) (wrap64 (1 + v) == 4) i1 h1 (wrap64 (1 + v)) (⟨#[]⟩ : ByteArray) 0 (by decide) c1 hb
    exact ⟨_, _, _, _, _, ev_bind1 e1 (ev_neg d1 (ev_neg d2 (ev_pos d4 e2))), s2, c2⟩
  · obtain ⟨k, t, s, i2, h2, e2, s2, c2⟩ := spec_l6Draw_j0 b (wrap64 (1 + v)) (wrap64 (1 + v) == 6) i1 h1 (wrap64 (1 + v)) (⟨#[]⟩ : ByteArray) 0 (by decide) c1 hb
    exact ⟨_, _, _, _, _, ev_bind1 e1 (ev_neg d1 (ev_neg d2 (ev_neg d4 e2))), s2, c2⟩

/-! ### spec_PutText -/
/-- Bytes with a text behind them, if it is one that may stand there. -/
def putTextV (l : List Int) (s : ByteArray) : List Int := if textB s = true then (l ++ [(s.size : Int) % 256]) ++ bytesOf s else l
theorem textB_size (s : ByteArray) (h : textB s = true) : s.size ≤ 100 := by
  unfold textB at h
  rw [Bool.and_eq_true] at h
  have := of_decide_eq_true h.2
  omega
theorem putTextV_len (l : List Int) (s : ByteArray) : (putTextV l s).length ≤ l.length + 101 := by
  unfold putTextV
  split
  · rename_i h
    have := textB_size s h
    rw [List.length_append, List.length_append, bytesOf_length]
    simp only [List.length_cons, List.length_nil]
    omega
  · omega
theorem putTextV_ge (l : List Int) (s : ByteArray) : l.length ≤ (putTextV l s).length := by
  unfold putTextV
  split
  · rw [List.length_append, List.length_append]
    omega
  · omega
theorem spec_PutText_ev (l : List Int) (s : ByteArray) (hl : l.length ≤ 1000000000000) (hs : s.size ≤ 1000000000000) : Ev (fun k => spec_PutText.f k l s) (putTextV l s) := by
  unfold spec_PutText.f putTextV
  simp only [Option.bind_some, List.nil_append, List.length_nil]
  refine ev_pos (by omega) (ev_bind (spec_TextOk_ev s (by omega)) (ev_ite (fun c => ?_) (fun c => ?_)))
  · exact ev_pos (by omega) (ev_pos (by rw [List.length_append]; simp only [List.length_cons, List.length_nil]; omega) (ev_as (ev_now _) (by rw [if_pos c])))
  · exact ev_as (ev_now _) (by rw [if_neg c])

/-! ### spec_PutFrame -/
/-- The bytes of a frame. -/
def putFrameV (k : Int) (t : ByteArray) (s : Int) : List Int := if frameB k t s = true then (if k = 5 then [k % 256] ++ [s % 256] else if k = 3 then [k % 256] else putTextV [k % 256] t) else []
theorem putFrameV_len (k : Int) (t : ByteArray) (s : Int) : (putFrameV k t s).length ≤ 102 := by
  have := putTextV_len [k % 256] t
  simp only [List.length_cons, List.length_nil] at this
  unfold putFrameV
  split
  · split
    · simp
    · split
      · simp
      · omega
  · simp
theorem spec_PutFrame_ev (k : Int) (t : ByteArray) (s : Int) (ht : t.size ≤ 1000000000000) : Ev (fun n => spec_PutFrame.f n k t s) (putFrameV k t s) := by
  unfold spec_PutFrame.f putFrameV
  simp only [Option.bind_some, List.length_cons, List.length_nil]
  refine ev_bind (spec_FrameOk_ev k t s (by omega)) (ev_ite (fun c => ?_) (fun c => ?_))
  · refine ev_ite (fun c1 => ev_pos (by omega) ?_) (fun c1 => ev_ite (fun c2 => ?_) (fun c2 => ?_))
    · exact ev_as (ev_now _) (by rw [if_pos c, if_pos c1])
    · exact ev_as (ev_now _) (by rw [if_pos c, if_neg c1, if_pos c2])
    · exact ev_bind (spec_PutText_ev [k % 256] t (by simp) ht) (ev_as (ev_now _) (by rw [if_pos c, if_neg c1, if_neg c2]))
  · exact ev_as (ev_now _) (by rw [if_neg c])

/-! ### spec_l1Bend -/
theorem u8_xor_in (a c : Int) : 0 ≤ Go.bits .xor .u8 a c ∧ Go.bits .xor .u8 a c < 256 := by
  show 0 ≤ IntKind.u8.wrap _ ∧ IntKind.u8.wrap _ < 256
  rw [IntKind.wrap_u8]
  omega
theorem spec_l1Bend_some (b : List Int) (i h : Int) (l : List Int) (hl : l.length ≤ 1000) (hbl : bytesL l) (hc : curB b i) (hb : b.length ≤ 4611686018427387904) : ∃ l' i' h', spec_l1Bend.f b i h l = some (l', i', h') ∧ bytesL l' ∧ l'.length ≤ 1001 ∧ curB b i' := by
  unfold spec_l1Bend.f
  simp only [Option.bind_some, List.nil_append, List.length_nil]
  rw [if_pos (by omega)]
  obtain ⟨v, i1, h1, e1, _, _, c1⟩ := spec_l1Below_some b i h 8 hc hb
  rw [e1, Option.bind_some]
  dsimp only
  by_cases d0 : v = 0
  · rw [if_pos d0]
    by_cases z : (l.length : Int) > 0
    · rw [if_pos z]
      obtain ⟨j, i2, h2, e2, r2, _, c2⟩ := spec_l1Below_some b i1 h1 (l.length : Int) c1 hb
      have r := r2 (by omega)
      rw [e2, Option.bind_some]
      dsimp only
      rw [if_pos r.1, if_pos r.2]
      obtain ⟨x, i3, h3, e3, _, _, c3⟩ := spec_l1Below_some b i2 h2 255 c2 hb
      rw [e3, Option.bind_some]
      refine ⟨_, _, _, rfl, fun y hy => ?_, by rw [List.length_set]; omega, c3⟩
      rcases List.mem_or_eq_of_mem_set hy with hy | rfl
      · exact hbl y hy
      · exact u8_xor_in _ _
    · rw [if_neg z]
      exact ⟨_, _, _, rfl, hbl, by omega, c1⟩
  rw [if_neg d0]
  by_cases d1 : v = 1
  · rw [if_pos d1]
    by_cases z : (l.length : Int) > 0
    · rw [if_pos z]
      obtain ⟨j, i2, h2, e2, r2, _, c2⟩ := spec_l1Below_some b i1 h1 (l.length : Int) c1 hb
      have r := r2 (by omega)
      rw [e2, Option.bind_some]
      dsimp only
      rw [if_pos r.1, if_pos (by omega)]
      exact ⟨_, _, _, rfl, fun y hy => hbl y (List.mem_of_mem_take hy), by rw [List.length_take]; omega, c2⟩
    · rw [if_neg z]
      exact ⟨_, _, _, rfl, hbl, by omega, c1⟩
  rw [if_neg d1]
  by_cases d2 : v = 2
  · rw [if_pos d2]
    obtain ⟨x, i2, h2, e2, x0, x1, c2⟩ := spec_l1Byte_some b i1 h1 c1 hb
    rw [e2, Option.bind_some]
    dsimp only
    rw [if_pos (by omega)]
    refine ⟨_, _, _, rfl, fun y hy => ?_, by rw [List.length_append, List.length_cons, List.length_nil]; omega, c2⟩
    rcases List.mem_append.1 hy with hy | hy
    · exact hbl y hy
    · rw [List.mem_singleton] at hy; omega
  · rw [if_neg d2]
    exact ⟨_, _, _, rfl, hbl, by omega, c1⟩

/-! ### spec_l6Bytes -/
theorem bytesOf_L (s : ByteArray) : bytesL (bytesOf s) := by
  intro x hx
  unfold bytesOf at hx
  obtain ⟨c, _, rfl⟩ := List.mem_map.1 hx
  have := c.toNat_lt
  omega
theorem putFrameV_L (k : Int) (t : ByteArray) (s : Int) : bytesL (putFrameV k t s) := by
  intro x hx
  unfold putFrameV at hx
  split at hx
  · split at hx
    · simp only [List.cons_append, List.nil_append, List.mem_cons, List.not_mem_nil, or_false] at hx
      rcases hx with rfl | rfl <;> omega
    · split at hx
      · rw [List.mem_singleton] at hx; omega
      · unfold putTextV at hx
        split at hx
        · rcases List.mem_append.1 hx with hx | hx
          · simp only [List.cons_append, List.nil_append, List.mem_cons, List.not_mem_nil, or_false] at hx
            rcases hx with rfl | rfl <;> omega
          · exact bytesOf_L t x hx
        · rw [List.mem_singleton] at hx; omega
  · cases hx
theorem spec_l6Bytes_some (b : List Int) (i h : Int) (hc : curB b i) (hb : b.length ≤ 4611686018427387904) : ∃ l i' h', Ev (fun k => spec_l6Bytes.f k b i h) (l, i', h') ∧ bytesL l ∧ l.length ≤ 1001 ∧ curB b i' := by
  unfold spec_l6Bytes.f
  obtain ⟨k, t, s, i1, h1, e1, s1, c1⟩ := spec_l6Draw_some b i h hc hb
  obtain ⟨o, i2, h2, e2, c2⟩ := spec_l1Once_some b i1 h1 6 c1 hb
  by_cases c : o = true
  · obtain ⟨n, i3, h3, e3, r3, z3, c3⟩ := spec_l1Below_some b i2 h2 4 c2 hb
    have r := r3 (by omega)
    obtain ⟨l, i4, h4, e4, b4, s4, c4⟩ := spec_l1Bytes_some b i3 h3 n (by omega) c3 hb
    exact ⟨_, _, _, ev_bind e1 (ev_bind (spec_PutFrame_ev k t s (by omega)) (ev_bind1 e2 (ev_pos c (ev_bind1 e3 (ev_bind e4 (ev_now _)))))), b4, (by show l.length ≤ _; omega), c4⟩
  · obtain ⟨l, i3, h3, e3, b3, s3, c3⟩ := spec_l1Bend_some b i2 h2 (putFrameV k t s) (by have := putFrameV_len k t s; omega) (putFrameV_L k t s) c2 hb
    exact ⟨_, _, _, ev_bind e1 (ev_bind (spec_PutFrame_ev k t s (by omega)) (ev_bind1 e2 (ev_neg c (ev_bind1 e3 (ev_now _))))), b3, s3, c3⟩

/-! ### spec_l8Draw -/
theorem spec_l8Draw_l1 (b : List Int) (hb : b.length ≤ 4611686018427387904) (d : Nat) : ∀ (x0 x1 x2 : Int) (x3 : Bool) (l4 l5 : List Int) (x6 x7 i h : Int), d ≤ 3 → l5.length + 102 * d ≤ 2000 → bytesL l5 → curB b i → ∃ l5' x6' x7' i' h', Ev (fun k => spec_l8Draw.l1 k (d : Int) b i h x0 x1 x2 x3 l4 l5 x6 x7) (x0, x1, x2, x3, l4, l5', x6', x7', i', h') ∧ bytesL l5' ∧ l5'.length ≤ 2000 ∧ curB b i' := by
  induction d with
  | zero =>
    intro x0 x1 x2 x3 l4 l5 x6 x7 i h _ hl hbl hc
    by_cases c : x1 = 2
    · obtain ⟨v, i1, h1, e1, _, _, c1⟩ := spec_l1Below_some b i h 3 hc hb
      exact ⟨_, _, _, _, _, ev_step (fun k => spec_l8Draw.l1.eq_2 ..) (ev_neg (by omega) (ev_pos c (ev_bind1 e1 (ev_now _)))), hbl, by omega, c1⟩
    · exact ⟨_, _, _, _, _, ev_step (fun k => spec_l8Draw.l1.eq_2 ..) (ev_neg (by omega) (ev_neg c (ev_now _))), hbl, by omega, hc⟩
  | succ d ih =>
    intro x0 x1 x2 x3 l4 l5 x6 x7 i h hd hl hbl hc
    obtain ⟨k, t, s, i1, h1, e1, s1, c1⟩ := spec_l6Draw_some b i h hc hb
    have hp := putFrameV_len k t s
    have hw : wrap64 (((d + 1 : Nat) : Int) - 1) = (d : Int) := by rw [w64 (by omega) (by omega)]; omega
    have hbl' : bytesL (l5 ++ putFrameV k t s) := fun x hx => by
      rcases List.mem_append.1 hx with hx | hx
      · exact hbl x hx
      · exact putFrameV_L k t s x hx
    have hl' : (l5 ++ putFrameV k t s).length + 102 * d ≤ 2000 := by rw [List.length_append]; omega
    by_cases c : x1 = 2
    · obtain ⟨v, i2, h2, e2, c2⟩ := spec_l1Once_some b i1 h1 3 c1 hb
      by_cases cv : v = true
      · obtain ⟨l5', x6', x7', i3, h3, e3, b3, s3, c3⟩ := ih x0 x1 x2 x3 l4 (l5 ++ putFrameV k t s) x6 ((l5 ++ putFrameV k t s).length : Int) i2 h2 (by omega) hl' hbl' c2
        refine ⟨l5', x6', x7', i3, h3, ev_step (fun k => spec_l8Draw.l1.eq_2 ..) (ev_pos (by omega) (ev_bind e1 (ev_bind (spec_PutFrame_ev k t s (by omega)) (ev_pos (by omega) (ev_bind1 rfl (ev_pos c (ev_bind1 e2 (ev_pos cv ?_)))))))), b3, s3, c3⟩
        rw [hw]
        exact e3
      · obtain ⟨l5', x6', x7', i3, h3, e3, b3, s3, c3⟩ := ih x0 x1 x2 x3 l4 (l5 ++ putFrameV k t s) x6 x7 i2 h2 (by omega) hl' hbl' c2
        refine ⟨l5', x6', x7', i3, h3, ev_step (fun k => spec_l8Draw.l1.eq_2 ..) (ev_pos (by omega) (ev_bind e1 (ev_bind (spec_PutFrame_ev k t s (by omega)) (ev_pos (by omega) (ev_bind1 rfl (ev_pos c (ev_bind1 e2 (ev_neg cv ?_)))))))), b3, s3, c3⟩
        rw [hw]
        exact e3
    · obtain ⟨l5', x6', x7', i3, h3, e3, b3, s3, c3⟩ := ih x0 x1 x2 x3 l4 (l5 ++ putFrameV k t s) x6 x7 i1 h1 (by omega) hl' hbl' c1
      refine ⟨l5', x6', x7', i3, h3, ev_step (fun k => spec_l8Draw.l1.eq_2 ..) (ev_pos (by omega) (ev_bind e1 (ev_bind (spec_PutFrame_ev k t s (by omega)) (ev_pos (by omega) (ev_bind1 rfl (ev_neg c ?_)))))), b3, s3, c3⟩
      rw [hw]
      exact e3
theorem spec_l8Draw_j1 (b : List Int) (hb : b.length ≤ 4611686018427387904) (x0 x1 x2 : Int) (x3 : Bool) (l4 : List Int) (x6 x7 i h : Int) (hc : curB b i) : ∃ l5' x6' x7' i' h', Ev (fun k => spec_l8Draw.j1 k b i h x0 x1 x2 x3 l4 x6 x7) (x0, x1, x2, x3, l4, l5', x6', x7', i', h') ∧ bytesL l5' ∧ l5'.length ≤ 2000 ∧ curB b i' := by
  obtain ⟨v, i1, h1, e1, v1, _, c1⟩ := spec_l1Below_some b i h 4 hc hb
  have hv := v1 (by omega)
  obtain ⟨d, rfl⟩ := Int.eq_ofNat_of_zero_le hv.1
  obtain ⟨l5', x6', x7', i2, h2, e2, b2, s2, c2⟩ := spec_l8Draw_l1 b hb d x0 x1 x2 x3 l4 [] x6 x7 i1 h1 (by omega) (by simp only [List.length_nil]; omega) (fun _ hx => by cases hx) c1
  exact ⟨_, _, _, _, _, ev_step (fun k => spec_l8Draw.j1.eq_2 ..) (ev_bind1 e1 e2), b2, s2, c2⟩
theorem spec_l8Draw_l0 (b : List Int) (hb : b.length ≤ 4611686018427387904) (d : Nat) : ∀ (x0 x1 x2 : Int) (x3 : Bool) (l4 : List Int) (x6 x7 i h : Int), d ≤ 3 → l4.length + 102 * d ≤ 2000 → bytesL l4 → curB b i → ∃ l4' l5' x6' x7' i' h', Ev (fun k => spec_l8Draw.l0 k (d : Int) b i h x0 x1 x2 x3 l4 x6 x7) (x0, x1, x2, x3, l4', l5', x6', x7', i', h') ∧ bytesL l4' ∧ l4'.length ≤ 4000 ∧ bytesL l5' ∧ l5'.length ≤ 2000 ∧ curB b i' := by
  induction d with
  | zero =>
    intro x0 x1 x2 x3 l4 x6 x7 i h _ hl hbl hc
    obtain ⟨v, i1, h1, e1, c1⟩ := spec_l1Once_some b i h 4 hc hb
    by_cases cv : v = true
    · obtain ⟨q, i2, h2, e2, b2, s2, c2⟩ := spec_l6Bytes_some b i1 h1 c1 hb
      obtain ⟨l5', x6', x7', i3, h3, e3, b3, s3, c3⟩ := spec_l8Draw_j1 b hb x0 x1 x2 x3 (l4 ++ q) x6 x7 i2 h2 c2
      exact ⟨_, _, _, _, _, _, ev_step (fun k => spec_l8Draw.l0.eq_2 ..) (ev_neg (by omega) (ev_bind1 e1 (ev_pos cv (ev_bind e2 (ev_pos (by show l4.length + q.length < _; omega) e3))))), fun x hx => by
        rcases List.mem_append.1 hx with hx | hx
        · exact hbl x hx
        · exact b2 x hx, by rw [List.length_append]; omega, b3, s3, c3⟩
    · obtain ⟨l5', x6', x7', i3, h3, e3, b3, s3, c3⟩ := spec_l8Draw_j1 b hb x0 x1 x2 x3 l4 x6 x7 i1 h1 c1
      exact ⟨_, _, _, _, _, _, ev_step (fun k => spec_l8Draw.l0.eq_2 ..) (ev_neg (by omega) (ev_bind1 e1 (ev_neg cv e3))), hbl, by omega, b3, s3, c3⟩
  | succ d ih =>
    intro x0 x1 x2 x3 l4 x6 x7 i h hd hl hbl hc
    obtain ⟨k, t, s, i1, h1, e1, s1, c1⟩ := spec_l6Draw_some b i h hc hb
    have hp := putFrameV_len k t s
    have hw : wrap64 (((d + 1 : Nat) : Int) - 1) = (d : Int) := by rw [w64 (by omega) (by omega)]; omega
    have hbl' : bytesL (l4 ++ putFrameV k t s) := fun x hx => by
      rcases List.mem_append.1 hx with hx | hx
      · exact hbl x hx
      · exact putFrameV_L k t s x hx
    obtain ⟨l4', l5', x6', x7', i3, h3, e3, g3⟩ := ih x0 x1 x2 x3 (l4 ++ putFrameV k t s) x6 x7 i1 h1 (by omega) (by rw [List.length_append]; omega) hbl' c1
    refine ⟨l4', l5', x6', x7', i3, h3, ev_step (fun k => spec_l8Draw.l0.eq_2 ..) (ev_pos (by omega) (ev_bind e1 (ev_bind (spec_PutFrame_ev k t s (by omega)) (ev_pos (by omega) ?_)))), g3⟩
    rw [hw]
    exact e3
def drawnS (x : S41) : Prop := bytesL x.f4 ∧ x.f4.length ≤ 4000 ∧ bytesL x.f5 ∧ x.f5.length ≤ 2000
theorem spec_l8Draw_some (b : List Int) (i h : Int) (hc : curB b i) (hb : b.length ≤ 4611686018427387904) : ∃ (x : S41) (i' h' : Int), Ev (fun k => spec_l8Draw.f k b i h) (x.f0, x.f1, x.f2, x.f3, x.f4, x.f5, x.f6, x.f7, i', h') ∧ drawnS x ∧ curB b i' := by
  unfold spec_l8Draw.f
  obtain ⟨v1, i1, h1, e1, _, _, c1⟩ := spec_l1Below_some b i h 9 hc hb
  obtain ⟨v2, i2, h2, e2, _, _, c2⟩ := spec_l1Below_some b i1 h1 2 c1 hb
  obtain ⟨v3, i3, h3, e3, _, _, c3⟩ := spec_l1Below_some b i2 h2 3 c2 hb
  obtain ⟨v4, i4, h4, e4, c4⟩ := spec_l1Once_some b i3 h3 6 c3 hb
  obtain ⟨v5, i5, h5, e5, w5, _, c5⟩ := spec_l1Below_some b i4 h4 4 c4 hb
  have hv := w5 (by omega)
  obtain ⟨d, rfl⟩ := Int.eq_ofNat_of_zero_le hv.1
  obtain ⟨l4', l5', x6', x7', i6, h6, e6, b4, s4, b5, s5, c6⟩ := spec_l8Draw_l0 b hb d (wrap64 (1 + v1)) (wrap64 (1 + v2)) (wrap64 (1 + v3)) v4 [] 0 0 i5 h5 (by omega) (by simp only [List.length_nil]; omega) (fun _ hx => by cases hx) c5
  exact ⟨⟨wrap64 (1 + v1), wrap64 (1 + v2), wrap64 (1 + v3), v4, l4', l5', x6', x7'⟩, i6, h6, ev_bind1 e1 (ev_bind1 e2 (ev_bind1 e3 (ev_bind1 e4 (ev_bind1 e5 e6)))), ⟨b4, s4, b5, s5⟩, c6⟩

/-! ### spec_l8Any -/
theorem spec_l8Any_some (b : List Int) (i h : Int) (hc : curB b i) (hb : b.length ≤ 4611686018427387904) : ∃ (x : S41) (i' h' : Int), Ev (fun k => spec_l8Any.f k b i h) (x.f0, x.f1, x.f2, x.f3, x.f4, x.f5, x.f6, x.f7, i', h') ∧ drawnS x ∧ curB b i' := by
  unfold spec_l8Any.f
  obtain ⟨x, i1, h1, e1, g1, c1⟩ := spec_l8Draw_some b i h hc hb
  obtain ⟨v, i2, h2, e2, _, _, c2⟩ := spec_l1Below_some b i1 h1 16 c1 hb
  by_cases d0 : v = 0
  · obtain ⟨a, i3, h3, e3, _, c3⟩ := spec_l1Int_some b i2 h2 [0, 9999, 10000] (by simp) c2 hb
    exact ⟨⟨a, x.f1, x.f2, x.f3, x.f4, x.f5, x.f6, x.f7⟩, _, _, ev_bind e1 (ev_bind1 e2 (ev_pos d0 (ev_bind1 e3 (ev_now _)))), g1, c3⟩
  by_cases d1 : v = 1
  · obtain ⟨a, i3, h3, e3, _, c3⟩ := spec_l1Int_some b i2 h2 [0, 1, 2, 3] (by simp) c2 hb
    exact ⟨⟨x.f0, a, x.f2, x.f3, x.f4, x.f5, x.f6, x.f7⟩, _, _, ev_bind e1 (ev_bind1 e2 (ev_neg d0 (ev_pos d1 (ev_bind1 e3 (ev_now _))))), g1, c3⟩
  by_cases d2 : v = 2
  · obtain ⟨a, i3, h3, e3, _, c3⟩ := spec_l1Int_some b i2 h2 [0, 4] (by simp) c2 hb
    exact ⟨⟨x.f0, x.f1, a, x.f3, x.f4, x.f5, x.f6, x.f7⟩, _, _, ev_bind e1 (ev_bind1 e2 (ev_neg d0 (ev_neg d1 (ev_pos d2 (ev_bind1 e3 (ev_now _)))))), g1, c3⟩
  by_cases d3 : v = 3
  · obtain ⟨a, i3, h3, e3, _, c3⟩ := spec_l1Int_some b i2 h2 [(-1), 1, 3] (by simp) c2 hb
    exact ⟨⟨x.f0, x.f1, x.f2, x.f3, x.f4, x.f5, a, x.f7⟩, _, _, ev_bind e1 (ev_bind1 e2 (ev_neg d0 (ev_neg d1 (ev_neg d2 (ev_pos d3 (ev_bind1 e3 (ev_now _))))))), g1, c3⟩
  by_cases d4 : v = 4
  · obtain ⟨a, i3, h3, e3, _, c3⟩ := spec_l1Int_some b i2 h2 [(-1), 1, 900] (by simp) c2 hb
    exact ⟨⟨x.f0, x.f1, x.f2, x.f3, x.f4, x.f5, x.f6, a⟩, _, _, ev_bind e1 (ev_bind1 e2 (ev_neg d0 (ev_neg d1 (ev_neg d2 (ev_neg d3 (ev_pos d4 (ev_bind1 e3 (ev_now _)))))))), g1, c3⟩
  by_cases d5 : v = 5
  · obtain ⟨a, i3, h3, e3, m3, c3⟩ := spec_l1Int_some b i2 h2 [238, 239, 240, 241] (by simp) c2 hb
    have ha : a ≤ 1000 := by
      have all : ∀ z ∈ ([238, 239, 240, 241] : List Int), z ≤ 1000 := by decide
      exact all a m3
    obtain ⟨q, i4, h4, e4, b4, s4, c4⟩ := spec_l1Bytes_some b i3 h3 a ha c3 hb
    exact ⟨⟨x.f0, x.f1, x.f2, x.f3, q, x.f5, x.f6, x.f7⟩, _, _, ev_bind e1 (ev_bind1 e2 (ev_neg d0 (ev_neg d1 (ev_neg d2 (ev_neg d3 (ev_neg d4 (ev_pos d5 (ev_bind1 e3 (ev_bind e4 (ev_now _)))))))))), ⟨b4, by show q.length ≤ 4000; omega, g1.2.2.1, g1.2.2.2⟩, c4⟩
  exact ⟨x, _, _, ev_bind e1 (ev_bind1 e2 (ev_neg d0 (ev_neg d1 (ev_neg d2 (ev_neg d3 (ev_neg d4 (ev_neg d5 (ev_now _)))))))), g1, c2⟩

/-! ### spec_DrawHear -/
theorem spec_DrawHear_some (b : List Int) (hb : b.length ≤ 4611686018427387904) : ∃ (x : S41) (l : List Int), Ev (fun k => spec_DrawHear.f k b) (x.f0, x.f1, x.f2, x.f3, x.f4, x.f5, x.f6, x.f7, l) ∧ drawnS x ∧ l.length ≤ 1000 := by
  unfold spec_DrawHear.f
  obtain ⟨h, e0⟩ := spec_l1New_some b hb
  obtain ⟨x, i1, h1, e1, o1, c1⟩ := spec_l8Any_some b 0 h ⟨by omega, by omega⟩ hb
  obtain ⟨v, i2, h2, e2, g2, c2⟩ := spec_l1Int_some b i1 h1 [0, 1, 2, 3, 240] (by simp) c1 hb
  obtain ⟨l, i3, h3, e3, _, l3, _⟩ := spec_l1Bytes_some b i2 h2 v (by simp at g2; omega) c2 hb
  exact ⟨x, l, ev_bind e0 (ev_bind e1 (ev_bind1 e2 (ev_bind e3 (ev_now _)))), o1, l3⟩

/-! ### impl_sockIdOk -/
theorem impl_sockIdOk_eq (a : Int) : impl_sockIdOk.f a = some (inB a 1 9999) := by
  unfold impl_sockIdOk.f
  rw [impl_isIn_eq]
  rfl

/-! ### spec_SockOk -/
/-- A socket as it has to be: number, kind, holders, what came in, what went out, status, what is done. -/
def sockB (id ki ho : Int) (inp out : List Int) (st dn : Int) : Bool :=
  inB id 1 9999 && (inB ho 1 3 && (!(decide ((inp.length : Int) > 240)) &&
    (if ki = 1 then st == 0 && dn == 0 else if ki = 2 then inB st 0 2 && inB dn 0 (out.length : Int) else false)))
theorem spec_SockOk_j0 (b : Bool) (x0 x1 x2 : Int) (x3 : Bool) (x4 x5 : List Int) (x6 x7 : Int) : Ev (fun k => spec_SockOk.j0 k b x0 x1 x2 x3 x4 x5 x6 x7)
    (!b && (if x1 = 1 then x6 == 0 && x7 == 0 else inB x6 0 2 && inB x7 0 (x5.length : Int))) := by
  refine ev_step (fun k => spec_SockOk.j0.eq_2 ..) ?_
  refine ev_ite (fun c => ?_) (fun c => ?_)
  · exact ev_as (ev_now _) (by simp [c])
  have hb : b = false := by simpa using c
  refine ev_ite (fun c1 => ev_ite (fun c2 => ?_) (fun c2 => ?_)) (fun c1 => ?_)
  · exact ev_as (ev_now _) (by simp [hb, c1, c2])
  · exact ev_as (ev_now _) (by simp [c1, c2])
  · refine ev_bind1 (spec_l1In_eq _ _ _) ?_
    refine ev_ite (fun c2 => ?_) (fun c2 => ?_)
    · exact ev_bind1 (spec_l1In_eq _ _ _) (ev_as (ev_now _) (by simp [hb, c1, c2]))
    · exact ev_as (ev_now _) (by simp [c1, c2])
theorem spec_SockOk_ev (x : S41) : Ev (fun k => spec_SockOk.f k x.f0 x.f1 x.f2 x.f3 x.f4 x.f5 x.f6 x.f7) (sockB x.f0 x.f1 x.f2 x.f4 x.f5 x.f6 x.f7) := by
  obtain ⟨x0, x1, x2, x3, x4, x5, x6, x7⟩ := x
  unfold spec_SockOk.f sockB
  have hk : inB x1 1 2 = true → (if x1 = 1 then x6 == 0 && x7 == 0 else inB x6 0 2 && inB x7 0 (x5.length : Int)) = (if x1 = 1 then x6 == 0 && x7 == 0 else if x1 = 2 then inB x6 0 2 && inB x7 0 (x5.length : Int) else false) := by
    intro h
    have := (inB_iff _ _ _).1 h
    by_cases e : x1 = 1
    · simp [e]
    · have e2 : x1 = 2 := by omega
      simp [e2]
  have hk2 : ¬ inB x1 1 2 = true → (if x1 = 1 then x6 == 0 && x7 == 0 else if x1 = 2 then inB x6 0 2 && inB x7 0 (x5.length : Int) else false) = false := by
    intro h
    have e1 : ¬ x1 = 1 := fun e => h (by rw [e]; rfl)
    have e2 : ¬ x1 = 2 := fun e => h (by rw [e]; rfl)
    simp [e1, e2]
  refine ev_bind1 (spec_l1In_eq _ _ _) ?_
  refine ev_ite (fun c => ?_) (fun c => ?_)
  · refine ev_bind1 (spec_l1In_eq _ _ _) ?_
    refine ev_ite (fun c2 => ?_) (fun c2 => ?_)
    · refine ev_bind1 (spec_l1In_eq _ _ _) ?_
      refine ev_ite (fun c3 => ?_) (fun c3 => ?_)
      · exact ev_as (spec_SockOk_j0 ..) (by rw [c, c3, hk c2]; simp)
      · exact ev_as (spec_SockOk_j0 ..) (by simp [c3])
    · exact ev_as (spec_SockOk_j0 ..) (by simp only [hk2 c2]; simp)
  · exact ev_as (spec_SockOk_j0 ..) (by simp [c])

/-! ### impl_SockOk -/
theorem impl_SockOk_j0 (b : Bool) (x0 x1 x2 : Int) (x3 : Bool) (x4 x5 : List Int) (x6 x7 : Int) : Ev (fun k => impl_SockOk.j0 k b x0 x1 x2 x3 x4 x5 x6 x7)
    (!b && (if x1 = 1 then x6 == 0 && x7 == 0 else if x1 = 2 then inB x6 0 2 && inB x7 0 (x5.length : Int) else false)) := by
  refine ev_step (fun k => impl_SockOk.j0.eq_2 ..) ?_
  refine ev_ite (fun c => ?_) (fun c => ?_)
  · exact ev_as (ev_now _) (by simp [c])
  have hb : b = false := by simpa using c
  refine ev_ite (fun c1 => ev_ite (fun c2 => ?_) (fun c2 => ?_)) (fun c1 => ev_ite (fun c2 => ?_) (fun c2 => ?_))
  · exact ev_as (ev_now _) (by simp [hb, c1, c2])
  · exact ev_as (ev_now _) (by simp [c1, c2])
  · refine ev_bind1 (impl_isIn_eq _ _ _) ?_
    refine ev_ite (fun c3 => ?_) (fun c3 => ?_)
    · exact ev_bind1 (impl_isIn_eq _ _ _) (ev_as (ev_now _) (by simp [hb, c2, c3]))
    · exact ev_as (ev_now _) (by simp [c2, c3])
  · exact ev_as (ev_now _) (by simp [c1, c2])
theorem impl_SockOk_ev (x : S41) : Ev (fun k => impl_SockOk.f k x.f0 x.f1 x.f2 x.f3 x.f4 x.f5 x.f6 x.f7) (sockB x.f0 x.f1 x.f2 x.f4 x.f5 x.f6 x.f7) := by
  obtain ⟨x0, x1, x2, x3, x4, x5, x6, x7⟩ := x
  unfold impl_SockOk.f sockB
  refine ev_bind1 (impl_sockIdOk_eq _) ?_
  refine ev_ite (fun c => ?_) (fun c => ?_)
  · refine ev_bind1 (impl_isIn_eq _ _ _) ?_
    refine ev_ite (fun c2 => ?_) (fun c2 => ?_)
    · exact ev_as (impl_SockOk_j0 ..) (by rw [c, c2]; simp)
    · exact ev_as (impl_SockOk_j0 ..) (by simp [c2])
  · exact ev_as (impl_SockOk_j0 ..) (by simp [c])

/-! ### slices_Clone_byte -/
theorem slices_Clone_byte_eq (l : List Int) (h : l.length ≤ 1000000000000) : slices_Clone_byte.f l = some l := by
  unfold slices_Clone_byte.f
  simp only [Option.bind_some, List.nil_append, List.length_nil]
  rw [if_pos (by omega)]

/-! ### impl_sockCopy -/
theorem impl_sockCopy_eq (x : S41) (h4 : x.f4.length ≤ 1000000000000) (h5 : x.f5.length ≤ 1000000000000) : impl_sockCopy.f x.f0 x.f1 x.f2 x.f3 x.f4 x.f5 x.f6 x.f7 = some (x.f0, x.f1, x.f2, x.f3, x.f4, x.f5, x.f6, x.f7) := by
  unfold impl_sockCopy.f
  rw [slices_Clone_byte_eq _ h4, Option.bind_some, slices_Clone_byte_eq _ h5, Option.bind_some]

/-! ### spec_l8Copy -/
theorem spec_l8Copy_eq (x : S41) (h4 : x.f4.length ≤ 1000000000000) (h5 : x.f5.length ≤ 1000000000000) : spec_l8Copy.f x.f0 x.f1 x.f2 x.f3 x.f4 x.f5 x.f6 x.f7 = some (x.f0, x.f1, x.f2, x.f3, x.f4, x.f5, x.f6, x.f7) := by
  unfold spec_l8Copy.f
  simp only [Option.bind_some, List.nil_append, List.length_nil]
  rw [if_pos (by omega), if_pos (by omega)]

/-! ### spec_Hear -/
/-- What a socket is after it heard some bytes, and whether it took them. -/
def hearV (x : S41) (b : List Int) : S41 × Bool :=
  if sockB x.f0 x.f1 x.f2 x.f4 x.f5 x.f6 x.f7 = true ∧ x.f3 = false ∧ ¬ ((x.f4.length : Int) + (b.length : Int) > 240) then (⟨x.f0, x.f1, x.f2, x.f3, x.f4 ++ b, x.f5, x.f6, x.f7⟩, true) else (x, false)
theorem spec_Hear_ev (x : S41) (b : List Int) (h4 : x.f4.length ≤ 1000000000000) (h5 : x.f5.length ≤ 1000000000000) (hb : b.length ≤ 1000000000000) :
    Ev (fun k => spec_Hear.f k x.f0 x.f1 x.f2 x.f3 x.f4 x.f5 x.f6 x.f7 b) ((hearV x b).1.f0, (hearV x b).1.f1, (hearV x b).1.f2, (hearV x b).1.f3, (hearV x b).1.f4, (hearV x b).1.f5, (hearV x b).1.f6, (hearV x b).1.f7, (hearV x b).2) := by
  unfold spec_Hear.f hearV
  have w : wrap64 (240 - (x.f4.length : Int)) = 240 - (x.f4.length : Int) := w64 (by omega) (by omega)
  simp only [w]
  refine ev_bind1 (spec_l8Copy_eq x h4 h5) (ev_bind (spec_SockOk_ev x) (ev_ite (fun c => ev_ite (fun c2 => ?_) (fun c2 => ev_ite (fun c3 => ?_) (fun c3 => ev_pos (by show x.f4.length + b.length < _; omega) ?_))) (fun c => ?_)))
  · exact ev_as (ev_now _) (by rw [if_neg (fun h => by rw [c2] at h; exact absurd h.2.1 (by decide))])
  · exact ev_as (ev_now _) (by rw [if_neg (fun h => h.2.2 (by omega))])
  · exact ev_as (ev_now _) (by rw [if_pos ⟨c, by simpa using c2, by omega⟩])
  · exact ev_as (ev_now _) (by rw [if_neg (fun h => c h.1)])

/-! ### impl_Hear -/
theorem impl_Hear_ev (x : S41) (b : List Int) (h4 : x.f4.length ≤ 1000000000000) (h5 : x.f5.length ≤ 1000000000000) (hb : b.length ≤ 1000000000000) :
    Ev (fun k => impl_Hear.f k x.f0 x.f1 x.f2 x.f3 x.f4 x.f5 x.f6 x.f7 b) ((hearV x b).1.f0, (hearV x b).1.f1, (hearV x b).1.f2, (hearV x b).1.f3, (hearV x b).1.f4, (hearV x b).1.f5, (hearV x b).1.f6, (hearV x b).1.f7, (hearV x b).2) := by
  unfold impl_Hear.f hearV
  have w : wrap64 ((x.f4.length : Int) + (b.length : Int)) = (x.f4.length : Int) + (b.length : Int) := w64 (by omega) (by omega)
  simp only [w]
  refine ev_bind1 (impl_sockCopy_eq x h4 h5) (ev_bind (impl_SockOk_ev x) (ev_ite (fun c => ev_ite (fun c2 => ?_) (fun c2 => ev_ite (fun c3 => ?_) (fun c3 => ev_pos (by show x.f4.length + b.length < _; omega) ?_))) (fun c => ?_)))
  · exact ev_as (ev_now _) (by rw [if_neg (fun h => by rw [c2] at h; exact absurd h.2.1 (by decide))])
  · exact ev_as (ev_now _) (by rw [if_neg (fun h => h.2.2 c3)])
  · exact ev_as (ev_now _) (by rw [if_pos ⟨c, by simpa using c2, c3⟩])
  · exact ev_as (ev_now _) (by rw [if_neg (fun h => c h.1)])

/-! ### spec_DrawEat -/
def eatL (l : List Int) : List Int := l.drop (getV l).2.2.2.1.toNat
theorem getV_n (l : List Int) (hb : bytesL l) : 0 ≤ (getV l).2.2.2.1 ∧ (getV l).2.2.2.1 ≤ (l.length : Int) ∧ ((getV l).2.2.2.2 ≠ 0 → (getV l).2.2.2.1 = 0) := by
  have h1 := rd_byte hb 1
  unfold getV
  by_cases c0 : (l.length : Int) = 0
  · rw [if_pos c0]; exact ⟨Int.le_refl _, by show (0 : Int) ≤ _; omega, fun _ => rfl⟩
  rw [if_neg c0]
  by_cases c1 : rd l 0 = 3
  · rw [if_pos c1]; exact ⟨by show (0 : Int) ≤ 1; decide, by show (1 : Int) ≤ _; omega, fun h => absurd rfl h⟩
  rw [if_neg c1]
  by_cases c2 : inB (rd l 0) 1 6 = false
  · rw [if_pos c2]; exact ⟨Int.le_refl _, by show (0 : Int) ≤ _; omega, fun _ => rfl⟩
  rw [if_neg c2]
  by_cases c3 : (l.length : Int) < 2
  · rw [if_pos c3]; exact ⟨Int.le_refl _, by show (0 : Int) ≤ _; omega, fun _ => rfl⟩
  rw [if_neg c3]
  by_cases c4 : rd l 0 = 5
  · rw [if_pos c4]
    by_cases c5 : inB (rd l 1) 0 2 = true
    · rw [if_pos c5]; exact ⟨by show (0 : Int) ≤ 2; decide, by show (2 : Int) ≤ _; omega, fun h => absurd rfl h⟩
    · rw [if_neg c5]; exact ⟨Int.le_refl _, by show (0 : Int) ≤ _; omega, fun _ => rfl⟩
  rw [if_neg c4]
  by_cases c6 : rd l 1 > 100
  · rw [if_pos c6]; exact ⟨Int.le_refl _, by show (0 : Int) ≤ _; omega, fun _ => rfl⟩
  rw [if_neg c6]
  by_cases c7 : (l.length : Int) < 2 + rd l 1
  · rw [if_pos c7]; exact ⟨Int.le_refl _, by show (0 : Int) ≤ _; omega, fun _ => rfl⟩
  rw [if_neg c7]
  split
  · exact ⟨by show 0 ≤ 2 + rd l 1; omega, by show 2 + rd l 1 ≤ _; omega, fun h => absurd rfl h⟩
  · exact ⟨Int.le_refl _, by show (0 : Int) ≤ _; omega, fun _ => rfl⟩
theorem spec_DrawEat_some (b : List Int) (hb : b.length ≤ 4611686018427387904) : ∃ x : S41, Ev (fun k => spec_DrawEat.f k b) (x.f0, x.f1, x.f2, x.f3, x.f4, x.f5, x.f6, x.f7) ∧ drawnS x := by
  unfold spec_DrawEat.f
  obtain ⟨h, e0⟩ := spec_l1New_some b hb
  obtain ⟨x, i1, h1, e1, o1, c1⟩ := spec_l8Any_some b 0 h ⟨by omega, by omega⟩ hb
  exact ⟨x, ev_bind e0 (ev_bind e1 (ev_now _)), o1⟩

/-! ### impl_Eat -/
theorem impl_Eat_ev (x : S41) (h4 : x.f4.length ≤ 1000000000000) (h5 : x.f5.length ≤ 1000000000000) (hb : bytesL x.f4) : Ev (fun k => impl_Eat.f k x.f0 x.f1 x.f2 x.f3 x.f4 x.f5 x.f6 x.f7) (x.f0, x.f1, x.f2, x.f3, eatL x.f4, x.f5, x.f6, x.f7) := by
  unfold impl_Eat.f
  have hn := getV_n x.f4 hb
  exact ev_bind1 (impl_sockCopy_eq x h4 h5) (ev_bind (impl_GetFrame_ev x.f4 (by omega) hb) (ev_pos hn.1 (ev_pos hn.2.1 (ev_now _))))

/-! ### spec_GetFrame -/
theorem spec_GetFrame_ev (l : List Int) (hl : l.length ≤ 4611686018427387904) (hb : bytesL l) : Ev (fun k => spec_GetFrame.f k l) (getV l) := by
  have h0 := rd_byte hb 0
  have h1 := rd_byte hb 1
  have w0 : wrap64 (rd l 0) = rd l 0 := w64 (by omega) (by omega)
  have w1 : wrap64 (rd l 1) = rd l 1 := w64 (by omega) (by omega)
  have w2 : wrap64 (2 + rd l 1) = 2 + rd l 1 := w64 (by omega) (by omega)
  have w3 : wrap64 ((l.length : Int) - 2) = (l.length : Int) - 2 := w64 (by omega) (by omega)
  unfold spec_GetFrame.f getV
  simp only [w0, w1, w2, w3]
  refine ev_ite (fun c => ?_) (fun c => ev_pos (by omega) ?_)
  · exact ev_as (ev_now _) (by rw [if_pos c])
  rw [if_neg c]
  refine ev_bind1 (spec_l1In_eq _ _ _) (ev_ite (fun ci => ?_) (fun ci => ?_))
  · have ci' : ¬ inB (rd l 0) 1 6 = false := by simp [ci]
    refine ev_ite (fun c3 => ?_) (fun c3 => ev_ite (fun cl => ?_) (fun cl => ev_ite (fun c5 => ev_pos (by omega) ?_) (fun c5 => ev_pos (by omega) ?_)))
    · rw [c3]
      exact ev_bind (spec_FrameOk_ev 3 ⟨#[]⟩ 0 (Nat.zero_le _)) (ev_pos (by simp [frameB, empty_toList]) (ev_as (ev_now _) (by simp)))
    · exact ev_as (ev_now _) (by rw [if_neg c3, if_neg ci', if_pos (by omega)])
    · refine ev_bind (spec_FrameOk_ev _ ⟨#[]⟩ _ (Nat.zero_le _)) ?_
      have e : frameB (rd l 0) ⟨#[]⟩ (rd l 1) = inB (rd l 1) 0 2 := by simp [frameB, c5, empty_toList]
      rw [e, if_neg c3, if_neg ci', if_neg (show ¬ (l.length : Int) < 2 by omega), if_pos c5]
      refine ev_ite (fun ck => ?_) (fun ck => ?_)
      · exact ev_as (ev_now _) (by rw [if_pos ck, c5])
      · exact ev_as (ev_now _) (by rw [if_neg ck])
    · rw [if_neg c3, if_neg ci', if_neg (show ¬ (l.length : Int) < 2 by omega), if_neg c5]
      refine ev_ite (fun ca => ?_) (fun ca => ev_ite (fun cb => ?_) (fun cb => ev_pos (by omega) (ev_pos (by omega) ?_)))
      · exact ev_as (ev_now _) (by rw [if_pos ca])
      · exact ev_as (ev_now _) (by rw [if_neg ca, if_pos (by omega)])
      · rw [if_neg ca, if_neg (show ¬ (l.length : Int) < 2 + rd l 1 by omega)]
        refine ev_bind (spec_FrameOk_ev _ _ _ (Nat.le_trans (strN_size l _) hl)) (ev_ite (fun ck => ?_) (fun ck => ?_))
        · exact ev_as (ev_now _) (by rw [if_pos ck])
        · exact ev_as (ev_now _) (by rw [if_neg ck])
  · have ci2 : inB (rd l 0) 1 6 = false := by simpa using ci
    have c3 : ¬ rd l 0 = 3 := by intro h; rw [h] at ci; exact ci (by decide)
    exact ev_as (ev_now _) (by rw [if_neg c3, if_pos ci2])

/-! ### spec_Peek -/
/-- What a socket shows first. -/
def peekV (shut : Bool) (l : List Int) : Int × ByteArray × Int × Int :=
  if (getV l).2.2.2.2 = 1 ∧ shut = true ∧ (l.length : Int) > 0 then (0, ⟨#[]⟩, 0, 2) else ((getV l).1, (getV l).2.1, (getV l).2.2.1, (getV l).2.2.2.2)
theorem spec_Peek_ev (x : S41) (hl : x.f4.length ≤ 4611686018427387904) (hb : bytesL x.f4) : Ev (fun k => spec_Peek.f k x.f0 x.f1 x.f2 x.f3 x.f4 x.f5 x.f6 x.f7) (peekV x.f3 x.f4) := by
  unfold spec_Peek.f peekV
  refine ev_bind (spec_GetFrame_ev _ hl hb) (ev_ite (fun c1 => ev_ite (fun c2 => ev_ite (fun c3 => ?_) (fun c3 => ?_)) (fun c2 => ?_)) (fun c1 => ?_))
  · exact ev_as (ev_now _) (by rw [if_pos ⟨c1, c2, c3⟩])
  · exact ev_as (ev_now _) (by rw [if_neg (fun h => c3 h.2.2)])
  · exact ev_as (ev_now _) (by rw [if_neg (fun h => c2 h.2.1)])
  · exact ev_as (ev_now _) (by rw [if_neg (fun h => c1 h.1)])

/-! ### impl_Peek -/
theorem impl_Peek_ev (x : S41) (hl : x.f4.length ≤ 4611686018427387904) (hb : bytesL x.f4) : Ev (fun k => impl_Peek.f k x.f0 x.f1 x.f2 x.f3 x.f4 x.f5 x.f6 x.f7) (peekV x.f3 x.f4) := by
  unfold impl_Peek.f peekV
  refine ev_bind (impl_GetFrame_ev _ hl hb) (ev_ite (fun c1 => ev_ite (fun c2 => ev_ite (fun c3 => ?_) (fun c3 => ?_)) (fun c2 => ?_)) (fun c1 => ?_))
  · exact ev_as (ev_now _) (by rw [if_pos ⟨c1, c2, c3⟩])
  · exact ev_as (ev_now _) (by rw [if_neg (fun h => c3 h.2.2)])
  · exact ev_as (ev_now _) (by rw [if_neg (fun h => c2 h.2.1)])
  · exact ev_as (ev_now _) (by rw [if_neg (fun h => c1 h.1)])

/-! ### spec_l8List -/
def okSk (l : List S41) (m : Nat) : Prop := l.length ≤ m ∧ ∀ x ∈ l, drawnS x
theorem okSk_snoc {l : List S41} {m : Nat} (h : okSk l m) (x : S41) (hx : drawnS x) : okSk (l ++ [x]) (m + 1) := ⟨by rw [List.length_append, List.length_singleton]; have := h.1; omega, fun y hy => (List.mem_append.1 hy).elim (h.2 y) (fun e => by rw [List.mem_singleton] at e; exact e ▸ hx)⟩
theorem okSk_le {l : List S41} {m m' : Nat} (h : okSk l m) (hm : m ≤ m') : okSk l m' := ⟨Nat.le_trans h.1 hm, h.2⟩
theorem drawnS_empty (n : Int) : drawnS (⟨n, 1, 1, false, [], [], 0, 0⟩ : S41) := ⟨(fun _ hx => by cases hx), by simp, (fun _ hx => by cases hx), by simp⟩
theorem spec_l8List_l1 (b : List Int) (i h x : Int) (hx : x ≤ 20) (d : Nat) : ∀ (l : List S41) (id : Int), okSk l 20 → (x - (l.length : Int)).toNat ≤ d → ∃ l' : List S41, Ev (fun k => spec_l8List.l1 k l id x b i h) (l', i, h) ∧ okSk l' 20 := by
  induction d with
  | zero =>
    intro l id ho hd
    exact ⟨l, ev_step (fun k => spec_l8List.l1.eq_2 ..) (ev_neg (by omega) (ev_now _)), ho⟩
  | succ d ih =>
    intro l id ho hd
    by_cases c : x > (l.length : Int)
    · obtain ⟨l', e, o⟩ := ih (l ++ [(⟨wrap64 (id + 1), 1, 1, false, [], [], 0, 0⟩ : S41)]) (wrap64 (id + 1)) ⟨by rw [List.length_append, List.length_singleton]; omega, (okSk_snoc ho _ (drawnS_empty _)).2⟩ (by rw [List.length_append, List.length_singleton]; omega)
      exact ⟨l', ev_step (fun k => spec_l8List.l1.eq_2 ..) (ev_pos c (ev_pos (by have := ho.1; omega) e)), o⟩
    · exact ⟨l, ev_step (fun k => spec_l8List.l1.eq_2 ..) (ev_neg c (ev_now _)), ho⟩
theorem spec_l8List_l0 (b : List Int) (hb : b.length ≤ 4611686018427387904) (d : Nat) : ∀ (l : List S41) (m : Nat) (id i h : Int), okSk l m → m + d ≤ 10 → curB b i → ∃ (l' : List S41) (i' h' : Int), Ev (fun k => spec_l8List.l0 k l id (d : Int) b i h) (l', i', h') ∧ okSk l' 20 ∧ curB b i' := by
  induction d with
  | zero =>
    intro l m id i h ho hm hc
    obtain ⟨v1, i1, h1, e1, _, _, c1⟩ := spec_l1Below_some b i h 10 hc hb
    by_cases k1 : v1 = 0
    · obtain ⟨x, i2, h2, e2, o2, c2⟩ := spec_l8Any_some b i1 h1 c1 hb
      exact ⟨_, i2, h2, ev_step (fun k => spec_l8List.l0.eq_2 ..) (ev_neg (by omega) (ev_bind1 e1 (ev_pos k1 (ev_bind e2 (ev_pos (by have := ho.1; omega) (ev_now _)))))), okSk_le (okSk_snoc ho ⟨x.f0, x.f1, x.f2, x.f3, x.f4, x.f5, x.f6, x.f7⟩ o2) (by omega), c2⟩
    · by_cases k2 : v1 = 1
      · obtain ⟨v2, i2, h2, e2, g2, c2⟩ := spec_l1Int_some b i1 h1 [11, 12, 13] (by simp) c1 hb
        obtain ⟨l', e3, o3⟩ := spec_l8List_l1 b i2 h2 v2 (by simp at g2; omega) (v2 - (l.length : Int)).toNat l id (okSk_le ho (by omega)) (Nat.le_refl _)
        exact ⟨l', i2, h2, ev_step (fun k => spec_l8List.l0.eq_2 ..) (ev_neg (by omega) (ev_bind1 e1 (ev_neg k1 (ev_pos k2 (ev_bind1 e2 e3))))), o3, c2⟩
      · exact ⟨l, i1, h1, ev_step (fun k => spec_l8List.l0.eq_2 ..) (ev_neg (by omega) (ev_bind1 e1 (ev_neg k1 (ev_neg k2 (ev_now _))))), okSk_le ho (by omega), c1⟩
  | succ d ih =>
    intro l m id i h ho hm hc
    obtain ⟨x, i1, h1, e1, o1, c1⟩ := spec_l8Draw_some b i h hc hb
    obtain ⟨v, i2, h2, e2, _, _, c2⟩ := spec_l1Below_some b i1 h1 3 c1 hb
    obtain ⟨l', i3, h3, e3, o3, c3⟩ := ih (l ++ [(⟨wrap64 (wrap64 (id + 1) + v), x.f1, x.f2, x.f3, x.f4, x.f5, x.f6, x.f7⟩ : S41)]) (m + 1) (wrap64 (wrap64 (id + 1) + v)) i2 h2 (okSk_snoc ho _ o1) (by omega) c2
    refine ⟨l', i3, h3, ev_step (fun k => spec_l8List.l0.eq_2 ..) (ev_pos (by omega) (ev_bind e1 (ev_bind1 e2 (ev_pos (by have := ho.1; omega) ?_)))), o3, c3⟩
    rw [show wrap64 (((d + 1 : Nat) : Int) - 1) = (d : Int) from by rw [w64 (by omega) (by omega)]; omega]
    exact e3
theorem spec_l8List_some (b : List Int) (i h : Int) (hc : curB b i) (hb : b.length ≤ 4611686018427387904) : ∃ (l : List S41) (i' h' : Int), Ev (fun k => spec_l8List.f k b i h) (l, i', h') ∧ okSk l 20 ∧ curB b i' := by
  unfold spec_l8List.f
  obtain ⟨v1, i1, h1, e1, g1, _, c1⟩ := spec_l1Below_some b i h 6 hc hb
  have g := g1 (by omega)
  obtain ⟨l, i2, h2, e2, o2, c2⟩ := spec_l8List_l0 b hb v1.toNat [] 0 0 i1 h1 ⟨Nat.le_refl _, (fun _ hx => by cases hx)⟩ (by omega) c1
  rw [show ((v1.toNat : Nat) : Int) = v1 by omega] at e2
  exact ⟨l, i2, h2, ev_bind1 e1 e2, o2, c2⟩

/-! ### spec_DrawFree -/
theorem spec_DrawFree_some (b : List Int) (hb : b.length ≤ 4611686018427387904) : ∃ (l : List S41) (id ho : Int), Ev (fun k => spec_DrawFree.f k b) (l, id, ho) ∧ okSk l 20 := by
  unfold spec_DrawFree.f
  obtain ⟨h, e0⟩ := spec_l1New_some b hb
  obtain ⟨l, i1, h1, e1, o1, c1⟩ := spec_l8List_some b 0 h ⟨by omega, by omega⟩ hb
  obtain ⟨v, i2, h2, e2, _, _, c2⟩ := spec_l1Below_some b i1 h1 12 c1 hb
  obtain ⟨u, i3, h3, e3, _, _⟩ := spec_l1Int_some b i2 h2 [1, 2, 3, 0, 4] (by simp) c2 hb
  exact ⟨l, v, u, ev_bind e0 (ev_bind e1 (ev_bind1 e2 (ev_bind1 e3 (ev_now _)))), o1⟩

/-! ### impl_socksCopy -/
theorem impl_socksCopy_l0 (l : List S41) (hl : l.length ≤ 1000000000000) (hx : ∀ x ∈ l, x.f4.length ≤ 1000000000000 ∧ x.f5.length ≤ 1000000000000) (d : Nat) : ∀ i : Nat, i + d = l.length → Ev (fun k => impl_socksCopy.l0 k (l.take i) l (l.length : Int) (i : Int)) l := by
  induction d with
  | zero =>
    intro i hi
    refine ev_step (fun k => impl_socksCopy.l0.eq_2 ..) (ev_neg (by omega) ?_)
    rw [List.take_of_length_le (by omega)]
    exact ev_now _
  | succ d ih =>
    intro i hi
    have hlt : i < l.length := by omega
    have hr : rd_T41 l (i : Int) = l[i] := getD_nth _ l i hlt
    have hn := ih (i + 1) (by omega)
    rw [List.take_add_one, List.getElem?_eq_getElem hlt] at hn
    have hm := hx _ (List.getElem_mem hlt)
    refine ev_step (fun k => impl_socksCopy.l0.eq_2 ..) (ev_pos (by omega) (ev_pos (by omega) (ev_pos (by omega) ?_)))
    simp only [hr]
    rw [w64 (by omega) (by omega)]
    refine ev_bind1 (impl_sockCopy_eq _ hm.1 hm.2) (ev_pos (by rw [List.length_take]; omega) ?_)
    exact hn
theorem impl_socksCopy_ev (l : List S41) (hl : l.length ≤ 1000000000000) (hx : ∀ x ∈ l, x.f4.length ≤ 1000000000000 ∧ x.f5.length ≤ 1000000000000) : Ev (fun k => impl_socksCopy.f k l) l := by
  have h := impl_socksCopy_l0 l hl hx l.length 0 (by omega)
  exact h

/-! ### spec_Free -/
def frS (a1 a2 : Int) (x : S41) : List S41 :=
  if x.f0 = a1 ∧ inB a2 1 3 = true then (if Go.bits .andNot .i64 x.f2 a2 = 0 then [] else [⟨x.f0, x.f1, Go.bits .andNot .i64 x.f2 a2, x.f3, x.f4, x.f5, x.f6, x.f7⟩]) else [x]
def fr (a1 a2 : Int) (l : List S41) : List S41 := l.flatMap (frS a1 a2)
theorem frS_len (a1 a2 : Int) (x : S41) : (frS a1 a2 x).length ≤ 1 := by
  unfold frS
  split
  · split <;> simp
  · simp
theorem fr_len (a1 a2 : Int) : ∀ l : List S41, (fr a1 a2 l).length ≤ l.length
  | [] => by simp [fr]
  | x :: l => by
    have h := fr_len a1 a2 l
    have h1 := frS_len a1 a2 x
    unfold fr at h ⊢
    rw [List.flatMap_cons, List.length_append, List.length_cons]
    omega
theorem fr_snoc (a1 a2 : Int) (l : List S41) (x : S41) : fr a1 a2 (l ++ [x]) = fr a1 a2 l ++ frS a1 a2 x := by
  unfold fr
  rw [List.flatMap_append, List.flatMap_cons, List.flatMap_nil, List.append_nil]
theorem spec_Free_j1 (l : List S41) (a1 a2 : Int) (ys : List S41) (i : Int) (b : Bool) (x : S41) (r : List S41) (hy : ys.length ≤ 1000000000000) (hb : b = true ↔ (x.f0 = a1 ∧ inB a2 1 3 = true))
    (h : Ev (fun k => spec_Free.l0 k l a1 a2 (ys ++ frS a1 a2 x) (wrap64 (i + 1))) r) : Ev (fun k => spec_Free.j1 k l a1 a2 ys i b x.f0 x.f1 x.f2 x.f3 x.f4 x.f5 x.f6 x.f7) r := by
  refine ev_step (fun k => spec_Free.j1.eq_2 ..) ?_
  unfold frS at h
  by_cases c : b = true
  · rw [if_pos (hb.1 c)] at h
    refine ev_pos c ?_
    by_cases z : Go.bits .andNot .i64 x.f2 a2 = 0
    · rw [if_pos z, List.append_nil] at h
      exact ev_pos z h
    · rw [if_neg z] at h
      exact ev_neg z (ev_pos (by omega) h)
  · rw [if_neg (fun e => c (hb.2 e))] at h
    exact ev_neg c (ev_pos (by omega) h)
theorem spec_Free_l0 (l : List S41) (a1 a2 : Int) (hl : l.length ≤ 1000000000000) (hx : ∀ x ∈ l, x.f4.length ≤ 1000000000000 ∧ x.f5.length ≤ 1000000000000) (d : Nat) : ∀ i : Nat, i + d = l.length → Ev (fun k => spec_Free.l0 k l a1 a2 (fr a1 a2 (l.take i)) (i : Int)) (fr a1 a2 l) := by
  induction d with
  | zero =>
    intro i hi
    refine ev_step (fun k => spec_Free.l0.eq_2 ..) (ev_neg (by omega) ?_)
    rw [List.take_of_length_le (by omega)]
    exact ev_now _
  | succ d ih =>
    intro i hi
    have hlt : i < l.length := by omega
    have hr : rd_T41 l (i : Int) = l[i] := getD_nth _ l i hlt
    have hn := ih (i + 1) (by omega)
    rw [List.take_add_one, List.getElem?_eq_getElem hlt] at hn
    have hm := hx _ (List.getElem_mem hlt)
    have hy : (fr a1 a2 (l.take i)).length ≤ 1000000000000 := by
      have := fr_len a1 a2 (l.take i)
      rw [List.length_take] at this
      omega
    have hn2 : Ev (fun k => spec_Free.l0 k l a1 a2 (fr a1 a2 (l.take i) ++ frS a1 a2 l[i]) (wrap64 ((i : Int) + 1))) (fr a1 a2 l) := by
      rw [w64 (by omega) (by omega), ← fr_snoc]
      exact hn
    refine ev_step (fun k => spec_Free.l0.eq_2 ..) (ev_pos (by omega) (ev_pos (by omega) ?_))
    simp only [hr]
    refine ev_bind1 (spec_l8Copy_eq _ hm.1 hm.2) ?_
    by_cases c : l[i].f0 = a1
    · exact ev_pos c (ev_bind1 (spec_l1In_eq a2 1 3) (spec_Free_j1 l a1 a2 _ _ _ l[i] _ hy ⟨fun h => ⟨c, h⟩, fun h => h.2⟩ hn2))
    · exact ev_neg c (spec_Free_j1 l a1 a2 _ _ _ l[i] _ hy ⟨fun h => by simp at h, fun h => absurd h.1 c⟩ hn2)
theorem spec_Free_ev (l : List S41) (a1 a2 : Int) (hl : l.length ≤ 1000000000000) (hx : ∀ x ∈ l, x.f4.length ≤ 1000000000000 ∧ x.f5.length ≤ 1000000000000) : Ev (fun k => spec_Free.f k l a1 a2) (fr a1 a2 l) := by
  have h := spec_Free_l0 l a1 a2 hl hx l.length 0 (by omega)
  exact h

/-! ### impl_Free -/
theorem impl_Free_g (a1 a2 : Int) : ∀ (l ys : List S41), ys.length + l.length ≤ 1000000000000 → impl_Free.g a1 a2 l ys = some (ys ++ fr a1 a2 l)
  | [], ys, _ => by simp [impl_Free.g, fr]
  | x :: l, ys, h => by
    rw [List.length_cons] at h
    have e : fr a1 a2 (x :: l) = frS a1 a2 x ++ fr a1 a2 l := List.flatMap_cons
    unfold impl_Free.g
    rw [impl_isIn_eq, Option.bind_some, e]
    unfold frS
    by_cases c : x.f0 = a1 ∧ inB a2 1 3 = true
    · rw [if_pos c, if_pos c]
      by_cases z : Go.bits .andNot .i64 x.f2 a2 = 0
      · rw [if_pos z, if_pos z, impl_Free_g a1 a2 l ys (by omega)]
        rfl
      · rw [if_neg z, if_neg z, if_pos (by omega), impl_Free_g a1 a2 l _ (by rw [List.length_append, List.length_singleton]; omega), List.append_assoc]
    · rw [if_neg c, if_neg c, if_pos (by omega), impl_Free_g a1 a2 l _ (by rw [List.length_append, List.length_singleton]; omega), List.append_assoc]
theorem impl_Free_ev (l : List S41) (a1 a2 : Int) (hl : l.length ≤ 1000000000000) (hx : ∀ x ∈ l, x.f4.length ≤ 1000000000000 ∧ x.f5.length ≤ 1000000000000) : Ev (fun k => impl_Free.f k l a1 a2) (fr a1 a2 l) := by
  unfold impl_Free.f
  exact ev_bind (impl_socksCopy_ev l hl hx) (ev_as (by rw [impl_Free_g a1 a2 l [] (by simpa using hl)]; exact ev_now _) (List.nil_append _))

/-! ### laws_sameSock -/
theorem laws_sameSock_eq (x : S41) : laws_sameSock.f x.f0 x.f1 x.f2 x.f3 x.f4 x.f5 x.f6 x.f7 x.f0 x.f1 x.f2 x.f3 x.f4 x.f5 x.f6 x.f7 = some true := by
  unfold laws_sameSock.f
  rw [if_pos rfl, if_pos rfl, if_pos rfl, if_pos (beq_self_eq_true _), laws_same_eq, Option.bind_some, if_pos rfl, laws_same_eq, Option.bind_some, if_pos rfl, if_pos rfl, beq_self_eq_true]

/-! ### laws_sameSocks -/
theorem laws_sameSocks_l0 (l : List S41) (hl : l.length ≤ 4611686018427387904) (d : Nat) : ∀ i : Nat, i + d = l.length → Ev (fun k => laws_sameSocks.l0 k l l (i : Int)) true := by
  induction d with
  | zero =>
    intro i hi
    exact ev_step (fun k => laws_sameSocks.l0.eq_2 ..) (ev_neg (by omega) (ev_now _))
  | succ d ih =>
    intro i hi
    have e := ih (i + 1) (by omega)
    refine ev_step (fun k => laws_sameSocks.l0.eq_2 ..) (ev_pos (by omega) (ev_pos (by omega) (ev_pos (by omega) (ev_bind1 (laws_sameSock_eq _) (ev_pos rfl ?_)))))
    rw [w64 (by omega) (by omega)]
    exact e
theorem laws_sameSocks_ev (l : List S41) (hl : l.length ≤ 4611686018427387904) : Ev (fun k => laws_sameSocks.f k l l) true := ev_pos rfl (laws_sameSocks_l0 l hl l.length 0 (by omega))

/-! ### spec_SocksOk -/
/-- Socket i of a list as it has to be: well, and its number above that of the one before. -/
def sockAtB (l : List S41) (i : Int) : Bool := sockB (rd_T41 l i).f0 (rd_T41 l i).f1 (rd_T41 l i).f2 (rd_T41 l i).f4 (rd_T41 l i).f5 (rd_T41 l i).f6 (rd_T41 l i).f7 && !(decide (i > 0) && decide ((rd_T41 l i).f0 ≤ (rd_T41 l (i - 1)).f0))
def socksB (l : List S41) : Bool := allF (sockAtB l) 0 l.length && decide ((l.length : Int) ≤ 12)
theorem spec_SocksOk_l0 (l : List S41) (hl : l.length ≤ 4611686018427387904) (d : Nat) : ∀ i : Int, 0 ≤ i → i + d = l.length → Ev (fun k => spec_SocksOk.l0 k l i) (allF (sockAtB l) i d && decide ((l.length : Int) ≤ 12)) := by
  induction d with
  | zero =>
    intro i h0 h1
    exact ev_step (fun k => spec_SocksOk.l0.eq_2 ..) (ev_neg (by omega) (ev_as (ev_now _) (by simp [allF])))
  | succ d ih =>
    intro i h0 h1
    have hn := ih (i + 1) (by omega) (by omega)
    refine ev_step (fun k => spec_SocksOk.l0.eq_2 ..) (ev_pos (by omega) (ev_pos (by omega) (ev_bind (spec_SockOk_ev _) ?_)))
    have e1 : wrap64 (i + 1) = i + 1 := w64 (by omega) (by omega)
    have e2 : wrap64 (i - 1) = i - 1 := w64 (by omega) (by omega)
    simp only [e1, e2]
    rw [allF]
    refine ev_ite (fun c => ev_ite (fun c1 => ev_pos (by omega) (ev_pos (by omega) (ev_ite (fun c2 => ?_) (fun c2 => ?_)))) (fun c1 => ?_)) (fun c => ?_)
    · refine ev_as (ev_now _) ?_
      have : sockAtB l i = false := by unfold sockAtB; rw [c, decide_eq_true c1, decide_eq_true (by omega)]; rfl
      rw [this]; rfl
    · refine ev_as hn ?_
      have : sockAtB l i = true := by unfold sockAtB; rw [c, decide_eq_true c1, decide_eq_false (by omega)]; rfl
      rw [this]; rfl
    · refine ev_as hn ?_
      have : sockAtB l i = true := by unfold sockAtB; rw [c, decide_eq_false c1]; rfl
      rw [this]; rfl
    · refine ev_as (ev_now _) ?_
      have : sockAtB l i = false := by unfold sockAtB; rw [Bool.eq_false_iff.2 c]; rfl
      rw [this]; rfl
theorem spec_SocksOk_ev (l : List S41) (hl : l.length ≤ 4611686018427387904) : Ev (fun k => spec_SocksOk.f k l) (socksB l) := spec_SocksOk_l0 l hl l.length 0 (by omega) (by omega)

/-! ### impl_SocksOk -/
theorem impl_SocksOk_l0 (l : List S41) (hl : l.length ≤ 4611686018427387904) (d : Nat) : ∀ i : Int, 0 ≤ i → i + d = l.length → Ev (fun k => impl_SocksOk.l0 k l l (l.length : Int) i) (allF (sockAtB l) i d && decide ((l.length : Int) ≤ 12)) := by
  induction d with
  | zero =>
    intro i h0 h1
    exact ev_step (fun k => impl_SocksOk.l0.eq_2 ..) (ev_neg (by omega) (ev_as (ev_now _) (by simp [allF])))
  | succ d ih =>
    intro i h0 h1
    have hn := ih (i + 1) (by omega) (by omega)
    refine ev_step (fun k => impl_SocksOk.l0.eq_2 ..) (ev_pos (by omega) (ev_pos (by omega) (ev_pos (by omega) (ev_bind (impl_SockOk_ev _) ?_))))
    have e1 : wrap64 (i + 1) = i + 1 := w64 (by omega) (by omega)
    have e2 : wrap64 (i - 1) = i - 1 := w64 (by omega) (by omega)
    simp only [e1, e2]
    rw [allF]
    refine ev_ite (fun c => ev_ite (fun c1 => ev_pos (by omega) (ev_pos (by omega) (ev_ite (fun c2 => ?_) (fun c2 => ?_)))) (fun c1 => ?_)) (fun c => ?_)
    · refine ev_as (ev_now _) ?_
      have : sockAtB l i = false := by unfold sockAtB; rw [c, decide_eq_true c1, decide_eq_true (by omega)]; rfl
      rw [this]; rfl
    · refine ev_as hn ?_
      have : sockAtB l i = true := by unfold sockAtB; rw [c, decide_eq_true c1, decide_eq_false (by omega)]; rfl
      rw [this]; rfl
    · refine ev_as hn ?_
      have : sockAtB l i = true := by unfold sockAtB; rw [c, decide_eq_false c1]; rfl
      rw [this]; rfl
    · refine ev_as (ev_now _) ?_
      have : sockAtB l i = false := by unfold sockAtB; rw [Bool.eq_false_iff.2 c]; rfl
      rw [this]; rfl
theorem impl_SocksOk_ev (l : List S41) (hl : l.length ≤ 4611686018427387904) : Ev (fun k => impl_SocksOk.f k l) (socksB l) := impl_SocksOk_l0 l hl l.length 0 (by omega) (by omega)

/-! ### impl_PutText -/
theorem impl_PutText_ev (l : List Int) (s : ByteArray) (hl : l.length ≤ 1000000000000) (hs : s.size ≤ 1000000000000) : Ev (fun k => impl_PutText.f k l s) (putTextV l s) := by
  unfold impl_PutText.f putTextV
  simp only [Option.bind_some]
  refine ev_bind1 (slices_Clone_byte_eq l (by omega)) (ev_bind (impl_TextOk_ev s (by omega)) (ev_ite (fun c => ?_) (fun c => ?_)))
  · exact ev_pos (by omega) (ev_pos (by rw [List.length_append]; simp only [List.length_cons, List.length_nil]; omega) (ev_as (ev_now _) (by rw [if_pos c])))
  · exact ev_as (ev_now _) (by rw [if_neg c])

/-! ### impl_PutFrame -/
theorem impl_PutFrame_ev (k : Int) (t : ByteArray) (s : Int) (ht : t.size ≤ 1000000000000) : Ev (fun n => impl_PutFrame.f n k t s) (putFrameV k t s) := by
  unfold impl_PutFrame.f putFrameV
  simp only [Option.bind_some, List.length_cons, List.length_nil]
  refine ev_bind (impl_FrameOk_ev k t s (by omega)) (ev_ite (fun c => ?_) (fun c => ?_))
  · refine ev_ite (fun c1 => ev_pos (by omega) ?_) (fun c1 => ev_ite (fun c2 => ?_) (fun c2 => ?_))
    · exact ev_as (ev_now _) (by rw [if_pos c, if_pos c1])
    · exact ev_as (ev_now _) (by rw [if_pos c, if_neg c1, if_pos c2])
    · exact ev_bind (impl_PutText_ev [k % 256] t (by simp) ht) (ev_as (ev_now _) (by rw [if_pos c, if_neg c1, if_neg c2]))
  · exact ev_as (ev_now _) (by rw [if_neg c])

/-! ### spec_l1Text -/
theorem spec_l1Text_l0 (b : List Int) (hb : b.length ≤ 4611686018427387904) (d : Nat) : ∀ (s : ByteArray) (i h : Int), s.size + d = 101 → curB b i → ∃ v i' h', Ev (fun k => spec_l1Text.l0 k s b i h) (v, i', h') ∧ v.size ≤ 101 ∧ curB b i' := by
  induction d with
  | zero =>
    intro s i h hs hc
    obtain ⟨v, i1, h1, e1, m1, c1⟩ := spec_l1Int_some b i h [100, 101, 60] (by simp) hc hb
    have hv : v ≤ 101 := by
      have all : ∀ x ∈ ([100, 101, 60] : List Int), x ≤ 101 := by decide
      exact all v m1
    exact ⟨_, _, _, ev_step (fun k => spec_l1Text.l0.eq_2 ..) (ev_bind1 e1 (ev_neg (by omega) (ev_now _))), by omega, c1⟩
  | succ d ih =>
    intro s i h hs hc
    obtain ⟨v, i1, h1, e1, m1, c1⟩ := spec_l1Int_some b i h [100, 101, 60] (by simp) hc hb
    have hz : (s ++ (⟨#[120]⟩ : ByteArray)).size = s.size + 1 := by
      rw [ByteArray.size_append]
      rfl
    by_cases c : (s.size : Int) < v
    · obtain ⟨v2, i2, h2, e2, s2, c2⟩ := ih (s ++ (⟨#[120]⟩ : ByteArray)) i1 h1 (by omega) c1
      exact ⟨_, _, _, ev_step (fun k => spec_l1Text.l0.eq_2 ..) (ev_bind1 e1 (ev_pos c (ev_pos (by omega) e2))), s2, c2⟩
    · exact ⟨_, _, _, ev_step (fun k => spec_l1Text.l0.eq_2 ..) (ev_bind1 e1 (ev_neg c (ev_now _))), by omega, c1⟩
theorem spec_l1Text_some (b : List Int) (i h : Int) (hc : curB b i) (hb : b.length ≤ 4611686018427387904) : ∃ v i' h', Ev (fun k => spec_l1Text.f k b i h) (v, i', h') ∧ v.size ≤ 101 ∧ curB b i' := by
  unfold spec_l1Text.f
  obtain ⟨v, i1, h1, e1, c1⟩ := spec_l1Once_some b i h 8 hc hb
  by_cases c : v = true
  · obtain ⟨v2, i2, h2, e2, s2, c2⟩ := spec_l1Text_l0 b hb 101 (⟨#[]⟩ : ByteArray) i1 h1 rfl c1
    exact ⟨_, _, _, ev_bind1 e1 (ev_pos c e2), s2, c2⟩
  · obtain ⟨v2, i2, h2, e2, m2, c2⟩ := spec_l1Str_some b i1 h1 [(⟨#[]⟩ : ByteArray), (⟨#[97]⟩ : ByteArray), (⟨#[104, 101, 108, 108, 111]⟩ : ByteArray), (⟨#[98, 101, 103, 105, 110]⟩ : ByteArray), (⟨#[97, 32, 98]⟩ : ByteArray), (⟨#[127]⟩ : ByteArray), (⟨#[31]⟩ : ByteArray), (⟨#[126]⟩ : ByteArray)] (by simp) c1 hb
    have all : ∀ x ∈ [(⟨#[]⟩ : ByteArray), (⟨#[97]⟩ : ByteArray), (⟨#[104, 101, 108, 108, 111]⟩ : ByteArray), (⟨#[98, 101, 103, 105, 110]⟩ : ByteArray), (⟨#[97, 32, 98]⟩ : ByteArray), (⟨#[127]⟩ : ByteArray), (⟨#[31]⟩ : ByteArray), (⟨#[126]⟩ : ByteArray)], x.size ≤ 101 := by decide
    exact ⟨_, _, _, ev_bind1 e1 (ev_neg c (ev_bind1 e2 (ev_now _))), all v2 m2, c2⟩

/-! ### spec_l6Any -/
theorem spec_l6Any_some (b : List Int) (i h : Int) (hc : curB b i) (hb : b.length ≤ 4611686018427387904) : ∃ k t s i' h', Ev (fun n => spec_l6Any.f n b i h) (k, t, s, i', h') ∧ t.size ≤ 101 ∧ curB b i' := by
  unfold spec_l6Any.f
  obtain ⟨k, t, s, i1, h1, e1, s1, c1⟩ := spec_l6Draw_some b i h hc hb
  obtain ⟨v, i2, h2, e2, _, _, c2⟩ := spec_l1Below_some b i1 h1 10 c1 hb
  by_cases d0 : v = 0
  · obtain ⟨a, i3, h3, e3, _, c3⟩ := spec_l1Int_some b i2 h2 [0, 1, 2, 5, 7, (-1)] (by simp) c2 hb
    exact ⟨_, _, _, _, _, ev_bind e1 (ev_bind1 e2 (ev_pos d0 (ev_bind1 e3 (ev_now _)))), s1, c3⟩
  by_cases d1 : v = 1
  · obtain ⟨a, i3, h3, e3, s3, c3⟩ := spec_l1Text_some b i2 h2 c2 hb
    exact ⟨_, _, _, _, _, ev_bind e1 (ev_bind1 e2 (ev_neg d0 (ev_pos d1 (ev_bind e3 (ev_now _))))), s3, c3⟩
  by_cases d2 : v = 2
  · obtain ⟨a, i3, h3, e3, _, c3⟩ := spec_l1Int_some b i2 h2 [1, 2, 3, (-1)] (by simp) c2 hb
    exact ⟨_, _, _, _, _, ev_bind e1 (ev_bind1 e2 (ev_neg d0 (ev_neg d1 (ev_pos d2 (ev_bind1 e3 (ev_now _)))))), s1, c3⟩
  exact ⟨_, _, _, _, _, ev_bind e1 (ev_bind1 e2 (ev_neg d0 (ev_neg d1 (ev_neg d2 (ev_now _))))), s1, c2⟩

/-! ### spec_DrawTell -/
/-- What a socket is after a frame was told to it. -/
def tellV (x : S41) (k : Int) (t : ByteArray) (s : Int) : S41 :=
  if sockB x.f0 x.f1 x.f2 x.f4 x.f5 x.f6 x.f7 = true then ⟨x.f0, x.f1, x.f2, x.f3, x.f4, x.f5 ++ putFrameV k t s, x.f6, x.f7⟩ else x
theorem spec_DrawTell_some (b : List Int) (hb : b.length ≤ 4611686018427387904) : ∃ (x : S41) (k : Int) (t : ByteArray) (s : Int), Ev (fun n => spec_DrawTell.f n b) (x.f0, x.f1, x.f2, x.f3, x.f4, x.f5, x.f6, x.f7, k, t, s) ∧ drawnS x ∧ t.size ≤ 101 := by
  unfold spec_DrawTell.f
  obtain ⟨h, e0⟩ := spec_l1New_some b hb
  obtain ⟨x, i1, h1, e1, o1, c1⟩ := spec_l8Any_some b 0 h ⟨by omega, by omega⟩ hb
  obtain ⟨k, t, s, i2, h2, e2, g2, c2⟩ := spec_l6Any_some b i1 h1 c1 hb
  exact ⟨x, k, t, s, ev_bind e0 (ev_bind e1 (ev_bind e2 (ev_now _))), o1, g2⟩

/-! ### impl_Tell -/
theorem impl_Tell_ev (x : S41) (k : Int) (t : ByteArray) (s : Int) (h4 : x.f4.length ≤ 1000000000000) (h5 : x.f5.length ≤ 1000000000000) (ht : t.size ≤ 1000000000000) :
    Ev (fun n => impl_Tell.f n x.f0 x.f1 x.f2 x.f3 x.f4 x.f5 x.f6 x.f7 k t s) ((tellV x k t s).f0, (tellV x k t s).f1, (tellV x k t s).f2, (tellV x k t s).f3, (tellV x k t s).f4, (tellV x k t s).f5, (tellV x k t s).f6, (tellV x k t s).f7) := by
  have hp := putFrameV_len k t s
  unfold impl_Tell.f tellV
  refine ev_bind1 (impl_sockCopy_eq x h4 h5) (ev_bind (impl_SockOk_ev x) (ev_ite (fun c => ?_) (fun c => ?_)))
  · exact ev_bind (impl_PutFrame_ev k t s ht) (ev_pos (by show x.f5.length + _ < _; omega) (ev_as (ev_now _) (by rw [if_pos c])))
  · exact ev_as (ev_now _) (by rw [if_neg c])

theorem bytes_str (z : List Int) (h : bytesL z) : bytesOf (strOfNums z) = z := by
  unfold bytesOf
  simp only [strOfNums, List.map_map]
  conv => rhs; rw [← List.map_id z]
  refine List.map_congr_left (fun x hx => ?_)
  have := h x hx
  simp only [Function.comp, id]
  rw [UInt8.toNat_ofNat']
  omega
theorem nameB_textB (s : ByteArray) (h : nameB s = true) : textB s = true := by
  unfold nameB at h
  rw [Bool.and_eq_true, allF_iff, inB_iff] at h
  unfold textB
  rw [Bool.and_eq_true, allF_iff]
  refine ⟨fun j h0 h1 => ?_, decide_eq_true (by omega)⟩
  have := (byteIn_iff _ _ _ _).1 (h.1 j h0 h1)
  exact (byteIn_iff _ _ _ _).2 (by omega)
theorem getV_size (l : List Int) : (getV l).2.1.size ≤ l.length := by
  unfold getV
  repeat' split
  all_goals first | (show (⟨#[]⟩ : ByteArray).size ≤ _; exact Nat.zero_le _) | skip
  show (strOfNums _).size ≤ _
  rw [strOfNums_size, List.length_drop, List.length_take]
  omega
theorem get_back (l : List Int) (hb : bytesL l) (h : (getV l).2.2.2.2 = 0) : putFrameV (getV l).1 (getV l).2.1 (getV l).2.2.1 ++ eatL l = l := by
  unfold eatL
  revert h
  unfold getV
  by_cases c0 : (l.length : Int) = 0
  · rw [if_pos c0]; intro h; exact absurd h (by decide)
  rw [if_neg c0]
  obtain ⟨a, m, rfl⟩ : ∃ a m, l = a :: m := by cases l with | nil => simp at c0 | cons a m => exact ⟨a, m, rfl⟩
  have ha := hb a (by simp)
  have r0 : rd (a :: m) 0 = a := rfl
  rw [r0]
  by_cases c3 : a = 3
  · rw [if_pos c3]
    intro _
    subst c3
    have hf : frameB 3 ⟨#[]⟩ 0 = true := by simp [frameB, empty_toList]
    show putFrameV 3 ⟨#[]⟩ 0 ++ m = 3 :: m
    unfold putFrameV
    rw [if_pos hf, if_neg (by decide), if_pos rfl]
    rfl
  rw [if_neg c3]
  by_cases cb : inB a 1 6 = false
  · rw [if_pos cb]; intro h; exact absurd h (by decide)
  rw [if_neg cb]
  by_cases c2 : ((a :: m).length : Int) < 2
  · rw [if_pos c2]; intro h; exact absurd h (by decide)
  rw [if_neg c2]
  obtain ⟨c, q, rfl⟩ : ∃ c q, m = c :: q := by cases m with | nil => simp at c2 | cons c q => exact ⟨c, q, rfl⟩
  have hcb := hb c (by simp)
  have r1 : rd (a :: c :: q) 1 = c := rfl
  rw [r1]
  by_cases c5 : a = 5
  · rw [if_pos c5]
    subst c5
    by_cases cs : inB c 0 2 = true
    · rw [if_pos cs]
      intro _
      have g := (inB_iff _ _ _).1 cs
      have hf : frameB 5 ⟨#[]⟩ c = true := by simp [frameB, empty_toList, cs]
      show putFrameV 5 ⟨#[]⟩ c ++ q = 5 :: c :: q
      unfold putFrameV
      rw [if_pos hf, if_pos rfl, show c % 256 = c by omega]
      rfl
    · rw [if_neg cs]; intro h; exact absurd h (by decide)
  rw [if_neg c5]
  by_cases c1 : c > 100
  · rw [if_pos c1]; intro h; exact absurd h (by decide)
  rw [if_neg c1]
  by_cases cl : ((a :: c :: q).length : Int) < 2 + c
  · rw [if_pos cl]; intro h; exact absurd h (by decide)
  rw [if_neg cl]
  simp only [List.length_cons] at cl
  have e2 : (2 + c).toNat = c.toNat + 1 + 1 := by omega
  have hd : ((a :: c :: q).take (2 + c).toNat).drop 2 = q.take c.toNat := by rw [e2]; rfl
  have hd2 : (a :: c :: q).drop (2 + c).toNat = q.drop c.toNat := by rw [e2]; rfl
  rw [hd]
  have hq : bytesL (q.take c.toNat) := fun x hx => hb x (by simp [List.mem_of_mem_take hx])
  by_cases cf : frameB a (strOfNums (q.take c.toNat)) 0 = true
  · rw [if_pos cf]
    intro _
    show putFrameV a (strOfNums (q.take c.toNat)) 0 ++ (a :: c :: q).drop (2 + c).toNat = _
    have ht : textB (strOfNums (q.take c.toNat)) = true := by
      have cf2 := cf
      unfold frameB at cf2
      by_cases k1 : a = 1
      · rw [if_pos k1, Bool.and_eq_true] at cf2
        exact nameB_textB _ cf2.1
      rw [if_neg k1] at cf2
      by_cases k2 : a = 2 ∨ a = 4 ∨ a = 6
      · rw [if_pos k2, Bool.and_eq_true] at cf2
        exact cf2.1
      rw [if_neg k2, if_neg c5, if_neg c3] at cf2
      cases cf2
    have hs : (strOfNums (q.take c.toNat)).size = c.toNat := by rw [strOfNums_size, List.length_take]; omega
    unfold putFrameV
    rw [if_pos cf, if_neg c5, if_neg c3]
    unfold putTextV
    rw [if_pos ht, hs, bytes_str _ hq, hd2]
    have e4 : a % 256 = a := by omega
    have e5 : (c.toNat : Int) % 256 = c := by omega
    rw [e4, e5]
    simp
  · rw [if_neg cf]; intro h; exact absurd h (by decide)
theorem get_zero (l : List Int) (h : (getV l).2.2.2.2 ≠ 0) : eatL l = l := by
  unfold eatL
  revert h
  unfold getV
  repeat' split
  all_goals first | (intro _; rfl) | (intro h; exact absurd rfl h)
def sk1 (x : S41) : Bool := sockB x.f0 x.f1 x.f2 x.f4 x.f5 x.f6 x.f7
theorem rd_nth (l : List S41) (i : Nat) (h : i < l.length) : rd_T41 l (i : Int) = l[i] := getD_nth _ l i h
theorem socksB_iff (l : List S41) : socksB l = true ↔ (∀ x ∈ l, sk1 x = true) ∧ (l.map (·.f0)).Pairwise (· < ·) ∧ (l.length : Int) ≤ 12 := by
  unfold socksB
  rw [Bool.and_eq_true, decide_eq_true_eq, allF_iff]
  have at_ : ∀ i : Nat, (h : i < l.length) → sockAtB l (i : Int) = (sk1 l[i] && !(decide ((i : Int) > 0) && decide ((rd_T41 l (i : Int)).f0 ≤ (rd_T41 l ((i : Int) - 1)).f0))) := fun i h => by
    unfold sockAtB sk1
    rw [rd_nth l i h]
  constructor
  · rintro ⟨h, hl⟩
    have hs : ∀ i : Nat, (hi : i < l.length) → sk1 l[i] = true ∧ (∀ hp : i + 1 < l.length, l[i].f0 < l[i + 1].f0) := fun i hi => by
      have h0 := h (i : Int) (by omega) (by omega)
      rw [at_ i hi, Bool.and_eq_true] at h0
      refine ⟨h0.1, fun hp => ?_⟩
      have h1 := h ((i + 1 : Nat) : Int) (by omega) (by omega)
      rw [at_ (i + 1) hp, Bool.and_eq_true] at h1
      have h2 := h1.2
      rw [show (((i + 1 : Nat) : Int) - 1) = (i : Int) by omega, rd_nth l i hi, rd_nth l (i + 1) hp, decide_eq_true (show ((i + 1 : Nat) : Int) > 0 by omega), Bool.true_and, Bool.not_eq_true', decide_eq_false_iff_not] at h2
      omega
    refine ⟨fun x hx => ?_, ?_, hl⟩
    · obtain ⟨i, hi, rfl⟩ := List.mem_iff_getElem.1 hx
      exact (hs i hi).1
    · rw [List.pairwise_iff_getElem]
      have go : ∀ (d i : Nat) (hp : i + d + 1 < l.length), (l[i]'(by omega)).f0 < (l[i + d + 1]'hp).f0 := by
        intro d
        induction d with
        | zero => intro i hp; exact (hs i (by omega)).2 hp
        | succ d ih => intro i hp; exact Int.lt_trans (ih i (by omega)) ((hs (i + d + 1) (by omega)).2 hp)
      intro i j hi hj hij
      simp only [List.getElem_map]
      simp only [List.length_map] at hi hj
      obtain ⟨d, rfl⟩ : ∃ d, j = i + d + 1 := ⟨j - i - 1, by omega⟩
      exact go d i hj
  · rintro ⟨h1, h2, hl⟩
    refine ⟨fun j h0 hj => ?_, hl⟩
    obtain ⟨i, rfl⟩ : ∃ i : Nat, j = (i : Int) := ⟨j.toNat, by omega⟩
    have hi : i < l.length := by omega
    rw [at_ i hi, h1 _ (List.getElem_mem hi), Bool.true_and, Bool.not_eq_true']
    by_cases c : (i : Int) > 0
    · rw [List.pairwise_iff_getElem] at h2
      have h3 := h2 (i - 1) i (by rw [List.length_map]; omega) (by rw [List.length_map]; omega) (by omega)
      simp only [List.getElem_map] at h3
      rw [decide_eq_true c, Bool.true_and, decide_eq_false_iff_not, rd_nth l i hi, show ((i : Int) - 1) = ((i - 1 : Nat) : Int) by omega, rd_nth l (i - 1) (by omega)]
      omega
    · rw [decide_eq_false c, Bool.false_and]
theorem hold_in (h d : Int) (hh : inB h 1 3 = true) (hd : inB d 1 3 = true) (hz : Go.bits .andNot .i64 h d ≠ 0) : inB (Go.bits .andNot .i64 h d) 1 3 = true := by
  have g := (inB_iff _ _ _).1 hh
  have g2 := (inB_iff _ _ _).1 hd
  rcases (show h = 1 ∨ h = 2 ∨ h = 3 by omega) with rfl | rfl | rfl <;> rcases (show d = 1 ∨ d = 2 ∨ d = 3 by omega) with rfl | rfl | rfl <;> first | rfl | exact absurd rfl hz
theorem frS_ok (a1 a2 : Int) (x y : S41) (hy : y ∈ frS a1 a2 x) : y.f0 = x.f0 ∧ y.f4 = x.f4 ∧ y.f5 = x.f5 ∧ (sk1 x = true → sk1 y = true) := by
  unfold frS at hy
  by_cases c : x.f0 = a1 ∧ inB a2 1 3 = true
  · rw [if_pos c] at hy
    by_cases z : Go.bits .andNot .i64 x.f2 a2 = 0
    · rw [if_pos z] at hy; cases hy
    · rw [if_neg z, List.mem_singleton] at hy
      subst hy
      refine ⟨rfl, rfl, rfl, fun h => ?_⟩
      unfold sk1 sockB at h ⊢
      simp only [Bool.and_eq_true] at h ⊢
      exact ⟨h.1, hold_in _ _ h.2.1 c.2 z, h.2.2⟩
  · rw [if_neg c, List.mem_singleton] at hy
    subst hy
    exact ⟨rfl, rfl, rfl, fun h => h⟩
theorem fr_sub (a1 a2 : Int) : ∀ l : List S41, ((fr a1 a2 l).map (·.f0)).Sublist (l.map (·.f0))
  | [] => List.Sublist.refl _
  | x :: l => by
    have h := fr_sub a1 a2 l
    have e : fr a1 a2 (x :: l) = frS a1 a2 x ++ fr a1 a2 l := List.flatMap_cons
    have hl := frS_len a1 a2 x
    have ho := frS_ok a1 a2 x
    rw [e]
    cases hf : frS a1 a2 x with
    | nil => exact List.Sublist.cons _ h
    | cons y m =>
      rw [hf] at hl ho
      have hm : m = [] := by simpa using hl
      subst hm
      have := (ho y (by simp)).1
      simp only [List.cons_append, List.nil_append, List.map_cons]
      rw [this]
      exact List.Sublist.cons_cons _ h
theorem fr_mem (a1 a2 : Int) (l : List S41) (y : S41) (hy : y ∈ fr a1 a2 l) : ∃ x ∈ l, y ∈ frS a1 a2 x := by
  unfold fr at hy
  exact List.mem_flatMap.1 hy
theorem fr_socks (a1 a2 : Int) (l : List S41) (h : socksB l = true) : socksB (fr a1 a2 l) = true := by
  obtain ⟨h1, h2, h3⟩ := (socksB_iff l).1 h
  refine (socksB_iff _).2 ⟨fun y hy => ?_, List.Pairwise.sublist (fr_sub a1 a2 l) h2, by have := fr_len a1 a2 l; omega⟩
  obtain ⟨x, hx, hxy⟩ := fr_mem a1 a2 l y hy
  exact (frS_ok a1 a2 x y hxy).2.2.2 (h1 x hx)
theorem fr_okSk {m : Nat} (a1 a2 : Int) (l : List S41) (h : okSk l m) : okSk (fr a1 a2 l) m := by
  refine ⟨Nat.le_trans (fr_len a1 a2 l) h.1, fun y hy => ?_⟩
  obtain ⟨x, hx, hxy⟩ := fr_mem a1 a2 l y hy
  obtain ⟨_, e4, e5, _⟩ := frS_ok a1 a2 x y hxy
  have d := h.2 x hx
  unfold drawnS at d ⊢
  rw [e4, e5]
  exact d
theorem socks_end (l : List S41) (hl : okSk l 20) (a1 a2 : Int) : Ev (fun k => (impl_SocksOk.f k l).bind fun t => if t = true then ((impl_SocksOk.f k (fr a1 a2 l)).bind fun u => if u = true then some (decide (((fr a1 a2 l).length : Int) ≤ (l.length : Int))) else some false) else some (decide (((fr a1 a2 l).length : Int) ≤ (l.length : Int)))) true := by
  have hle : decide (((fr a1 a2 l).length : Int) ≤ (l.length : Int)) = true := decide_eq_true (by have := fr_len a1 a2 l; omega)
  refine ev_bind (impl_SocksOk_ev l (by have := hl.1; omega)) (ev_ite (fun h => ?_) (fun h => ev_as (ev_now _) hle))
  exact ev_bind (impl_SocksOk_ev _ (by have := (fr_okSk a1 a2 l hl).1; omega)) (ev_pos (fr_socks a1 a2 l h) (ev_as (ev_now _) hle))
theorem socks_j2 (b : List Int) (hb : b.length ≤ 4611686018427387904) (l : List S41) (hl : okSk l 20) (a1 a2 : Int) : Ev (fun k => laws_FnSocks.j2 k b l (fr a1 a2 l) false) true := by
  have he := socks_end l hl a1 a2
  obtain ⟨x, k, t, s, e1, o1, ht⟩ := spec_DrawTell_some b hb
  refine ev_step (fun k => laws_FnSocks.j2.eq_2 ..) (ev_neg (by simp) (ev_bind e1 (ev_bind (impl_Tell_ev x k t s (by have := o1.2.1; omega) (by have := o1.2.2.2; omega) (by omega)) (ev_bind (impl_SockOk_ev x) (ev_ite (fun c => ?_) (fun _ => he))))))
  have hp := putFrameV_len k t s
  have h5 := o1.2.2.2
  have ev : (tellV x k t s).f5 = x.f5 ++ putFrameV k t s := by
    unfold tellV
    rw [if_pos c]
  refine ev_bind1 rfl (ev_pos (by simp; omega) (ev_bind1 rfl (ev_bind (impl_PutFrame_ev k t s (by omega)) (ev_pos (by simp; omega) ?_))))
  refine ev_bind1 (by rw [ev]; exact laws_same_eq _) (ev_pos rfl he)
theorem socks_j1 (b : List Int) (hb : b.length ≤ 4611686018427387904) (l : List S41) (hl : okSk l 20) (a1 a2 : Int) (x : S41) (hx : drawnS x) :
    Ev (fun k => laws_FnSocks.j1 k b (peekV x.f3 x.f4).2.2.2 l (fr a1 a2 l) false x.f0 x.f1 x.f2 x.f3 x.f4 x.f5 x.f6 x.f7 x.f0 x.f1 x.f2 x.f3 (eatL x.f4) x.f5 x.f6 x.f7 (peekV x.f3 x.f4).1 (peekV x.f3 x.f4).2.1 (peekV x.f3 x.f4).2.2.1) true := by
  have h2 := socks_j2 b hb l hl a1 a2
  have hsz : (peekV x.f3 x.f4).2.1.size ≤ 1000000000000 := by
    unfold peekV
    split
    · show (0 : Nat) ≤ _; omega
    · have := getV_size x.f4
      have := hx.2.1
      show (getV x.f4).2.1.size ≤ _
      omega
  refine ev_step (fun k => laws_FnSocks.j1.eq_2 ..) (ev_neg (by simp) (ev_ite (fun c => ?_) (fun c => ?_)))
  · have hne : ¬ ((getV x.f4).2.2.2.2 = 1 ∧ x.f3 = true ∧ (x.f4.length : Int) > 0) := fun h => by
      unfold peekV at c
      rw [if_pos h] at c
      exact absurd c (by decide)
    have hp : peekV x.f3 x.f4 = ((getV x.f4).1, (getV x.f4).2.1, (getV x.f4).2.2.1, (getV x.f4).2.2.2.2) := by
      unfold peekV
      rw [if_neg hne]
    have hz : (getV x.f4).2.2.2.2 = 0 := by rw [hp] at c; exact c
    have hb4 := get_back x.f4 hx.1 hz
    have hl4 : (eatL x.f4).length ≤ x.f4.length := by unfold eatL; rw [List.length_drop]; omega
    have hput := putFrameV_len (peekV x.f3 x.f4).1 (peekV x.f3 x.f4).2.1 (peekV x.f3 x.f4).2.2.1
    refine ev_bind (impl_PutFrame_ev _ _ _ hsz) (ev_pos (by have := hx.2.1; omega) (ev_bind1 (by rw [hp]; simp only; rw [hb4]; exact laws_same_eq _) (ev_pos rfl h2)))
  · have hz : (getV x.f4).2.2.2.2 ≠ 0 := fun hz => c (by
      unfold peekV
      rw [if_neg (fun h => by rw [hz] at h; exact absurd h.1 (by decide))]
      exact hz)
    exact ev_bind1 (a := true) (by rw [get_zero x.f4 hz]; exact laws_same_eq _) h2
theorem socks_j0 (b : List Int) (hb : b.length ≤ 4611686018427387904) (l : List S41) (hl : okSk l 20) (a1 a2 : Int) (x : S41) (hx : drawnS x) (s : S41) (q : List Int) (hs : drawnS s) (hq : q.length ≤ 1000) :
    Ev (fun k => laws_FnSocks.j0 k b q (hearV s q).2 (peekV x.f3 x.f4).2.2.2 l (fr a1 a2 l) false s.f0 s.f1 s.f2 s.f3 s.f4 s.f5 s.f6 s.f7 (hearV s q).1.f0 (hearV s q).1.f1 (hearV s q).1.f2 (hearV s q).1.f3 (hearV s q).1.f4 (hearV s q).1.f5 (hearV s q).1.f6 (hearV s q).1.f7 x.f0 x.f1 x.f2 x.f3 x.f4 x.f5 x.f6 x.f7 x.f0 x.f1 x.f2 x.f3 (eatL x.f4) x.f5 x.f6 x.f7 (peekV x.f3 x.f4).1 (peekV x.f3 x.f4).2.1 (peekV x.f3 x.f4).2.2.1) true := by
  have h1 := socks_j1 b hb l hl a1 a2 x hx
  have h4 := hs.2.1
  refine ev_step (fun k => laws_FnSocks.j0.eq_2 ..) (ev_neg (by simp) ?_)
  unfold hearV
  split
  · refine ev_pos rfl (ev_bind1 rfl (ev_pos (by simp; omega) (ev_bind1 rfl (ev_pos (by simp; omega) ?_))))
    exact ev_bind1 (laws_same_eq _) (ev_pos rfl h1)
  · exact ev_neg (by simp) (ev_bind1 (laws_sameSock_eq s) h1)
theorem FnSocks : laws_FnSocks.Pure := by
  intro b _ hm hw
  refine ev_rounds ?_
  have hb : b.length ≤ 4611686018427387904 := by omega
  unfold laws_FnSocks.f
  refine ev_bind1 (laws_big_eq b) (ev_ite (fun _ => ev_now _) (fun cb => ?_))
  obtain ⟨s, q, e1, os, lq⟩ := spec_DrawHear_some b hb
  obtain ⟨x, e2, ox⟩ := spec_DrawEat_some b hb
  obtain ⟨l, id, ho, e3, ol⟩ := spec_DrawFree_some b hb
  have z : ∀ {y : S41}, drawnS y → y.f4.length ≤ 1000000000000 ∧ y.f5.length ≤ 1000000000000 := fun h => ⟨by have := h.2.1; omega, by have := h.2.2.2; omega⟩
  have hl : l.length ≤ 1000000000000 := by have := ol.1; omega
  have hj := socks_j0 b hb l ol id ho x ox s q os lq
  refine ev_bind e1 (ev_bind (impl_Hear_ev s q (z os).1 (z os).2 (by omega)) (ev_bind (spec_Hear_ev s q (z os).1 (z os).2 (by omega)) (ev_bind e2 (ev_bind (impl_Eat_ev x (z ox).1 (z ox).2 ox.1) ?_))))
  refine ev_bind (impl_Peek_ev x (by have := ox.2.1; omega) ox.1) (ev_bind (spec_Peek_ev x (by have := ox.2.1; omega) ox.1) (ev_bind e3 (ev_bind (impl_Free_ev l id ho hl (fun y hy => z (ol.2 y hy))) ?_)))
  refine ev_neg (by simp) (ev_bind (impl_SockOk_ev s) (ev_bind (spec_SockOk_ev s) (ev_neg (by simp) (ev_neg (by simp) (ev_pos rfl ?_)))))
  refine ev_bind (spec_Free_ev l id ho hl (fun y hy => z (ol.2 y hy))) (ev_bind (laws_sameSocks_ev _ (by have := (fr_okSk id ho l ol).1; omega)) (ev_pos rfl ?_))
  refine ev_bind (impl_SocksOk_ev l (by have := ol.1; omega)) (ev_bind (spec_SocksOk_ev l (by have := ol.1; omega)) ?_)
  rw [show (socksB l != socksB l) = false from bne_self_eq_false _]
  exact hj
end Go.Proofs.Ytiffahfpfgnjnaa.Pure
