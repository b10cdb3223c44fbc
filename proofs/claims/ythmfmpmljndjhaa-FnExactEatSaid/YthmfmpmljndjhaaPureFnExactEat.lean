/- The program's Eat answers as the reference's, whatever the socket; what came in stays as it is, and the answer's slices are its own. -/
import Derived.Test.YthmfmpmljndjhaaVFnExactEat
import Derived.Test.YthmfmpmljndjhaaVBase
import Derived.Test.YthmfmpmljndjhaaVExt
import Derived.Test.YthmfmpmljndjhaaVMark
namespace Go.Proofs.Ythmfmpmljndjhaa.Pure
open Go.RowKit Go.Proofs.Ythmfmpmljndjhaa.PFnExactEat Go.Proofs.Ythmfmpmljndjhaa.VFnExactEat Go.Proofs.YthmfmpmljndjhaaW.PrintWords Go.Proofs.YthmfmpmljndjhaaW.PrintLast Go.Proofs.YthmfmpmljndjhaaV
set_option linter.unusedVariables false
set_option linter.unusedSimpArgs false
set_option maxRecDepth 20000

/-! ### laws_szByteS -/
def szl_ByteS (l : List Int) : Nat := l.length
theorem sz_ByteS (l : List Int) (hl : l.length ≤ 9223372036854775807) (left : Int) (h0 : 0 ≤ left) (h1 : left ≤ 1048576) :
    ∃ t, Ev (fun k => laws_szByteS.f l left) t ∧ (t < 0 ∨ 0 ≤ t ∧ t + (szl_ByteS l : Int) = left) := by
  unfold laws_szByteS.f szl_ByteS
  have e : wrap64 (left - (l.length : Int)) = left - (l.length : Int) := w64 (by omega) (by omega)
  simp only [e]
  by_cases hc : left - (l.length : Int) < 0
  · exact ⟨-1, ev_pos hc (ev_now _), .inl (by omega)⟩
  · exact ⟨_, ev_neg hc (ev_now _), .inr ⟨by omega, by omega⟩⟩

/-! ### laws_szSock -/
def szv_Sock (x : S48) : Nat := szl_ByteS x.f4 + szl_ByteS x.f5
theorem sz_Sock (x : S48) (hG : G48 x) (left : Int) (h0 : 0 ≤ left) (h1 : left ≤ 1048576) :
    ∃ t, Ev (fun k => laws_szSock.f x.f0 x.f1 x.f2 x.f3 x.f4 x.f5 x.f6 x.f7 left) t ∧ (t < 0 ∨ 0 ≤ t ∧ t + (szv_Sock x : Int) = left) := by
  obtain ⟨g0, g1, g2, g3, g4, g5, g6, g7⟩ := hG
  unfold laws_szSock.f szv_Sock
  obtain ⟨t4, et4, ct4⟩ := sz_ByteS x.f4 g4.1 (left) (by omega) (by omega)
  rcases ct4 with ct4 | ⟨ct4, dt4⟩
  · exact ⟨-1, ev_bind et4 (ev_pos ct4 (ev_now _)), .inl (by omega)⟩
  obtain ⟨t5, et5, ct5⟩ := sz_ByteS x.f5 g5.1 (t4) (by omega) (by omega)
  rcases ct5 with ct5 | ⟨ct5, dt5⟩
  · exact ⟨-1, ev_bind et4 (ev_neg (by omega) (ev_bind et5 (ev_pos ct5 (ev_now _)))), .inl (by omega)⟩
  exact ⟨_, ev_bind et4 (ev_neg (by omega) (ev_bind et5 (ev_neg (by omega) (ev_now _)))), .inr ⟨by omega, by omega⟩⟩

/-! ### laws_toByteS -/
theorem to_ByteS_l0 (l : List Int) (hs : szl_ByteS l ≤ 1048576) (d : Nat) : ∀ (i : Nat) (x : List Int), i + d = l.length → x.length = l.length → x.take i = (l).take i → Ev (fun k => laws_toByteS.l0 k l x (i : Int)) (l) := by
  have hl : l.length ≤ 1048576 := by unfold szl_ByteS at hs; omega
  induction d with
  | zero =>
    intro i x hi hx ht
    refine ev_as (ev_step (fun k => laws_toByteS.l0.eq_2 ..) (ev_neg (by omega) (ev_now _))) ?_
    rw [List.take_of_length_le (by omega), List.take_of_length_le (by first | omega | (simp; omega))] at ht
    exact ht
  | succ d ih =>
    intro i x hi hx ht
    have hlt : i < l.length := by omega
    have hr : rd l (i : Int) = l[i] := rd_nth l i hlt
    refine ev_step (fun k => laws_toByteS.l0.eq_2 ..) (ev_pos (by omega) (ev_pos (by omega) ?_))
    refine ev_pos (by omega) ?_
    rw [hr, Int.toNat_natCast, w64 (by omega) (by omega)]
    exact ih (i + 1) _ (by omega) (by simp; omega) (take_set x l i _ (by omega) (by omega) ht rfl)
theorem to_ByteS (l : List Int) (hs : szl_ByteS l ≤ 1048576) : Ev (fun k => laws_toByteS.f k l) (l) := by
  have hl : l.length ≤ 1048576 := by unfold szl_ByteS at hs; omega
  unfold laws_toByteS.f
  refine ev_pos (by omega) (ev_pos (by simp; omega) ?_)
  exact to_ByteS_l0 l hs l.length 0 _ (by omega) (by simp) (by simp)

/-! ### laws_toSock -/
def cv_Sock (x : S48) : S50 := ⟨x.f0, x.f1, x.f2, x.f3, x.f4, x.f5, x.f6, x.f7⟩
theorem to_Sock (x : S48) (hs : szv_Sock x ≤ 1048576) : Ev (fun k => laws_toSock.f k x.f0 x.f1 x.f2 x.f3 x.f4 x.f5 x.f6 x.f7) ((cv_Sock x).f0, (cv_Sock x).f1, (cv_Sock x).f2, (cv_Sock x).f3, (cv_Sock x).f4, (cv_Sock x).f5, (cv_Sock x).f6, (cv_Sock x).f7) := by
  unfold szv_Sock at hs
  unfold laws_toSock.f
  refine ev_bind (to_ByteS x.f4 (by omega)) ?_
  refine ev_bind (to_ByteS x.f5 (by omega)) ?_
  exact ev_now _

/-! ### laws_eqByteS -/
def eqcl_ByteS (l : List Int) : Prop := l.length ≤ 4611686018427387904
theorem eq_ByteS_l0 (l : List Int) (hq : eqcl_ByteS l) (d : Nat) : ∀ i : Nat, i + d = l.length → Ev (fun k => laws_eqByteS.l0 k l l (i : Int)) true := by
  have hl : l.length ≤ 4611686018427387904 := hq
  induction d with
  | zero =>
    intro i hi
    exact ev_step (fun k => laws_eqByteS.l0.eq_2 ..) (ev_neg (by omega) (ev_now _))
  | succ d ih =>
    intro i hi
    have hn := ih (i + 1) (by omega)
    have hlt : i < l.length := by omega
    refine ev_step (fun k => laws_eqByteS.l0.eq_2 ..) (ev_pos (by omega) (ev_pos (by omega) (ev_pos (by omega) ?_)))
    rw [w64 (by omega) (by omega)]
    exact ev_pos rfl hn
theorem eq_ByteS (l : List Int) (hq : eqcl_ByteS l) : Ev (fun k => laws_eqByteS.f k l l) true := by
  unfold laws_eqByteS.f
  exact ev_pos rfl (eq_ByteS_l0 l hq l.length 0 (by omega))

/-! ### laws_eqSock -/
def eqc_Sock (x : S50) : Prop := eqcl_ByteS x.f4 ∧ eqcl_ByteS x.f5
theorem eq_Sock (x : S50) (hq : eqc_Sock x) : Ev (fun k => laws_eqSock.f k x.f0 x.f1 x.f2 x.f3 x.f4 x.f5 x.f6 x.f7 x.f0 x.f1 x.f2 x.f3 x.f4 x.f5 x.f6 x.f7) true := by
  unfold laws_eqSock.f
  exact ev_pos rfl (ev_pos rfl (ev_pos rfl (ev_neg (by simp) (ev_bind (eq_ByteS x.f4 (hq.1)) (ev_pos rfl (ev_bind (eq_ByteS x.f5 (hq.2)) (ev_pos rfl (ev_pos rfl (ev_pos rfl (ev_now _))))))))))

/-! ### laws_markByteS -/
def mk_Byte (k : Int) : Int := k % 256
theorem mark_ByteS (l : List Int) (hl : l.length ≤ 4611686018427387904) (k : Int) (h0 : 0 ≤ k) (h1 : k + 1 * (l.length : Int) ≤ 4611686018427387904) : Ev (fun n => laws_markByteS.f n l k) (k + 1 * (l.length : Int), mkl mk_Byte 1 k l.length) := by
  refine mark_loop (g := fun n x k i => laws_markByteS.l0 n x k i) (by omega) (fun x k i hi => ev_step (fun n => laws_markByteS.l0.eq_2 ..) (ev_neg (by omega) (ev_now _))) (fun x k i r hi hx h0 h1 hn => ?_) l hl k h0 h1
  refine ev_step (fun n => laws_markByteS.l0.eq_2 ..) (ev_pos (by omega) (ev_pos (by omega) ?_))
  have wi : wrap64 ((i : Int) + 1) = (i : Int) + 1 := w64 (by omega) (by omega)
  have w1 : wrap64 (k + 1) = k + 1 := w64 (by omega) (by omega)
  rw [show k + 1 = k + 1 by omega] at hn
  simp only [wi, w1, Int.toNat_natCast]
  exact hn

/-! ### laws_markSock -/
theorem mark_Sock (x : S50) (k : Int) (h0 : 0 ≤ k) (h1 : k ≤ 1000000000000) (h4 : x.f4.length ≤ 1000000000000) (h5 : x.f5.length ≤ 1000000000000) :
    Ev (fun n => laws_markSock.f n x.f0 x.f1 x.f2 x.f3 x.f4 x.f5 x.f6 x.f7 k) (k + 1 * (x.f4.length : Int) + 1 * (x.f5.length : Int), mkl mk_Byte 1 k x.f4.length, mkl mk_Byte 1 (k + 1 * (x.f4.length : Int)) x.f5.length) := by
  unfold laws_markSock.f
  exact ev_bind (mark_ByteS x.f4 (by omega) k h0 (by omega)) (ev_bind (mark_ByteS x.f5 (by omega) _ (by omega) (by omega)) (ev_now _))

/-! ### laws_heldByteS -/
theorem held_ByteS (m : Nat) (hm : m ≤ 4611686018427387904) (k : Int) (h0 : 0 ≤ k) (h1 : k + 1 * (m : Int) ≤ 4611686018427387904) : Ev (fun n => laws_heldByteS.f n (mkl mk_Byte 1 k m) k) (k + 1 * (m : Int)) := by
  refine held_loop (g := fun n x k i => laws_heldByteS.l0 n x k i) (by omega) (fun x k i hi => ev_step (fun n => laws_heldByteS.l0.eq_2 ..) (ev_neg (by omega) (ev_now _))) (fun x k i r hi he hx h0 h1 hn => ?_) m hm k h0 h1
  have hr : rd x (i : Int) = mk_Byte k := (rd_nth x i hi).trans he
  refine ev_step (fun n => laws_heldByteS.l0.eq_2 ..) (ev_pos (by omega) (ev_pos (by omega) ?_))
  have wi : wrap64 ((i : Int) + 1) = (i : Int) + 1 := w64 (by omega) (by omega)
  have w1 : wrap64 (k + 1) = k + 1 := w64 (by omega) (by omega)
  rw [show k + 1 = k + 1 by omega] at hn
  simp only [hr, w1, wi]
  exact ev_pos rfl (hn)

/-! ### laws_heldSock -/
theorem held_Sock (x0 x1 x2 : Int) (x3 : Bool) (m4 m5 : Nat) (x6 x7 : Int) (k : Int) (h0 : 0 ≤ k) (h1 : k ≤ 1000000000000) (h4 : m4 ≤ 1000000000000) (h5 : m5 ≤ 1000000000000) :
    Ev (fun n => laws_heldSock.f n x0 x1 x2 x3 (mkl mk_Byte 1 k m4) (mkl mk_Byte 1 (k + 1 * (m4 : Int)) m5) x6 x7 k) (k + 1 * (m4 : Int) + 1 * (m5 : Int)) := by
  unfold laws_heldSock.f
  exact ev_bind (held_ByteS m4 (by omega) k h0 (by omega)) (ev_neg (by omega) (ev_bind (held_ByteS m5 (by omega) _ (by omega) (by omega)) (ev_neg (by omega) (ev_now _))))

/-! ### spec_l8Copy -/
theorem spec_l8Copy_eq (x : S50) (h4 : x.f4.length ≤ 1000000000000) (h5 : x.f5.length ≤ 1000000000000) : spec_l8Copy.f x.f0 x.f1 x.f2 x.f3 x.f4 x.f5 x.f6 x.f7 = some (x.f0, x.f1, x.f2, x.f3, x.f4, x.f5, x.f6, x.f7) := by
  unfold spec_l8Copy.f
  simp only [Option.bind_some, List.nil_append, List.length_nil]
  rw [if_pos (by omega), if_pos (by omega)]

/-! ### spec_l1In -/
theorem spec_l1In_eq (a b c : Int) : spec_l1In.f a b c = some (inB a b c) := by
  unfold spec_l1In.f inB
  by_cases h : b ≤ a <;> simp [h]

/-! ### spec_TextOk -/
theorem spec_TextOk_l0 (s : ByteArray) (hs : s.size ≤ 4611686018427387904) (d : Nat) : ∀ i : Int, 0 ≤ i → i + d = s.size → i ≤ 101 → Ev (fun k => spec_TextOk.l0 k s i) (allF (byteIn s 32 126) i d && decide ((s.size : Int) ≤ 100)) := by
  induction d with
  | zero =>
    intro i h0 h1 h2
    refine ev_step (fun k => spec_TextOk.l0.eq_2 ..) ?_
    refine ev_neg (by omega) ?_
    refine ev_step (fun k => spec_TextOk.j1.eq_2 ..) ?_
    refine ev_neg (by decide) ?_
    exact ev_now _
  | succ d ih =>
    intro i h0 h1 h2
    refine ev_step (fun k => spec_TextOk.l0.eq_2 ..) ?_
    refine ev_pos (by omega) ?_
    refine ev_step (fun k => spec_TextOk.j1.eq_2 ..) ?_
    refine ev_ite (fun c0 => ?_) (fun c0 => ?_)
    · have c0' := of_decide_eq_true c0
      refine ev_pos (by omega) (ev_pos (by omega) ?_)
      refine ev_ite (fun c1 => ?_) (fun c1 => ev_ite (fun c2 => ?_) (fun c2 => ?_))
      · refine ev_as (ev_now _) ?_
        have : byteIn s 32 126 i = false := by rw [byteIn_false]; omega
        simp [allF, this]
      · refine ev_as (ev_now _) ?_
        have : byteIn s 32 126 i = false := by rw [byteIn_false]; omega
        simp [allF, this]
      · have : byteIn s 32 126 i = true := by rw [byteIn_iff]; omega
        rw [w64 (by omega) (by omega), allF, this, Bool.true_and]
        exact ih (i + 1) (by omega) (by omega) (by omega)
    · have c0' : ¬ i ≤ 100 := fun h => c0 (decide_eq_true h)
      refine ev_as (ev_now _) ?_
      have : decide ((s.size : Int) ≤ 100) = false := decide_eq_false (by omega)
      rw [this, Bool.and_false]
theorem spec_TextOk_ev (s : ByteArray) (hs : s.size ≤ 4611686018427387904) : Ev (fun k => spec_TextOk.f k s) (textB s) := spec_TextOk_l0 s hs s.size 0 (by omega) (by omega) (by omega)

/-! ### spec_l1Name -/
theorem spec_l1Name_l0 (s : ByteArray) (hs : s.size ≤ 4611686018427387904) (d : Nat) : ∀ i : Int, 0 ≤ i → i + d = s.size → Ev (fun k => spec_l1Name.l0 k s i) (allF (byteIn s 97 122) i d && inB s.size 1 8) := by
  induction d with
  | zero =>
    intro i h0 h1
    refine ev_step (fun k => spec_l1Name.l0.eq_2 ..) ?_
    refine ev_neg (by omega) ?_
    rw [spec_l1In_eq]
    exact ev_now _
  | succ d ih =>
    intro i h0 h1
    refine ev_step (fun k => spec_l1Name.l0.eq_2 ..) ?_
    refine ev_pos (by omega) (ev_pos (by omega) ?_)
    refine ev_ite (fun c1 => ?_) (fun c1 => ev_ite (fun c2 => ?_) (fun c2 => ?_))
    · refine ev_as (ev_now _) ?_
      have : byteIn s 97 122 i = false := by rw [byteIn_false]; omega
      simp [allF, this]
    · refine ev_as (ev_now _) ?_
      have : byteIn s 97 122 i = false := by rw [byteIn_false]; omega
      simp [allF, this]
    · have : byteIn s 97 122 i = true := by rw [byteIn_iff]; omega
      rw [w64 (by omega) (by omega), allF, this, Bool.true_and]
      exact ih (i + 1) (by omega) (by omega)
theorem spec_l1Name_ev (s : ByteArray) (hs : s.size ≤ 4611686018427387904) : Ev (fun k => spec_l1Name.f k s) (nameB s) := spec_l1Name_l0 s hs s.size 0 (by omega) (by omega)

/-! ### spec_FrameOk -/
/-- A frame as it has to be. -/
def frameB (k : Int) (t : ByteArray) (s : Int) : Bool :=
  if k = 1 then nameB t && s == 0 else if k = 2 ∨ k = 4 ∨ k = 6 then textB t && s == 0 else if k = 5 then (t.toList == ([] : List UInt8)) && inB s 0 2 else if k = 3 then (t.toList == ([] : List UInt8)) && s == 0 else false
theorem spec_FrameOk_j0 (k : Int) (b : Bool) (t : ByteArray) (s : Int) (ht : t.size ≤ 4611686018427387904) : Ev (fun n => spec_FrameOk.j0 n k b k t s) (if b = true then textB t && s == 0 else if k = 5 then (t.toList == ([] : List UInt8)) && inB s 0 2 else if k = 3 then (t.toList == ([] : List UInt8)) && s == 0 else false) := by
  refine ev_step (fun n => spec_FrameOk.j0.eq_2 ..) (ev_ite (fun c => ?_) (fun c => ev_ite (fun c5 => ev_ite (fun ce => ?_) (fun ce => ?_)) (fun c5 => ev_ite (fun c3 => ev_ite (fun ce => ?_) (fun ce => ?_)) (fun c3 => ?_))))
  · refine ev_bind (spec_TextOk_ev t ht) (ev_ite (fun c1 => ?_) (fun c1 => ?_))
    · exact ev_as (ev_now _) (by simp [c, c1])
    · exact ev_as (ev_now _) (by simp [c, c1])
  · exact ev_bind1 (spec_l1In_eq _ _ _) (ev_as (ev_now _) (by simp [c, c5, ce]))
  · exact ev_as (ev_now _) (by simp [c, c5, ce])
  · exact ev_as (ev_now _) (by simp [c, c3, ce])
  · exact ev_as (ev_now _) (by simp [c, c3, ce])
  · exact ev_as (ev_now _) (by simp [c, c5, c3])
theorem spec_FrameOk_ev (k : Int) (t : ByteArray) (s : Int) (ht : t.size ≤ 4611686018427387904) : Ev (fun n => spec_FrameOk.f n k t s) (frameB k t s) := by
  unfold spec_FrameOk.f
  refine ev_ite (fun c1 => ?_) (fun c1 => ev_ite (fun c2 => ?_) (fun c2 => ev_ite (fun c4 => ?_) (fun c4 => ?_)))
  · refine ev_bind (spec_l1Name_ev t ht) (ev_ite (fun c => ?_) (fun c => ?_))
    · exact ev_as (ev_now _) (by simp [frameB, c1, c])
    · exact ev_as (ev_now _) (by simp [frameB, c1, c])
  · exact ev_as (spec_FrameOk_j0 k _ t s ht) (by simp [frameB, c2])
  · exact ev_as (spec_FrameOk_j0 k _ t s ht) (by simp [frameB, c4])
  · exact ev_as (spec_FrameOk_j0 k _ t s ht) (by simp [frameB, c1, c2, c4])

/-! ### impl_TextOk -/
theorem impl_TextOk_l0 (s : ByteArray) (hs : s.size ≤ 4611686018427387904) (d : Nat) : ∀ i : Int, 0 ≤ i → i + d = s.size → Ev (fun k => impl_TextOk.l0 k s (s.size : Int) i) (allF (byteIn s 32 126) i d && decide ((s.size : Int) ≤ 100)) := by
  induction d with
  | zero =>
    intro i h0 h1
    refine ev_step (fun k => impl_TextOk.l0.eq_2 ..) ?_
    refine ev_neg (by omega) ?_
    exact ev_now _
  | succ d ih =>
    intro i h0 h1
    refine ev_step (fun k => impl_TextOk.l0.eq_2 ..) ?_
    refine ev_pos (by omega) (ev_pos (by omega) (ev_pos (by omega) ?_))
    refine ev_ite (fun c1 => ?_) (fun c1 => ev_ite (fun c2 => ?_) (fun c2 => ?_))
    · refine ev_as (ev_now _) ?_
      have : byteIn s 32 126 i = false := by rw [byteIn_false]; omega
      simp [allF, this]
    · refine ev_as (ev_now _) ?_
      have : byteIn s 32 126 i = false := by rw [byteIn_false]; omega
      simp [allF, this]
    · have : byteIn s 32 126 i = true := by rw [byteIn_iff]; omega
      rw [w64 (by omega) (by omega), allF, this, Bool.true_and]
      exact ih (i + 1) (by omega) (by omega)
theorem impl_TextOk_ev (s : ByteArray) (hs : s.size ≤ 4611686018427387904) : Ev (fun k => impl_TextOk.f k s) (textB s) := impl_TextOk_l0 s hs s.size 0 (by omega) (by omega)

/-! ### impl_isIn -/
theorem impl_isIn_eq (a b c : Int) : impl_isIn.f a b c = some (inB a b c) := by
  unfold impl_isIn.f inB
  by_cases h : b ≤ a <;> simp [h]

/-! ### impl_nameOk -/
theorem impl_nameOk_l0 (s : ByteArray) (hs : s.size ≤ 4611686018427387904) (d : Nat) : ∀ i : Int, 0 ≤ i → i + d = s.size → Ev (fun k => impl_nameOk.l0 k s (s.size : Int) i) (allF (byteIn s 97 122) i d && inB s.size 1 8) := by
  induction d with
  | zero =>
    intro i h0 h1
    refine ev_step (fun k => impl_nameOk.l0.eq_2 ..) ?_
    refine ev_neg (by omega) ?_
    rw [impl_isIn_eq]
    exact ev_now _
  | succ d ih =>
    intro i h0 h1
    refine ev_step (fun k => impl_nameOk.l0.eq_2 ..) ?_
    refine ev_pos (by omega) (ev_pos (by omega) (ev_pos (by omega) ?_))
    refine ev_ite (fun c1 => ?_) (fun c1 => ev_ite (fun c2 => ?_) (fun c2 => ?_))
    · refine ev_as (ev_now _) ?_
      have : byteIn s 97 122 i = false := by rw [byteIn_false]; omega
      simp [allF, this]
    · refine ev_as (ev_now _) ?_
      have : byteIn s 97 122 i = false := by rw [byteIn_false]; omega
      simp [allF, this]
    · have : byteIn s 97 122 i = true := by rw [byteIn_iff]; omega
      rw [w64 (by omega) (by omega), allF, this, Bool.true_and]
      exact ih (i + 1) (by omega) (by omega)
theorem impl_nameOk_ev (s : ByteArray) (hs : s.size ≤ 4611686018427387904) : Ev (fun k => impl_nameOk.f k s) (nameB s) := impl_nameOk_l0 s hs s.size 0 (by omega) (by omega)

/-! ### impl_FrameOk -/
theorem impl_FrameOk_j0 (k : Int) (b : Bool) (t : ByteArray) (s : Int) (ht : t.size ≤ 4611686018427387904) : Ev (fun n => impl_FrameOk.j0 n k b k t s) (if b = true then textB t && s == 0 else if k = 5 then (t.toList == ([] : List UInt8)) && inB s 0 2 else if k = 3 then (t.toList == ([] : List UInt8)) && s == 0 else false) := by
  refine ev_step (fun n => impl_FrameOk.j0.eq_2 ..) (ev_ite (fun c => ?_) (fun c => ev_ite (fun c5 => ev_ite (fun ce => ?_) (fun ce => ?_)) (fun c5 => ev_ite (fun c3 => ?_) (fun c3 => ?_))))
  · refine ev_bind (impl_TextOk_ev t ht) (ev_ite (fun c1 => ?_) (fun c1 => ?_))
    · exact ev_as (ev_now _) (by simp [c, c1])
    · exact ev_as (ev_now _) (by simp [c, c1])
  · exact ev_bind1 (impl_isIn_eq _ _ _) (ev_as (ev_now _) (by simp [c, c5, ce]))
  · exact ev_as (ev_now _) (by simp [c, c5, ce])
  · exact ev_as (ev_now _) (by simp [c, c3])
  · exact ev_as (ev_now _) (by simp [c, c5, c3])
theorem impl_FrameOk_ev (k : Int) (t : ByteArray) (s : Int) (ht : t.size ≤ 4611686018427387904) : Ev (fun n => impl_FrameOk.f n k t s) (frameB k t s) := by
  unfold impl_FrameOk.f
  refine ev_ite (fun c1 => ?_) (fun c1 => ev_ite (fun c2 => ?_) (fun c2 => ev_ite (fun c4 => ?_) (fun c4 => ?_)))
  · refine ev_bind (impl_nameOk_ev t ht) (ev_ite (fun c => ?_) (fun c => ?_))
    · exact ev_as (ev_now _) (by simp [frameB, c1, c])
    · exact ev_as (ev_now _) (by simp [frameB, c1, c])
  · exact ev_as (impl_FrameOk_j0 k _ t s ht) (by simp [frameB, c2])
  · exact ev_as (impl_FrameOk_j0 k _ t s ht) (by simp [frameB, c4])
  · exact ev_as (impl_FrameOk_j0 k _ t s ht) (by simp [frameB, c1, c2, c4])

/-! ### impl_GetFrame -/
/-- All of a list are bytes. -/
def bytesL (l : List Int) : Prop := ∀ x ∈ l, 0 ≤ x ∧ x < 256
theorem rd_byte {l : List Int} (hb : bytesL l) (i : Int) : 0 ≤ rd l i ∧ rd l i < 256 := by
  unfold rd
  rw [List.getD_eq_getElem?_getD]
  by_cases h : i.toNat < l.length
  · rw [List.getElem?_eq_getElem h]
    exact hb _ (List.getElem_mem h)
  · rw [List.getElem?_eq_none (by omega)]
    simp
theorem strN_size (l : List Int) (n : Nat) : (strOfNums ((l.take n).drop 2)).size ≤ l.length := by
  rw [strOfNums_size]
  simp
  omega
/-- The first frame of some bytes: the frame, its length, the code. -/
def getV (l : List Int) : Int × ByteArray × Int × Int × Int :=
  if (l.length : Int) = 0 then (0, ⟨#[]⟩, 0, 0, 1)
  else if rd l 0 = 3 then (3, ⟨#[]⟩, 0, 1, 0)
  else if inB (rd l 0) 1 6 = false then (0, ⟨#[]⟩, 0, 0, 2)
  else if (l.length : Int) < 2 then (0, ⟨#[]⟩, 0, 0, 1)
  else if rd l 0 = 5 then (if inB (rd l 1) 0 2 = true then (5, ⟨#[]⟩, rd l 1, 2, 0) else (0, ⟨#[]⟩, 0, 0, 2))
  else if rd l 1 > 100 then (0, ⟨#[]⟩, 0, 0, 2)
  else if (l.length : Int) < 2 + rd l 1 then (0, ⟨#[]⟩, 0, 0, 1)
  else if frameB (rd l 0) (strOfNums ((l.take (2 + rd l 1).toNat).drop 2)) 0 = true then (rd l 0, strOfNums ((l.take (2 + rd l 1).toNat).drop 2), 0, 2 + rd l 1, 0)
  else (0, ⟨#[]⟩, 0, 0, 2)
theorem empty_toList : (⟨#[]⟩ : ByteArray).toList = [] := by unfold ByteArray.toList; unfold ByteArray.toList.loop; rfl
theorem impl_GetFrame_j0 (l : List Int) (c : Int) (b : Bool) (hl : l.length ≤ 4611686018427387904) (hb : bytesL l) : Ev (fun k => impl_GetFrame.j0 k l 1 b c ⟨#[]⟩ 0)
    (if b = true then (if (l.length : Int) < 2 then (0, ⟨#[]⟩, 0, 0, 1) else if rd l 1 > 100 then (0, ⟨#[]⟩, 0, 0, 2) else if (l.length : Int) < 2 + rd l 1 then (0, ⟨#[]⟩, 0, 0, 1)
      else if frameB c (strOfNums ((l.take (2 + rd l 1).toNat).drop 2)) 0 = true then (c, strOfNums ((l.take (2 + rd l 1).toNat).drop 2), 0, 2 + rd l 1, 0) else (0, ⟨#[]⟩, 0, 0, 2))
     else if frameB c ⟨#[]⟩ 0 = true then (c, ⟨#[]⟩, 0, 1, 0) else (0, ⟨#[]⟩, 0, 0, 2)) := by
  have h1 := rd_byte hb 1
  have w1 : wrap64 (rd l 1) = rd l 1 := w64 (by omega) (by omega)
  have w2 : wrap64 (2 + rd l 1) = 2 + rd l 1 := w64 (by omega) (by omega)
  refine ev_step (fun k => impl_GetFrame.j0.eq_2 ..) ?_
  simp only [w1, w2]
  refine ev_ite (fun c0 => ?_) (fun c0 => ?_)
  · rw [if_pos c0]
    refine ev_ite (fun ca => ?_) (fun ca => ev_pos (by omega) (ev_ite (fun cb => ?_) (fun cb => ev_ite (fun cc => ?_) (fun cc => ev_pos (by omega) (ev_pos (by omega) ?_)))))
    · exact ev_as (ev_now _) (by rw [if_pos ca])
    · exact ev_as (ev_now _) (by rw [if_neg ca, if_pos cb])
    · exact ev_as (ev_now _) (by rw [if_neg ca, if_neg cb, if_pos cc])
    · rw [if_neg ca, if_neg cb, if_neg cc]
      refine ev_bind (impl_FrameOk_ev _ _ _ (Nat.le_trans (strN_size l _) hl)) (ev_ite (fun ck => ?_) (fun ck => ?_))
      · exact ev_as (ev_now _) (by rw [if_pos ck])
      · exact ev_as (ev_now _) (by rw [if_neg ck])
  · rw [if_neg c0]
    refine ev_bind (impl_FrameOk_ev _ _ _ (Nat.zero_le _)) (ev_ite (fun ck => ?_) (fun ck => ?_))
    · exact ev_as (ev_now _) (by rw [if_pos ck])
    · exact ev_as (ev_now _) (by rw [if_neg ck])
theorem impl_GetFrame_ev (l : List Int) (hl : l.length ≤ 4611686018427387904) (hb : bytesL l) : Ev (fun k => impl_GetFrame.f k l) (getV l) := by
  have h0 := rd_byte hb 0
  have h1 := rd_byte hb 1
  have w0 : wrap64 (rd l 0) = rd l 0 := w64 (by omega) (by omega)
  have w1 : wrap64 (rd l 1) = rd l 1 := w64 (by omega) (by omega)
  unfold impl_GetFrame.f getV
  simp only [w0, w1]
  refine ev_ite (fun c => ?_) (fun c => ev_pos (by omega) ?_)
  · exact ev_as (ev_now _) (by rw [if_pos c])
  rw [if_neg c]
  refine ev_ite (fun c3 => ?_) (fun c3 => ?_)
  · rw [c3]
    exact ev_bind (impl_FrameOk_ev 3 ⟨#[]⟩ 0 (Nat.zero_le _)) (ev_pos (by simp [frameB, empty_toList]) (ev_as (ev_now _) (by simp)))
  rw [if_neg c3]
  refine ev_ite (fun c5 => ?_) (fun c5 => ?_)
  · have ci' : ¬ inB (rd l 0) 1 6 = false := by rw [c5]; decide
    rw [if_neg ci', if_pos c5]
    refine ev_ite (fun cl => ?_) (fun cl => ev_pos (by omega) ?_)
    · exact ev_as (ev_now _) (by rw [if_pos cl])
    · refine ev_bind (impl_FrameOk_ev _ ⟨#[]⟩ _ (Nat.zero_le _)) ?_
      have e : frameB (rd l 0) ⟨#[]⟩ (rd l 1) = inB (rd l 1) 0 2 := by simp [frameB, c5, empty_toList]
      rw [e, if_neg cl]
      refine ev_ite (fun ck => ?_) (fun ck => ?_)
      · exact ev_as (ev_now _) (by rw [if_pos ck, c5])
      · exact ev_as (ev_now _) (by rw [if_neg ck])
  rw [if_neg c5]
  have key : ∀ b : Bool, b = decide (rd l 0 = 1 ∨ rd l 0 = 2 ∨ rd l 0 = 4 ∨ rd l 0 = 6) → Ev (fun k => impl_GetFrame.j0 k l 1 b (rd l 0) ⟨#[]⟩ 0) (if inB (rd l 0) 1 6 = false then (0, ⟨#[]⟩, 0, 0, 2)
      else if (l.length : Int) < 2 then (0, ⟨#[]⟩, 0, 0, 1)
      else if rd l 1 > 100 then (0, ⟨#[]⟩, 0, 0, 2)
      else if (l.length : Int) < 2 + rd l 1 then (0, ⟨#[]⟩, 0, 0, 1)
      else if frameB (rd l 0) (strOfNums ((l.take (2 + rd l 1).toNat).drop 2)) 0 = true then (rd l 0, strOfNums ((l.take (2 + rd l 1).toNat).drop 2), 0, 2 + rd l 1, 0)
      else (0, ⟨#[]⟩, 0, 0, 2)) := by
    intro b hb2
    refine ev_as (impl_GetFrame_j0 l (rd l 0) b hl hb) ?_
    by_cases ci : inB (rd l 0) 1 6 = false
    · have hh := (inB_false _ _ _).1 ci
      have hbf : b = false := by rw [hb2]; exact decide_eq_false (by omega)
      have hf : frameB (rd l 0) ⟨#[]⟩ 0 = false := by
        unfold frameB
        rw [if_neg (by omega), if_neg (by omega), if_neg (by omega), if_neg (by omega)]
      simp [ci, hbf, hf]
    · have hh := (inB_iff (rd l 0) 1 6).1 (by simpa using ci)
      have hbt : b = true := by rw [hb2]; exact decide_eq_true (by omega)
      rw [if_pos hbt, if_neg ci]
  refine ev_ite (fun d1 => ?_) (fun d1 => ev_ite (fun d2 => ?_) (fun d2 => ev_ite (fun d4 => ?_) (fun d4 => ?_)))
  · exact key _ (by simp [d1])
  · exact key _ (by simp [d2])
  · exact key _ (by simp [d4])
  · exact key _ (by simp [d1, d2, d4]; rfl)

/-! ### spec_GetFrame -/
theorem spec_GetFrame_ev (l : List Int) (hl : l.length ≤ 4611686018427387904) (hb : bytesL l) : Ev (fun k => spec_GetFrame.f k l) (getV l) := by
  have h0 := rd_byte hb 0
  have h1 := rd_byte hb 1
  have w0 : wrap64 (rd l 0) = rd l 0 := w64 (by omega) (by omega)
  have w1 : wrap64 (rd l 1) = rd l 1 := w64 (by omega) (by omega)
  have w2 : wrap64 (2 + rd l 1) = 2 + rd l 1 := w64 (by omega) (by omega)
  have w3 : wrap64 ((l.length : Int) - 2) = (l.length : Int) - 2 := w64 (by omega) (by omega)
  unfold spec_GetFrame.f getV
  simp only [w0, w1, w2, w3]
  refine ev_ite (fun c => ?_) (fun c => ev_pos (by omega) ?_)
  · exact ev_as (ev_now _) (by rw [if_pos c])
  rw [if_neg c]
  refine ev_bind1 (spec_l1In_eq _ _ _) (ev_ite (fun ci => ?_) (fun ci => ?_))
  · have ci' : ¬ inB (rd l 0) 1 6 = false := by simp [ci]
    refine ev_ite (fun c3 => ?_) (fun c3 => ev_ite (fun cl => ?_) (fun cl => ev_ite (fun c5 => ev_pos (by omega) ?_) (fun c5 => ev_pos (by omega) ?_)))
    · rw [c3]
      exact ev_bind (spec_FrameOk_ev 3 ⟨#[]⟩ 0 (Nat.zero_le _)) (ev_pos (by simp [frameB, empty_toList]) (ev_as (ev_now _) (by simp)))
    · exact ev_as (ev_now _) (by rw [if_neg c3, if_neg ci', if_pos (by omega)])
    · refine ev_bind (spec_FrameOk_ev _ ⟨#[]⟩ _ (Nat.zero_le _)) ?_
      have e : frameB (rd l 0) ⟨#[]⟩ (rd l 1) = inB (rd l 1) 0 2 := by simp [frameB, c5, empty_toList]
      rw [e, if_neg c3, if_neg ci', if_neg (show ¬ (l.length : Int) < 2 by omega), if_pos c5]
      refine ev_ite (fun ck => ?_) (fun ck => ?_)
      · exact ev_as (ev_now _) (by rw [if_pos ck, c5])
      · exact ev_as (ev_now _) (by rw [if_neg ck])
    · rw [if_neg c3, if_neg ci', if_neg (show ¬ (l.length : Int) < 2 by omega), if_neg c5]
      refine ev_ite (fun ca => ?_) (fun ca => ev_ite (fun cb => ?_) (fun cb => ev_pos (by omega) (ev_pos (by omega) ?_)))
      · exact ev_as (ev_now _) (by rw [if_pos ca])
      · exact ev_as (ev_now _) (by rw [if_neg ca, if_pos (by omega)])
      · rw [if_neg ca, if_neg (show ¬ (l.length : Int) < 2 + rd l 1 by omega)]
        refine ev_bind (spec_FrameOk_ev _ _ _ (Nat.le_trans (strN_size l _) hl)) (ev_ite (fun ck => ?_) (fun ck => ?_))
        · exact ev_as (ev_now _) (by rw [if_pos ck])
        · exact ev_as (ev_now _) (by rw [if_neg ck])
  · have ci2 : inB (rd l 0) 1 6 = false := by simpa using ci
    have c3 : ¬ rd l 0 = 3 := by intro h; rw [h] at ci; exact ci (by decide)
    exact ev_as (ev_now _) (by rw [if_neg c3, if_pos ci2])

/-! ### spec_Eat -/
theorem getV_n (l : List Int) (hb : bytesL l) : 0 ≤ (getV l).2.2.2.1 ∧ (getV l).2.2.2.1 ≤ (l.length : Int) ∧ ((getV l).2.2.2.2 ≠ 0 → (getV l).2.2.2.1 = 0) := by
  have h1 := rd_byte hb 1
  unfold getV
  by_cases c0 : (l.length : Int) = 0
  · rw [if_pos c0]; exact ⟨Int.le_refl _, by show (0 : Int) ≤ _; omega, fun _ => rfl⟩
  rw [if_neg c0]
  by_cases c1 : rd l 0 = 3
  · rw [if_pos c1]; exact ⟨by show (0 : Int) ≤ 1; decide, by show (1 : Int) ≤ _; omega, fun h => absurd rfl h⟩
  rw [if_neg c1]
  by_cases c2 : inB (rd l 0) 1 6 = false
  · rw [if_pos c2]; exact ⟨Int.le_refl _, by show (0 : Int) ≤ _; omega, fun _ => rfl⟩
  rw [if_neg c2]
  by_cases c3 : (l.length : Int) < 2
  · rw [if_pos c3]; exact ⟨Int.le_refl _, by show (0 : Int) ≤ _; omega, fun _ => rfl⟩
  rw [if_neg c3]
  by_cases c4 : rd l 0 = 5
  · rw [if_pos c4]
    by_cases c5 : inB (rd l 1) 0 2 = true
    · rw [if_pos c5]; exact ⟨by show (0 : Int) ≤ 2; decide, by show (2 : Int) ≤ _; omega, fun h => absurd rfl h⟩
    · rw [if_neg c5]; exact ⟨Int.le_refl _, by show (0 : Int) ≤ _; omega, fun _ => rfl⟩
  rw [if_neg c4]
  by_cases c6 : rd l 1 > 100
  · rw [if_pos c6]; exact ⟨Int.le_refl _, by show (0 : Int) ≤ _; omega, fun _ => rfl⟩
  rw [if_neg c6]
  by_cases c7 : (l.length : Int) < 2 + rd l 1
  · rw [if_pos c7]; exact ⟨Int.le_refl _, by show (0 : Int) ≤ _; omega, fun _ => rfl⟩
  rw [if_neg c7]
  split
  · exact ⟨by show 0 ≤ 2 + rd l 1; omega, by show 2 + rd l 1 ≤ _; omega, fun h => absurd rfl h⟩
  · exact ⟨Int.le_refl _, by show (0 : Int) ≤ _; omega, fun _ => rfl⟩
def eatL (l : List Int) : List Int := l.drop (getV l).2.2.2.1.toNat
theorem spec_Eat_ev (x : S50) (h4 : x.f4.length ≤ 1000000000000) (h5 : x.f5.length ≤ 1000000000000) (hb : bytesL x.f4) : Ev (fun k => spec_Eat.f k x.f0 x.f1 x.f2 x.f3 x.f4 x.f5 x.f6 x.f7) (x.f0, x.f1, x.f2, x.f3, eatL x.f4, x.f5, x.f6, x.f7) := by
  unfold spec_Eat.f
  have hn := getV_n x.f4 hb
  refine ev_bind1 (spec_l8Copy_eq x h4 h5) (ev_bind (spec_GetFrame_ev x.f4 (by omega) hb) (ev_ite (fun c => ?_) (fun c => ?_)))
  · refine ev_bind1 rfl (ev_pos hn.1 (ev_pos hn.2.1 (ev_pos (by rw [List.length_drop, List.length_nil]; omega) (ev_as (ev_now _) ?_))))
    simp only [List.nil_append, eatL]
  · refine ev_as (ev_now _) ?_
    unfold eatL
    rw [hn.2.2 c]
    rfl

/-! ### slices_Clone_byte -/
theorem slices_Clone_byte_eq (l : List Int) (h : l.length ≤ 1000000000000) : slices_Clone_byte.f l = some l := by
  unfold slices_Clone_byte.f
  simp only [Option.bind_some, List.nil_append, List.length_nil]
  rw [if_pos (by omega)]

/-! ### impl_sockCopy -/
theorem impl_sockCopy_eq (x : S50) (h4 : x.f4.length ≤ 1000000000000) (h5 : x.f5.length ≤ 1000000000000) : impl_sockCopy.f x.f0 x.f1 x.f2 x.f3 x.f4 x.f5 x.f6 x.f7 = some (x.f0, x.f1, x.f2, x.f3, x.f4, x.f5, x.f6, x.f7) := by
  unfold impl_sockCopy.f
  rw [slices_Clone_byte_eq _ h4, Option.bind_some, slices_Clone_byte_eq _ h5, Option.bind_some]

/-! ### impl_Eat -/
theorem impl_Eat_ev (x : S50) (h4 : x.f4.length ≤ 1000000000000) (h5 : x.f5.length ≤ 1000000000000) (hb : bytesL x.f4) : Ev (fun k => impl_Eat.f k x.f0 x.f1 x.f2 x.f3 x.f4 x.f5 x.f6 x.f7) (x.f0, x.f1, x.f2, x.f3, eatL x.f4, x.f5, x.f6, x.f7) := by
  unfold impl_Eat.f
  have hn := getV_n x.f4 hb
  exact ev_bind1 (impl_sockCopy_eq x h4 h5) (ev_bind (impl_GetFrame_ev x.f4 (by omega) hb) (ev_pos hn.1 (ev_pos hn.2.1 (ev_now _))))

theorem wf_bytes {l : List Int} (h : ∀ x ∈ l, (Lit.int .u8 x).wf = true) : bytesL l := by
  intro x hx
  have := h x hx
  simp [Lit.wf, IntKind.min, IntKind.max, IntKind.bits, IntKind.signed] at this
  omega
theorem FnExactEat : VFnExactEat.Pure := by
  intro x hG
  refine ev_rounds ?_
  unfold laws_FnExactEat.f
  obtain ⟨t, et, ct⟩ := sz_Sock x hG 1048576 (by omega) (by omega)
  rcases ct with ct | ⟨ct, dt⟩
  · exact ev_bind et (ev_pos ct (ev_now _))
  have hs : szv_Sock x ≤ 1048576 := by omega
  have hto := to_Sock x hs
  have hl : (cv_Sock x).f4.length ≤ 1048576 ∧ (cv_Sock x).f5.length ≤ 1048576 := by
    unfold szv_Sock szl_ByteS at hs
    show x.f4.length ≤ _ ∧ x.f5.length ≤ _
    omega
  have hbl : bytesL (cv_Sock x).f4 := by
    intro z hz
    exact wf_bytes hG.2.2.2.2.1.2 z hz
  have e1 := spec_Eat_ev (cv_Sock x) (by omega) (by omega) hbl
  have e2 := impl_Eat_ev (cv_Sock x) (by omega) (by omega) hbl
  have hr4 : (eatL (cv_Sock x).f4).length ≤ 1048576 := by unfold eatL; rw [List.length_drop]; omega
  generalize eatL (cv_Sock x).f4 = r4 at e1 e2 hr4
  have hqR := eq_Sock ⟨(cv_Sock x).f0, (cv_Sock x).f1, (cv_Sock x).f2, (cv_Sock x).f3, r4, (cv_Sock x).f5, (cv_Sock x).f6, (cv_Sock x).f7⟩ ⟨show r4.length ≤ _ from Nat.le_trans hr4 (by omega), show (cv_Sock x).f5.length ≤ _ from Nat.le_trans hl.2 (by omega)⟩
  have hqX := eq_Sock (cv_Sock x) ⟨show (cv_Sock x).f4.length ≤ _ by omega, show (cv_Sock x).f5.length ≤ _ by omega⟩
  have mX := mark_Sock (cv_Sock x) 1 (by omega) (by omega) (by omega) (by omega)
  have hr4' : r4.length ≤ 1000000000000 := Nat.le_trans hr4 (by omega)
  have hr5' : (cv_Sock x).f5.length ≤ 1000000000000 := Nat.le_trans hl.2 (by omega)
  have mR := mark_Sock ⟨(cv_Sock x).f0, (cv_Sock x).f1, (cv_Sock x).f2, (cv_Sock x).f3, r4, (cv_Sock x).f5, (cv_Sock x).f6, (cv_Sock x).f7⟩ 1 (by omega) (by omega) hr4' hr5'
  have hh := held_Sock (cv_Sock x).f0 (cv_Sock x).f1 (cv_Sock x).f2 (cv_Sock x).f3 r4.length (cv_Sock x).f5.length (cv_Sock x).f6 (cv_Sock x).f7 1 (by omega) (by omega) hr4' hr5'
  refine ev_bind et (ev_neg (by omega) (ev_bind hto (ev_bind e1 (ev_bind hto (ev_bind e2 (ev_bind hqR (ev_pos rfl (ev_bind hto (ev_bind hqX (ev_pos rfl (ev_bind mX (ev_neg (by show ¬ (_ : Int) < 0; omega) (ev_bind hqR ?_)))))))))))))
  refine ev_step (fun k => laws_FnExactEat.j0.eq_2 ..) (ev_neg (by simp) (ev_bind mR (ev_bind hh (ev_neg (by show ¬ (_ : Int) < 0; omega) (ev_pos rfl (ev_bind hto (ev_bind e2 (ev_bind hqR (ev_pos rfl ?_)))))))))
  exact ev_bind hh (ev_neg (by show ¬ (_ : Int) < 0; omega) (ev_pos rfl (ev_now _)))
end Go.Proofs.Ythmfmpmljndjhaa.Pure
