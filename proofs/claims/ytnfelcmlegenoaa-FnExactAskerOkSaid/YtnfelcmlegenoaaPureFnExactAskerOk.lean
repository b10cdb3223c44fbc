/- The program's AskerOk answers as the reference's, whatever the client. -/
import Derived.Test.YtnfelcmlegenoaaVFnExactAskerOk
import Derived.Test.YtnfelcmlegenoaaVBase
import Derived.Test.YtnfelcmlegenoaaVExt
namespace Go.Proofs.Ytnfelcmlegenoaa.Pure
open Go.RowKit Go.Proofs.Ytnfelcmlegenoaa.PFnExactAskerOk Go.Proofs.Ytnfelcmlegenoaa.VFnExactAskerOk Go.Proofs.YtnfelcmlegenoaaW.PrintWords Go.Proofs.YtnfelcmlegenoaaW.PrintLast Go.Proofs.YtnfelcmlegenoaaV
set_option linter.unusedVariables false
set_option linter.unusedSimpArgs false
set_option maxRecDepth 20000

/-! ### laws_szAsker -/
def szv_Asker (x : S78) : Nat := x.f1.size + x.f5.size
theorem sz_Asker (x : S78) (hG : G78 x) (left : Int) (h0 : 0 ≤ left) (h1 : left ≤ 1048576) :
    ∃ t, Ev (fun k => laws_szAsker.f x.f0 x.f1 x.f2 x.f3 x.f4 x.f5 x.f6 x.f7 left) t ∧ (t < 0 ∨ 0 ≤ t ∧ t + (szv_Asker x : Int) = left) := by
  obtain ⟨g0, g1, g2, g3, g4, g5, g6, g7⟩ := hG
  unfold laws_szAsker.f szv_Asker
  have e1 : wrap64 (left - (x.f1.size : Int)) = left - (x.f1.size : Int) := w64 (by omega) (by omega)
  simp only [e1]
  by_cases c1 : left - (x.f1.size : Int) < 0
  · exact ⟨-1, ev_pos c1 (ev_now _), .inl (by omega)⟩
  have e5 : wrap64 ((left - (x.f1.size : Int)) - (x.f5.size : Int)) = (left - (x.f1.size : Int)) - (x.f5.size : Int) := w64 (by omega) (by omega)
  simp only [e5]
  by_cases c5 : (left - (x.f1.size : Int)) - (x.f5.size : Int) < 0
  · exact ⟨-1, ev_neg c1 (ev_pos c5 (ev_now _)), .inl (by omega)⟩
  exact ⟨_, ev_neg c1 (ev_neg c5 (ev_now _)), .inr ⟨by omega, by omega⟩⟩

/-! ### spec_l1In -/
theorem spec_l1In_eq (a b c : Int) : spec_l1In.f a b c = some (inB a b c) := by
  unfold spec_l1In.f inB
  by_cases h : b ≤ a <;> simp [h]

/-! ### spec_l1Name -/
theorem spec_l1Name_l0 (s : ByteArray) (hs : s.size ≤ 4611686018427387904) (d : Nat) : ∀ i : Int, 0 ≤ i → i + d = s.size → Ev (fun k => spec_l1Name.l0 k s i) (allF (byteIn s 97 122) i d && inB s.size 1 8) := by
  induction d with
  | zero =>
    intro i h0 h1
    refine ev_step (fun k => spec_l1Name.l0.eq_2 ..) ?_
    refine ev_neg (by omega) ?_
    rw [spec_l1In_eq]
    exact ev_now _
  | succ d ih =>
    intro i h0 h1
    refine ev_step (fun k => spec_l1Name.l0.eq_2 ..) ?_
    refine ev_pos (by omega) (ev_pos (by omega) ?_)
    refine ev_ite (fun c1 => ?_) (fun c1 => ev_ite (fun c2 => ?_) (fun c2 => ?_))
    · refine ev_as (ev_now _) ?_
      have : byteIn s 97 122 i = false := by rw [byteIn_false]; omega
      simp [allF, this]
    · refine ev_as (ev_now _) ?_
      have : byteIn s 97 122 i = false := by rw [byteIn_false]; omega
      simp [allF, this]
    · have : byteIn s 97 122 i = true := by rw [byteIn_iff]; omega
      rw [w64 (by omega) (by omega), allF, this, Bool.true_and]
      exact ih (i + 1) (by omega) (by omega)
theorem spec_l1Name_ev (s : ByteArray) (hs : s.size ≤ 4611686018427387904) : Ev (fun k => spec_l1Name.f k s) (nameB s) := spec_l1Name_l0 s hs s.size 0 (by omega) (by omega)

/-! ### spec_l9Time -/
theorem spec_l9Time_eq (a : Int) : spec_l9Time.f a = some (inB a 0 100000) := by
  unfold spec_l9Time.f
  rw [spec_l1In_eq]
  rfl

/-! ### spec_TextOk -/
theorem spec_TextOk_l0 (s : ByteArray) (hs : s.size ≤ 4611686018427387904) (d : Nat) : ∀ i : Int, 0 ≤ i → i + d = s.size → i ≤ 101 → Ev (fun k => spec_TextOk.l0 k s i) (allF (byteIn s 32 126) i d && decide ((s.size : Int) ≤ 100)) := by
  induction d with
  | zero =>
    intro i h0 h1 h2
    refine ev_step (fun k => spec_TextOk.l0.eq_2 ..) ?_
    refine ev_neg (by omega) ?_
    refine ev_step (fun k => spec_TextOk.j1.eq_2 ..) ?_
    refine ev_neg (by decide) ?_
    exact ev_now _
  | succ d ih =>
    intro i h0 h1 h2
    refine ev_step (fun k => spec_TextOk.l0.eq_2 ..) ?_
    refine ev_pos (by omega) ?_
    refine ev_step (fun k => spec_TextOk.j1.eq_2 ..) ?_
    refine ev_ite (fun c0 => ?_) (fun c0 => ?_)
    · have c0' := of_decide_eq_true c0
      refine ev_pos (by omega) (ev_pos (by omega) ?_)
      refine ev_ite (fun c1 => ?_) (fun c1 => ev_ite (fun c2 => ?_) (fun c2 => ?_))
      · refine ev_as (ev_now _) ?_
        have : byteIn s 32 126 i = false := by rw [byteIn_false]; omega
        simp [allF, this]
      · refine ev_as (ev_now _) ?_
        have : byteIn s 32 126 i = false := by rw [byteIn_false]; omega
        simp [allF, this]
      · have : byteIn s 32 126 i = true := by rw [byteIn_iff]; omega
        rw [w64 (by omega) (by omega), allF, this, Bool.true_and]
        exact ih (i + 1) (by omega) (by omega) (by omega)
    · have c0' : ¬ i ≤ 100 := fun h => c0 (decide_eq_true h)
      refine ev_as (ev_now _) ?_
      have : decide ((s.size : Int) ≤ 100) = false := decide_eq_false (by omega)
      rw [this, Bool.and_false]
theorem spec_TextOk_ev (s : ByteArray) (hs : s.size ≤ 4611686018427387904) : Ev (fun k => spec_TextOk.f k s) (textB s) := spec_TextOk_l0 s hs s.size 0 (by omega) (by omega) (by omega)

/-! ### spec_AskerOk -/
/-- A client as it has to be. -/
def askerB (so : Int) (db : ByteArray) (st ti si : Int) (q : ByteArray) (li le : Int) : Bool :=
  inB so 1 9999 &&
    (if st = 0 then db.toList == ([] : List UInt8) && (ti == 0 && (si == 0 && (q.toList == ([] : List UInt8) && (li == 0 && le == 0))))
    else nameB db &&
      (if st = 1 then ti == 0 && (si == 0 && (q.toList == ([] : List UInt8) && (li == 0 && le == 0)))
      else if st = 2 then (li == 0 && le == 0) && (inB ti 0 65535 && (inB si 0 100000 && textB q))
      else if st = 3 ∨ st = 4 then (ti == 0 && (si == 0 && q.toList == ([] : List UInt8))) && (inB li 1 9999 && decide (le ≥ 1))
      else false))
theorem spec_AskerOk_j2 (b : Bool) (x0 : Int) (x1 : ByteArray) (x2 x3 x4 : Int) (x5 : ByteArray) (x6 x7 : Int) (h1 : x1.size ≤ 4611686018427387904) :
    Ev (fun k => spec_AskerOk.j2 k b x0 x1 x2 x3 x4 x5 x6 x7) (b && (nameB x1 && (inB x6 1 9999 && decide (x7 ≥ 1)))) := by
  refine ev_step (fun k => spec_AskerOk.j2.eq_2 ..) ?_
  refine ev_ite (fun c => ?_) (fun c => ?_)
  · refine ev_bind (spec_l1Name_ev _ h1) ?_
    refine ev_ite (fun c2 => ?_) (fun c2 => ?_)
    · refine ev_bind1 (spec_l1In_eq _ _ _) ?_
      refine ev_ite (fun c3 => ?_) (fun c3 => ?_)
      all_goals exact ev_as (ev_now _) (by simp_all)
    · exact ev_as (ev_now _) (by simp_all)
  · exact ev_as (ev_now _) (by simp_all)
theorem spec_AskerOk_j1 (b : Bool) (x0 : Int) (x1 : ByteArray) (x2 x3 x4 : Int) (x5 : ByteArray) (x6 x7 : Int) (h1 : x1.size ≤ 4611686018427387904) (h5 : x5.size ≤ 4611686018427387904) :
    Ev (fun k => spec_AskerOk.j1 k b x0 x1 x2 x3 x4 x5 x6 x7)
      (!b && (if x2 = 0 then x1.toList == ([] : List UInt8) else nameB x1 && (if x2 = 1 then true else if x2 = 2 then inB x3 0 65535 && (inB x4 0 100000 && textB x5) else if x2 = 3 ∨ x2 = 4 then inB x6 1 9999 && decide (x7 ≥ 1) else false))) := by
  refine ev_step (fun k => spec_AskerOk.j1.eq_2 ..) ?_
  refine ev_ite (fun c => ?_) (fun c => ?_)
  · exact ev_as (ev_now _) (by simp [c])
  have hb : b = false := by simpa using c
  subst hb
  refine ev_ite (fun c0 => ?_) (fun c0 => ev_ite (fun c1 => ?_) (fun c1 => ev_ite (fun c2 => ?_) (fun c2 => ev_ite (fun c3 => ?_) (fun c3 => ?_))))
  · exact ev_as (ev_now _) (by simp [c0])
  · exact ev_bind (spec_l1Name_ev _ h1) (ev_as (ev_now _) (by simp [c1]))
  · refine ev_bind (spec_l1Name_ev _ h1) ?_
    refine ev_ite (fun c3 => ?_) (fun c3 => ?_)
    · refine ev_bind1 (spec_l1In_eq _ _ _) ?_
      refine ev_ite (fun c4 => ?_) (fun c4 => ?_)
      · refine ev_bind1 (spec_l9Time_eq _) ?_
        refine ev_ite (fun c5 => ?_) (fun c5 => ?_)
        · exact ev_bind (spec_TextOk_ev _ h5) (ev_as (ev_now _) (by simp [c2, c3, c4, c5]))
        · exact ev_as (ev_now _) (by simp [c2, c5])
      · exact ev_as (ev_now _) (by simp [c2, c4])
    · exact ev_as (ev_now _) (by simp [c2, c3])
  · exact ev_as (spec_AskerOk_j2 _ _ _ _ _ _ _ _ _ h1) (by simp [c3])
  · refine ev_as (spec_AskerOk_j2 _ _ _ _ _ _ _ _ _ h1) ?_
    by_cases c4 : x2 = 4
    · simp [c4]
    · simp [c0, c1, c2, c3, c4]
theorem spec_AskerOk_j0 (b : Bool) (x0 : Int) (x1 : ByteArray) (x2 x3 x4 : Int) (x5 : ByteArray) (x6 x7 : Int) (h1 : x1.size ≤ 4611686018427387904) (h5 : x5.size ≤ 4611686018427387904) :
    Ev (fun k => spec_AskerOk.j0 k b x0 x1 x2 x3 x4 x5 x6 x7)
      (!b && (!(decide (x2 < 3) && !(x6 == 0 && x7 == 0)) && (if x2 = 0 then x1.toList == ([] : List UInt8) else nameB x1 && (if x2 = 1 then true else if x2 = 2 then inB x3 0 65535 && (inB x4 0 100000 && textB x5) else if x2 = 3 ∨ x2 = 4 then inB x6 1 9999 && decide (x7 ≥ 1) else false)))) := by
  refine ev_step (fun k => spec_AskerOk.j0.eq_2 ..) ?_
  refine ev_ite (fun c => ?_) (fun c => ?_)
  · exact ev_as (ev_now _) (by simp [c])
  have hb : b = false := by simpa using c
  subst hb
  refine ev_ite (fun c0 => ev_ite (fun c1 => ?_) (fun c1 => ?_)) (fun c0 => ?_)
  · refine ev_as (spec_AskerOk_j1 _ _ _ _ _ _ _ _ _ h1 h5) ?_
    subst c1
    by_cases c2 : x7 = 0
    · simp [c2]
    · simp [c0, c2, bne]
  · refine ev_as (spec_AskerOk_j1 _ _ _ _ _ _ _ _ _ h1 h5) ?_
    simp [c0, c1]
  · refine ev_as (spec_AskerOk_j1 _ _ _ _ _ _ _ _ _ h1 h5) ?_
    simp [c0]
theorem spec_AskerOk_core (x0 : Int) (x1 : ByteArray) (x2 x3 x4 : Int) (x5 : ByteArray) (x6 x7 : Int) (h1 : x1.size ≤ 4611686018427387904) (h5 : x5.size ≤ 4611686018427387904) : Ev (fun k => spec_AskerOk.f k x0 x1 x2 x3 x4 x5 x6 x7) (askerB x0 x1 x2 x3 x4 x5 x6 x7) := by
  unfold spec_AskerOk.f askerB
  refine ev_bind1 (spec_l1In_eq _ _ _) ?_
  have key : ∀ b : Bool, (b = !(decide (x2 = 2) || (x3 == 0 && (x4 == 0 && x5.toList == ([] : List UInt8))))) → inB x0 1 9999 = true →
      Ev (fun k => spec_AskerOk.j0 k b x0 x1 x2 x3 x4 x5 x6 x7) (inB x0 1 9999 &&
    (if x2 = 0 then x1.toList == ([] : List UInt8) && (x3 == 0 && (x4 == 0 && (x5.toList == ([] : List UInt8) && (x6 == 0 && x7 == 0))))
    else nameB x1 &&
      (if x2 = 1 then x3 == 0 && (x4 == 0 && (x5.toList == ([] : List UInt8) && (x6 == 0 && x7 == 0)))
      else if x2 = 2 then (x6 == 0 && x7 == 0) && (inB x3 0 65535 && (inB x4 0 100000 && textB x5))
      else if x2 = 3 ∨ x2 = 4 then (x3 == 0 && (x4 == 0 && x5.toList == ([] : List UInt8))) && (inB x6 1 9999 && decide (x7 ≥ 1))
      else false))) := by
    intro b hb h0
    refine ev_as (spec_AskerOk_j0 _ _ _ _ _ _ _ _ _ h1 h5) ?_
    rw [hb, h0]
    generalize (x5.toList == ([] : List UInt8)) = e5
    generalize (x1.toList == ([] : List UInt8)) = e1
    generalize nameB x1 = n1
    generalize textB x5 = t5
    generalize inB x3 0 65535 = i3
    generalize inB x4 0 100000 = i4
    generalize inB x6 1 9999 = i6
    by_cases s0 : x2 = 0
    · subst s0
      cases (x3 == 0) <;> cases (x4 == 0) <;> cases e5 <;> cases (x6 == 0) <;> cases (x7 == 0) <;> cases e1 <;> rfl
    · by_cases s1 : x2 = 1
      · subst s1
        cases (x3 == 0) <;> cases (x4 == 0) <;> cases e5 <;> cases (x6 == 0) <;> cases (x7 == 0) <;> cases n1 <;> rfl
      · by_cases s2 : x2 = 2
        · subst s2
          cases (x6 == 0) <;> cases (x7 == 0) <;> cases n1 <;> cases i3 <;> cases i4 <;> cases t5 <;> rfl
        · by_cases s3 : x2 = 3 ∨ x2 = 4
          · have hn : ¬ x2 < 3 := by omega
            simp only [s0, s1, s2, s3, hn, decide_false, if_true, if_false]
            cases (x3 == 0) <;> cases (x4 == 0) <;> cases e5 <;> cases n1 <;> simp
          · simp only [s0, s1, s2, s3, if_false, Bool.and_false]
  refine ev_ite (fun c => ?_) (fun c => ?_)
  · refine ev_ite (fun c2 => ?_) (fun c2 => ev_ite (fun c3 => ev_ite (fun c4 => ?_) (fun c4 => ?_)) (fun c3 => ?_))
    · exact key _ (by simp [c2]) c
    · exact key _ (by simp only [c2, c3, c4, bne]; simp) c
    · exact key _ (by simp [c2, c3, c4]) c
    · exact key _ (by simp [c2, c3]) c
  · exact ev_as (ev_now _) (by simp [c])
theorem spec_AskerOk_ev (x : S81) (h1 : x.f1.size ≤ 4611686018427387904) (h5 : x.f5.size ≤ 4611686018427387904) : Ev (fun k => spec_AskerOk.f k x.f0 x.f1 x.f2 x.f3 x.f4 x.f5 x.f6 x.f7) (askerB x.f0 x.f1 x.f2 x.f3 x.f4 x.f5 x.f6 x.f7) := spec_AskerOk_core _ _ _ _ _ _ _ _ h1 h5

/-! ### laws_toAsker -/
def cv_Asker (x : S78) : S81 := ⟨x.f0, x.f1, x.f2, x.f3, x.f4, x.f5, x.f6, x.f7⟩
theorem to_Asker (x : S78) (hs : szv_Asker x ≤ 1048576) : Ev (fun k => laws_toAsker.f x.f0 x.f1 x.f2 x.f3 x.f4 x.f5 x.f6 x.f7) ((cv_Asker x).f0, (cv_Asker x).f1, (cv_Asker x).f2, (cv_Asker x).f3, (cv_Asker x).f4, (cv_Asker x).f5, (cv_Asker x).f6, (cv_Asker x).f7) := by
  unfold szv_Asker at hs
  unfold laws_toAsker.f
  exact ev_now _

/-! ### impl_isIn -/
theorem impl_isIn_eq (a b c : Int) : impl_isIn.f a b c = some (inB a b c) := by
  unfold impl_isIn.f inB
  by_cases h : b ≤ a <;> simp [h]

/-! ### impl_sockIdOk -/
theorem impl_sockIdOk_eq (a : Int) : impl_sockIdOk.f a = some (inB a 1 9999) := by
  unfold impl_sockIdOk.f
  rw [impl_isIn_eq]
  rfl

/-! ### impl_nameOk -/
theorem impl_nameOk_l0 (s : ByteArray) (hs : s.size ≤ 4611686018427387904) (d : Nat) : ∀ i : Int, 0 ≤ i → i + d = s.size → Ev (fun k => impl_nameOk.l0 k s (s.size : Int) i) (allF (byteIn s 97 122) i d && inB s.size 1 8) := by
  induction d with
  | zero =>
    intro i h0 h1
    refine ev_step (fun k => impl_nameOk.l0.eq_2 ..) ?_
    refine ev_neg (by omega) ?_
    rw [impl_isIn_eq]
    exact ev_now _
  | succ d ih =>
    intro i h0 h1
    refine ev_step (fun k => impl_nameOk.l0.eq_2 ..) ?_
    refine ev_pos (by omega) (ev_pos (by omega) (ev_pos (by omega) ?_))
    refine ev_ite (fun c1 => ?_) (fun c1 => ev_ite (fun c2 => ?_) (fun c2 => ?_))
    · refine ev_as (ev_now _) ?_
      have : byteIn s 97 122 i = false := by rw [byteIn_false]; omega
      simp [allF, this]
    · refine ev_as (ev_now _) ?_
      have : byteIn s 97 122 i = false := by rw [byteIn_false]; omega
      simp [allF, this]
    · have : byteIn s 97 122 i = true := by rw [byteIn_iff]; omega
      rw [w64 (by omega) (by omega), allF, this, Bool.true_and]
      exact ih (i + 1) (by omega) (by omega)
theorem impl_nameOk_ev (s : ByteArray) (hs : s.size ≤ 4611686018427387904) : Ev (fun k => impl_nameOk.f k s) (nameB s) := impl_nameOk_l0 s hs s.size 0 (by omega) (by omega)

/-! ### impl_sinceOk -/
theorem impl_sinceOk_eq (a : Int) : impl_sinceOk.f a = some (inB a 0 100000) := by
  unfold impl_sinceOk.f
  rw [impl_isIn_eq]
  rfl

/-! ### impl_wordOk -/
theorem impl_wordOk_eq (a : Int) : impl_wordOk.f a = some (inB a 0 65535) := by
  unfold impl_wordOk.f
  rw [impl_isIn_eq]
  rfl

/-! ### impl_TextOk -/
theorem impl_TextOk_l0 (s : ByteArray) (hs : s.size ≤ 4611686018427387904) (d : Nat) : ∀ i : Int, 0 ≤ i → i + d = s.size → Ev (fun k => impl_TextOk.l0 k s (s.size : Int) i) (allF (byteIn s 32 126) i d && decide ((s.size : Int) ≤ 100)) := by
  induction d with
  | zero =>
    intro i h0 h1
    refine ev_step (fun k => impl_TextOk.l0.eq_2 ..) ?_
    refine ev_neg (by omega) ?_
    exact ev_now _
  | succ d ih =>
    intro i h0 h1
    refine ev_step (fun k => impl_TextOk.l0.eq_2 ..) ?_
    refine ev_pos (by omega) (ev_pos (by omega) (ev_pos (by omega) ?_))
    refine ev_ite (fun c1 => ?_) (fun c1 => ev_ite (fun c2 => ?_) (fun c2 => ?_))
    · refine ev_as (ev_now _) ?_
      have : byteIn s 32 126 i = false := by rw [byteIn_false]; omega
      simp [allF, this]
    · refine ev_as (ev_now _) ?_
      have : byteIn s 32 126 i = false := by rw [byteIn_false]; omega
      simp [allF, this]
    · have : byteIn s 32 126 i = true := by rw [byteIn_iff]; omega
      rw [w64 (by omega) (by omega), allF, this, Bool.true_and]
      exact ih (i + 1) (by omega) (by omega)
theorem impl_TextOk_ev (s : ByteArray) (hs : s.size ≤ 4611686018427387904) : Ev (fun k => impl_TextOk.f k s) (textB s) := impl_TextOk_l0 s hs s.size 0 (by omega) (by omega)

/-! ### impl_AskerOk -/
theorem impl_AskerOk_core (x0 : Int) (x1 : ByteArray) (x2 x3 x4 : Int) (x5 : ByteArray) (x6 x7 : Int) (h1 : x1.size ≤ 4611686018427387904) (h5 : x5.size ≤ 4611686018427387904) : Ev (fun k => impl_AskerOk.f k x0 x1 x2 x3 x4 x5 x6 x7) (askerB x0 x1 x2 x3 x4 x5 x6 x7) := by
  unfold impl_AskerOk.f askerB
  refine ev_step (fun k => impl_AskerOk.j0.eq_2 ..) ?_
  have e0 : (⟨#[]⟩ : ByteArray).toList = [] := by unfold ByteArray.toList; unfold ByteArray.toList.loop; rfl
  simp only [beq_self_eq_true, Bool.true_and, Bool.and_true, e0]
  refine ev_bind1 (impl_sockIdOk_eq _) ?_
  refine ev_ite (fun c => ?_) (fun c => ?_)
  · refine ev_ite (fun s0 => ?_) (fun s0 => ?_)
    · exact ev_as (ev_now _) (by simp [c, s0])
    · refine ev_bind (impl_nameOk_ev _ h1) ?_
      refine ev_ite (fun cn => ?_) (fun cn => ?_)
      · refine ev_ite (fun s1 => ?_) (fun s1 => ev_ite (fun s2 => ?_) (fun s2 => ev_ite (fun s3 => ?_) (fun s3 => ev_ite (fun s4 => ?_) (fun s4 => ?_))))
        · exact ev_as (ev_now _) (by simp [c, s1, cn])
        · refine ev_ite (fun c1 => ?_) (fun c1 => ?_)
          · refine ev_bind1 (impl_wordOk_eq _) ?_
            refine ev_ite (fun c3 => ?_) (fun c3 => ?_)
            · refine ev_bind1 (impl_sinceOk_eq _) ?_
              refine ev_ite (fun c4 => ?_) (fun c4 => ?_)
              · exact ev_bind (impl_TextOk_ev _ h5) (ev_as (ev_now _) (by rw [c, cn, c3, c4, c1]; simp [s2]))
              · exact ev_as (ev_now _) (by simp [s2, c4])
            · exact ev_as (ev_now _) (by simp [s2, c3])
          · have c1' := Bool.eq_false_iff.2 c1
            exact ev_as (ev_now _) (by rw [c1']; simp [s2])
        · refine ev_ite (fun c1 => ?_) (fun c1 => ?_)
          · refine ev_bind1 (impl_sockIdOk_eq _) ?_
            refine ev_ite (fun c3 => ?_) (fun c3 => ?_)
            · exact ev_as (ev_now _) (by rw [c, cn, c3, c1]; simp [s3])
            · exact ev_as (ev_now _) (by simp [s3, c3])
          · have c1' := Bool.eq_false_iff.2 c1
            exact ev_as (ev_now _) (by rw [c1']; simp [s3])
        · refine ev_ite (fun c1 => ?_) (fun c1 => ?_)
          · refine ev_bind1 (impl_sockIdOk_eq _) ?_
            refine ev_ite (fun c3 => ?_) (fun c3 => ?_)
            · exact ev_as (ev_now _) (by rw [c, cn, c3, c1]; simp [s4])
            · exact ev_as (ev_now _) (by simp [s4, c3])
          · have c1' := Bool.eq_false_iff.2 c1
            exact ev_as (ev_now _) (by rw [c1']; simp [s4])
        · exact ev_as (ev_now _) (by simp [s0, s1, s2, s3, s4])
      · exact ev_as (ev_now _) (by simp [s0, cn])
  · exact ev_as (ev_now _) (by simp [c])
theorem impl_AskerOk_ev (x : S81) (h1 : x.f1.size ≤ 4611686018427387904) (h5 : x.f5.size ≤ 4611686018427387904) : Ev (fun k => impl_AskerOk.f k x.f0 x.f1 x.f2 x.f3 x.f4 x.f5 x.f6 x.f7) (askerB x.f0 x.f1 x.f2 x.f3 x.f4 x.f5 x.f6 x.f7) := impl_AskerOk_core _ _ _ _ _ _ _ _ h1 h5

theorem FnExactAskerOk : VFnExactAskerOk.Pure := by
  intro x hG
  refine ev_rounds ?_
  unfold laws_FnExactAskerOk.f
  obtain ⟨t, et, ct⟩ := sz_Asker x hG 1048576 (by omega) (by omega)
  rcases ct with ct | ⟨ct, dt⟩
  · exact ev_bind et (ev_pos ct (ev_now _))
  have hs : szv_Asker x ≤ 1048576 := by omega
  have hto := to_Asker x hs
  have hz : (cv_Asker x).f1.size ≤ 4611686018427387904 ∧ (cv_Asker x).f5.size ≤ 4611686018427387904 := by
    show x.f1.size ≤ _ ∧ x.f5.size ≤ _
    unfold szv_Asker at hs
    omega
  exact ev_bind et (ev_neg (by omega) (ev_bind hto (ev_bind (spec_AskerOk_ev (cv_Asker x) hz.1 hz.2) (ev_bind hto (ev_bind (impl_AskerOk_ev (cv_Asker x) hz.1 hz.2) (ev_neg (by simp) (ev_now _)))))))
end Go.Proofs.Ytnfelcmlegenoaa.Pure
