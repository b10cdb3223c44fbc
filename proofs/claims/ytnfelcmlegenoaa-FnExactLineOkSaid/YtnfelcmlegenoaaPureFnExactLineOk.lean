/- The program's LineOk answers as the reference's, whatever the connection. -/
import Derived.Test.YtnfelcmlegenoaaVFnExactLineOk
import Derived.Test.YtnfelcmlegenoaaVBase
namespace Go.Proofs.Ytnfelcmlegenoaa.Pure
open Go.RowKit Go.Proofs.Ytnfelcmlegenoaa.PFnExactLineOk Go.Proofs.Ytnfelcmlegenoaa.VFnExactLineOk Go.Proofs.YtnfelcmlegenoaaW.PrintWords Go.Proofs.YtnfelcmlegenoaaW.PrintLast Go.Proofs.YtnfelcmlegenoaaV
set_option linter.unusedVariables false
set_option linter.unusedSimpArgs false
set_option maxRecDepth 20000

/-! ### laws_szLine -/
def szv_Line (x : S35) : Nat := x.f1.size
theorem sz_Line (x : S35) (hG : G35 x) (left : Int) (h0 : 0 ≤ left) (h1 : left ≤ 1048576) :
    ∃ t, Ev (fun k => laws_szLine.f x.f0 x.f1 x.f2 x.f3 x.f4 x.f5 x.f6 left) t ∧ (t < 0 ∨ 0 ≤ t ∧ t + (szv_Line x : Int) = left) := by
  obtain ⟨g0, g1, g2, g3, g4, g5, g6⟩ := hG
  unfold laws_szLine.f szv_Line
  have e1 : wrap64 (left - (x.f1.size : Int)) = left - (x.f1.size : Int) := w64 (by omega) (by omega)
  simp only [e1]
  by_cases c1 : left - (x.f1.size : Int) < 0
  · exact ⟨-1, ev_pos c1 (ev_now _), .inl (by omega)⟩
  exact ⟨_, ev_neg c1 (ev_now _), .inr ⟨by omega, by omega⟩⟩

/-! ### spec_l1In -/
theorem spec_l1In_eq (a b c : Int) : spec_l1In.f a b c = some (inB a b c) := by
  unfold spec_l1In.f inB
  by_cases h : b ≤ a <;> simp [h]

/-! ### spec_l1Name -/
theorem spec_l1Name_l0 (s : ByteArray) (hs : s.size ≤ 4611686018427387904) (d : Nat) : ∀ i : Int, 0 ≤ i → i + d = s.size → Ev (fun k => spec_l1Name.l0 k s i) (allF (byteIn s 97 122) i d && inB s.size 1 8) := by
  induction d with
  | zero =>
    intro i h0 h1
    refine ev_step (fun k => spec_l1Name.l0.eq_2 ..) ?_
    refine ev_neg (by omega) ?_
    rw [spec_l1In_eq]
    exact ev_now _
  | succ d ih =>
    intro i h0 h1
    refine ev_step (fun k => spec_l1Name.l0.eq_2 ..) ?_
    refine ev_pos (by omega) (ev_pos (by omega) ?_)
    refine ev_ite (fun c1 => ?_) (fun c1 => ev_ite (fun c2 => ?_) (fun c2 => ?_))
    · refine ev_as (ev_now _) ?_
      have : byteIn s 97 122 i = false := by rw [byteIn_false]; omega
      simp [allF, this]
    · refine ev_as (ev_now _) ?_
      have : byteIn s 97 122 i = false := by rw [byteIn_false]; omega
      simp [allF, this]
    · have : byteIn s 97 122 i = true := by rw [byteIn_iff]; omega
      rw [w64 (by omega) (by omega), allF, this, Bool.true_and]
      exact ih (i + 1) (by omega) (by omega)
theorem spec_l1Name_ev (s : ByteArray) (hs : s.size ≤ 4611686018427387904) : Ev (fun k => spec_l1Name.f k s) (nameB s) := spec_l1Name_l0 s hs s.size 0 (by omega) (by omega)

/-! ### spec_l9Time -/
theorem spec_l9Time_eq (a : Int) : spec_l9Time.f a = some (inB a 0 100000) := by
  unfold spec_l9Time.f
  rw [spec_l1In_eq]
  rfl

/-! ### spec_LineOk -/
def lineB (so : Int) (db : ByteArray) (ge st si asn le : Int) : Bool :=
  inB so 1 9999 && (nameB db && (inB ge 1 60000 &&
    (if st = 0 then inB si 0 100000 && (asn == 0 && le == 0)
    else if st = 1 ∨ st = 2 then si == 0 && (inB asn 1 9999 && decide (le ≥ 1))
    else false)))
theorem spec_LineOk_j0 (b : Bool) (x0 : Int) (x1 : ByteArray) (x2 x3 x4 x5 x6 : Int) : Ev (fun k => spec_LineOk.j0 k b x0 x1 x2 x3 x4 x5 x6)
    (!b && (if x3 = 0 then inB x4 0 100000 && (x5 == 0 && x6 == 0) else if x3 = 1 ∨ x3 = 2 then x4 == 0 && (inB x5 1 9999 && decide (x6 ≥ 1)) else false)) := by
  refine ev_step (fun k => spec_LineOk.j0.eq_2 ..) ?_
  refine ev_ite (fun c => ?_) (fun c => ?_)
  · exact ev_as (ev_now _) (by simp [c])
  · have hb : b = false := by simpa using c
    refine ev_ite (fun c1 => ?_) (fun c1 => ?_)
    · refine ev_bind1 (spec_l9Time_eq x4) ?_
      refine ev_ite (fun c2 => ev_ite (fun c3 => ?_) (fun c3 => ?_)) (fun c2 => ?_)
      all_goals exact ev_as (ev_now _) (by simp_all)
    · refine ev_bind1 (spec_l1In_eq x3 1 2) ?_
      refine ev_ite (fun c2 => ?_) (fun c2 => ?_)
      · have h3 : x3 = 1 ∨ x3 = 2 := by have := (inB_iff _ _ _).1 c2; omega
        refine ev_ite (fun c3 => ?_) (fun c3 => ?_)
        · refine ev_bind1 (spec_l1In_eq x5 1 9999) ?_
          refine ev_ite (fun c4 => ?_) (fun c4 => ?_)
          all_goals exact ev_as (ev_now _) (by simp_all)
        · exact ev_as (ev_now _) (by simp_all)
      · have h3 : ¬ (x3 = 1 ∨ x3 = 2) := by
          intro h
          exact c2 ((inB_iff _ _ _).2 (by omega))
        exact ev_as (ev_now _) (by simp [c1, h3])
theorem spec_LineOk_ev (x : S38) (hs : x.f1.size ≤ 4611686018427387904) : Ev (fun k => spec_LineOk.f k x.f0 x.f1 x.f2 x.f3 x.f4 x.f5 x.f6) (lineB x.f0 x.f1 x.f2 x.f3 x.f4 x.f5 x.f6) := by
  unfold spec_LineOk.f lineB
  refine ev_bind1 (spec_l1In_eq _ _ _) ?_
  refine ev_ite (fun c => ?_) (fun c => ?_)
  · refine ev_bind (spec_l1Name_ev _ hs) ?_
    refine ev_ite (fun c2 => ?_) (fun c2 => ?_)
    · refine ev_bind1 (spec_l1In_eq _ _ _) ?_
      exact ev_as (spec_LineOk_j0 ..) (by rw [c, c2]; simp)
    · exact ev_as (spec_LineOk_j0 ..) (by simp [c2])
  · exact ev_as (spec_LineOk_j0 ..) (by simp [c])

/-! ### laws_toLine -/
def cv_Line (x : S35) : S38 := ⟨x.f0, x.f1, x.f2, x.f3, x.f4, x.f5, x.f6⟩
theorem to_Line (x : S35) (hs : szv_Line x ≤ 1048576) : Ev (fun k => laws_toLine.f x.f0 x.f1 x.f2 x.f3 x.f4 x.f5 x.f6) ((cv_Line x).f0, (cv_Line x).f1, (cv_Line x).f2, (cv_Line x).f3, (cv_Line x).f4, (cv_Line x).f5, (cv_Line x).f6) := by
  unfold szv_Line at hs
  unfold laws_toLine.f
  exact ev_now _

/-! ### impl_isIn -/
theorem impl_isIn_eq (a b c : Int) : impl_isIn.f a b c = some (inB a b c) := by
  unfold impl_isIn.f inB
  by_cases h : b ≤ a <;> simp [h]

/-! ### impl_sockIdOk -/
theorem impl_sockIdOk_eq (a : Int) : impl_sockIdOk.f a = some (inB a 1 9999) := by
  unfold impl_sockIdOk.f
  rw [impl_isIn_eq]
  rfl

/-! ### impl_nameOk -/
theorem impl_nameOk_l0 (s : ByteArray) (hs : s.size ≤ 4611686018427387904) (d : Nat) : ∀ i : Int, 0 ≤ i → i + d = s.size → Ev (fun k => impl_nameOk.l0 k s (s.size : Int) i) (allF (byteIn s 97 122) i d && inB s.size 1 8) := by
  induction d with
  | zero =>
    intro i h0 h1
    refine ev_step (fun k => impl_nameOk.l0.eq_2 ..) ?_
    refine ev_neg (by omega) ?_
    rw [impl_isIn_eq]
    exact ev_now _
  | succ d ih =>
    intro i h0 h1
    refine ev_step (fun k => impl_nameOk.l0.eq_2 ..) ?_
    refine ev_pos (by omega) (ev_pos (by omega) (ev_pos (by omega) ?_))
    refine ev_ite (fun c1 => ?_) (fun c1 => ev_ite (fun c2 => ?_) (fun c2 => ?_))
    · refine ev_as (ev_now _) ?_
      have : byteIn s 97 122 i = false := by rw [byteIn_false]; omega
      simp [allF, this]
    · refine ev_as (ev_now _) ?_
      have : byteIn s 97 122 i = false := by rw [byteIn_false]; omega
      simp [allF, this]
    · have : byteIn s 97 122 i = true := by rw [byteIn_iff]; omega
      rw [w64 (by omega) (by omega), allF, this, Bool.true_and]
      exact ih (i + 1) (by omega) (by omega)
theorem impl_nameOk_ev (s : ByteArray) (hs : s.size ≤ 4611686018427387904) : Ev (fun k => impl_nameOk.f k s) (nameB s) := impl_nameOk_l0 s hs s.size 0 (by omega) (by omega)

/-! ### impl_sinceOk -/
theorem impl_sinceOk_eq (a : Int) : impl_sinceOk.f a = some (inB a 0 100000) := by
  unfold impl_sinceOk.f
  rw [impl_isIn_eq]
  rfl

/-! ### impl_LineOk -/
theorem impl_LineOk_j0 (b : Bool) (x0 : Int) (x1 : ByteArray) (x2 x3 x4 x5 x6 : Int) : Ev (fun k => impl_LineOk.j0 k b x0 x1 x2 x3 x4 x5 x6)
    (!b && (if x3 = 0 then inB x4 0 100000 && (x5 == 0 && x6 == 0) else if x3 = 1 ∨ x3 = 2 then x4 == 0 && (inB x5 1 9999 && decide (x6 ≥ 1)) else false)) := by
  refine ev_step (fun k => impl_LineOk.j0.eq_2 ..) ?_
  refine ev_ite (fun c => ?_) (fun c => ?_)
  · exact ev_as (ev_now _) (by simp [c])
  · have hb : b = false := by simpa using c
    refine ev_ite (fun c1 => ?_) (fun c1 => ev_ite (fun c2 => ?_) (fun c2 => ev_ite (fun c3 => ?_) (fun c3 => ?_)))
    · refine ev_bind1 (impl_sinceOk_eq x4) ?_
      refine ev_ite (fun c2 => ev_ite (fun c3 => ?_) (fun c3 => ?_)) (fun c2 => ?_)
      all_goals exact ev_as (ev_now _) (by simp_all)
    · refine ev_ite (fun c3 => ?_) (fun c3 => ?_)
      · refine ev_bind1 (impl_sockIdOk_eq x5) ?_
        refine ev_ite (fun c4 => ?_) (fun c4 => ?_)
        all_goals exact ev_as (ev_now _) (by simp_all)
      · exact ev_as (ev_now _) (by simp_all)
    · refine ev_ite (fun c3 => ?_) (fun c3 => ?_)
      · refine ev_bind1 (impl_sockIdOk_eq x5) ?_
        refine ev_ite (fun c4 => ?_) (fun c4 => ?_)
        all_goals exact ev_as (ev_now _) (by simp_all)
      · exact ev_as (ev_now _) (by simp_all)
    · exact ev_as (ev_now _) (by simp [c1, c2, c3])
theorem impl_LineOk_ev (x : S38) (hs : x.f1.size ≤ 4611686018427387904) : Ev (fun k => impl_LineOk.f k x.f0 x.f1 x.f2 x.f3 x.f4 x.f5 x.f6) (lineB x.f0 x.f1 x.f2 x.f3 x.f4 x.f5 x.f6) := by
  unfold impl_LineOk.f lineB
  refine ev_bind1 (impl_sockIdOk_eq _) ?_
  refine ev_ite (fun c => ?_) (fun c => ?_)
  · refine ev_bind (impl_nameOk_ev _ hs) ?_
    refine ev_ite (fun c2 => ?_) (fun c2 => ?_)
    · refine ev_bind1 (impl_isIn_eq _ _ _) ?_
      exact ev_as (impl_LineOk_j0 ..) (by rw [c, c2]; simp)
    · exact ev_as (impl_LineOk_j0 ..) (by simp [c2])
  · exact ev_as (impl_LineOk_j0 ..) (by simp [c])

theorem FnExactLineOk : VFnExactLineOk.Pure := by
  intro x hG
  refine ev_rounds ?_
  unfold laws_FnExactLineOk.f
  obtain ⟨t, et, ct⟩ := sz_Line x hG 1048576 (by omega) (by omega)
  rcases ct with ct | ⟨ct, dt⟩
  · exact ev_bind et (ev_pos ct (ev_now _))
  have hs : szv_Line x ≤ 1048576 := by omega
  have hto := to_Line x hs
  have hz : (cv_Line x).f1.size ≤ 4611686018427387904 := by
    show x.f1.size ≤ _
    unfold szv_Line at hs
    omega
  exact ev_bind et (ev_neg (by omega) (ev_bind hto (ev_bind (spec_LineOk_ev (cv_Line x) hz) (ev_bind hto (ev_bind (impl_LineOk_ev (cv_Line x) hz) (ev_neg (by simp) (ev_now _)))))))
end Go.Proofs.Ytnfelcmlegenoaa.Pure
