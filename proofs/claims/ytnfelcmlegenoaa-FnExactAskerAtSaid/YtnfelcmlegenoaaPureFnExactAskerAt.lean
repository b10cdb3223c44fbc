/- The program's AskerAt answers as the reference's, whatever the list and the number; the list stays as it is. -/
import Derived.Test.YtnfelcmlegenoaaVFnExactAskerAt
import Derived.Test.YtnfelcmlegenoaaVBase
import Derived.Test.YtnfelcmlegenoaaVExt
namespace Go.Proofs.Ytnfelcmlegenoaa.Pure
open Go.RowKit Go.Proofs.Ytnfelcmlegenoaa.PFnExactAskerAt Go.Proofs.Ytnfelcmlegenoaa.VFnExactAskerAt Go.Proofs.YtnfelcmlegenoaaW.PrintWords Go.Proofs.YtnfelcmlegenoaaW.PrintLast Go.Proofs.YtnfelcmlegenoaaV
set_option linter.unusedVariables false
set_option linter.unusedSimpArgs false
set_option maxRecDepth 20000

/-! ### laws_szAsker -/
def szv_Asker (x : S78) : Nat := x.f1.size + x.f5.size
theorem sz_Asker (x : S78) (hG : G78 x) (left : Int) (h0 : 0 ≤ left) (h1 : left ≤ 1048576) :
    ∃ t, Ev (fun k => laws_szAsker.f x.f0 x.f1 x.f2 x.f3 x.f4 x.f5 x.f6 x.f7 left) t ∧ (t < 0 ∨ 0 ≤ t ∧ t + (szv_Asker x : Int) = left) := by
  obtain ⟨g0, g1, g2, g3, g4, g5, g6, g7⟩ := hG
  unfold laws_szAsker.f szv_Asker
  have e1 : wrap64 (left - (x.f1.size : Int)) = left - (x.f1.size : Int) := w64 (by omega) (by omega)
  simp only [e1]
  by_cases c1 : left - (x.f1.size : Int) < 0
  · exact ⟨-1, ev_pos c1 (ev_now _), .inl (by omega)⟩
  have e5 : wrap64 ((left - (x.f1.size : Int)) - (x.f5.size : Int)) = (left - (x.f1.size : Int)) - (x.f5.size : Int) := w64 (by omega) (by omega)
  simp only [e5]
  by_cases c5 : (left - (x.f1.size : Int)) - (x.f5.size : Int) < 0
  · exact ⟨-1, ev_neg c1 (ev_pos c5 (ev_now _)), .inl (by omega)⟩
  exact ⟨_, ev_neg c1 (ev_neg c5 (ev_now _)), .inr ⟨by omega, by omega⟩⟩

/-! ### laws_szAskerS -/
def szl_AskerS (l : List S78) : Nat := l.length + (l.map szv_Asker).sum
theorem sz_AskerS_l0 (l : List S78) (hG : ∀ x ∈ l, G78 x) (hl : l.length ≤ 9223372036854775807) (d : Nat) : ∀ (i : Nat) (left : Int), i + d = l.length → 0 ≤ left → left ≤ 1048576 →
    ∃ t, Ev (fun k => laws_szAskerS.l0 k l left (i : Int)) t ∧ (t < 0 ∨ 0 ≤ t ∧ t + (((l.drop i).map szv_Asker).sum : Nat) = left) := by
  induction d with
  | zero =>
    intro i left hi h0 h1
    refine ⟨left, ev_step (fun k => laws_szAskerS.l0.eq_2 ..) (ev_neg (by omega) (ev_now _)), .inr ⟨h0, ?_⟩⟩
    rw [List.drop_of_length_le (by omega)]
    simp
  | succ d ih =>
    intro i left hi h0 h1
    have hlt : i < l.length := by omega
    have hg := hG l[i] (List.getElem_mem hlt)
    have hd : l.drop i = l[i] :: l.drop (i + 1) := List.drop_eq_getElem_cons hlt
    have hr : rd_T78 l (i : Int) = l[i] := getD_nth _ l i hlt
    obtain ⟨t1, et1, ct1⟩ := sz_Asker l[i] hg left h0 h1
    rcases ct1 with ct1 | ⟨ct1, dt1⟩
    · refine ⟨-1, ev_step (fun k => laws_szAskerS.l0.eq_2 ..) (ev_pos (by omega) (ev_pos (by omega) ?_)), .inl (by omega)⟩
      simp only [hr]
      exact ev_bind et1 (ev_pos ct1 (ev_now _))
    · obtain ⟨t, et, ct⟩ := ih (i + 1) t1 (by omega) ct1 (by omega)
      refine ⟨t, ev_step (fun k => laws_szAskerS.l0.eq_2 ..) (ev_pos (by omega) (ev_pos (by omega) ?_)), ?_⟩
      · simp only [hr]
        rw [w64 (by omega) (by omega)]
        exact ev_bind et1 (ev_neg (by omega) et)
      · rw [hd, List.map_cons, List.sum_cons]
        omega
theorem sz_AskerS (l : List S78) (hl : l.length ≤ 9223372036854775807) (hG : ∀ x ∈ l, G78 x) (left : Int) (h0 : 0 ≤ left) (h1 : left ≤ 1048576) :
    ∃ t, Ev (fun k => laws_szAskerS.f k l left) t ∧ (t < 0 ∨ 0 ≤ t ∧ t + (szl_AskerS l : Int) = left) := by
  unfold laws_szAskerS.f szl_AskerS
  have e : wrap64 (left - (l.length : Int)) = left - (l.length : Int) := w64 (by omega) (by omega)
  simp only [e]
  by_cases hc : left - (l.length : Int) < 0
  · exact ⟨-1, ev_pos hc (ev_now _), .inl (by omega)⟩
  · obtain ⟨t, et, ct⟩ := sz_AskerS_l0 l hG hl l.length 0 (left - (l.length : Int)) (by omega) (by omega) (by omega)
    refine ⟨t, ev_neg hc et, ?_⟩
    rw [List.drop_zero] at ct
    omega

/-! ### spec_AskerAt -/
theorem spec_AskerAt_l0 (l : List S81) (a : Int) (hl : l.length ≤ 4611686018427387904) (d : Nat) : ∀ i : Nat, i + d = l.length → Ev (fun k => spec_AskerAt.l0 k l a (i : Int)) (idxF (fun x => x.f0 == a) (l.drop i) (i : Int)) := by
  induction d with
  | zero =>
    intro i hi
    refine ev_step (fun k => spec_AskerAt.l0.eq_2 ..) (ev_neg (by omega) ?_)
    rw [List.drop_of_length_le (by omega)]
    exact ev_now _
  | succ d ih =>
    intro i hi
    have hlt : i < l.length := by omega
    have hr : rd_T81 l (i : Int) = l[i] := getD_nth _ l i hlt
    have hd : l.drop i = l[i] :: l.drop (i + 1) := List.drop_eq_getElem_cons hlt
    have hn := ih (i + 1) (by omega)
    refine ev_step (fun k => spec_AskerAt.l0.eq_2 ..) (ev_pos (by omega) (ev_pos (by omega) ?_))
    simp only [hr]
    rw [w64 (by omega) (by omega), hd, idxF]
    refine ev_ite (fun c => ?_) (fun c => ?_)
    · exact ev_as (ev_now _) (by rw [if_pos (by simpa using c)])
    · exact ev_as hn (by rw [if_neg (by simpa using c)]; rfl)
theorem spec_AskerAt_ev (l : List S81) (a : Int) (hl : l.length ≤ 4611686018427387904) : Ev (fun k => spec_AskerAt.f k l a) (idxF (fun x => x.f0 == a) l 0) := spec_AskerAt_l0 l a hl l.length 0 (by omega)

/-! ### laws_toAsker -/
def cv_Asker (x : S78) : S81 := ⟨x.f0, x.f1, x.f2, x.f3, x.f4, x.f5, x.f6, x.f7⟩
theorem to_Asker (x : S78) (hs : szv_Asker x ≤ 1048576) : Ev (fun k => laws_toAsker.f x.f0 x.f1 x.f2 x.f3 x.f4 x.f5 x.f6 x.f7) ((cv_Asker x).f0, (cv_Asker x).f1, (cv_Asker x).f2, (cv_Asker x).f3, (cv_Asker x).f4, (cv_Asker x).f5, (cv_Asker x).f6, (cv_Asker x).f7) := by
  unfold szv_Asker at hs
  unfold laws_toAsker.f
  exact ev_now _

/-! ### laws_toAskerS -/
theorem to_AskerS_l0 (l : List S78) (hs : szl_AskerS l ≤ 1048576) (d : Nat) : ∀ (i : Nat) (x : List S81), i + d = l.length → x.length = l.length → x.take i = (l.map cv_Asker).take i → Ev (fun k => laws_toAskerS.l0 k l x (i : Int)) (l.map cv_Asker) := by
  have hl : l.length ≤ 1048576 := by unfold szl_AskerS at hs; omega
  induction d with
  | zero =>
    intro i x hi hx ht
    refine ev_as (ev_step (fun k => laws_toAskerS.l0.eq_2 ..) (ev_neg (by omega) (ev_now _))) ?_
    rw [List.take_of_length_le (by omega), List.take_of_length_le (by first | omega | (simp; omega))] at ht
    exact ht
  | succ d ih =>
    intro i x hi hx ht
    have hlt : i < l.length := by omega
    have hr : rd_T78 l (i : Int) = l[i] := getD_nth _ l i hlt
    refine ev_step (fun k => laws_toAskerS.l0.eq_2 ..) (ev_pos (by omega) (ev_pos (by omega) ?_))
    have he := to_Asker l[i] (by have := mem_sum szv_Asker l l[i] (List.getElem_mem hlt); unfold szl_AskerS at hs; omega)
    simp only [hr]
    refine ev_bind he ?_
    refine ev_pos (by omega) ?_
    rw [Int.toNat_natCast, w64 (by omega) (by omega)]
    exact ih (i + 1) _ (by omega) (by simp; omega) (take_set x (l.map cv_Asker) i _ (by first | omega | (simp; omega)) (by first | omega | (simp; omega)) ht (by first | (simp; done) | (simp; rfl) | rfl))
theorem to_AskerS (l : List S78) (hs : szl_AskerS l ≤ 1048576) : Ev (fun k => laws_toAskerS.f k l) (l.map cv_Asker) := by
  have hl : l.length ≤ 1048576 := by unfold szl_AskerS at hs; omega
  unfold laws_toAskerS.f
  refine ev_pos (by omega) (ev_pos (by simp; omega) ?_)
  exact to_AskerS_l0 l hs l.length 0 _ (by omega) (by simp) (by simp)

/-! ### impl_AskerAt -/
theorem impl_AskerAt_eq (l : List S81) (a : Int) : impl_AskerAt.f l a = some (idxF (fun x => x.f0 == a) l 0) := rfl

/-! ### laws_eqAsker -/
theorem eq_Asker (x : S81) : Ev (fun k => laws_eqAsker.f x.f0 x.f1 x.f2 x.f3 x.f4 x.f5 x.f6 x.f7 x.f0 x.f1 x.f2 x.f3 x.f4 x.f5 x.f6 x.f7) true := by
  unfold laws_eqAsker.f
  exact ev_pos rfl (ev_pos rfl (ev_pos rfl (ev_pos rfl (ev_pos rfl (ev_pos rfl (ev_pos rfl (ev_pos rfl (ev_now _))))))))

/-! ### laws_eqAskerS -/
def eqcl_AskerS (l : List S81) : Prop := l.length ≤ 4611686018427387904
theorem eq_AskerS_l0 (l : List S81) (hq : eqcl_AskerS l) (d : Nat) : ∀ i : Nat, i + d = l.length → Ev (fun k => laws_eqAskerS.l0 k l l (i : Int)) true := by
  have hl : l.length ≤ 4611686018427387904 := hq
  induction d with
  | zero =>
    intro i hi
    exact ev_step (fun k => laws_eqAskerS.l0.eq_2 ..) (ev_neg (by omega) (ev_now _))
  | succ d ih =>
    intro i hi
    have hn := ih (i + 1) (by omega)
    have hlt : i < l.length := by omega
    refine ev_step (fun k => laws_eqAskerS.l0.eq_2 ..) (ev_pos (by omega) (ev_pos (by omega) (ev_pos (by omega) ?_)))
    rw [w64 (by omega) (by omega)]
    exact ev_bind (eq_Asker _) (ev_pos rfl hn)
theorem eq_AskerS (l : List S81) (hq : eqcl_AskerS l) : Ev (fun k => laws_eqAskerS.f k l l) true := by
  unfold laws_eqAskerS.f
  exact ev_pos rfl (eq_AskerS_l0 l hq l.length 0 (by omega))

theorem FnExactAskerAt : VFnExactAskerAt.Pure := by
  intro l a hl hG _
  refine ev_rounds ?_
  unfold laws_FnExactAskerAt.f
  obtain ⟨t, et, ct⟩ := sz_AskerS l hl hG 1048576 (by omega) (by omega)
  rcases ct with ct | ⟨ct, dt⟩
  · exact ev_bind et (ev_pos ct (ev_now _))
  have hs : szl_AskerS l ≤ 1048576 := by omega
  have hto := to_AskerS l hs
  have hl2 : (l.map cv_Asker).length ≤ 4611686018427387904 := by
    unfold szl_AskerS at hs
    simp
    omega
  have hq : eqcl_AskerS (l.map cv_Asker) := hl2
  exact ev_bind et (ev_neg (by omega) (ev_bind hto (ev_bind (spec_AskerAt_ev _ a hl2) (ev_bind hto (ev_bind1 (impl_AskerAt_eq _ a) (ev_pos rfl (ev_bind hto (ev_bind (eq_AskerS _ hq) (ev_pos rfl (ev_now _))))))))))
end Go.Proofs.Ytnfelcmlegenoaa.Pure
