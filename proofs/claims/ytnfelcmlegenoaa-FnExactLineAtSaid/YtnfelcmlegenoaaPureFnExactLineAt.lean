/- The program's LineAt answers as the reference's, whatever the list and the number; the list stays as it is. -/
import Derived.Test.YtnfelcmlegenoaaVFnExactLineAt
import Derived.Test.YtnfelcmlegenoaaVBase
import Derived.Test.YtnfelcmlegenoaaVExt
namespace Go.Proofs.Ytnfelcmlegenoaa.Pure
open Go.RowKit Go.Proofs.Ytnfelcmlegenoaa.PFnExactLineAt Go.Proofs.Ytnfelcmlegenoaa.VFnExactLineAt Go.Proofs.YtnfelcmlegenoaaW.PrintWords Go.Proofs.YtnfelcmlegenoaaW.PrintLast Go.Proofs.YtnfelcmlegenoaaV
set_option linter.unusedVariables false
set_option linter.unusedSimpArgs false
set_option maxRecDepth 20000

/-! ### laws_szLine -/
def szv_Line (x : S35) : Nat := x.f1.size
theorem sz_Line (x : S35) (hG : G35 x) (left : Int) (h0 : 0 ≤ left) (h1 : left ≤ 1048576) :
    ∃ t, Ev (fun k => laws_szLine.f x.f0 x.f1 x.f2 x.f3 x.f4 x.f5 x.f6 left) t ∧ (t < 0 ∨ 0 ≤ t ∧ t + (szv_Line x : Int) = left) := by
  obtain ⟨g0, g1, g2, g3, g4, g5, g6⟩ := hG
  unfold laws_szLine.f szv_Line
  have e1 : wrap64 (left - (x.f1.size : Int)) = left - (x.f1.size : Int) := w64 (by omega) (by omega)
  simp only [e1]
  by_cases c1 : left - (x.f1.size : Int) < 0
  · exact ⟨-1, ev_pos c1 (ev_now _), .inl (by omega)⟩
  exact ⟨_, ev_neg c1 (ev_now _), .inr ⟨by omega, by omega⟩⟩

/-! ### laws_szLineS -/
def szl_LineS (l : List S35) : Nat := l.length + (l.map szv_Line).sum
theorem sz_LineS_l0 (l : List S35) (hG : ∀ x ∈ l, G35 x) (hl : l.length ≤ 9223372036854775807) (d : Nat) : ∀ (i : Nat) (left : Int), i + d = l.length → 0 ≤ left → left ≤ 1048576 →
    ∃ t, Ev (fun k => laws_szLineS.l0 k l left (i : Int)) t ∧ (t < 0 ∨ 0 ≤ t ∧ t + (((l.drop i).map szv_Line).sum : Nat) = left) := by
  induction d with
  | zero =>
    intro i left hi h0 h1
    refine ⟨left, ev_step (fun k => laws_szLineS.l0.eq_2 ..) (ev_neg (by omega) (ev_now _)), .inr ⟨h0, ?_⟩⟩
    rw [List.drop_of_length_le (by omega)]
    simp
  | succ d ih =>
    intro i left hi h0 h1
    have hlt : i < l.length := by omega
    have hg := hG l[i] (List.getElem_mem hlt)
    have hd : l.drop i = l[i] :: l.drop (i + 1) := List.drop_eq_getElem_cons hlt
    have hr : rd_T35 l (i : Int) = l[i] := getD_nth _ l i hlt
    obtain ⟨t1, et1, ct1⟩ := sz_Line l[i] hg left h0 h1
    rcases ct1 with ct1 | ⟨ct1, dt1⟩
    · refine ⟨-1, ev_step (fun k => laws_szLineS.l0.eq_2 ..) (ev_pos (by omega) (ev_pos (by omega) ?_)), .inl (by omega)⟩
      simp only [hr]
      exact ev_bind et1 (ev_pos ct1 (ev_now _))
    · obtain ⟨t, et, ct⟩ := ih (i + 1) t1 (by omega) ct1 (by omega)
      refine ⟨t, ev_step (fun k => laws_szLineS.l0.eq_2 ..) (ev_pos (by omega) (ev_pos (by omega) ?_)), ?_⟩
      · simp only [hr]
        rw [w64 (by omega) (by omega)]
        exact ev_bind et1 (ev_neg (by omega) et)
      · rw [hd, List.map_cons, List.sum_cons]
        omega
theorem sz_LineS (l : List S35) (hl : l.length ≤ 9223372036854775807) (hG : ∀ x ∈ l, G35 x) (left : Int) (h0 : 0 ≤ left) (h1 : left ≤ 1048576) :
    ∃ t, Ev (fun k => laws_szLineS.f k l left) t ∧ (t < 0 ∨ 0 ≤ t ∧ t + (szl_LineS l : Int) = left) := by
  unfold laws_szLineS.f szl_LineS
  have e : wrap64 (left - (l.length : Int)) = left - (l.length : Int) := w64 (by omega) (by omega)
  simp only [e]
  by_cases hc : left - (l.length : Int) < 0
  · exact ⟨-1, ev_pos hc (ev_now _), .inl (by omega)⟩
  · obtain ⟨t, et, ct⟩ := sz_LineS_l0 l hG hl l.length 0 (left - (l.length : Int)) (by omega) (by omega) (by omega)
    refine ⟨t, ev_neg hc et, ?_⟩
    rw [List.drop_zero] at ct
    omega

/-! ### spec_LineAt -/
theorem spec_LineAt_l0 (l : List S38) (a : Int) (hl : l.length ≤ 4611686018427387904) (d : Nat) : ∀ i : Nat, i + d = l.length → Ev (fun k => spec_LineAt.l0 k l a (i : Int)) (idxF (fun x => x.f0 == a) (l.drop i) (i : Int)) := by
  induction d with
  | zero =>
    intro i hi
    refine ev_step (fun k => spec_LineAt.l0.eq_2 ..) (ev_neg (by omega) ?_)
    rw [List.drop_of_length_le (by omega)]
    exact ev_now _
  | succ d ih =>
    intro i hi
    have hlt : i < l.length := by omega
    have hr : rd_T38 l (i : Int) = l[i] := getD_nth _ l i hlt
    have hd : l.drop i = l[i] :: l.drop (i + 1) := List.drop_eq_getElem_cons hlt
    have hn := ih (i + 1) (by omega)
    refine ev_step (fun k => spec_LineAt.l0.eq_2 ..) (ev_pos (by omega) (ev_pos (by omega) ?_))
    simp only [hr]
    rw [w64 (by omega) (by omega), hd, idxF]
    refine ev_ite (fun c => ?_) (fun c => ?_)
    · exact ev_as (ev_now _) (by rw [if_pos (by simpa using c)])
    · exact ev_as hn (by rw [if_neg (by simpa using c)]; rfl)
theorem spec_LineAt_ev (l : List S38) (a : Int) (hl : l.length ≤ 4611686018427387904) : Ev (fun k => spec_LineAt.f k l a) (idxF (fun x => x.f0 == a) l 0) := spec_LineAt_l0 l a hl l.length 0 (by omega)

/-! ### laws_toLine -/
def cv_Line (x : S35) : S38 := ⟨x.f0, x.f1, x.f2, x.f3, x.f4, x.f5, x.f6⟩
theorem to_Line (x : S35) (hs : szv_Line x ≤ 1048576) : Ev (fun k => laws_toLine.f x.f0 x.f1 x.f2 x.f3 x.f4 x.f5 x.f6) ((cv_Line x).f0, (cv_Line x).f1, (cv_Line x).f2, (cv_Line x).f3, (cv_Line x).f4, (cv_Line x).f5, (cv_Line x).f6) := by
  unfold szv_Line at hs
  unfold laws_toLine.f
  exact ev_now _

/-! ### laws_toLineS -/
theorem to_LineS_l0 (l : List S35) (hs : szl_LineS l ≤ 1048576) (d : Nat) : ∀ (i : Nat) (x : List S38), i + d = l.length → x.length = l.length → x.take i = (l.map cv_Line).take i → Ev (fun k => laws_toLineS.l0 k l x (i : Int)) (l.map cv_Line) := by
  have hl : l.length ≤ 1048576 := by unfold szl_LineS at hs; omega
  induction d with
  | zero =>
    intro i x hi hx ht
    refine ev_as (ev_step (fun k => laws_toLineS.l0.eq_2 ..) (ev_neg (by omega) (ev_now _))) ?_
    rw [List.take_of_length_le (by omega), List.take_of_length_le (by first | omega | (simp; omega))] at ht
    exact ht
  | succ d ih =>
    intro i x hi hx ht
    have hlt : i < l.length := by omega
    have hr : rd_T35 l (i : Int) = l[i] := getD_nth _ l i hlt
    refine ev_step (fun k => laws_toLineS.l0.eq_2 ..) (ev_pos (by omega) (ev_pos (by omega) ?_))
    have he := to_Line l[i] (by have := mem_sum szv_Line l l[i] (List.getElem_mem hlt); unfold szl_LineS at hs; omega)
    simp only [hr]
    refine ev_bind he ?_
    refine ev_pos (by omega) ?_
    rw [Int.toNat_natCast, w64 (by omega) (by omega)]
    exact ih (i + 1) _ (by omega) (by simp; omega) (take_set x (l.map cv_Line) i _ (by first | omega | (simp; omega)) (by first | omega | (simp; omega)) ht (by first | (simp; done) | (simp; rfl) | rfl))
theorem to_LineS (l : List S35) (hs : szl_LineS l ≤ 1048576) : Ev (fun k => laws_toLineS.f k l) (l.map cv_Line) := by
  have hl : l.length ≤ 1048576 := by unfold szl_LineS at hs; omega
  unfold laws_toLineS.f
  refine ev_pos (by omega) (ev_pos (by simp; omega) ?_)
  exact to_LineS_l0 l hs l.length 0 _ (by omega) (by simp) (by simp)

/-! ### impl_LineAt -/
theorem impl_LineAt_eq (l : List S38) (a : Int) : impl_LineAt.f l a = some (idxF (fun x => x.f0 == a) l 0) := rfl

/-! ### laws_eqLine -/
theorem eq_Line (x : S38) : Ev (fun k => laws_eqLine.f x.f0 x.f1 x.f2 x.f3 x.f4 x.f5 x.f6 x.f0 x.f1 x.f2 x.f3 x.f4 x.f5 x.f6) true := by
  unfold laws_eqLine.f
  exact ev_pos rfl (ev_pos rfl (ev_pos rfl (ev_pos rfl (ev_pos rfl (ev_pos rfl (ev_pos rfl (ev_now _)))))))

/-! ### laws_eqLineS -/
def eqcl_LineS (l : List S38) : Prop := l.length ≤ 4611686018427387904
theorem eq_LineS_l0 (l : List S38) (hq : eqcl_LineS l) (d : Nat) : ∀ i : Nat, i + d = l.length → Ev (fun k => laws_eqLineS.l0 k l l (i : Int)) true := by
  have hl : l.length ≤ 4611686018427387904 := hq
  induction d with
  | zero =>
    intro i hi
    exact ev_step (fun k => laws_eqLineS.l0.eq_2 ..) (ev_neg (by omega) (ev_now _))
  | succ d ih =>
    intro i hi
    have hn := ih (i + 1) (by omega)
    have hlt : i < l.length := by omega
    refine ev_step (fun k => laws_eqLineS.l0.eq_2 ..) (ev_pos (by omega) (ev_pos (by omega) (ev_pos (by omega) ?_)))
    rw [w64 (by omega) (by omega)]
    exact ev_bind (eq_Line _) (ev_pos rfl hn)
theorem eq_LineS (l : List S38) (hq : eqcl_LineS l) : Ev (fun k => laws_eqLineS.f k l l) true := by
  unfold laws_eqLineS.f
  exact ev_pos rfl (eq_LineS_l0 l hq l.length 0 (by omega))

theorem FnExactLineAt : VFnExactLineAt.Pure := by
  intro l a hl hG _
  refine ev_rounds ?_
  unfold laws_FnExactLineAt.f
  obtain ⟨t, et, ct⟩ := sz_LineS l hl hG 1048576 (by omega) (by omega)
  rcases ct with ct | ⟨ct, dt⟩
  · exact ev_bind et (ev_pos ct (ev_now _))
  have hs : szl_LineS l ≤ 1048576 := by omega
  have hto := to_LineS l hs
  have hl2 : (l.map cv_Line).length ≤ 4611686018427387904 := by
    unfold szl_LineS at hs
    simp
    omega
  have hq : eqcl_LineS (l.map cv_Line) := hl2
  exact ev_bind et (ev_neg (by omega) (ev_bind hto (ev_bind (spec_LineAt_ev _ a hl2) (ev_bind hto (ev_bind1 (impl_LineAt_eq _ a) (ev_pos rfl (ev_bind hto (ev_bind (eq_LineS _ hq) (ev_pos rfl (ev_now _))))))))))
end Go.Proofs.Ytnfelcmlegenoaa.Pure
