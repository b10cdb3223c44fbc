/- The program's MayOpen answers as the reference's, whatever the house and the name; the house stays as it is. -/
import Derived.Test.YtahfemlfdpbkkaaVFnExactMayOpen
import Derived.Test.YtahfemlfdpbkkaaVBase
import Derived.Test.YtahfemlfdpbkkaaVExt
namespace Go.Proofs.Ytahfemlfdpbkkaa.Pure
open Go.RowKit Go.Proofs.Ytahfemlfdpbkkaa.PFnExactMayOpen Go.Proofs.Ytahfemlfdpbkkaa.VFnExactMayOpen Go.Proofs.YtahfemlfdpbkkaaW.PrintWords Go.Proofs.YtahfemlfdpbkkaaW.PrintLast Go.Proofs.YtahfemlfdpbkkaaV
set_option linter.unusedVariables false
set_option linter.unusedSimpArgs false
set_option maxRecDepth 20000

/-! ### laws_szDb -/
def szv_Db (x : S163) : Nat := x.f0.size
theorem sz_Db (x : S163) (hG : G163 x) (left : Int) (h0 : 0 ≤ left) (h1 : left ≤ 1048576) :
    ∃ t, Ev (fun k => laws_szDb.f x.f0 x.f1 x.f2 x.f3 x.f4 left) t ∧ (t < 0 ∨ 0 ≤ t ∧ t + (szv_Db x : Int) = left) := by
  obtain ⟨g0, g1, g2, g3, g4⟩ := hG
  unfold laws_szDb.f szv_Db
  have e0 : wrap64 (left - (x.f0.size : Int)) = left - (x.f0.size : Int) := w64 (by omega) (by omega)
  simp only [e0]
  by_cases c0 : left - (x.f0.size : Int) < 0
  · exact ⟨-1, ev_pos c0 (ev_now _), .inl (by omega)⟩
  exact ⟨_, ev_neg c0 (ev_now _), .inr ⟨by omega, by omega⟩⟩

/-! ### laws_szDbS -/
def szl_DbS (l : List S163) : Nat := l.length + (l.map szv_Db).sum
theorem sz_DbS_l0 (l : List S163) (hG : ∀ x ∈ l, G163 x) (hl : l.length ≤ 9223372036854775807) (d : Nat) : ∀ (i : Nat) (left : Int), i + d = l.length → 0 ≤ left → left ≤ 1048576 →
    ∃ t, Ev (fun k => laws_szDbS.l0 k l left (i : Int)) t ∧ (t < 0 ∨ 0 ≤ t ∧ t + (((l.drop i).map szv_Db).sum : Nat) = left) := by
  induction d with
  | zero =>
    intro i left hi h0 h1
    refine ⟨left, ev_step (fun k => laws_szDbS.l0.eq_2 ..) (ev_neg (by omega) (ev_now _)), .inr ⟨h0, ?_⟩⟩
    rw [List.drop_of_length_le (by omega)]
    simp
  | succ d ih =>
    intro i left hi h0 h1
    have hlt : i < l.length := by omega
    have hg := hG l[i] (List.getElem_mem hlt)
    have hd : l.drop i = l[i] :: l.drop (i + 1) := List.drop_eq_getElem_cons hlt
    have hr : rd_T163 l (i : Int) = l[i] := getD_nth _ l i hlt
    obtain ⟨t1, et1, ct1⟩ := sz_Db l[i] hg left h0 h1
    rcases ct1 with ct1 | ⟨ct1, dt1⟩
    · refine ⟨-1, ev_step (fun k => laws_szDbS.l0.eq_2 ..) (ev_pos (by omega) (ev_pos (by omega) ?_)), .inl (by omega)⟩
      simp only [hr]
      exact ev_bind et1 (ev_pos ct1 (ev_now _))
    · obtain ⟨t, et, ct⟩ := ih (i + 1) t1 (by omega) ct1 (by omega)
      refine ⟨t, ev_step (fun k => laws_szDbS.l0.eq_2 ..) (ev_pos (by omega) (ev_pos (by omega) ?_)), ?_⟩
      · simp only [hr]
        rw [w64 (by omega) (by omega)]
        exact ev_bind et1 (ev_neg (by omega) et)
      · rw [hd, List.map_cons, List.sum_cons]
        omega
theorem sz_DbS (l : List S163) (hl : l.length ≤ 9223372036854775807) (hG : ∀ x ∈ l, G163 x) (left : Int) (h0 : 0 ≤ left) (h1 : left ≤ 1048576) :
    ∃ t, Ev (fun k => laws_szDbS.f k l left) t ∧ (t < 0 ∨ 0 ≤ t ∧ t + (szl_DbS l : Int) = left) := by
  unfold laws_szDbS.f szl_DbS
  have e : wrap64 (left - (l.length : Int)) = left - (l.length : Int) := w64 (by omega) (by omega)
  simp only [e]
  by_cases hc : left - (l.length : Int) < 0
  · exact ⟨-1, ev_pos hc (ev_now _), .inl (by omega)⟩
  · obtain ⟨t, et, ct⟩ := sz_DbS_l0 l hG hl l.length 0 (left - (l.length : Int)) (by omega) (by omega) (by omega)
    refine ⟨t, ev_neg hc et, ?_⟩
    rw [List.drop_zero] at ct
    omega

/-! ### laws_szAsker -/
def szv_Asker (x : S38) : Nat := x.f1.size + x.f5.size
theorem sz_Asker (x : S38) (hG : G38 x) (left : Int) (h0 : 0 ≤ left) (h1 : left ≤ 1048576) :
    ∃ t, Ev (fun k => laws_szAsker.f x.f0 x.f1 x.f2 x.f3 x.f4 x.f5 x.f6 x.f7 left) t ∧ (t < 0 ∨ 0 ≤ t ∧ t + (szv_Asker x : Int) = left) := by
  obtain ⟨g0, g1, g2, g3, g4, g5, g6, g7⟩ := hG
  unfold laws_szAsker.f szv_Asker
  have e1 : wrap64 (left - (x.f1.size : Int)) = left - (x.f1.size : Int) := w64 (by omega) (by omega)
  simp only [e1]
  by_cases c1 : left - (x.f1.size : Int) < 0
  · exact ⟨-1, ev_pos c1 (ev_now _), .inl (by omega)⟩
  have e5 : wrap64 ((left - (x.f1.size : Int)) - (x.f5.size : Int)) = (left - (x.f1.size : Int)) - (x.f5.size : Int) := w64 (by omega) (by omega)
  simp only [e5]
  by_cases c5 : (left - (x.f1.size : Int)) - (x.f5.size : Int) < 0
  · exact ⟨-1, ev_neg c1 (ev_pos c5 (ev_now _)), .inl (by omega)⟩
  exact ⟨_, ev_neg c1 (ev_neg c5 (ev_now _)), .inr ⟨by omega, by omega⟩⟩

/-! ### laws_szAskerS -/
def szl_AskerS (l : List S38) : Nat := l.length + (l.map szv_Asker).sum
theorem sz_AskerS_l0 (l : List S38) (hG : ∀ x ∈ l, G38 x) (hl : l.length ≤ 9223372036854775807) (d : Nat) : ∀ (i : Nat) (left : Int), i + d = l.length → 0 ≤ left → left ≤ 1048576 →
    ∃ t, Ev (fun k => laws_szAskerS.l0 k l left (i : Int)) t ∧ (t < 0 ∨ 0 ≤ t ∧ t + (((l.drop i).map szv_Asker).sum : Nat) = left) := by
  induction d with
  | zero =>
    intro i left hi h0 h1
    refine ⟨left, ev_step (fun k => laws_szAskerS.l0.eq_2 ..) (ev_neg (by omega) (ev_now _)), .inr ⟨h0, ?_⟩⟩
    rw [List.drop_of_length_le (by omega)]
    simp
  | succ d ih =>
    intro i left hi h0 h1
    have hlt : i < l.length := by omega
    have hg := hG l[i] (List.getElem_mem hlt)
    have hd : l.drop i = l[i] :: l.drop (i + 1) := List.drop_eq_getElem_cons hlt
    have hr : rd_T38 l (i : Int) = l[i] := getD_nth _ l i hlt
    obtain ⟨t1, et1, ct1⟩ := sz_Asker l[i] hg left h0 h1
    rcases ct1 with ct1 | ⟨ct1, dt1⟩
    · refine ⟨-1, ev_step (fun k => laws_szAskerS.l0.eq_2 ..) (ev_pos (by omega) (ev_pos (by omega) ?_)), .inl (by omega)⟩
      simp only [hr]
      exact ev_bind et1 (ev_pos ct1 (ev_now _))
    · obtain ⟨t, et, ct⟩ := ih (i + 1) t1 (by omega) ct1 (by omega)
      refine ⟨t, ev_step (fun k => laws_szAskerS.l0.eq_2 ..) (ev_pos (by omega) (ev_pos (by omega) ?_)), ?_⟩
      · simp only [hr]
        rw [w64 (by omega) (by omega)]
        exact ev_bind et1 (ev_neg (by omega) et)
      · rw [hd, List.map_cons, List.sum_cons]
        omega
theorem sz_AskerS (l : List S38) (hl : l.length ≤ 9223372036854775807) (hG : ∀ x ∈ l, G38 x) (left : Int) (h0 : 0 ≤ left) (h1 : left ≤ 1048576) :
    ∃ t, Ev (fun k => laws_szAskerS.f k l left) t ∧ (t < 0 ∨ 0 ≤ t ∧ t + (szl_AskerS l : Int) = left) := by
  unfold laws_szAskerS.f szl_AskerS
  have e : wrap64 (left - (l.length : Int)) = left - (l.length : Int) := w64 (by omega) (by omega)
  simp only [e]
  by_cases hc : left - (l.length : Int) < 0
  · exact ⟨-1, ev_pos hc (ev_now _), .inl (by omega)⟩
  · obtain ⟨t, et, ct⟩ := sz_AskerS_l0 l hG hl l.length 0 (left - (l.length : Int)) (by omega) (by omega) (by omega)
    refine ⟨t, ev_neg hc et, ?_⟩
    rw [List.drop_zero] at ct
    omega

/-! ### laws_szLine -/
def szv_Line (x : S40) : Nat := x.f1.size
theorem sz_Line (x : S40) (hG : G40 x) (left : Int) (h0 : 0 ≤ left) (h1 : left ≤ 1048576) :
    ∃ t, Ev (fun k => laws_szLine.f x.f0 x.f1 x.f2 x.f3 x.f4 x.f5 x.f6 left) t ∧ (t < 0 ∨ 0 ≤ t ∧ t + (szv_Line x : Int) = left) := by
  obtain ⟨g0, g1, g2, g3, g4, g5, g6⟩ := hG
  unfold laws_szLine.f szv_Line
  have e1 : wrap64 (left - (x.f1.size : Int)) = left - (x.f1.size : Int) := w64 (by omega) (by omega)
  simp only [e1]
  by_cases c1 : left - (x.f1.size : Int) < 0
  · exact ⟨-1, ev_pos c1 (ev_now _), .inl (by omega)⟩
  exact ⟨_, ev_neg c1 (ev_now _), .inr ⟨by omega, by omega⟩⟩

/-! ### laws_szLineS -/
def szl_LineS (l : List S40) : Nat := l.length + (l.map szv_Line).sum
theorem sz_LineS_l0 (l : List S40) (hG : ∀ x ∈ l, G40 x) (hl : l.length ≤ 9223372036854775807) (d : Nat) : ∀ (i : Nat) (left : Int), i + d = l.length → 0 ≤ left → left ≤ 1048576 →
    ∃ t, Ev (fun k => laws_szLineS.l0 k l left (i : Int)) t ∧ (t < 0 ∨ 0 ≤ t ∧ t + (((l.drop i).map szv_Line).sum : Nat) = left) := by
  induction d with
  | zero =>
    intro i left hi h0 h1
    refine ⟨left, ev_step (fun k => laws_szLineS.l0.eq_2 ..) (ev_neg (by omega) (ev_now _)), .inr ⟨h0, ?_⟩⟩
    rw [List.drop_of_length_le (by omega)]
    simp
  | succ d ih =>
    intro i left hi h0 h1
    have hlt : i < l.length := by omega
    have hg := hG l[i] (List.getElem_mem hlt)
    have hd : l.drop i = l[i] :: l.drop (i + 1) := List.drop_eq_getElem_cons hlt
    have hr : rd_T40 l (i : Int) = l[i] := getD_nth _ l i hlt
    obtain ⟨t1, et1, ct1⟩ := sz_Line l[i] hg left h0 h1
    rcases ct1 with ct1 | ⟨ct1, dt1⟩
    · refine ⟨-1, ev_step (fun k => laws_szLineS.l0.eq_2 ..) (ev_pos (by omega) (ev_pos (by omega) ?_)), .inl (by omega)⟩
      simp only [hr]
      exact ev_bind et1 (ev_pos ct1 (ev_now _))
    · obtain ⟨t, et, ct⟩ := ih (i + 1) t1 (by omega) ct1 (by omega)
      refine ⟨t, ev_step (fun k => laws_szLineS.l0.eq_2 ..) (ev_pos (by omega) (ev_pos (by omega) ?_)), ?_⟩
      · simp only [hr]
        rw [w64 (by omega) (by omega)]
        exact ev_bind et1 (ev_neg (by omega) et)
      · rw [hd, List.map_cons, List.sum_cons]
        omega
theorem sz_LineS (l : List S40) (hl : l.length ≤ 9223372036854775807) (hG : ∀ x ∈ l, G40 x) (left : Int) (h0 : 0 ≤ left) (h1 : left ≤ 1048576) :
    ∃ t, Ev (fun k => laws_szLineS.f k l left) t ∧ (t < 0 ∨ 0 ≤ t ∧ t + (szl_LineS l : Int) = left) := by
  unfold laws_szLineS.f szl_LineS
  have e : wrap64 (left - (l.length : Int)) = left - (l.length : Int) := w64 (by omega) (by omega)
  simp only [e]
  by_cases hc : left - (l.length : Int) < 0
  · exact ⟨-1, ev_pos hc (ev_now _), .inl (by omega)⟩
  · obtain ⟨t, et, ct⟩ := sz_LineS_l0 l hG hl l.length 0 (left - (l.length : Int)) (by omega) (by omega) (by omega)
    refine ⟨t, ev_neg hc et, ?_⟩
    rw [List.drop_zero] at ct
    omega

/-! ### laws_szHouse -/
def szv_House (x : S59) : Nat := szl_DbS x.f3 + szl_AskerS x.f5 + szl_LineS x.f6
theorem sz_House (x : S59) (hG : G59 x) (left : Int) (h0 : 0 ≤ left) (h1 : left ≤ 1048576) :
    ∃ t, Ev (fun k => laws_szHouse.f k x.f0 x.f1 x.f2 x.f3 x.f4 x.f5 x.f6 x.f7 x.f8.f0 x.f8.f1 x.f8.f2 x.f8.f3 left) t ∧ (t < 0 ∨ 0 ≤ t ∧ t + (szv_House x : Int) = left) := by
  obtain ⟨g0, g1, g2, g3, g4, g5, g6, g7, g8⟩ := hG
  unfold laws_szHouse.f szv_House
  obtain ⟨t3, et3, ct3⟩ := sz_DbS x.f3 g3.1 g3.2 (left) (by omega) (by omega)
  rcases ct3 with ct3 | ⟨ct3, dt3⟩
  · exact ⟨-1, ev_bind et3 (ev_pos ct3 (ev_now _)), .inl (by omega)⟩
  obtain ⟨t5, et5, ct5⟩ := sz_AskerS x.f5 g5.1 g5.2 (t3) (by omega) (by omega)
  rcases ct5 with ct5 | ⟨ct5, dt5⟩
  · exact ⟨-1, ev_bind et3 (ev_neg (by omega) (ev_bind et5 (ev_pos ct5 (ev_now _)))), .inl (by omega)⟩
  obtain ⟨t6, et6, ct6⟩ := sz_LineS x.f6 g6.1 g6.2 (t5) (by omega) (by omega)
  rcases ct6 with ct6 | ⟨ct6, dt6⟩
  · exact ⟨-1, ev_bind et3 (ev_neg (by omega) (ev_bind et5 (ev_neg (by omega) (ev_bind et6 (ev_pos ct6 (ev_now _)))))), .inl (by omega)⟩
  exact ⟨_, ev_bind et3 (ev_neg (by omega) (ev_bind et5 (ev_neg (by omega) (ev_bind et6 (ev_neg (by omega) (ev_now _)))))), .inr ⟨by omega, by omega⟩⟩

/-! ### laws_toDb -/
def cv_Db (x : S163) : S125 := ⟨x.f0, x.f1, x.f2, x.f3, x.f4⟩
theorem to_Db (x : S163) (hs : szv_Db x ≤ 1048576) : Ev (fun k => laws_toDb.f x.f0 x.f1 x.f2 x.f3 x.f4) ((cv_Db x).f0, (cv_Db x).f1, (cv_Db x).f2, (cv_Db x).f3, (cv_Db x).f4) := by
  unfold szv_Db at hs
  unfold laws_toDb.f
  exact ev_now _

/-! ### laws_toDbS -/
theorem to_DbS_l0 (l : List S163) (hs : szl_DbS l ≤ 1048576) (d : Nat) : ∀ (i : Nat) (x : List S125), i + d = l.length → x.length = l.length → x.take i = (l.map cv_Db).take i → Ev (fun k => laws_toDbS.l0 k l x (i : Int)) (l.map cv_Db) := by
  have hl : l.length ≤ 1048576 := by unfold szl_DbS at hs; omega
  induction d with
  | zero =>
    intro i x hi hx ht
    refine ev_as (ev_step (fun k => laws_toDbS.l0.eq_2 ..) (ev_neg (by omega) (ev_now _))) ?_
    rw [List.take_of_length_le (by omega), List.take_of_length_le (by first | omega | (simp; omega))] at ht
    exact ht
  | succ d ih =>
    intro i x hi hx ht
    have hlt : i < l.length := by omega
    have hr : rd_T163 l (i : Int) = l[i] := getD_nth _ l i hlt
    refine ev_step (fun k => laws_toDbS.l0.eq_2 ..) (ev_pos (by omega) (ev_pos (by omega) ?_))
    have he := to_Db l[i] (by have := mem_sum szv_Db l l[i] (List.getElem_mem hlt); unfold szl_DbS at hs; omega)
    simp only [hr]
    refine ev_bind he ?_
    refine ev_pos (by omega) ?_
    rw [Int.toNat_natCast, w64 (by omega) (by omega)]
    exact ih (i + 1) _ (by omega) (by simp; omega) (take_set x (l.map cv_Db) i _ (by first | omega | (simp; omega)) (by first | omega | (simp; omega)) ht (by first | (simp; done) | (simp; rfl) | rfl))
theorem to_DbS (l : List S163) (hs : szl_DbS l ≤ 1048576) : Ev (fun k => laws_toDbS.f k l) (l.map cv_Db) := by
  have hl : l.length ≤ 1048576 := by unfold szl_DbS at hs; omega
  unfold laws_toDbS.f
  refine ev_pos (by omega) (ev_pos (by simp; omega) ?_)
  exact to_DbS_l0 l hs l.length 0 _ (by omega) (by simp) (by simp)

/-! ### laws_toAsker -/
def cv_Asker (x : S38) : S45 := ⟨x.f0, x.f1, x.f2, x.f3, x.f4, x.f5, x.f6, x.f7⟩
theorem to_Asker (x : S38) (hs : szv_Asker x ≤ 1048576) : Ev (fun k => laws_toAsker.f x.f0 x.f1 x.f2 x.f3 x.f4 x.f5 x.f6 x.f7) ((cv_Asker x).f0, (cv_Asker x).f1, (cv_Asker x).f2, (cv_Asker x).f3, (cv_Asker x).f4, (cv_Asker x).f5, (cv_Asker x).f6, (cv_Asker x).f7) := by
  unfold szv_Asker at hs
  unfold laws_toAsker.f
  exact ev_now _

/-! ### laws_toAskerS -/
theorem to_AskerS_l0 (l : List S38) (hs : szl_AskerS l ≤ 1048576) (d : Nat) : ∀ (i : Nat) (x : List S45), i + d = l.length → x.length = l.length → x.take i = (l.map cv_Asker).take i → Ev (fun k => laws_toAskerS.l0 k l x (i : Int)) (l.map cv_Asker) := by
  have hl : l.length ≤ 1048576 := by unfold szl_AskerS at hs; omega
  induction d with
  | zero =>
    intro i x hi hx ht
    refine ev_as (ev_step (fun k => laws_toAskerS.l0.eq_2 ..) (ev_neg (by omega) (ev_now _))) ?_
    rw [List.take_of_length_le (by omega), List.take_of_length_le (by first | omega | (simp; omega))] at ht
    exact ht
  | succ d ih =>
    intro i x hi hx ht
    have hlt : i < l.length := by omega
    have hr : rd_T38 l (i : Int) = l[i] := getD_nth _ l i hlt
    refine ev_step (fun k => laws_toAskerS.l0.eq_2 ..) (ev_pos (by omega) (ev_pos (by omega) ?_))
    have he := to_Asker l[i] (by have := mem_sum szv_Asker l l[i] (List.getElem_mem hlt); unfold szl_AskerS at hs; omega)
    simp only [hr]
    refine ev_bind he ?_
    refine ev_pos (by omega) ?_
    rw [Int.toNat_natCast, w64 (by omega) (by omega)]
    exact ih (i + 1) _ (by omega) (by simp; omega) (take_set x (l.map cv_Asker) i _ (by first | omega | (simp; omega)) (by first | omega | (simp; omega)) ht (by first | (simp; done) | (simp; rfl) | rfl))
theorem to_AskerS (l : List S38) (hs : szl_AskerS l ≤ 1048576) : Ev (fun k => laws_toAskerS.f k l) (l.map cv_Asker) := by
  have hl : l.length ≤ 1048576 := by unfold szl_AskerS at hs; omega
  unfold laws_toAskerS.f
  refine ev_pos (by omega) (ev_pos (by simp; omega) ?_)
  exact to_AskerS_l0 l hs l.length 0 _ (by omega) (by simp) (by simp)

/-! ### laws_toLine -/
def cv_Line (x : S40) : S46 := ⟨x.f0, x.f1, x.f2, x.f3, x.f4, x.f5, x.f6⟩
theorem to_Line (x : S40) (hs : szv_Line x ≤ 1048576) : Ev (fun k => laws_toLine.f x.f0 x.f1 x.f2 x.f3 x.f4 x.f5 x.f6) ((cv_Line x).f0, (cv_Line x).f1, (cv_Line x).f2, (cv_Line x).f3, (cv_Line x).f4, (cv_Line x).f5, (cv_Line x).f6) := by
  unfold szv_Line at hs
  unfold laws_toLine.f
  exact ev_now _

/-! ### laws_toLineS -/
theorem to_LineS_l0 (l : List S40) (hs : szl_LineS l ≤ 1048576) (d : Nat) : ∀ (i : Nat) (x : List S46), i + d = l.length → x.length = l.length → x.take i = (l.map cv_Line).take i → Ev (fun k => laws_toLineS.l0 k l x (i : Int)) (l.map cv_Line) := by
  have hl : l.length ≤ 1048576 := by unfold szl_LineS at hs; omega
  induction d with
  | zero =>
    intro i x hi hx ht
    refine ev_as (ev_step (fun k => laws_toLineS.l0.eq_2 ..) (ev_neg (by omega) (ev_now _))) ?_
    rw [List.take_of_length_le (by omega), List.take_of_length_le (by first | omega | (simp; omega))] at ht
    exact ht
  | succ d ih =>
    intro i x hi hx ht
    have hlt : i < l.length := by omega
    have hr : rd_T40 l (i : Int) = l[i] := getD_nth _ l i hlt
    refine ev_step (fun k => laws_toLineS.l0.eq_2 ..) (ev_pos (by omega) (ev_pos (by omega) ?_))
    have he := to_Line l[i] (by have := mem_sum szv_Line l l[i] (List.getElem_mem hlt); unfold szl_LineS at hs; omega)
    simp only [hr]
    refine ev_bind he ?_
    refine ev_pos (by omega) ?_
    rw [Int.toNat_natCast, w64 (by omega) (by omega)]
    exact ih (i + 1) _ (by omega) (by simp; omega) (take_set x (l.map cv_Line) i _ (by first | omega | (simp; omega)) (by first | omega | (simp; omega)) ht (by first | (simp; done) | (simp; rfl) | rfl))
theorem to_LineS (l : List S40) (hs : szl_LineS l ≤ 1048576) : Ev (fun k => laws_toLineS.f k l) (l.map cv_Line) := by
  have hl : l.length ≤ 1048576 := by unfold szl_LineS at hs; omega
  unfold laws_toLineS.f
  refine ev_pos (by omega) (ev_pos (by simp; omega) ?_)
  exact to_LineS_l0 l hs l.length 0 _ (by omega) (by simp) (by simp)

/-! ### laws_toHand -/
def cv_Hand (x : S57) : S65 := ⟨x.f0, x.f1, x.f2, x.f3⟩
theorem to_Hand (x : S57) : Ev (fun k => laws_toHand.f x.f0 x.f1 x.f2 x.f3) ((cv_Hand x).f0, (cv_Hand x).f1, (cv_Hand x).f2, (cv_Hand x).f3) := by
  unfold laws_toHand.f
  exact ev_now _

/-! ### laws_toHouse -/
def cv_House (x : S59) : S67 := ⟨x.f0, x.f1, x.f2, (x.f3.map cv_Db), x.f4, (x.f5.map cv_Asker), (x.f6.map cv_Line), x.f7, (cv_Hand x.f8)⟩
theorem to_House (x : S59) (hs : szv_House x ≤ 1048576) : Ev (fun k => laws_toHouse.f k x.f0 x.f1 x.f2 x.f3 x.f4 x.f5 x.f6 x.f7 x.f8.f0 x.f8.f1 x.f8.f2 x.f8.f3) ((cv_House x).f0, (cv_House x).f1, (cv_House x).f2, (cv_House x).f3, (cv_House x).f4, (cv_House x).f5, (cv_House x).f6, (cv_House x).f7, (cv_House x).f8.f0, (cv_House x).f8.f1, (cv_House x).f8.f2, (cv_House x).f8.f3) := by
  unfold szv_House at hs
  unfold laws_toHouse.f
  refine ev_bind (to_DbS x.f3 (by omega)) ?_
  refine ev_bind (to_AskerS x.f5 (by omega)) ?_
  refine ev_bind (to_LineS x.f6 (by omega)) ?_
  refine ev_bind (to_Hand x.f8) ?_
  exact ev_now _

/-! ### laws_eqDb -/
theorem eq_Db (x : S125) : Ev (fun k => laws_eqDb.f x.f0 x.f1 x.f2 x.f3 x.f4 x.f0 x.f1 x.f2 x.f3 x.f4) true := by
  unfold laws_eqDb.f
  exact ev_pos rfl (ev_pos rfl (ev_pos rfl (ev_pos rfl (ev_pos rfl (ev_now _)))))

/-! ### laws_eqDbS -/
def eqcl_DbS (l : List S125) : Prop := l.length ≤ 4611686018427387904
theorem eq_DbS_l0 (l : List S125) (hq : eqcl_DbS l) (d : Nat) : ∀ i : Nat, i + d = l.length → Ev (fun k => laws_eqDbS.l0 k l l (i : Int)) true := by
  have hl : l.length ≤ 4611686018427387904 := hq
  induction d with
  | zero =>
    intro i hi
    exact ev_step (fun k => laws_eqDbS.l0.eq_2 ..) (ev_neg (by omega) (ev_now _))
  | succ d ih =>
    intro i hi
    have hn := ih (i + 1) (by omega)
    have hlt : i < l.length := by omega
    refine ev_step (fun k => laws_eqDbS.l0.eq_2 ..) (ev_pos (by omega) (ev_pos (by omega) (ev_pos (by omega) ?_)))
    rw [w64 (by omega) (by omega)]
    exact ev_bind (eq_Db _) (ev_pos rfl hn)
theorem eq_DbS (l : List S125) (hq : eqcl_DbS l) : Ev (fun k => laws_eqDbS.f k l l) true := by
  unfold laws_eqDbS.f
  exact ev_pos rfl (eq_DbS_l0 l hq l.length 0 (by omega))

/-! ### laws_eqAsker -/
theorem eq_Asker (x : S45) : Ev (fun k => laws_eqAsker.f x.f0 x.f1 x.f2 x.f3 x.f4 x.f5 x.f6 x.f7 x.f0 x.f1 x.f2 x.f3 x.f4 x.f5 x.f6 x.f7) true := by
  unfold laws_eqAsker.f
  exact ev_pos rfl (ev_pos rfl (ev_pos rfl (ev_pos rfl (ev_pos rfl (ev_pos rfl (ev_pos rfl (ev_pos rfl (ev_now _))))))))

/-! ### laws_eqAskerS -/
def eqcl_AskerS (l : List S45) : Prop := l.length ≤ 4611686018427387904
theorem eq_AskerS_l0 (l : List S45) (hq : eqcl_AskerS l) (d : Nat) : ∀ i : Nat, i + d = l.length → Ev (fun k => laws_eqAskerS.l0 k l l (i : Int)) true := by
  have hl : l.length ≤ 4611686018427387904 := hq
  induction d with
  | zero =>
    intro i hi
    exact ev_step (fun k => laws_eqAskerS.l0.eq_2 ..) (ev_neg (by omega) (ev_now _))
  | succ d ih =>
    intro i hi
    have hn := ih (i + 1) (by omega)
    have hlt : i < l.length := by omega
    refine ev_step (fun k => laws_eqAskerS.l0.eq_2 ..) (ev_pos (by omega) (ev_pos (by omega) (ev_pos (by omega) ?_)))
    rw [w64 (by omega) (by omega)]
    exact ev_bind (eq_Asker _) (ev_pos rfl hn)
theorem eq_AskerS (l : List S45) (hq : eqcl_AskerS l) : Ev (fun k => laws_eqAskerS.f k l l) true := by
  unfold laws_eqAskerS.f
  exact ev_pos rfl (eq_AskerS_l0 l hq l.length 0 (by omega))

/-! ### laws_eqLine -/
theorem eq_Line (x : S46) : Ev (fun k => laws_eqLine.f x.f0 x.f1 x.f2 x.f3 x.f4 x.f5 x.f6 x.f0 x.f1 x.f2 x.f3 x.f4 x.f5 x.f6) true := by
  unfold laws_eqLine.f
  exact ev_pos rfl (ev_pos rfl (ev_pos rfl (ev_pos rfl (ev_pos rfl (ev_pos rfl (ev_pos rfl (ev_now _)))))))

/-! ### laws_eqLineS -/
def eqcl_LineS (l : List S46) : Prop := l.length ≤ 4611686018427387904
theorem eq_LineS_l0 (l : List S46) (hq : eqcl_LineS l) (d : Nat) : ∀ i : Nat, i + d = l.length → Ev (fun k => laws_eqLineS.l0 k l l (i : Int)) true := by
  have hl : l.length ≤ 4611686018427387904 := hq
  induction d with
  | zero =>
    intro i hi
    exact ev_step (fun k => laws_eqLineS.l0.eq_2 ..) (ev_neg (by omega) (ev_now _))
  | succ d ih =>
    intro i hi
    have hn := ih (i + 1) (by omega)
    have hlt : i < l.length := by omega
    refine ev_step (fun k => laws_eqLineS.l0.eq_2 ..) (ev_pos (by omega) (ev_pos (by omega) (ev_pos (by omega) ?_)))
    rw [w64 (by omega) (by omega)]
    exact ev_bind (eq_Line _) (ev_pos rfl hn)
theorem eq_LineS (l : List S46) (hq : eqcl_LineS l) : Ev (fun k => laws_eqLineS.f k l l) true := by
  unfold laws_eqLineS.f
  exact ev_pos rfl (eq_LineS_l0 l hq l.length 0 (by omega))

/-! ### laws_eqHand -/
theorem eq_Hand (x : S65) : Ev (fun k => laws_eqHand.f x.f0 x.f1 x.f2 x.f3 x.f0 x.f1 x.f2 x.f3) true := by
  unfold laws_eqHand.f
  exact ev_pos rfl (ev_pos rfl (ev_pos rfl (ev_pos rfl (ev_now _))))

/-! ### laws_eqHouse -/
def eqc_House (x : S67) : Prop := eqcl_DbS x.f3 ∧ eqcl_AskerS x.f5 ∧ eqcl_LineS x.f6
theorem eq_House (x : S67) (hq : eqc_House x) : Ev (fun k => laws_eqHouse.f k x.f0 x.f1 x.f2 x.f3 x.f4 x.f5 x.f6 x.f7 x.f8.f0 x.f8.f1 x.f8.f2 x.f8.f3 x.f0 x.f1 x.f2 x.f3 x.f4 x.f5 x.f6 x.f7 x.f8.f0 x.f8.f1 x.f8.f2 x.f8.f3) true := by
  unfold laws_eqHouse.f
  exact ev_pos rfl (ev_pos rfl (ev_pos rfl (ev_bind (eq_DbS x.f3 (hq.1)) (ev_pos rfl (ev_neg (by simp) (ev_bind (eq_AskerS x.f5 (hq.2.1)) (ev_pos rfl (ev_bind (eq_LineS x.f6 (hq.2.2)) (ev_pos rfl (ev_pos rfl (ev_bind (eq_Hand x.f8) (ev_pos rfl (ev_now _)))))))))))))

/-! ### spec_Count -/
/-- How many of the lines are of this place. -/
def countV (l : List S46) (a : ByteArray) : Int := ((l.filter (fun x => x.f1.toList == a.toList)).length : Int)
theorem count_cons (x : S46) (l : List S46) (a : ByteArray) : countV (x :: l) a = (if x.f1.toList = a.toList then 1 else 0) + countV l a := by
  unfold countV
  by_cases h : x.f1.toList = a.toList
  · simp [List.filter_cons, h]
    omega
  · simp [List.filter_cons, h]
theorem spec_Count_l0 (x : S67) (a : ByteArray) (hl : x.f6.length ≤ 4611686018427387904) (d : Nat) : ∀ (i : Nat) (n : Int), i + d = x.f6.length → 0 ≤ n → n ≤ i → Ev (fun k => spec_Count.l0 k a n (i : Int) x.f0 x.f1 x.f2 x.f3 x.f4 x.f5 x.f6 x.f7 x.f8.f0 x.f8.f1 x.f8.f2 x.f8.f3) (n + countV (x.f6.drop i) a) := by
  induction d with
  | zero =>
    intro i n hi h0 h1
    refine ev_step (fun k => spec_Count.l0.eq_2 ..) (ev_neg (by omega) ?_)
    rw [List.drop_of_length_le (by omega)]
    exact ev_as (ev_now _) (by simp [countV])
  | succ d ih =>
    intro i n hi h0 h1
    have hlt : i < x.f6.length := by omega
    have hr : rd_T46 x.f6 (i : Int) = x.f6[i] := getD_nth _ x.f6 i hlt
    have hd : x.f6.drop i = x.f6[i] :: x.f6.drop (i + 1) := List.drop_eq_getElem_cons hlt
    refine ev_step (fun k => spec_Count.l0.eq_2 ..) (ev_pos (by omega) (ev_pos (by omega) ?_))
    simp only [hr]
    have e1 : wrap64 ((i : Int) + 1) = (i : Int) + 1 := w64 (by omega) (by omega)
    have e2 : wrap64 (n + 1) = n + 1 := w64 (by omega) (by omega)
    rw [hd, count_cons, e1, e2]
    refine ev_ite (fun c => ?_) (fun c => ?_)
    · exact ev_as (ih (i + 1) (n + 1) (by omega) (by omega) (by omega)) (by rw [if_pos c]; omega)
    · exact ev_as (ih (i + 1) n (by omega) (by omega) (by omega)) (by rw [if_neg c]; omega)
theorem spec_Count_ev (x : S67) (a : ByteArray) (hl : x.f6.length ≤ 4611686018427387904) : Ev (fun k => spec_Count.f k x.f0 x.f1 x.f2 x.f3 x.f4 x.f5 x.f6 x.f7 x.f8.f0 x.f8.f1 x.f8.f2 x.f8.f3 a) (countV x.f6 a) := ev_as (spec_Count_l0 x a hl x.f6.length 0 0 (by omega) (by omega) (by omega)) (by simp)

/-! ### spec_DbAt -/
/-- The first place of this name. -/
def dbV (a : ByteArray) : List S125 → ByteArray × Int × Int × Int × Int × Bool
  | [] => (⟨#[]⟩, 0, 0, 0, 0, false)
  | x :: l => if x.f0.toList = a.toList then (x.f0, x.f1, x.f2, x.f3, x.f4, true) else dbV a l
theorem spec_DbAt_l0 (l : List S125) (a : ByteArray) (hl : l.length ≤ 4611686018427387904) (d : Nat) : ∀ (i : Nat), i + d = l.length → Ev (fun k => spec_DbAt.l0 k l a (i : Int)) (dbV a (l.drop i)) := by
  induction d with
  | zero =>
    intro i hi
    refine ev_step (fun k => spec_DbAt.l0.eq_2 ..) (ev_neg (by omega) ?_)
    rw [List.drop_of_length_le (by omega)]
    exact ev_now _
  | succ d ih =>
    intro i hi
    have hlt : i < l.length := by omega
    have hr : rd_T125 l (i : Int) = l[i] := getD_nth _ l i hlt
    have hd : l.drop i = l[i] :: l.drop (i + 1) := List.drop_eq_getElem_cons hlt
    refine ev_step (fun k => spec_DbAt.l0.eq_2 ..) (ev_pos (by omega) (ev_pos (by omega) ?_))
    simp only [hr]
    have e1 : wrap64 ((i : Int) + 1) = (i : Int) + 1 := w64 (by omega) (by omega)
    rw [hd, dbV, e1]
    refine ev_ite (fun c => ?_) (fun c => ?_)
    · exact ev_as (ev_now _) (by rw [if_pos c])
    · exact ev_as (ih (i + 1) (by omega)) (by rw [if_neg c])
theorem spec_DbAt_ev (l : List S125) (a : ByteArray) (hl : l.length ≤ 4611686018427387904) : Ev (fun k => spec_DbAt.f k l a) (dbV a l) := spec_DbAt_l0 l a hl l.length 0 (by omega)

/-! ### spec_MayOpen -/
/-- Whether a house may open one more line for this place. -/
def mayV (conf : List S125) (ls : List S46) (a : ByteArray) : Bool := (dbV a conf).2.2.2.2.2 && (decide (countV ls a < (dbV a conf).2.1) && decide ((ls.length : Int) < 9))
theorem spec_MayOpen_ev (x : S67) (a : ByteArray) (h3 : x.f3.length ≤ 4611686018427387904) (hl : x.f6.length ≤ 4611686018427387904) : Ev (fun k => spec_MayOpen.f k x.f0 x.f1 x.f2 x.f3 x.f4 x.f5 x.f6 x.f7 x.f8.f0 x.f8.f1 x.f8.f2 x.f8.f3 a) (mayV x.f3 x.f6 a) := by
  unfold spec_MayOpen.f
  refine ev_bind (spec_DbAt_ev _ a h3) (ev_ite (fun c => ev_bind (spec_Count_ev x a hl) (ev_ite (fun c2 => ?_) (fun c2 => ?_))) (fun c => ?_))
  · exact ev_as (ev_now _) (by simp [mayV, c, c2])
  · exact ev_as (ev_now _) (by simp [mayV, c2])
  · exact ev_as (ev_now _) (by simp [mayV, c])

/-! ### impl_Count -/
theorem impl_Count_l0 (l : List S46) (a : ByteArray) (hl : l.length ≤ 4611686018427387904) (d : Nat) : ∀ (i : Nat) (n : Int), i + d = l.length → 0 ≤ n → n ≤ i → Ev (fun k => impl_Count.l0 k a n l (l.length : Int) (i : Int)) (n + countV (l.drop i) a) := by
  induction d with
  | zero =>
    intro i n hi h0 h1
    refine ev_step (fun k => impl_Count.l0.eq_2 ..) (ev_neg (by omega) ?_)
    rw [List.drop_of_length_le (by omega)]
    exact ev_as (ev_now _) (by simp [countV])
  | succ d ih =>
    intro i n hi h0 h1
    have hlt : i < l.length := by omega
    have hr : rd_T46 l (i : Int) = l[i] := getD_nth _ l i hlt
    have hd : l.drop i = l[i] :: l.drop (i + 1) := List.drop_eq_getElem_cons hlt
    refine ev_step (fun k => impl_Count.l0.eq_2 ..) (ev_pos (by omega) (ev_pos (by omega) (ev_pos (by omega) ?_)))
    simp only [hr]
    have e1 : wrap64 ((i : Int) + 1) = (i : Int) + 1 := w64 (by omega) (by omega)
    have e2 : wrap64 (n + 1) = n + 1 := w64 (by omega) (by omega)
    rw [hd, count_cons, e1, e2]
    refine ev_ite (fun c => ?_) (fun c => ?_)
    · exact ev_as (ih (i + 1) (n + 1) (by omega) (by omega) (by omega)) (by rw [if_pos c]; omega)
    · exact ev_as (ih (i + 1) n (by omega) (by omega) (by omega)) (by rw [if_neg c]; omega)
theorem impl_Count_ev (x : S67) (a : ByteArray) (hl : x.f6.length ≤ 4611686018427387904) : Ev (fun k => impl_Count.f k x.f0 x.f1 x.f2 x.f3 x.f4 x.f5 x.f6 x.f7 x.f8.f0 x.f8.f1 x.f8.f2 x.f8.f3 a) (countV x.f6 a) := ev_as (impl_Count_l0 x.f6 a hl x.f6.length 0 0 (by omega) (by omega) (by omega)) (by simp)

/-! ### impl_dbPlace -/
theorem impl_dbPlace_eq (l : List S125) (a : ByteArray) : impl_dbPlace.f l a = some (idxF (fun x => x.f0.toList == a.toList) l 0) := rfl

/-! ### impl_DbAt -/
theorem idx_db (a : ByteArray) : ∀ (l : List S125) (i : Int), (idxF (fun x => x.f0.toList == a.toList) l i = -1 ∧ dbV a l = (⟨#[]⟩, 0, 0, 0, 0, false)) ∨ ∃ (j : Nat) (h : j < l.length), idxF (fun x => x.f0.toList == a.toList) l i = i + (j : Int) ∧ dbV a l = (l[j].f0, l[j].f1, l[j].f2, l[j].f3, l[j].f4, true)
  | [], i => .inl ⟨rfl, rfl⟩
  | x :: l, i => by
    rw [idxF, dbV]
    by_cases c : x.f0.toList = a.toList
    · exact .inr ⟨0, by simp, by simp [c], by simp [c]⟩
    · rcases idx_db a l (i + 1) with ⟨h1, h2⟩ | ⟨j, h, h1, h2⟩
      · exact .inl ⟨by simp [c, h1], by simp [c, h2]⟩
      · exact .inr ⟨j + 1, by simp; omega, by simp [c, h1]; omega, by simp [c, h2]⟩
theorem impl_DbAt_eq (l : List S125) (a : ByteArray) : impl_DbAt.f l a = some (dbV a l) := by
  unfold impl_DbAt.f
  rw [impl_dbPlace_eq, Option.bind_some]
  rcases idx_db a l 0 with ⟨h1, h2⟩ | ⟨j, h, h1, h2⟩
  · rw [h1, h2, if_pos (by omega)]
  · have hr : rd_T125 l (j : Int) = l[j] := getD_nth _ l j h
    rw [h1, h2, Int.zero_add, if_neg (by omega), if_pos (by omega), if_pos (by omega), hr]

/-! ### impl_MayOpen -/
theorem impl_MayOpen_ev (x : S67) (a : ByteArray) (hl : x.f6.length ≤ 4611686018427387904) : Ev (fun k => impl_MayOpen.f k x.f0 x.f1 x.f2 x.f3 x.f4 x.f5 x.f6 x.f7 x.f8.f0 x.f8.f1 x.f8.f2 x.f8.f3 a) (mayV x.f3 x.f6 a) := by
  unfold impl_MayOpen.f
  refine ev_bind1 (impl_DbAt_eq _ a) (ev_ite (fun c => ev_bind (impl_Count_ev x a hl) (ev_ite (fun c2 => ?_) (fun c2 => ?_))) (fun c => ?_))
  · exact ev_as (ev_now _) (by simp [mayV, c, c2])
  · exact ev_as (ev_now _) (by simp [mayV, c2])
  · exact ev_as (ev_now _) (by simp [mayV, c])

theorem FnExactMayOpen : VFnExactMayOpen.Pure := by
  intro x a hG ha
  refine ev_rounds ?_
  unfold laws_FnExactMayOpen.f
  refine ev_ite (fun c => ev_now _) (fun c => ?_)
  obtain ⟨t, et, ct⟩ := sz_House x hG 1048576 (by omega) (by omega)
  rcases ct with ct | ⟨ct, dt⟩
  · exact ev_bind et (ev_pos ct (ev_now _))
  have hs : szv_House x ≤ 1048576 := by omega
  have hto := to_House x hs
  have hq : eqc_House (cv_House x) := by
    unfold szv_House szl_DbS szl_AskerS szl_LineS at hs
    show (x.f3.map cv_Db).length ≤ _ ∧ (x.f5.map cv_Asker).length ≤ _ ∧ (x.f6.map cv_Line).length ≤ _
    simp only [List.length_map]
    omega
  have e1 := spec_MayOpen_ev (cv_House x) a hq.1 hq.2.2
  have e2 := impl_MayOpen_ev (cv_House x) a hq.2.2
  exact ev_bind et (ev_neg (by omega) (ev_bind hto (ev_bind e1 (ev_bind hto (ev_bind e2 (ev_neg (by simp) (ev_bind hto (ev_bind (eq_House (cv_House x) hq) (ev_pos rfl (ev_now _))))))))))
end Go.Proofs.Ytahfemlfdpbkkaa.Pure
