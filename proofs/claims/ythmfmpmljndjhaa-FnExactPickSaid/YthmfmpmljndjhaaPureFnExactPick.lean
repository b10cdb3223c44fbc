/- The program's Pick answers as the reference's, whatever the list and the number; the list stays as it is, and the answer is a list of its own. -/
import Derived.Test.YthmfmpmljndjhaaVFnExactPick
import Derived.Test.YthmfmpmljndjhaaVBase
import Derived.Test.YthmfmpmljndjhaaVExt
import Derived.Test.YthmfmpmljndjhaaVMark
namespace Go.Proofs.Ythmfmpmljndjhaa.Pure
open Go.RowKit Go.Proofs.Ythmfmpmljndjhaa.PFnExactPick Go.Proofs.Ythmfmpmljndjhaa.VFnExactPick Go.Proofs.YthmfmpmljndjhaaW.PrintWords Go.Proofs.YthmfmpmljndjhaaW.PrintLast Go.Proofs.YthmfmpmljndjhaaV
set_option linter.unusedVariables false
set_option linter.unusedSimpArgs false
set_option maxRecDepth 20000

/-! ### impl_Pick -/
theorem impl_Pick_l0 (l : List S29) (a : Int) (hl : l.length ≤ 1000000000000) (d : Nat) : ∀ (i : Nat) (o : List S29), i + d = l.length → o.length ≤ i → Ev (fun k => impl_Pick.l0 k a o l (l.length : Int) (i : Int)) (o ++ (l.drop i).filter (fun x => x.f0 == a)) := by
  induction d with
  | zero =>
    intro i o hi ho
    refine ev_step (fun k => impl_Pick.l0.eq_2 ..) (ev_neg (by omega) ?_)
    rw [List.drop_of_length_le (by omega)]
    exact ev_as (ev_now _) (by simp)
  | succ d ih =>
    intro i o hi ho
    have hlt : i < l.length := by omega
    have hr : rd_T29 l (i : Int) = l[i] := getD_nth _ l i hlt
    have hd : l.drop i = l[i] :: l.drop (i + 1) := List.drop_eq_getElem_cons hlt
    refine ev_step (fun k => impl_Pick.l0.eq_2 ..) (ev_pos (by omega) (ev_pos (by omega) (ev_pos (by omega) ?_)))
    simp only [hr]
    rw [w64 (by omega) (by omega), hd, List.filter_cons]
    refine ev_ite (fun c => ev_pos (by omega) ?_) (fun c => ?_)
    · exact ev_as (ih (i + 1) (o ++ [l[i]]) (by omega) (by simp; omega)) (by simp [c])
    · exact ev_as (ih (i + 1) o (by omega) (by omega)) (by simp [c])
theorem impl_Pick_ev (l : List S29) (a : Int) (hl : l.length ≤ 1000000000000) : Ev (fun k => impl_Pick.f k l a) (l.filter (fun x => x.f0 == a)) := ev_as (impl_Pick_l0 l a hl l.length 0 [] (by omega) (by simp)) (by simp)

/-! ### laws_szNoteS -/
def szl_NoteS (l : List S109) : Nat := l.length
theorem sz_NoteS (l : List S109) (hl : l.length ≤ 9223372036854775807) (hG : ∀ x ∈ l, G109 x) (left : Int) (h0 : 0 ≤ left) (h1 : left ≤ 1048576) :
    ∃ t, Ev (fun k => laws_szNoteS.f l left) t ∧ (t < 0 ∨ 0 ≤ t ∧ t + (szl_NoteS l : Int) = left) := by
  unfold laws_szNoteS.f szl_NoteS
  have e : wrap64 (left - (l.length : Int)) = left - (l.length : Int) := w64 (by omega) (by omega)
  simp only [e]
  by_cases hc : left - (l.length : Int) < 0
  · exact ⟨-1, ev_pos hc (ev_now _), .inl (by omega)⟩
  · exact ⟨_, ev_neg hc (ev_now _), .inr ⟨by omega, by omega⟩⟩

/-! ### laws_toNote -/
def cv_Note (x : S109) : S29 := ⟨x.f0, x.f1, x.f2, x.f3, x.f4, x.f5, x.f6, x.f7, x.f8⟩
theorem to_Note (x : S109) : Ev (fun k => laws_toNote.f x.f0 x.f1 x.f2 x.f3 x.f4 x.f5 x.f6 x.f7 x.f8) ((cv_Note x).f0, (cv_Note x).f1, (cv_Note x).f2, (cv_Note x).f3, (cv_Note x).f4, (cv_Note x).f5, (cv_Note x).f6, (cv_Note x).f7, (cv_Note x).f8) := by
  unfold laws_toNote.f
  exact ev_now _

/-! ### laws_toNoteS -/
theorem to_NoteS_l0 (l : List S109) (hs : szl_NoteS l ≤ 1048576) (d : Nat) : ∀ (i : Nat) (x : List S29), i + d = l.length → x.length = l.length → x.take i = (l.map cv_Note).take i → Ev (fun k => laws_toNoteS.l0 k l x (i : Int)) (l.map cv_Note) := by
  have hl : l.length ≤ 1048576 := by unfold szl_NoteS at hs; omega
  induction d with
  | zero =>
    intro i x hi hx ht
    refine ev_as (ev_step (fun k => laws_toNoteS.l0.eq_2 ..) (ev_neg (by omega) (ev_now _))) ?_
    rw [List.take_of_length_le (by omega), List.take_of_length_le (by first | omega | (simp; omega))] at ht
    exact ht
  | succ d ih =>
    intro i x hi hx ht
    have hlt : i < l.length := by omega
    have hr : rd_T109 l (i : Int) = l[i] := getD_nth _ l i hlt
    refine ev_step (fun k => laws_toNoteS.l0.eq_2 ..) (ev_pos (by omega) (ev_pos (by omega) ?_))
    have he := to_Note l[i]
    simp only [hr]
    refine ev_bind he ?_
    refine ev_pos (by omega) ?_
    rw [Int.toNat_natCast, w64 (by omega) (by omega)]
    exact ih (i + 1) _ (by omega) (by simp; omega) (take_set x (l.map cv_Note) i _ (by first | omega | (simp; omega)) (by first | omega | (simp; omega)) ht (by first | (simp; done) | (simp; rfl) | rfl))
theorem to_NoteS (l : List S109) (hs : szl_NoteS l ≤ 1048576) : Ev (fun k => laws_toNoteS.f k l) (l.map cv_Note) := by
  have hl : l.length ≤ 1048576 := by unfold szl_NoteS at hs; omega
  unfold laws_toNoteS.f
  refine ev_pos (by omega) (ev_pos (by simp; omega) ?_)
  exact to_NoteS_l0 l hs l.length 0 _ (by omega) (by simp) (by simp)

/-! ### laws_eqNote -/
theorem eq_Note (x : S29) : Ev (fun k => laws_eqNote.f x.f0 x.f1 x.f2 x.f3 x.f4 x.f5 x.f6 x.f7 x.f8 x.f0 x.f1 x.f2 x.f3 x.f4 x.f5 x.f6 x.f7 x.f8) true := by
  unfold laws_eqNote.f
  exact ev_pos rfl (ev_pos rfl (ev_pos rfl (ev_pos rfl (ev_pos rfl (ev_pos rfl (ev_pos rfl (ev_pos rfl (ev_pos rfl (ev_now _)))))))))

/-! ### laws_eqNoteS -/
def eqcl_NoteS (l : List S29) : Prop := l.length ≤ 4611686018427387904
theorem eq_NoteS_l0 (l : List S29) (hq : eqcl_NoteS l) (d : Nat) : ∀ i : Nat, i + d = l.length → Ev (fun k => laws_eqNoteS.l0 k l l (i : Int)) true := by
  have hl : l.length ≤ 4611686018427387904 := hq
  induction d with
  | zero =>
    intro i hi
    exact ev_step (fun k => laws_eqNoteS.l0.eq_2 ..) (ev_neg (by omega) (ev_now _))
  | succ d ih =>
    intro i hi
    have hn := ih (i + 1) (by omega)
    have hlt : i < l.length := by omega
    refine ev_step (fun k => laws_eqNoteS.l0.eq_2 ..) (ev_pos (by omega) (ev_pos (by omega) (ev_pos (by omega) ?_)))
    rw [w64 (by omega) (by omega)]
    exact ev_bind (eq_Note _) (ev_pos rfl hn)
theorem eq_NoteS (l : List S29) (hq : eqcl_NoteS l) : Ev (fun k => laws_eqNoteS.f k l l) true := by
  unfold laws_eqNoteS.f
  exact ev_pos rfl (eq_NoteS_l0 l hq l.length 0 (by omega))

/-! ### laws_markNoteS -/
def mk_Note (k : Int) : S29 := ⟨k, k + 1, k + 1 + 1, k + 1 + 1 + 1, k + 1 + 1 + 1 + 1, k + 1 + 1 + 1 + 1 + 1, k + 1 + 1 + 1 + 1 + 1 + 1, k + 1 + 1 + 1 + 1 + 1 + 1 + 1, k + 1 + 1 + 1 + 1 + 1 + 1 + 1 + 1⟩
theorem mark_NoteS (l : List S29) (hl : l.length ≤ 4611686018427387904) (k : Int) (h0 : 0 ≤ k) (h1 : k + 9 * (l.length : Int) ≤ 4611686018427387904) : Ev (fun n => laws_markNoteS.f n l k) (k + 9 * (l.length : Int), mkl mk_Note 9 k l.length) := by
  refine mark_loop (g := fun n x k i => laws_markNoteS.l0 n x k i) (by omega) (fun x k i hi => ev_step (fun n => laws_markNoteS.l0.eq_2 ..) (ev_neg (by omega) (ev_now _))) (fun x k i r hi hx h0 h1 hn => ?_) l hl k h0 h1
  refine ev_step (fun n => laws_markNoteS.l0.eq_2 ..) (ev_pos (by omega) (ev_pos (by omega) ?_))
  have wi : wrap64 ((i : Int) + 1) = (i : Int) + 1 := w64 (by omega) (by omega)
  have w1 : wrap64 (k + 1) = k + 1 := w64 (by omega) (by omega)
  have w2 : wrap64 (k + 1 + 1) = k + 1 + 1 := w64 (by omega) (by omega)
  have w3 : wrap64 (k + 1 + 1 + 1) = k + 1 + 1 + 1 := w64 (by omega) (by omega)
  have w4 : wrap64 (k + 1 + 1 + 1 + 1) = k + 1 + 1 + 1 + 1 := w64 (by omega) (by omega)
  have w5 : wrap64 (k + 1 + 1 + 1 + 1 + 1) = k + 1 + 1 + 1 + 1 + 1 := w64 (by omega) (by omega)
  have w6 : wrap64 (k + 1 + 1 + 1 + 1 + 1 + 1) = k + 1 + 1 + 1 + 1 + 1 + 1 := w64 (by omega) (by omega)
  have w7 : wrap64 (k + 1 + 1 + 1 + 1 + 1 + 1 + 1) = k + 1 + 1 + 1 + 1 + 1 + 1 + 1 := w64 (by omega) (by omega)
  have w8 : wrap64 (k + 1 + 1 + 1 + 1 + 1 + 1 + 1 + 1) = k + 1 + 1 + 1 + 1 + 1 + 1 + 1 + 1 := w64 (by omega) (by omega)
  have w9 : wrap64 (k + 1 + 1 + 1 + 1 + 1 + 1 + 1 + 1 + 1) = k + 1 + 1 + 1 + 1 + 1 + 1 + 1 + 1 + 1 := w64 (by omega) (by omega)
  rw [show k + 9 = k + 1 + 1 + 1 + 1 + 1 + 1 + 1 + 1 + 1 by omega] at hn
  have rs : ∀ v, rd_T29 (x.set i v) (i : Int) = v := fun v => getD_set x i v hi
  simp only [w1, w2, w3, w4, w5, w6, w7, w8, w9, wi, rs, List.set_set, Int.toNat_natCast]
  refine ev_bind1 rfl ?_
  simp only [rs, List.set_set, Int.toNat_natCast]
  refine ev_bind1 rfl ?_
  simp only [rs, List.set_set, Int.toNat_natCast]
  refine ev_bind1 rfl ?_
  simp only [rs, List.set_set, Int.toNat_natCast]
  refine ev_bind1 rfl ?_
  simp only [rs, List.set_set, Int.toNat_natCast]
  refine ev_bind1 rfl ?_
  simp only [rs, List.set_set, Int.toNat_natCast]
  refine ev_bind1 rfl ?_
  simp only [rs, List.set_set, Int.toNat_natCast]
  refine ev_bind1 rfl ?_
  simp only [rs, List.set_set, Int.toNat_natCast]
  refine ev_bind1 rfl ?_
  simp only [rs, List.set_set, Int.toNat_natCast]
  exact hn

/-! ### laws_heldNoteS -/
theorem held_NoteS (m : Nat) (hm : m ≤ 4611686018427387904) (k : Int) (h0 : 0 ≤ k) (h1 : k + 9 * (m : Int) ≤ 4611686018427387904) : Ev (fun n => laws_heldNoteS.f n (mkl mk_Note 9 k m) k) (k + 9 * (m : Int)) := by
  refine held_loop (g := fun n x k i => laws_heldNoteS.l0 n x k i) (by omega) (fun x k i hi => ev_step (fun n => laws_heldNoteS.l0.eq_2 ..) (ev_neg (by omega) (ev_now _))) (fun x k i r hi he hx h0 h1 hn => ?_) m hm k h0 h1
  have hr : rd_T29 x (i : Int) = mk_Note k := (getD_nth _ x i hi).trans he
  refine ev_step (fun n => laws_heldNoteS.l0.eq_2 ..) (ev_pos (by omega) (ev_pos (by omega) ?_))
  have wi : wrap64 ((i : Int) + 1) = (i : Int) + 1 := w64 (by omega) (by omega)
  have w1 : wrap64 (k + 1) = k + 1 := w64 (by omega) (by omega)
  have w2 : wrap64 (k + 1 + 1) = k + 1 + 1 := w64 (by omega) (by omega)
  have w3 : wrap64 (k + 1 + 1 + 1) = k + 1 + 1 + 1 := w64 (by omega) (by omega)
  have w4 : wrap64 (k + 1 + 1 + 1 + 1) = k + 1 + 1 + 1 + 1 := w64 (by omega) (by omega)
  have w5 : wrap64 (k + 1 + 1 + 1 + 1 + 1) = k + 1 + 1 + 1 + 1 + 1 := w64 (by omega) (by omega)
  have w6 : wrap64 (k + 1 + 1 + 1 + 1 + 1 + 1) = k + 1 + 1 + 1 + 1 + 1 + 1 := w64 (by omega) (by omega)
  have w7 : wrap64 (k + 1 + 1 + 1 + 1 + 1 + 1 + 1) = k + 1 + 1 + 1 + 1 + 1 + 1 + 1 := w64 (by omega) (by omega)
  have w8 : wrap64 (k + 1 + 1 + 1 + 1 + 1 + 1 + 1 + 1) = k + 1 + 1 + 1 + 1 + 1 + 1 + 1 + 1 := w64 (by omega) (by omega)
  have w9 : wrap64 (k + 1 + 1 + 1 + 1 + 1 + 1 + 1 + 1 + 1) = k + 1 + 1 + 1 + 1 + 1 + 1 + 1 + 1 + 1 := w64 (by omega) (by omega)
  rw [show k + 9 = k + 1 + 1 + 1 + 1 + 1 + 1 + 1 + 1 + 1 by omega] at hn
  simp only [hr, w1, w2, w3, w4, w5, w6, w7, w8, w9, wi]
  exact ev_pos rfl (ev_pos rfl (ev_pos rfl (ev_pos rfl (ev_pos rfl (ev_pos rfl (ev_pos rfl (ev_pos rfl (ev_pos rfl (hn)))))))))

/-! ### spec_Pick -/
theorem spec_Pick_l0 (l : List S29) (a : Int) (hl : l.length ≤ 1000000000000) (d : Nat) : ∀ (i : Nat) (o : List S29), i + d = l.length → o.length ≤ i → Ev (fun k => spec_Pick.l0 k l a o (i : Int)) (o ++ (l.drop i).filter (fun x => x.f0 == a)) := by
  induction d with
  | zero =>
    intro i o hi ho
    refine ev_step (fun k => spec_Pick.l0.eq_2 ..) (ev_neg (by omega) ?_)
    rw [List.drop_of_length_le (by omega)]
    exact ev_as (ev_now _) (by simp)
  | succ d ih =>
    intro i o hi ho
    have hlt : i < l.length := by omega
    have hr : rd_T29 l (i : Int) = l[i] := getD_nth _ l i hlt
    have hd : l.drop i = l[i] :: l.drop (i + 1) := List.drop_eq_getElem_cons hlt
    refine ev_step (fun k => spec_Pick.l0.eq_2 ..) (ev_pos (by omega) (ev_pos (by omega) ?_))
    simp only [hr]
    rw [w64 (by omega) (by omega), hd, List.filter_cons]
    refine ev_ite (fun c => ev_pos (by omega) ?_) (fun c => ?_)
    · exact ev_as (ih (i + 1) (o ++ [l[i]]) (by omega) (by simp; omega)) (by simp [c])
    · exact ev_as (ih (i + 1) o (by omega) (by omega)) (by simp [c])
theorem spec_Pick_ev (l : List S29) (a : Int) (hl : l.length ≤ 1000000000000) : Ev (fun k => spec_Pick.f k l a) (l.filter (fun x => x.f0 == a)) := ev_as (spec_Pick_l0 l a hl l.length 0 [] (by omega) (by simp)) (by simp)

theorem FnExactPick : VFnExactPick.Pure := by
  intro l a hl hG _
  refine ev_rounds ?_
  unfold laws_FnExactPick.f
  obtain ⟨t, et, ct⟩ := sz_NoteS l hl hG 1048576 (by omega) (by omega)
  rcases ct with ct | ⟨ct, dt⟩
  · exact ev_bind et (ev_pos ct (ev_now _))
  have hs : szl_NoteS l ≤ 1048576 := by omega
  have hto := to_NoteS l hs
  have hl2 : (l.map cv_Note).length ≤ 1048576 := by
    unfold szl_NoteS at hs
    simp
    omega
  have e1 := spec_Pick_ev (l.map cv_Note) a (by omega)
  have e2 := impl_Pick_ev (l.map cv_Note) a (by omega)
  have hf : ∀ p : S29 → Bool, ((l.map cv_Note).filter p).length ≤ 1048576 := fun p => Nat.le_trans (List.length_filter_le _ _) hl2
  generalize (l.map cv_Note) = L at *
  have hq := eq_NoteS L (by show L.length ≤ _; omega)
  generalize hR : L.filter _ = R at e1 e2
  have hR2 : R.length ≤ 1048576 := by rw [← hR]; exact hf _
  have hqR := eq_NoteS R (by show R.length ≤ _; omega)
  have mL := mark_NoteS L (by omega) 1 (by omega) (by omega)
  have mR := mark_NoteS R (by omega) 1 (by omega) (by omega)
  have hh := held_NoteS R.length (by omega) 1 (by omega) (by omega)
  refine ev_bind et (ev_neg (by omega) (ev_bind hto (ev_bind e1 (ev_bind hto (ev_bind e2 (ev_bind hqR (ev_pos rfl (ev_bind hto (ev_bind hq (ev_pos rfl (ev_bind mL (ev_neg (by omega) (ev_bind hqR ?_)))))))))))))
  refine ev_step (fun k => laws_FnExactPick.j0.eq_2 ..) (ev_neg (by simp) ?_)
  exact ev_bind mR (ev_bind hh (ev_neg (by omega) (ev_pos rfl (ev_bind hto (ev_bind e2 (ev_bind hqR (ev_pos rfl (ev_bind hh (ev_neg (by omega) (ev_pos rfl (ev_now _)))))))))))
end Go.Proofs.Ythmfmpmljndjhaa.Pure
