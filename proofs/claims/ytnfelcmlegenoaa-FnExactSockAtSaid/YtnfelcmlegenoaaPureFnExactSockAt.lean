/- The program's SockAt answers as the reference's, whatever the list and the number; the list stays as it is. -/
import Derived.Test.YtnfelcmlegenoaaVFnExactSockAt
import Derived.Test.YtnfelcmlegenoaaVBase
import Derived.Test.YtnfelcmlegenoaaVExt
namespace Go.Proofs.Ytnfelcmlegenoaa.Pure
open Go.RowKit Go.Proofs.Ytnfelcmlegenoaa.PFnExactSockAt Go.Proofs.Ytnfelcmlegenoaa.VFnExactSockAt Go.Proofs.YtnfelcmlegenoaaW.PrintWords Go.Proofs.YtnfelcmlegenoaaW.PrintLast Go.Proofs.YtnfelcmlegenoaaV
set_option linter.unusedVariables false
set_option linter.unusedSimpArgs false
set_option maxRecDepth 20000

/-! ### laws_szByteS -/
def szl_ByteS (l : List Int) : Nat := l.length
theorem sz_ByteS (l : List Int) (hl : l.length ≤ 9223372036854775807) (left : Int) (h0 : 0 ≤ left) (h1 : left ≤ 1048576) :
    ∃ t, Ev (fun k => laws_szByteS.f l left) t ∧ (t < 0 ∨ 0 ≤ t ∧ t + (szl_ByteS l : Int) = left) := by
  unfold laws_szByteS.f szl_ByteS
  have e : wrap64 (left - (l.length : Int)) = left - (l.length : Int) := w64 (by omega) (by omega)
  simp only [e]
  by_cases hc : left - (l.length : Int) < 0
  · exact ⟨-1, ev_pos hc (ev_now _), .inl (by omega)⟩
  · exact ⟨_, ev_neg hc (ev_now _), .inr ⟨by omega, by omega⟩⟩

/-! ### laws_szSock -/
def szv_Sock (x : S57) : Nat := szl_ByteS x.f4 + szl_ByteS x.f5
theorem sz_Sock (x : S57) (hG : G57 x) (left : Int) (h0 : 0 ≤ left) (h1 : left ≤ 1048576) :
    ∃ t, Ev (fun k => laws_szSock.f x.f0 x.f1 x.f2 x.f3 x.f4 x.f5 x.f6 x.f7 left) t ∧ (t < 0 ∨ 0 ≤ t ∧ t + (szv_Sock x : Int) = left) := by
  obtain ⟨g0, g1, g2, g3, g4, g5, g6, g7⟩ := hG
  unfold laws_szSock.f szv_Sock
  obtain ⟨t4, et4, ct4⟩ := sz_ByteS x.f4 g4.1 (left) (by omega) (by omega)
  rcases ct4 with ct4 | ⟨ct4, dt4⟩
  · exact ⟨-1, ev_bind et4 (ev_pos ct4 (ev_now _)), .inl (by omega)⟩
  obtain ⟨t5, et5, ct5⟩ := sz_ByteS x.f5 g5.1 (t4) (by omega) (by omega)
  rcases ct5 with ct5 | ⟨ct5, dt5⟩
  · exact ⟨-1, ev_bind et4 (ev_neg (by omega) (ev_bind et5 (ev_pos ct5 (ev_now _)))), .inl (by omega)⟩
  exact ⟨_, ev_bind et4 (ev_neg (by omega) (ev_bind et5 (ev_neg (by omega) (ev_now _)))), .inr ⟨by omega, by omega⟩⟩

/-! ### laws_szSockS -/
def szl_SockS (l : List S57) : Nat := l.length + (l.map szv_Sock).sum
theorem sz_SockS_l0 (l : List S57) (hG : ∀ x ∈ l, G57 x) (hl : l.length ≤ 9223372036854775807) (d : Nat) : ∀ (i : Nat) (left : Int), i + d = l.length → 0 ≤ left → left ≤ 1048576 →
    ∃ t, Ev (fun k => laws_szSockS.l0 k l left (i : Int)) t ∧ (t < 0 ∨ 0 ≤ t ∧ t + (((l.drop i).map szv_Sock).sum : Nat) = left) := by
  induction d with
  | zero =>
    intro i left hi h0 h1
    refine ⟨left, ev_step (fun k => laws_szSockS.l0.eq_2 ..) (ev_neg (by omega) (ev_now _)), .inr ⟨h0, ?_⟩⟩
    rw [List.drop_of_length_le (by omega)]
    simp
  | succ d ih =>
    intro i left hi h0 h1
    have hlt : i < l.length := by omega
    have hg := hG l[i] (List.getElem_mem hlt)
    have hd : l.drop i = l[i] :: l.drop (i + 1) := List.drop_eq_getElem_cons hlt
    have hr : rd_T57 l (i : Int) = l[i] := getD_nth _ l i hlt
    obtain ⟨t1, et1, ct1⟩ := sz_Sock l[i] hg left h0 h1
    rcases ct1 with ct1 | ⟨ct1, dt1⟩
    · refine ⟨-1, ev_step (fun k => laws_szSockS.l0.eq_2 ..) (ev_pos (by omega) (ev_pos (by omega) ?_)), .inl (by omega)⟩
      simp only [hr]
      exact ev_bind et1 (ev_pos ct1 (ev_now _))
    · obtain ⟨t, et, ct⟩ := ih (i + 1) t1 (by omega) ct1 (by omega)
      refine ⟨t, ev_step (fun k => laws_szSockS.l0.eq_2 ..) (ev_pos (by omega) (ev_pos (by omega) ?_)), ?_⟩
      · simp only [hr]
        rw [w64 (by omega) (by omega)]
        exact ev_bind et1 (ev_neg (by omega) et)
      · rw [hd, List.map_cons, List.sum_cons]
        omega
theorem sz_SockS (l : List S57) (hl : l.length ≤ 9223372036854775807) (hG : ∀ x ∈ l, G57 x) (left : Int) (h0 : 0 ≤ left) (h1 : left ≤ 1048576) :
    ∃ t, Ev (fun k => laws_szSockS.f k l left) t ∧ (t < 0 ∨ 0 ≤ t ∧ t + (szl_SockS l : Int) = left) := by
  unfold laws_szSockS.f szl_SockS
  have e : wrap64 (left - (l.length : Int)) = left - (l.length : Int) := w64 (by omega) (by omega)
  simp only [e]
  by_cases hc : left - (l.length : Int) < 0
  · exact ⟨-1, ev_pos hc (ev_now _), .inl (by omega)⟩
  · obtain ⟨t, et, ct⟩ := sz_SockS_l0 l hG hl l.length 0 (left - (l.length : Int)) (by omega) (by omega) (by omega)
    refine ⟨t, ev_neg hc et, ?_⟩
    rw [List.drop_zero] at ct
    omega

/-! ### spec_SockAt -/
theorem spec_SockAt_l0 (l : List S60) (a : Int) (hl : l.length ≤ 4611686018427387904) (d : Nat) : ∀ i : Nat, i + d = l.length → Ev (fun k => spec_SockAt.l0 k l a (i : Int)) (idxF (fun x => x.f0 == a) (l.drop i) (i : Int)) := by
  induction d with
  | zero =>
    intro i hi
    refine ev_step (fun k => spec_SockAt.l0.eq_2 ..) (ev_neg (by omega) ?_)
    rw [List.drop_of_length_le (by omega)]
    exact ev_now _
  | succ d ih =>
    intro i hi
    have hlt : i < l.length := by omega
    have hr : rd_T60 l (i : Int) = l[i] := getD_nth _ l i hlt
    have hd : l.drop i = l[i] :: l.drop (i + 1) := List.drop_eq_getElem_cons hlt
    have hn := ih (i + 1) (by omega)
    refine ev_step (fun k => spec_SockAt.l0.eq_2 ..) (ev_pos (by omega) (ev_pos (by omega) ?_))
    simp only [hr]
    rw [w64 (by omega) (by omega), hd, idxF]
    refine ev_ite (fun c => ?_) (fun c => ?_)
    · exact ev_as (ev_now _) (by rw [if_pos (by simpa using c)])
    · exact ev_as hn (by rw [if_neg (by simpa using c)]; rfl)
theorem spec_SockAt_ev (l : List S60) (a : Int) (hl : l.length ≤ 4611686018427387904) : Ev (fun k => spec_SockAt.f k l a) (idxF (fun x => x.f0 == a) l 0) := spec_SockAt_l0 l a hl l.length 0 (by omega)

/-! ### laws_toByteS -/
theorem to_ByteS_l0 (l : List Int) (hs : szl_ByteS l ≤ 1048576) (d : Nat) : ∀ (i : Nat) (x : List Int), i + d = l.length → x.length = l.length → x.take i = (l).take i → Ev (fun k => laws_toByteS.l0 k l x (i : Int)) (l) := by
  have hl : l.length ≤ 1048576 := by unfold szl_ByteS at hs; omega
  induction d with
  | zero =>
    intro i x hi hx ht
    refine ev_as (ev_step (fun k => laws_toByteS.l0.eq_2 ..) (ev_neg (by omega) (ev_now _))) ?_
    rw [List.take_of_length_le (by omega), List.take_of_length_le (by first | omega | (simp; omega))] at ht
    exact ht
  | succ d ih =>
    intro i x hi hx ht
    have hlt : i < l.length := by omega
    have hr : rd l (i : Int) = l[i] := rd_nth l i hlt
    refine ev_step (fun k => laws_toByteS.l0.eq_2 ..) (ev_pos (by omega) (ev_pos (by omega) ?_))
    refine ev_pos (by omega) ?_
    rw [hr, Int.toNat_natCast, w64 (by omega) (by omega)]
    exact ih (i + 1) _ (by omega) (by simp; omega) (take_set x l i _ (by omega) (by omega) ht rfl)
theorem to_ByteS (l : List Int) (hs : szl_ByteS l ≤ 1048576) : Ev (fun k => laws_toByteS.f k l) (l) := by
  have hl : l.length ≤ 1048576 := by unfold szl_ByteS at hs; omega
  unfold laws_toByteS.f
  refine ev_pos (by omega) (ev_pos (by simp; omega) ?_)
  exact to_ByteS_l0 l hs l.length 0 _ (by omega) (by simp) (by simp)

/-! ### laws_toSock -/
def cv_Sock (x : S57) : S60 := ⟨x.f0, x.f1, x.f2, x.f3, x.f4, x.f5, x.f6, x.f7⟩
theorem to_Sock (x : S57) (hs : szv_Sock x ≤ 1048576) : Ev (fun k => laws_toSock.f k x.f0 x.f1 x.f2 x.f3 x.f4 x.f5 x.f6 x.f7) ((cv_Sock x).f0, (cv_Sock x).f1, (cv_Sock x).f2, (cv_Sock x).f3, (cv_Sock x).f4, (cv_Sock x).f5, (cv_Sock x).f6, (cv_Sock x).f7) := by
  unfold szv_Sock at hs
  unfold laws_toSock.f
  refine ev_bind (to_ByteS x.f4 (by omega)) ?_
  refine ev_bind (to_ByteS x.f5 (by omega)) ?_
  exact ev_now _

/-! ### laws_toSockS -/
theorem to_SockS_l0 (l : List S57) (hs : szl_SockS l ≤ 1048576) (d : Nat) : ∀ (i : Nat) (x : List S60), i + d = l.length → x.length = l.length → x.take i = (l.map cv_Sock).take i → Ev (fun k => laws_toSockS.l0 k l x (i : Int)) (l.map cv_Sock) := by
  have hl : l.length ≤ 1048576 := by unfold szl_SockS at hs; omega
  induction d with
  | zero =>
    intro i x hi hx ht
    refine ev_as (ev_step (fun k => laws_toSockS.l0.eq_2 ..) (ev_neg (by omega) (ev_now _))) ?_
    rw [List.take_of_length_le (by omega), List.take_of_length_le (by first | omega | (simp; omega))] at ht
    exact ht
  | succ d ih =>
    intro i x hi hx ht
    have hlt : i < l.length := by omega
    have hr : rd_T57 l (i : Int) = l[i] := getD_nth _ l i hlt
    refine ev_step (fun k => laws_toSockS.l0.eq_2 ..) (ev_pos (by omega) (ev_pos (by omega) ?_))
    have he := to_Sock l[i] (by have := mem_sum szv_Sock l l[i] (List.getElem_mem hlt); unfold szl_SockS at hs; omega)
    simp only [hr]
    refine ev_bind he ?_
    refine ev_pos (by omega) ?_
    rw [Int.toNat_natCast, w64 (by omega) (by omega)]
    exact ih (i + 1) _ (by omega) (by simp; omega) (take_set x (l.map cv_Sock) i _ (by first | omega | (simp; omega)) (by first | omega | (simp; omega)) ht (by first | (simp; done) | (simp; rfl) | rfl))
theorem to_SockS (l : List S57) (hs : szl_SockS l ≤ 1048576) : Ev (fun k => laws_toSockS.f k l) (l.map cv_Sock) := by
  have hl : l.length ≤ 1048576 := by unfold szl_SockS at hs; omega
  unfold laws_toSockS.f
  refine ev_pos (by omega) (ev_pos (by simp; omega) ?_)
  exact to_SockS_l0 l hs l.length 0 _ (by omega) (by simp) (by simp)

/-! ### impl_SockAt -/
theorem impl_SockAt_eq (l : List S60) (a : Int) : impl_SockAt.f l a = some (idxF (fun x => x.f0 == a) l 0) := rfl

/-! ### laws_eqByteS -/
def eqcl_ByteS (l : List Int) : Prop := l.length ≤ 4611686018427387904
theorem eq_ByteS_l0 (l : List Int) (hq : eqcl_ByteS l) (d : Nat) : ∀ i : Nat, i + d = l.length → Ev (fun k => laws_eqByteS.l0 k l l (i : Int)) true := by
  have hl : l.length ≤ 4611686018427387904 := hq
  induction d with
  | zero =>
    intro i hi
    exact ev_step (fun k => laws_eqByteS.l0.eq_2 ..) (ev_neg (by omega) (ev_now _))
  | succ d ih =>
    intro i hi
    have hn := ih (i + 1) (by omega)
    have hlt : i < l.length := by omega
    refine ev_step (fun k => laws_eqByteS.l0.eq_2 ..) (ev_pos (by omega) (ev_pos (by omega) (ev_pos (by omega) ?_)))
    rw [w64 (by omega) (by omega)]
    exact ev_pos rfl hn
theorem eq_ByteS (l : List Int) (hq : eqcl_ByteS l) : Ev (fun k => laws_eqByteS.f k l l) true := by
  unfold laws_eqByteS.f
  exact ev_pos rfl (eq_ByteS_l0 l hq l.length 0 (by omega))

/-! ### laws_eqSock -/
def eqc_Sock (x : S60) : Prop := eqcl_ByteS x.f4 ∧ eqcl_ByteS x.f5
theorem eq_Sock (x : S60) (hq : eqc_Sock x) : Ev (fun k => laws_eqSock.f k x.f0 x.f1 x.f2 x.f3 x.f4 x.f5 x.f6 x.f7 x.f0 x.f1 x.f2 x.f3 x.f4 x.f5 x.f6 x.f7) true := by
  unfold laws_eqSock.f
  exact ev_pos rfl (ev_pos rfl (ev_pos rfl (ev_neg (by simp) (ev_bind (eq_ByteS x.f4 (hq.1)) (ev_pos rfl (ev_bind (eq_ByteS x.f5 (hq.2)) (ev_pos rfl (ev_pos rfl (ev_pos rfl (ev_now _))))))))))

/-! ### laws_eqSockS -/
def eqcl_SockS (l : List S60) : Prop := l.length ≤ 4611686018427387904 ∧ ∀ x ∈ l, eqc_Sock x
theorem eq_SockS_l0 (l : List S60) (hq : eqcl_SockS l) (d : Nat) : ∀ i : Nat, i + d = l.length → Ev (fun k => laws_eqSockS.l0 k l l (i : Int)) true := by
  have hl : l.length ≤ 4611686018427387904 := hq.1
  induction d with
  | zero =>
    intro i hi
    exact ev_step (fun k => laws_eqSockS.l0.eq_2 ..) (ev_neg (by omega) (ev_now _))
  | succ d ih =>
    intro i hi
    have hn := ih (i + 1) (by omega)
    have hlt : i < l.length := by omega
    refine ev_step (fun k => laws_eqSockS.l0.eq_2 ..) (ev_pos (by omega) (ev_pos (by omega) (ev_pos (by omega) ?_)))
    rw [w64 (by omega) (by omega)]
    have hr : rd_T60 l (i : Int) = l[i] := getD_nth _ l i hlt
    simp only [hr]
    exact ev_bind (eq_Sock _ (hq.2 _ (List.getElem_mem hlt))) (ev_pos rfl hn)
theorem eq_SockS (l : List S60) (hq : eqcl_SockS l) : Ev (fun k => laws_eqSockS.f k l l) true := by
  unfold laws_eqSockS.f
  exact ev_pos rfl (eq_SockS_l0 l hq l.length 0 (by omega))

theorem FnExactSockAt : VFnExactSockAt.Pure := by
  intro l a hl hG _
  refine ev_rounds ?_
  unfold laws_FnExactSockAt.f
  obtain ⟨t, et, ct⟩ := sz_SockS l hl hG 1048576 (by omega) (by omega)
  rcases ct with ct | ⟨ct, dt⟩
  · exact ev_bind et (ev_pos ct (ev_now _))
  have hs : szl_SockS l ≤ 1048576 := by omega
  have hto := to_SockS l hs
  have hl2 : (l.map cv_Sock).length ≤ 4611686018427387904 := by
    unfold szl_SockS at hs
    simp
    omega
  have hq : eqcl_SockS (l.map cv_Sock) := ⟨hl2, fun y hy => by
    obtain ⟨z, hz, rfl⟩ := List.mem_map.1 hy
    have h1 := mem_sum szv_Sock l z hz
    have h2 : szv_Sock z ≤ 1048576 := by unfold szl_SockS at hs; omega
    unfold szv_Sock szl_ByteS at h2
    show z.f4.length ≤ _ ∧ z.f5.length ≤ _
    omega⟩
  exact ev_bind et (ev_neg (by omega) (ev_bind hto (ev_bind (spec_SockAt_ev _ a hl2) (ev_bind hto (ev_bind1 (impl_SockAt_eq _ a) (ev_pos rfl (ev_bind hto (ev_bind (eq_SockS _ hq) (ev_pos rfl (ev_now _))))))))))
end Go.Proofs.Ytnfelcmlegenoaa.Pure
