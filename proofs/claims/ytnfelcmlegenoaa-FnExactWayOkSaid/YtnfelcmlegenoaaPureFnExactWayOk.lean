/- The program's WayOk answers as the reference's, whatever the channel; the channel stays as it is. -/
import Derived.Test.YtnfelcmlegenoaaVFnExactWayOk
import Derived.Test.YtnfelcmlegenoaaVBase
namespace Go.Proofs.Ytnfelcmlegenoaa.Pure
open Go.RowKit Go.Proofs.Ytnfelcmlegenoaa.PFnExactWayOk Go.Proofs.Ytnfelcmlegenoaa.VFnExactWayOk Go.Proofs.YtnfelcmlegenoaaW.PrintWords Go.Proofs.YtnfelcmlegenoaaW.PrintLast Go.Proofs.YtnfelcmlegenoaaV
set_option linter.unusedVariables false
set_option linter.unusedSimpArgs false
set_option maxRecDepth 20000

/-! ### laws_szByteS -/
def szl_ByteS (l : List Int) : Nat := l.length
theorem sz_ByteS (l : List Int) (hl : l.length ≤ 9223372036854775807) (left : Int) (h0 : 0 ≤ left) (h1 : left ≤ 1048576) :
    ∃ t, Ev (fun k => laws_szByteS.f l left) t ∧ (t < 0 ∨ 0 ≤ t ∧ t + (szl_ByteS l : Int) = left) := by
  unfold laws_szByteS.f szl_ByteS
  have e : wrap64 (left - (l.length : Int)) = left - (l.length : Int) := w64 (by omega) (by omega)
  simp only [e]
  by_cases hc : left - (l.length : Int) < 0
  · exact ⟨-1, ev_pos hc (ev_now _), .inl (by omega)⟩
  · exact ⟨_, ev_neg hc (ev_now _), .inr ⟨by omega, by omega⟩⟩

/-! ### laws_szPack -/
def szv_Pack (x : S97) : Nat := szl_ByteS x.f1
theorem sz_Pack (x : S97) (hG : G97 x) (left : Int) (h0 : 0 ≤ left) (h1 : left ≤ 1048576) :
    ∃ t, Ev (fun k => laws_szPack.f x.f0 x.f1 left) t ∧ (t < 0 ∨ 0 ≤ t ∧ t + (szv_Pack x : Int) = left) := by
  obtain ⟨g0, g1⟩ := hG
  unfold laws_szPack.f szv_Pack
  obtain ⟨t1, et1, ct1⟩ := sz_ByteS x.f1 g1.1 (left) (by omega) (by omega)
  rcases ct1 with ct1 | ⟨ct1, dt1⟩
  · exact ⟨-1, ev_bind et1 (ev_pos ct1 (ev_now _)), .inl (by omega)⟩
  exact ⟨_, ev_bind et1 (ev_neg (by omega) (ev_now _)), .inr ⟨by omega, by omega⟩⟩

/-! ### laws_szPackS -/
def szl_PackS (l : List S97) : Nat := l.length + (l.map szv_Pack).sum
theorem sz_PackS_l0 (l : List S97) (hG : ∀ x ∈ l, G97 x) (hl : l.length ≤ 9223372036854775807) (d : Nat) : ∀ (i : Nat) (left : Int), i + d = l.length → 0 ≤ left → left ≤ 1048576 →
    ∃ t, Ev (fun k => laws_szPackS.l0 k l left (i : Int)) t ∧ (t < 0 ∨ 0 ≤ t ∧ t + (((l.drop i).map szv_Pack).sum : Nat) = left) := by
  induction d with
  | zero =>
    intro i left hi h0 h1
    refine ⟨left, ev_step (fun k => laws_szPackS.l0.eq_2 ..) (ev_neg (by omega) (ev_now _)), .inr ⟨h0, ?_⟩⟩
    rw [List.drop_of_length_le (by omega)]
    simp
  | succ d ih =>
    intro i left hi h0 h1
    have hlt : i < l.length := by omega
    have hg := hG l[i] (List.getElem_mem hlt)
    have hd : l.drop i = l[i] :: l.drop (i + 1) := List.drop_eq_getElem_cons hlt
    have hr : rd_T97 l (i : Int) = l[i] := getD_nth _ l i hlt
    obtain ⟨t1, et1, ct1⟩ := sz_Pack l[i] hg left h0 h1
    rcases ct1 with ct1 | ⟨ct1, dt1⟩
    · refine ⟨-1, ev_step (fun k => laws_szPackS.l0.eq_2 ..) (ev_pos (by omega) (ev_pos (by omega) ?_)), .inl (by omega)⟩
      simp only [hr]
      exact ev_bind et1 (ev_pos ct1 (ev_now _))
    · obtain ⟨t, et, ct⟩ := ih (i + 1) t1 (by omega) ct1 (by omega)
      refine ⟨t, ev_step (fun k => laws_szPackS.l0.eq_2 ..) (ev_pos (by omega) (ev_pos (by omega) ?_)), ?_⟩
      · simp only [hr]
        rw [w64 (by omega) (by omega)]
        exact ev_bind et1 (ev_neg (by omega) et)
      · rw [hd, List.map_cons, List.sum_cons]
        omega
theorem sz_PackS (l : List S97) (hl : l.length ≤ 9223372036854775807) (hG : ∀ x ∈ l, G97 x) (left : Int) (h0 : 0 ≤ left) (h1 : left ≤ 1048576) :
    ∃ t, Ev (fun k => laws_szPackS.f k l left) t ∧ (t < 0 ∨ 0 ≤ t ∧ t + (szl_PackS l : Int) = left) := by
  unfold laws_szPackS.f szl_PackS
  have e : wrap64 (left - (l.length : Int)) = left - (l.length : Int) := w64 (by omega) (by omega)
  simp only [e]
  by_cases hc : left - (l.length : Int) < 0
  · exact ⟨-1, ev_pos hc (ev_now _), .inl (by omega)⟩
  · obtain ⟨t, et, ct⟩ := sz_PackS_l0 l hG hl l.length 0 (left - (l.length : Int)) (by omega) (by omega) (by omega)
    refine ⟨t, ev_neg hc et, ?_⟩
    rw [List.drop_zero] at ct
    omega

/-! ### spec_l1In -/
theorem spec_l1In_eq (a b c : Int) : spec_l1In.f a b c = some (inB a b c) := by
  unfold spec_l1In.f inB
  by_cases h : b ≤ a <;> simp [h]

/-! ### spec_WayOk -/
/-- A message as it has to be. -/
def packB (x : S98) : Bool := inB x.f0 0 1 && !(decide ((x.f1.length : Int) > 400))
def wayB (l : List S98) : Bool := l.all packB && decide ((l.length : Int) ≤ 12)
theorem spec_WayOk_l0 (l : List S98) (hl : l.length ≤ 4611686018427387904) (d : Nat) : ∀ i : Nat, i + d = l.length → Ev (fun k => spec_WayOk.l0 k l (i : Int)) ((l.drop i).all packB && decide ((l.length : Int) ≤ 12)) := by
  induction d with
  | zero =>
    intro i hi
    refine ev_step (fun k => spec_WayOk.l0.eq_2 ..) (ev_neg (by omega) ?_)
    rw [List.drop_of_length_le (by omega)]
    exact ev_as (ev_now _) (by simp)
  | succ d ih =>
    intro i hi
    have hlt : i < l.length := by omega
    have hr : rd_T98 l (i : Int) = l[i] := getD_nth _ l i hlt
    have hd : l.drop i = l[i] :: l.drop (i + 1) := List.drop_eq_getElem_cons hlt
    have hn := ih (i + 1) (by omega)
    refine ev_step (fun k => spec_WayOk.l0.eq_2 ..) (ev_pos (by omega) (ev_pos (by omega) ?_))
    simp only [hr]
    rw [w64 (by omega) (by omega), hd, List.all_cons]
    refine ev_bind1 (spec_l1In_eq _ _ _) ?_
    refine ev_ite (fun c => ev_ite (fun c2 => ?_) (fun c2 => ?_)) (fun c => ?_)
    · exact ev_as (ev_now _) (by simp [packB, c, c2])
    · refine ev_as hn ?_
      have : packB l[i] = true := by simp only [packB, c, Bool.true_and]; simpa using c2
      simp [this]
    · exact ev_as (ev_now _) (by simp [packB, c])
theorem spec_WayOk_ev (l : List S98) (hl : l.length ≤ 4611686018427387904) : Ev (fun k => spec_WayOk.f k l) (wayB l) := ev_as (spec_WayOk_l0 l hl l.length 0 (by omega)) (by simp [wayB])

/-! ### laws_toByteS -/
theorem to_ByteS_l0 (l : List Int) (hs : szl_ByteS l ≤ 1048576) (d : Nat) : ∀ (i : Nat) (x : List Int), i + d = l.length → x.length = l.length → x.take i = (l).take i → Ev (fun k => laws_toByteS.l0 k l x (i : Int)) (l) := by
  have hl : l.length ≤ 1048576 := by unfold szl_ByteS at hs; omega
  induction d with
  | zero =>
    intro i x hi hx ht
    refine ev_as (ev_step (fun k => laws_toByteS.l0.eq_2 ..) (ev_neg (by omega) (ev_now _))) ?_
    rw [List.take_of_length_le (by omega), List.take_of_length_le (by first | omega | (simp; omega))] at ht
    exact ht
  | succ d ih =>
    intro i x hi hx ht
    have hlt : i < l.length := by omega
    have hr : rd l (i : Int) = l[i] := rd_nth l i hlt
    refine ev_step (fun k => laws_toByteS.l0.eq_2 ..) (ev_pos (by omega) (ev_pos (by omega) ?_))
    refine ev_pos (by omega) ?_
    rw [hr, Int.toNat_natCast, w64 (by omega) (by omega)]
    exact ih (i + 1) _ (by omega) (by simp; omega) (take_set x l i _ (by omega) (by omega) ht rfl)
theorem to_ByteS (l : List Int) (hs : szl_ByteS l ≤ 1048576) : Ev (fun k => laws_toByteS.f k l) (l) := by
  have hl : l.length ≤ 1048576 := by unfold szl_ByteS at hs; omega
  unfold laws_toByteS.f
  refine ev_pos (by omega) (ev_pos (by simp; omega) ?_)
  exact to_ByteS_l0 l hs l.length 0 _ (by omega) (by simp) (by simp)

/-! ### laws_toPack -/
def cv_Pack (x : S97) : S98 := ⟨x.f0, x.f1⟩
theorem to_Pack (x : S97) (hs : szv_Pack x ≤ 1048576) : Ev (fun k => laws_toPack.f k x.f0 x.f1) ((cv_Pack x).f0, (cv_Pack x).f1) := by
  unfold szv_Pack at hs
  unfold laws_toPack.f
  refine ev_bind (to_ByteS x.f1 (by omega)) ?_
  exact ev_now _

/-! ### laws_toPackS -/
theorem to_PackS_l0 (l : List S97) (hs : szl_PackS l ≤ 1048576) (d : Nat) : ∀ (i : Nat) (x : List S98), i + d = l.length → x.length = l.length → x.take i = (l.map cv_Pack).take i → Ev (fun k => laws_toPackS.l0 k l x (i : Int)) (l.map cv_Pack) := by
  have hl : l.length ≤ 1048576 := by unfold szl_PackS at hs; omega
  induction d with
  | zero =>
    intro i x hi hx ht
    refine ev_as (ev_step (fun k => laws_toPackS.l0.eq_2 ..) (ev_neg (by omega) (ev_now _))) ?_
    rw [List.take_of_length_le (by omega), List.take_of_length_le (by first | omega | (simp; omega))] at ht
    exact ht
  | succ d ih =>
    intro i x hi hx ht
    have hlt : i < l.length := by omega
    have hr : rd_T97 l (i : Int) = l[i] := getD_nth _ l i hlt
    refine ev_step (fun k => laws_toPackS.l0.eq_2 ..) (ev_pos (by omega) (ev_pos (by omega) ?_))
    have he := to_Pack l[i] (by have := mem_sum szv_Pack l l[i] (List.getElem_mem hlt); unfold szl_PackS at hs; omega)
    simp only [hr]
    refine ev_bind he ?_
    refine ev_pos (by omega) ?_
    rw [Int.toNat_natCast, w64 (by omega) (by omega)]
    exact ih (i + 1) _ (by omega) (by simp; omega) (take_set x (l.map cv_Pack) i _ (by first | omega | (simp; omega)) (by first | omega | (simp; omega)) ht (by first | (simp; done) | (simp; rfl) | rfl))
theorem to_PackS (l : List S97) (hs : szl_PackS l ≤ 1048576) : Ev (fun k => laws_toPackS.f k l) (l.map cv_Pack) := by
  have hl : l.length ≤ 1048576 := by unfold szl_PackS at hs; omega
  unfold laws_toPackS.f
  refine ev_pos (by omega) (ev_pos (by simp; omega) ?_)
  exact to_PackS_l0 l hs l.length 0 _ (by omega) (by simp) (by simp)

/-! ### impl_isIn -/
theorem impl_isIn_eq (a b c : Int) : impl_isIn.f a b c = some (inB a b c) := by
  unfold impl_isIn.f inB
  by_cases h : b ≤ a <;> simp [h]

/-! ### impl_WayOk -/
theorem impl_WayOk_l0 (l : List S98) (hl : l.length ≤ 4611686018427387904) (d : Nat) : ∀ i : Nat, i + d = l.length → Ev (fun k => impl_WayOk.l0 k l l (l.length : Int) (i : Int)) ((l.drop i).all packB && decide ((l.length : Int) ≤ 12)) := by
  induction d with
  | zero =>
    intro i hi
    refine ev_step (fun k => impl_WayOk.l0.eq_2 ..) (ev_neg (by omega) ?_)
    rw [List.drop_of_length_le (by omega)]
    exact ev_as (ev_now _) (by simp)
  | succ d ih =>
    intro i hi
    have hlt : i < l.length := by omega
    have hr : rd_T98 l (i : Int) = l[i] := getD_nth _ l i hlt
    have hd : l.drop i = l[i] :: l.drop (i + 1) := List.drop_eq_getElem_cons hlt
    have hn := ih (i + 1) (by omega)
    refine ev_step (fun k => impl_WayOk.l0.eq_2 ..) (ev_pos (by omega) (ev_pos (by omega) (ev_pos (by omega) ?_)))
    simp only [hr]
    rw [w64 (by omega) (by omega), hd, List.all_cons]
    refine ev_bind1 (impl_isIn_eq _ _ _) ?_
    refine ev_ite (fun c => ev_ite (fun c2 => ?_) (fun c2 => ?_)) (fun c => ?_)
    · exact ev_as (ev_now _) (by simp [packB, c, c2])
    · refine ev_as hn ?_
      have : packB l[i] = true := by simp only [packB, c, Bool.true_and]; simpa using c2
      simp [this]
    · exact ev_as (ev_now _) (by simp [packB, c])
theorem impl_WayOk_ev (l : List S98) (hl : l.length ≤ 4611686018427387904) : Ev (fun k => impl_WayOk.f k l) (wayB l) := ev_as (impl_WayOk_l0 l hl l.length 0 (by omega)) (by simp [wayB])

/-! ### laws_eqByteS -/
def eqcl_ByteS (l : List Int) : Prop := l.length ≤ 4611686018427387904
theorem eq_ByteS_l0 (l : List Int) (hq : eqcl_ByteS l) (d : Nat) : ∀ i : Nat, i + d = l.length → Ev (fun k => laws_eqByteS.l0 k l l (i : Int)) true := by
  have hl : l.length ≤ 4611686018427387904 := hq
  induction d with
  | zero =>
    intro i hi
    exact ev_step (fun k => laws_eqByteS.l0.eq_2 ..) (ev_neg (by omega) (ev_now _))
  | succ d ih =>
    intro i hi
    have hn := ih (i + 1) (by omega)
    have hlt : i < l.length := by omega
    refine ev_step (fun k => laws_eqByteS.l0.eq_2 ..) (ev_pos (by omega) (ev_pos (by omega) (ev_pos (by omega) ?_)))
    rw [w64 (by omega) (by omega)]
    exact ev_pos rfl hn
theorem eq_ByteS (l : List Int) (hq : eqcl_ByteS l) : Ev (fun k => laws_eqByteS.f k l l) true := by
  unfold laws_eqByteS.f
  exact ev_pos rfl (eq_ByteS_l0 l hq l.length 0 (by omega))

/-! ### laws_eqPack -/
def eqc_Pack (x : S98) : Prop := eqcl_ByteS x.f1
theorem eq_Pack (x : S98) (hq : eqc_Pack x) : Ev (fun k => laws_eqPack.f k x.f0 x.f1 x.f0 x.f1) true := by
  unfold laws_eqPack.f
  exact ev_pos rfl (ev_bind (eq_ByteS x.f1 (hq)) (ev_pos rfl (ev_now _)))

/-! ### laws_eqPackS -/
def eqcl_PackS (l : List S98) : Prop := l.length ≤ 4611686018427387904 ∧ ∀ x ∈ l, eqc_Pack x
theorem eq_PackS_l0 (l : List S98) (hq : eqcl_PackS l) (d : Nat) : ∀ i : Nat, i + d = l.length → Ev (fun k => laws_eqPackS.l0 k l l (i : Int)) true := by
  have hl : l.length ≤ 4611686018427387904 := hq.1
  induction d with
  | zero =>
    intro i hi
    exact ev_step (fun k => laws_eqPackS.l0.eq_2 ..) (ev_neg (by omega) (ev_now _))
  | succ d ih =>
    intro i hi
    have hn := ih (i + 1) (by omega)
    have hlt : i < l.length := by omega
    refine ev_step (fun k => laws_eqPackS.l0.eq_2 ..) (ev_pos (by omega) (ev_pos (by omega) (ev_pos (by omega) ?_)))
    rw [w64 (by omega) (by omega)]
    have hr : rd_T98 l (i : Int) = l[i] := getD_nth _ l i hlt
    simp only [hr]
    exact ev_bind (eq_Pack _ (hq.2 _ (List.getElem_mem hlt))) (ev_pos rfl hn)
theorem eq_PackS (l : List S98) (hq : eqcl_PackS l) : Ev (fun k => laws_eqPackS.f k l l) true := by
  unfold laws_eqPackS.f
  exact ev_pos rfl (eq_PackS_l0 l hq l.length 0 (by omega))

theorem FnExactWayOk : VFnExactWayOk.Pure := by
  intro l hl hG
  refine ev_rounds ?_
  unfold laws_FnExactWayOk.f
  obtain ⟨t, et, ct⟩ := sz_PackS l hl hG 1048576 (by omega) (by omega)
  rcases ct with ct | ⟨ct, dt⟩
  · exact ev_bind et (ev_pos ct (ev_now _))
  have hs : szl_PackS l ≤ 1048576 := by omega
  have hto := to_PackS l hs
  have hl2 : (l.map cv_Pack).length ≤ 4611686018427387904 := by
    unfold szl_PackS at hs
    simp
    omega
  have hq : eqcl_PackS (l.map cv_Pack) := ⟨hl2, fun y hy => by
    obtain ⟨z, hz, rfl⟩ := List.mem_map.1 hy
    have h1 := mem_sum szv_Pack l z hz
    have h2 : szv_Pack z ≤ 1048576 := by unfold szl_PackS at hs; omega
    unfold szv_Pack szl_ByteS at h2
    show z.f1.length ≤ _
    omega⟩
  exact ev_bind et (ev_neg (by omega) (ev_bind hto (ev_bind (spec_WayOk_ev _ hl2) (ev_bind hto (ev_bind (impl_WayOk_ev _ hl2) (ev_neg (by simp) (ev_bind hto (ev_bind (eq_PackS _ hq) (ev_pos rfl (ev_now _))))))))))
end Go.Proofs.Ytnfelcmlegenoaa.Pure
