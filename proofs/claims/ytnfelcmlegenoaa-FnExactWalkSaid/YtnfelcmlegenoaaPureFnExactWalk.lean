/- The program's Walk answers as the reference's, whatever the status and the queries; the queries stay as they are. -/
import Derived.Test.YtnfelcmlegenoaaVFnExactWalk
import Derived.Test.YtnfelcmlegenoaaVBase
namespace Go.Proofs.Ytnfelcmlegenoaa.Pure
open Go.RowKit Go.Proofs.Ytnfelcmlegenoaa.PFnExactWalk Go.Proofs.Ytnfelcmlegenoaa.VFnExactWalk Go.Proofs.YtnfelcmlegenoaaW.PrintWords Go.Proofs.YtnfelcmlegenoaaW.PrintLast Go.Proofs.YtnfelcmlegenoaaV
set_option linter.unusedVariables false
set_option linter.unusedSimpArgs false
set_option maxRecDepth 20000

/-! ### laws_szStringS -/
def szl_StringS (l : List ByteArray) : Nat := l.length + (l.map (fun x => ByteArray.size x)).sum
theorem sz_StringS_l0 (l : List ByteArray) (hG : ∀ x ∈ l, x.size ≤ 9223372036854775807) (hl : l.length ≤ 9223372036854775807) (d : Nat) : ∀ (i : Nat) (left : Int), i + d = l.length → 0 ≤ left → left ≤ 1048576 →
    ∃ t, Ev (fun k => laws_szStringS.l0 k l left (i : Int)) t ∧ (t < 0 ∨ 0 ≤ t ∧ t + (((l.drop i).map (fun x => ByteArray.size x)).sum : Nat) = left) := by
  induction d with
  | zero =>
    intro i left hi h0 h1
    refine ⟨left, ev_step (fun k => laws_szStringS.l0.eq_2 ..) (ev_neg (by omega) (ev_now _)), .inr ⟨h0, ?_⟩⟩
    rw [List.drop_of_length_le (by omega)]
    simp
  | succ d ih =>
    intro i left hi h0 h1
    have hlt : i < l.length := by omega
    have hg := hG l[i] (List.getElem_mem hlt)
    have hd : l.drop i = l[i] :: l.drop (i + 1) := List.drop_eq_getElem_cons hlt
    have hr : rdOf ByteArray.empty l (i : Int) = l[i] := rdOf_nth _ l i hlt
    have e1 : wrap64 (left - (l[i].size : Int)) = left - (l[i].size : Int) := w64 (by omega) (by omega)
    by_cases hc : left - (l[i].size : Int) < 0
    · refine ⟨-1, ev_step (fun k => laws_szStringS.l0.eq_2 ..) (ev_pos (by omega) (ev_pos (by omega) ?_)), .inl (by omega)⟩
      rw [hr, e1]
      exact ev_pos hc (ev_now _)
    · obtain ⟨t, et, ct⟩ := ih (i + 1) (left - (l[i].size : Int)) (by omega) (by omega) (by omega)
      refine ⟨t, ev_step (fun k => laws_szStringS.l0.eq_2 ..) (ev_pos (by omega) (ev_pos (by omega) ?_)), ?_⟩
      · rw [hr, e1, w64 (by omega) (by omega)]
        exact ev_neg hc et
      · rw [hd, List.map_cons, List.sum_cons]
        omega
theorem sz_StringS (l : List ByteArray) (hl : l.length ≤ 9223372036854775807) (hG : ∀ x ∈ l, x.size ≤ 9223372036854775807) (left : Int) (h0 : 0 ≤ left) (h1 : left ≤ 1048576) :
    ∃ t, Ev (fun k => laws_szStringS.f k l left) t ∧ (t < 0 ∨ 0 ≤ t ∧ t + (szl_StringS l : Int) = left) := by
  unfold laws_szStringS.f szl_StringS
  have e : wrap64 (left - (l.length : Int)) = left - (l.length : Int) := w64 (by omega) (by omega)
  simp only [e]
  by_cases hc : left - (l.length : Int) < 0
  · exact ⟨-1, ev_pos hc (ev_now _), .inl (by omega)⟩
  · obtain ⟨t, et, ct⟩ := sz_StringS_l0 l hG hl l.length 0 (left - (l.length : Int)) (by omega) (by omega) (by omega)
    refine ⟨t, ev_neg hc et, ?_⟩
    rw [List.drop_zero] at ct
    omega

/-! ### spec_WordOf -/
/-- A query's word. -/
def wordV (q : ByteArray) : Int := if q.toList = ([98, 101, 103, 105, 110] : List UInt8) then 1 else if q.toList = ([99, 111, 109, 109, 105, 116] : List UInt8) then 2 else if q.toList = ([114, 111, 108, 108, 98, 97, 99, 107] : List UInt8) then 3 else if q.toList = ([102, 97, 105, 108] : List UInt8) then 4 else 0
theorem spec_WordOf_eq (q : ByteArray) : spec_WordOf.f q = some (wordV q) := by
  unfold spec_WordOf.f wordV
  repeat' split
  all_goals rfl

/-! ### spec_NextSt -/
/-- The status that a word leads to. -/
def nextV (st w : Int) : Int := if st = 0 then (if w = 1 then 1 else 0) else if st = 1 then (if w = 4 then 2 else if w = 2 ∨ w = 3 then 0 else 1) else if st = 2 then (if w = 2 ∨ w = 3 then 0 else 2) else 0
theorem spec_NextSt_ev (st w : Int) : Ev (fun k => spec_NextSt.f k st w) (nextV st w) := by
  have key : ∀ b : Bool, b = decide (w = 2 ∨ w = 3) → Ev (fun k => spec_NextSt.j0 k st w b) (nextV st w) := by
    intro b hb
    refine ev_step (fun k => spec_NextSt.j0.eq_2 ..) ?_
    refine ev_as (ev_eq (r := nextV st w) ?_) rfl
    unfold nextV
    by_cases s0 : st = 0
    · simp only [s0, if_true]
      split <;> rfl
    · simp only [s0, if_false]
      by_cases s1 : st = 1
      · simp only [s1, if_true]
        by_cases h4 : w = 4
        · simp [h4]
        · by_cases h2 : w = 2 ∨ w = 3 <;> simp [h4, h2, hb]
      · simp only [s1, if_false]
        by_cases s2 : st = 2
        · by_cases h2 : w = 2 ∨ w = 3 <;> simp [s2, h2, hb]
        · simp [s2]
  unfold spec_NextSt.f
  refine ev_ite (fun c => ?_) (fun c => ?_)
  · exact key true (by simp [c])
  · exact key _ (by simp [c]; rfl)

/-! ### spec_Walk -/
def walkV (st : Int) (l : List ByteArray) : Int := l.foldl (fun s q => nextV s (wordV q)) st
theorem spec_Walk_l0 (l : List ByteArray) (hl : l.length ≤ 4611686018427387904) (d : Nat) : ∀ (i : Nat) (st : Int), i + d = l.length → Ev (fun k => spec_Walk.l0 k l st (i : Int)) (walkV st (l.drop i)) := by
  induction d with
  | zero =>
    intro i st hi
    refine ev_step (fun k => spec_Walk.l0.eq_2 ..) (ev_neg (by omega) ?_)
    rw [List.drop_of_length_le (by omega)]
    exact ev_now _
  | succ d ih =>
    intro i st hi
    have hlt : i < l.length := by omega
    have hr : rdOf ByteArray.empty l (i : Int) = l[i] := rdOf_nth _ l i hlt
    have hd : l.drop i = l[i] :: l.drop (i + 1) := List.drop_eq_getElem_cons hlt
    refine ev_step (fun k => spec_Walk.l0.eq_2 ..) (ev_pos (by omega) (ev_pos (by omega) ?_))
    rw [hr, w64 (by omega) (by omega), hd]
    exact ev_bind1 (spec_WordOf_eq _) (ev_bind (spec_NextSt_ev _ _) (ih (i + 1) _ (by omega)))
theorem spec_Walk_ev (st : Int) (l : List ByteArray) (hl : l.length ≤ 4611686018427387904) : Ev (fun k => spec_Walk.f k st l) (walkV st l) := spec_Walk_l0 l hl l.length 0 st (by omega)

/-! ### laws_toStringS -/
theorem to_StringS_l0 (l : List ByteArray) (hs : szl_StringS l ≤ 1048576) (d : Nat) : ∀ (i : Nat) (x : List ByteArray), i + d = l.length → x.length = l.length → x.take i = (l).take i → Ev (fun k => laws_toStringS.l0 k l x (i : Int)) (l) := by
  have hl : l.length ≤ 1048576 := by unfold szl_StringS at hs; omega
  induction d with
  | zero =>
    intro i x hi hx ht
    refine ev_as (ev_step (fun k => laws_toStringS.l0.eq_2 ..) (ev_neg (by omega) (ev_now _))) ?_
    rw [List.take_of_length_le (by omega), List.take_of_length_le (by first | omega | (simp; omega))] at ht
    exact ht
  | succ d ih =>
    intro i x hi hx ht
    have hlt : i < l.length := by omega
    have hr : rdOf ByteArray.empty l (i : Int) = l[i] := rdOf_nth _ l i hlt
    refine ev_step (fun k => laws_toStringS.l0.eq_2 ..) (ev_pos (by omega) (ev_pos (by omega) ?_))
    refine ev_pos (by omega) ?_
    rw [hr, Int.toNat_natCast, w64 (by omega) (by omega)]
    exact ih (i + 1) _ (by omega) (by simp; omega) (take_set x l i _ (by omega) (by omega) ht rfl)
theorem to_StringS (l : List ByteArray) (hs : szl_StringS l ≤ 1048576) : Ev (fun k => laws_toStringS.f k l) (l) := by
  have hl : l.length ≤ 1048576 := by unfold szl_StringS at hs; omega
  unfold laws_toStringS.f
  refine ev_pos (by omega) (ev_pos (by simp; omega) ?_)
  exact to_StringS_l0 l hs l.length 0 _ (by omega) (by simp) (by simp)

/-! ### impl_WordOf -/
theorem impl_WordOf_eq (q : ByteArray) : impl_WordOf.f q = some (wordV q) := by
  unfold impl_WordOf.f wordV
  repeat' split
  all_goals rfl

/-! ### impl_NextSt -/
theorem impl_NextSt_ev (st w : Int) : Ev (fun k => impl_NextSt.f k st w) (nextV st w) := by
  have k2 : ∀ b c : Bool, Ev (fun k => impl_NextSt.j2 k st b c) (if c = true then 2 else if st = 1 ∨ st = 2 then (if b = true then 0 else st) else 0) := by
    intro b c
    refine ev_step (fun k => impl_NextSt.j2.eq_2 ..) ?_
    refine ev_as (ev_eq (r := (if c = true then 2 else if st = 1 ∨ st = 2 then (if b = true then 0 else st) else 0)) ?_) rfl
    by_cases hc : c = true
    · simp [hc]
    · by_cases s1 : st = 1
      · by_cases hb : b = true <;> simp [hc, s1, hb]
      · by_cases s2 : st = 2
        · by_cases hb : b = true <;> simp [hc, s2, hb]
        · simp [hc, s1, s2]
  have k1 : ∀ b c : Bool, Ev (fun k => impl_NextSt.j1 k st w b c) (if c = true then 1 else if st = 1 ∧ w = 4 then 2 else if st = 1 ∨ st = 2 then (if b = true then 0 else st) else 0) := by
    intro b c
    refine ev_step (fun k => impl_NextSt.j1.eq_2 ..) ?_
    refine ev_ite (fun hc => ?_) (fun hc => ev_ite (fun s1 => ?_) (fun s1 => ?_))
    · exact ev_as (ev_now _) (by simp [hc])
    · refine ev_as (k2 _ _) ?_
      by_cases h4 : w = 4 <;> simp [hc, s1, h4]
    · refine ev_as (k2 _ _) ?_
      simp [hc, s1]
  have key : ∀ b : Bool, b = decide (w = 2 ∨ w = 3) → Ev (fun k => impl_NextSt.j0 k st w b) (nextV st w) := by
    intro b hb
    refine ev_step (fun k => impl_NextSt.j0.eq_2 ..) ?_
    refine ev_ite (fun s0 => ?_) (fun s0 => ?_)
    · refine ev_as (k1 _ _) ?_
      by_cases h1 : w = 1 <;> simp [nextV, s0, h1]
    · refine ev_as (k1 _ _) ?_
      unfold nextV
      by_cases s1 : st = 1
      · by_cases h4 : w = 4
        · simp [s1, h4]
        · by_cases h2 : w = 2 ∨ w = 3 <;> simp [s1, h4, h2, hb]
      · by_cases s2 : st = 2
        · by_cases h2 : w = 2 ∨ w = 3 <;> simp [s2, h2, hb]
        · simp [s0, s1, s2]
  unfold impl_NextSt.f
  refine ev_ite (fun c => ?_) (fun c => ?_)
  · exact key true (by simp [c])
  · exact key _ (by simp [c]; rfl)

/-! ### impl_Walk -/
theorem impl_Walk_l0 (l : List ByteArray) (hl : l.length ≤ 4611686018427387904) (d : Nat) : ∀ (i : Nat) (st : Int), i + d = l.length → Ev (fun k => impl_Walk.l0 k st l (l.length : Int) (i : Int)) (walkV st (l.drop i)) := by
  induction d with
  | zero =>
    intro i st hi
    refine ev_step (fun k => impl_Walk.l0.eq_2 ..) (ev_neg (by omega) ?_)
    rw [List.drop_of_length_le (by omega)]
    exact ev_now _
  | succ d ih =>
    intro i st hi
    have hlt : i < l.length := by omega
    have hr : rdOf ByteArray.empty l (i : Int) = l[i] := rdOf_nth _ l i hlt
    have hd : l.drop i = l[i] :: l.drop (i + 1) := List.drop_eq_getElem_cons hlt
    refine ev_step (fun k => impl_Walk.l0.eq_2 ..) (ev_pos (by omega) (ev_pos (by omega) (ev_pos (by omega) ?_)))
    rw [hr, w64 (by omega) (by omega), hd]
    exact ev_bind1 (impl_WordOf_eq _) (ev_bind (impl_NextSt_ev _ _) (ih (i + 1) _ (by omega)))
theorem impl_Walk_ev (st : Int) (l : List ByteArray) (hl : l.length ≤ 4611686018427387904) : Ev (fun k => impl_Walk.f k st l) (walkV st l) := impl_Walk_l0 l hl l.length 0 st (by omega)

/-! ### laws_eqStringS -/
def eqcl_StringS (l : List ByteArray) : Prop := l.length ≤ 4611686018427387904
theorem eq_StringS_l0 (l : List ByteArray) (hq : eqcl_StringS l) (d : Nat) : ∀ i : Nat, i + d = l.length → Ev (fun k => laws_eqStringS.l0 k l l (i : Int)) true := by
  have hl : l.length ≤ 4611686018427387904 := hq
  induction d with
  | zero =>
    intro i hi
    exact ev_step (fun k => laws_eqStringS.l0.eq_2 ..) (ev_neg (by omega) (ev_now _))
  | succ d ih =>
    intro i hi
    have hn := ih (i + 1) (by omega)
    have hlt : i < l.length := by omega
    refine ev_step (fun k => laws_eqStringS.l0.eq_2 ..) (ev_pos (by omega) (ev_pos (by omega) (ev_pos (by omega) ?_)))
    rw [w64 (by omega) (by omega)]
    exact ev_pos rfl hn
theorem eq_StringS (l : List ByteArray) (hq : eqcl_StringS l) : Ev (fun k => laws_eqStringS.f k l l) true := by
  unfold laws_eqStringS.f
  exact ev_pos rfl (eq_StringS_l0 l hq l.length 0 (by omega))

theorem FnExactWalk : VFnExactWalk.Pure := by
  intro a l ha hl hG
  refine ev_rounds ?_
  unfold laws_FnExactWalk.f
  obtain ⟨t, et, ct⟩ := sz_StringS l hl hG 1048576 (by omega) (by omega)
  rcases ct with ct | ⟨ct, dt⟩
  · exact ev_bind et (ev_pos ct (ev_now _))
  have hs : szl_StringS l ≤ 1048576 := by omega
  have hto := to_StringS l hs
  have hl2 : l.length ≤ 4611686018427387904 := by
    unfold szl_StringS at hs
    omega
  exact ev_bind et (ev_neg (by omega) (ev_bind hto (ev_bind (spec_Walk_ev a l hl2) (ev_bind hto (ev_bind (impl_Walk_ev a l hl2) (ev_pos rfl (ev_bind hto (ev_bind (eq_StringS l hl2) (ev_pos rfl (ev_now _))))))))))
end Go.Proofs.Ytnfelcmlegenoaa.Pure
