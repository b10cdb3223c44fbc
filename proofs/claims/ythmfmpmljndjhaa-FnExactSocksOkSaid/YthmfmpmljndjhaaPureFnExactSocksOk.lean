/- The program's SocksOk answers as the reference's, whatever the sockets; the list stays as it is. -/
import Derived.Test.YthmfmpmljndjhaaVFnExactSocksOk
import Derived.Test.YthmfmpmljndjhaaVBase
import Derived.Test.YthmfmpmljndjhaaVExt
namespace Go.Proofs.Ythmfmpmljndjhaa.Pure
open Go.RowKit Go.Proofs.Ythmfmpmljndjhaa.PFnExactSocksOk Go.Proofs.Ythmfmpmljndjhaa.VFnExactSocksOk Go.Proofs.YthmfmpmljndjhaaW.PrintWords Go.Proofs.YthmfmpmljndjhaaW.PrintLast Go.Proofs.YthmfmpmljndjhaaV
set_option linter.unusedVariables false
set_option linter.unusedSimpArgs false
set_option maxRecDepth 20000

/-! ### laws_szByteS -/
def szl_ByteS (l : List Int) : Nat := l.length
theorem sz_ByteS (l : List Int) (hl : l.length ≤ 9223372036854775807) (left : Int) (h0 : 0 ≤ left) (h1 : left ≤ 1048576) :
    ∃ t, Ev (fun k => laws_szByteS.f l left) t ∧ (t < 0 ∨ 0 ≤ t ∧ t + (szl_ByteS l : Int) = left) := by
  unfold laws_szByteS.f szl_ByteS
  have e : wrap64 (left - (l.length : Int)) = left - (l.length : Int) := w64 (by omega) (by omega)
  simp only [e]
  by_cases hc : left - (l.length : Int) < 0
  · exact ⟨-1, ev_pos hc (ev_now _), .inl (by omega)⟩
  · exact ⟨_, ev_neg hc (ev_now _), .inr ⟨by omega, by omega⟩⟩

/-! ### laws_szSock -/
def szv_Sock (x : S48) : Nat := szl_ByteS x.f4 + szl_ByteS x.f5
theorem sz_Sock (x : S48) (hG : G48 x) (left : Int) (h0 : 0 ≤ left) (h1 : left ≤ 1048576) :
    ∃ t, Ev (fun k => laws_szSock.f x.f0 x.f1 x.f2 x.f3 x.f4 x.f5 x.f6 x.f7 left) t ∧ (t < 0 ∨ 0 ≤ t ∧ t + (szv_Sock x : Int) = left) := by
  obtain ⟨g0, g1, g2, g3, g4, g5, g6, g7⟩ := hG
  unfold laws_szSock.f szv_Sock
  obtain ⟨t4, et4, ct4⟩ := sz_ByteS x.f4 g4.1 (left) (by omega) (by omega)
  rcases ct4 with ct4 | ⟨ct4, dt4⟩
  · exact ⟨-1, ev_bind et4 (ev_pos ct4 (ev_now _)), .inl (by omega)⟩
  obtain ⟨t5, et5, ct5⟩ := sz_ByteS x.f5 g5.1 (t4) (by omega) (by omega)
  rcases ct5 with ct5 | ⟨ct5, dt5⟩
  · exact ⟨-1, ev_bind et4 (ev_neg (by omega) (ev_bind et5 (ev_pos ct5 (ev_now _)))), .inl (by omega)⟩
  exact ⟨_, ev_bind et4 (ev_neg (by omega) (ev_bind et5 (ev_neg (by omega) (ev_now _)))), .inr ⟨by omega, by omega⟩⟩

/-! ### laws_szSockS -/
def szl_SockS (l : List S48) : Nat := l.length + (l.map szv_Sock).sum
theorem sz_SockS_l0 (l : List S48) (hG : ∀ x ∈ l, G48 x) (hl : l.length ≤ 9223372036854775807) (d : Nat) : ∀ (i : Nat) (left : Int), i + d = l.length → 0 ≤ left → left ≤ 1048576 →
    ∃ t, Ev (fun k => laws_szSockS.l0 k l left (i : Int)) t ∧ (t < 0 ∨ 0 ≤ t ∧ t + (((l.drop i).map szv_Sock).sum : Nat) = left) := by
  induction d with
  | zero =>
    intro i left hi h0 h1
    refine ⟨left, ev_step (fun k => laws_szSockS.l0.eq_2 ..) (ev_neg (by omega) (ev_now _)), .inr ⟨h0, ?_⟩⟩
    rw [List.drop_of_length_le (by omega)]
    simp
  | succ d ih =>
    intro i left hi h0 h1
    have hlt : i < l.length := by omega
    have hg := hG l[i] (List.getElem_mem hlt)
    have hd : l.drop i = l[i] :: l.drop (i + 1) := List.drop_eq_getElem_cons hlt
    have hr : rd_T48 l (i : Int) = l[i] := getD_nth _ l i hlt
    obtain ⟨t1, et1, ct1⟩ := sz_Sock l[i] hg left h0 h1
    rcases ct1 with ct1 | ⟨ct1, dt1⟩
    · refine ⟨-1, ev_step (fun k => laws_szSockS.l0.eq_2 ..) (ev_pos (by omega) (ev_pos (by omega) ?_)), .inl (by omega)⟩
      simp only [hr]
      exact ev_bind et1 (ev_pos ct1 (ev_now _))
    · obtain ⟨t, et, ct⟩ := ih (i + 1) t1 (by omega) ct1 (by omega)
      refine ⟨t, ev_step (fun k => laws_szSockS.l0.eq_2 ..) (ev_pos (by omega) (ev_pos (by omega) ?_)), ?_⟩
      · simp only [hr]
        rw [w64 (by omega) (by omega)]
        exact ev_bind et1 (ev_neg (by omega) et)
      · rw [hd, List.map_cons, List.sum_cons]
        omega
theorem sz_SockS (l : List S48) (hl : l.length ≤ 9223372036854775807) (hG : ∀ x ∈ l, G48 x) (left : Int) (h0 : 0 ≤ left) (h1 : left ≤ 1048576) :
    ∃ t, Ev (fun k => laws_szSockS.f k l left) t ∧ (t < 0 ∨ 0 ≤ t ∧ t + (szl_SockS l : Int) = left) := by
  unfold laws_szSockS.f szl_SockS
  have e : wrap64 (left - (l.length : Int)) = left - (l.length : Int) := w64 (by omega) (by omega)
  simp only [e]
  by_cases hc : left - (l.length : Int) < 0
  · exact ⟨-1, ev_pos hc (ev_now _), .inl (by omega)⟩
  · obtain ⟨t, et, ct⟩ := sz_SockS_l0 l hG hl l.length 0 (left - (l.length : Int)) (by omega) (by omega) (by omega)
    refine ⟨t, ev_neg hc et, ?_⟩
    rw [List.drop_zero] at ct
    omega

/-! ### spec_l1In -/
theorem spec_l1In_eq (a b c : Int) : spec_l1In.f a b c = some (inB a b c) := by
  unfold spec_l1In.f inB
  by_cases h : b ≤ a <;> simp [h]

/-! ### spec_SockOk -/
/-- A socket as it has to be: number, kind, holders, what came in, what went out, status, what is done. -/
def sockB (id ki ho : Int) (inp out : List Int) (st dn : Int) : Bool :=
  inB id 1 9999 && (inB ho 1 3 && (!(decide ((inp.length : Int) > 240)) &&
    (if ki = 1 then st == 0 && dn == 0 else if ki = 2 then inB st 0 2 && inB dn 0 (out.length : Int) else false)))
theorem spec_SockOk_j0 (b : Bool) (x0 x1 x2 : Int) (x3 : Bool) (x4 x5 : List Int) (x6 x7 : Int) : Ev (fun k => spec_SockOk.j0 k b x0 x1 x2 x3 x4 x5 x6 x7)
    (!b && (if x1 = 1 then x6 == 0 && x7 == 0 else inB x6 0 2 && inB x7 0 (x5.length : Int))) := by
  refine ev_step (fun k => spec_SockOk.j0.eq_2 ..) ?_
  refine ev_ite (fun c => ?_) (fun c => ?_)
  · exact ev_as (ev_now _) (by simp [c])
  have hb : b = false := by simpa using c
  refine ev_ite (fun c1 => ev_ite (fun c2 => ?_) (fun c2 => ?_)) (fun c1 => ?_)
  · exact ev_as (ev_now _) (by simp [hb, c1, c2])
  · exact ev_as (ev_now _) (by simp [c1, c2])
  · refine ev_bind1 (spec_l1In_eq _ _ _) ?_
    refine ev_ite (fun c2 => ?_) (fun c2 => ?_)
    · exact ev_bind1 (spec_l1In_eq _ _ _) (ev_as (ev_now _) (by simp [hb, c1, c2]))
    · exact ev_as (ev_now _) (by simp [c1, c2])
theorem spec_SockOk_ev (x : S50) : Ev (fun k => spec_SockOk.f k x.f0 x.f1 x.f2 x.f3 x.f4 x.f5 x.f6 x.f7) (sockB x.f0 x.f1 x.f2 x.f4 x.f5 x.f6 x.f7) := by
  obtain ⟨x0, x1, x2, x3, x4, x5, x6, x7⟩ := x
  unfold spec_SockOk.f sockB
  have hk : inB x1 1 2 = true → (if x1 = 1 then x6 == 0 && x7 == 0 else inB x6 0 2 && inB x7 0 (x5.length : Int)) = (if x1 = 1 then x6 == 0 && x7 == 0 else if x1 = 2 then inB x6 0 2 && inB x7 0 (x5.length : Int) else false) := by
    intro h
    have := (inB_iff _ _ _).1 h
    by_cases e : x1 = 1
    · simp [e]
    · have e2 : x1 = 2 := by omega
      simp [e2]
  have hk2 : ¬ inB x1 1 2 = true → (if x1 = 1 then x6 == 0 && x7 == 0 else if x1 = 2 then inB x6 0 2 && inB x7 0 (x5.length : Int) else false) = false := by
    intro h
    have e1 : ¬ x1 = 1 := fun e => h (by rw [e]; rfl)
    have e2 : ¬ x1 = 2 := fun e => h (by rw [e]; rfl)
    simp [e1, e2]
  refine ev_bind1 (spec_l1In_eq _ _ _) ?_
  refine ev_ite (fun c => ?_) (fun c => ?_)
  · refine ev_bind1 (spec_l1In_eq _ _ _) ?_
    refine ev_ite (fun c2 => ?_) (fun c2 => ?_)
    · refine ev_bind1 (spec_l1In_eq _ _ _) ?_
      refine ev_ite (fun c3 => ?_) (fun c3 => ?_)
      · exact ev_as (spec_SockOk_j0 ..) (by rw [c, c3, hk c2]; simp)
      · exact ev_as (spec_SockOk_j0 ..) (by simp [c3])
    · exact ev_as (spec_SockOk_j0 ..) (by simp only [hk2 c2]; simp)
  · exact ev_as (spec_SockOk_j0 ..) (by simp [c])

/-! ### spec_SocksOk -/
/-- Socket i of a list as it has to be: well, and its number above that of the one before. -/
def sockAtB (l : List S50) (i : Int) : Bool := sockB (rd_T50 l i).f0 (rd_T50 l i).f1 (rd_T50 l i).f2 (rd_T50 l i).f4 (rd_T50 l i).f5 (rd_T50 l i).f6 (rd_T50 l i).f7 && !(decide (i > 0) && decide ((rd_T50 l i).f0 ≤ (rd_T50 l (i - 1)).f0))
def socksB (l : List S50) : Bool := allF (sockAtB l) 0 l.length && decide ((l.length : Int) ≤ 12)
theorem spec_SocksOk_l0 (l : List S50) (hl : l.length ≤ 4611686018427387904) (d : Nat) : ∀ i : Int, 0 ≤ i → i + d = l.length → Ev (fun k => spec_SocksOk.l0 k l i) (allF (sockAtB l) i d && decide ((l.length : Int) ≤ 12)) := by
  induction d with
  | zero =>
    intro i h0 h1
    exact ev_step (fun k => spec_SocksOk.l0.eq_2 ..) (ev_neg (by omega) (ev_as (ev_now _) (by simp [allF])))
  | succ d ih =>
    intro i h0 h1
    have hn := ih (i + 1) (by omega) (by omega)
    refine ev_step (fun k => spec_SocksOk.l0.eq_2 ..) (ev_pos (by omega) (ev_pos (by omega) (ev_bind (spec_SockOk_ev _) ?_)))
    have e1 : wrap64 (i + 1) = i + 1 := w64 (by omega) (by omega)
    have e2 : wrap64 (i - 1) = i - 1 := w64 (by omega) (by omega)
    simp only [e1, e2]
    rw [allF]
    refine ev_ite (fun c => ev_ite (fun c1 => ev_pos (by omega) (ev_pos (by omega) (ev_ite (fun c2 => ?_) (fun c2 => ?_)))) (fun c1 => ?_)) (fun c => ?_)
    · refine ev_as (ev_now _) ?_
      have : sockAtB l i = false := by unfold sockAtB; rw [c, decide_eq_true c1, decide_eq_true (by omega)]; rfl
      rw [this]; rfl
    · refine ev_as hn ?_
      have : sockAtB l i = true := by unfold sockAtB; rw [c, decide_eq_true c1, decide_eq_false (by omega)]; rfl
      rw [this]; rfl
    · refine ev_as hn ?_
      have : sockAtB l i = true := by unfold sockAtB; rw [c, decide_eq_false c1]; rfl
      rw [this]; rfl
    · refine ev_as (ev_now _) ?_
      have : sockAtB l i = false := by unfold sockAtB; rw [Bool.eq_false_iff.2 c]; rfl
      rw [this]; rfl
theorem spec_SocksOk_ev (l : List S50) (hl : l.length ≤ 4611686018427387904) : Ev (fun k => spec_SocksOk.f k l) (socksB l) := spec_SocksOk_l0 l hl l.length 0 (by omega) (by omega)

/-! ### laws_toByteS -/
theorem to_ByteS_l0 (l : List Int) (hs : szl_ByteS l ≤ 1048576) (d : Nat) : ∀ (i : Nat) (x : List Int), i + d = l.length → x.length = l.length → x.take i = (l).take i → Ev (fun k => laws_toByteS.l0 k l x (i : Int)) (l) := by
  have hl : l.length ≤ 1048576 := by unfold szl_ByteS at hs; omega
  induction d with
  | zero =>
    intro i x hi hx ht
    refine ev_as (ev_step (fun k => laws_toByteS.l0.eq_2 ..) (ev_neg (by omega) (ev_now _))) ?_
    rw [List.take_of_length_le (by omega), List.take_of_length_le (by first | omega | (simp; omega))] at ht
    exact ht
  | succ d ih =>
    intro i x hi hx ht
    have hlt : i < l.length := by omega
    have hr : rd l (i : Int) = l[i] := rd_nth l i hlt
    refine ev_step (fun k => laws_toByteS.l0.eq_2 ..) (ev_pos (by omega) (ev_pos (by omega) ?_))
    refine ev_pos (by omega) ?_
    rw [hr, Int.toNat_natCast, w64 (by omega) (by omega)]
    exact ih (i + 1) _ (by omega) (by simp; omega) (take_set x l i _ (by omega) (by omega) ht rfl)
theorem to_ByteS (l : List Int) (hs : szl_ByteS l ≤ 1048576) : Ev (fun k => laws_toByteS.f k l) (l) := by
  have hl : l.length ≤ 1048576 := by unfold szl_ByteS at hs; omega
  unfold laws_toByteS.f
  refine ev_pos (by omega) (ev_pos (by simp; omega) ?_)
  exact to_ByteS_l0 l hs l.length 0 _ (by omega) (by simp) (by simp)

/-! ### laws_toSock -/
def cv_Sock (x : S48) : S50 := ⟨x.f0, x.f1, x.f2, x.f3, x.f4, x.f5, x.f6, x.f7⟩
theorem to_Sock (x : S48) (hs : szv_Sock x ≤ 1048576) : Ev (fun k => laws_toSock.f k x.f0 x.f1 x.f2 x.f3 x.f4 x.f5 x.f6 x.f7) ((cv_Sock x).f0, (cv_Sock x).f1, (cv_Sock x).f2, (cv_Sock x).f3, (cv_Sock x).f4, (cv_Sock x).f5, (cv_Sock x).f6, (cv_Sock x).f7) := by
  unfold szv_Sock at hs
  unfold laws_toSock.f
  refine ev_bind (to_ByteS x.f4 (by omega)) ?_
  refine ev_bind (to_ByteS x.f5 (by omega)) ?_
  exact ev_now _

/-! ### laws_toSockS -/
theorem to_SockS_l0 (l : List S48) (hs : szl_SockS l ≤ 1048576) (d : Nat) : ∀ (i : Nat) (x : List S50), i + d = l.length → x.length = l.length → x.take i = (l.map cv_Sock).take i → Ev (fun k => laws_toSockS.l0 k l x (i : Int)) (l.map cv_Sock) := by
  have hl : l.length ≤ 1048576 := by unfold szl_SockS at hs; omega
  induction d with
  | zero =>
    intro i x hi hx ht
    refine ev_as (ev_step (fun k => laws_toSockS.l0.eq_2 ..) (ev_neg (by omega) (ev_now _))) ?_
    rw [List.take_of_length_le (by omega), List.take_of_length_le (by first | omega | (simp; omega))] at ht
    exact ht
  | succ d ih =>
    intro i x hi hx ht
    have hlt : i < l.length := by omega
    have hr : rd_T48 l (i : Int) = l[i] := getD_nth _ l i hlt
    refine ev_step (fun k => laws_toSockS.l0.eq_2 ..) (ev_pos (by omega) (ev_pos (by omega) ?_))
    have he := to_Sock l[i] (by have := mem_sum szv_Sock l l[i] (List.getElem_mem hlt); unfold szl_SockS at hs; omega)
    simp only [hr]
    refine ev_bind he ?_
    refine ev_pos (by omega) ?_
    rw [Int.toNat_natCast, w64 (by omega) (by omega)]
    exact ih (i + 1) _ (by omega) (by simp; omega) (take_set x (l.map cv_Sock) i _ (by first | omega | (simp; omega)) (by first | omega | (simp; omega)) ht (by first | (simp; done) | (simp; rfl) | rfl))
theorem to_SockS (l : List S48) (hs : szl_SockS l ≤ 1048576) : Ev (fun k => laws_toSockS.f k l) (l.map cv_Sock) := by
  have hl : l.length ≤ 1048576 := by unfold szl_SockS at hs; omega
  unfold laws_toSockS.f
  refine ev_pos (by omega) (ev_pos (by simp; omega) ?_)
  exact to_SockS_l0 l hs l.length 0 _ (by omega) (by simp) (by simp)

/-! ### impl_isIn -/
theorem impl_isIn_eq (a b c : Int) : impl_isIn.f a b c = some (inB a b c) := by
  unfold impl_isIn.f inB
  by_cases h : b ≤ a <;> simp [h]

/-! ### impl_sockIdOk -/
theorem impl_sockIdOk_eq (a : Int) : impl_sockIdOk.f a = some (inB a 1 9999) := by
  unfold impl_sockIdOk.f
  rw [impl_isIn_eq]
  rfl

/-! ### impl_SockOk -/
theorem impl_SockOk_j0 (b : Bool) (x0 x1 x2 : Int) (x3 : Bool) (x4 x5 : List Int) (x6 x7 : Int) : Ev (fun k => impl_SockOk.j0 k b x0 x1 x2 x3 x4 x5 x6 x7)
    (!b && (if x1 = 1 then x6 == 0 && x7 == 0 else if x1 = 2 then inB x6 0 2 && inB x7 0 (x5.length : Int) else false)) := by
  refine ev_step (fun k => impl_SockOk.j0.eq_2 ..) ?_
  refine ev_ite (fun c => ?_) (fun c => ?_)
  · exact ev_as (ev_now _) (by simp [c])
  have hb : b = false := by simpa using c
  refine ev_ite (fun c1 => ev_ite (fun c2 => ?_) (fun c2 => ?_)) (fun c1 => ev_ite (fun c2 => ?_) (fun c2 => ?_))
  · exact ev_as (ev_now _) (by simp [hb, c1, c2])
  · exact ev_as (ev_now _) (by simp [c1, c2])
  · refine ev_bind1 (impl_isIn_eq _ _ _) ?_
    refine ev_ite (fun c3 => ?_) (fun c3 => ?_)
    · exact ev_bind1 (impl_isIn_eq _ _ _) (ev_as (ev_now _) (by simp [hb, c2, c3]))
    · exact ev_as (ev_now _) (by simp [c2, c3])
  · exact ev_as (ev_now _) (by simp [c1, c2])
theorem impl_SockOk_ev (x : S50) : Ev (fun k => impl_SockOk.f k x.f0 x.f1 x.f2 x.f3 x.f4 x.f5 x.f6 x.f7) (sockB x.f0 x.f1 x.f2 x.f4 x.f5 x.f6 x.f7) := by
  obtain ⟨x0, x1, x2, x3, x4, x5, x6, x7⟩ := x
  unfold impl_SockOk.f sockB
  refine ev_bind1 (impl_sockIdOk_eq _) ?_
  refine ev_ite (fun c => ?_) (fun c => ?_)
  · refine ev_bind1 (impl_isIn_eq _ _ _) ?_
    refine ev_ite (fun c2 => ?_) (fun c2 => ?_)
    · exact ev_as (impl_SockOk_j0 ..) (by rw [c, c2]; simp)
    · exact ev_as (impl_SockOk_j0 ..) (by simp [c2])
  · exact ev_as (impl_SockOk_j0 ..) (by simp [c])

/-! ### impl_SocksOk -/
theorem impl_SocksOk_l0 (l : List S50) (hl : l.length ≤ 4611686018427387904) (d : Nat) : ∀ i : Int, 0 ≤ i → i + d = l.length → Ev (fun k => impl_SocksOk.l0 k l l (l.length : Int) i) (allF (sockAtB l) i d && decide ((l.length : Int) ≤ 12)) := by
  induction d with
  | zero =>
    intro i h0 h1
    exact ev_step (fun k => impl_SocksOk.l0.eq_2 ..) (ev_neg (by omega) (ev_as (ev_now _) (by simp [allF])))
  | succ d ih =>
    intro i h0 h1
    have hn := ih (i + 1) (by omega) (by omega)
    refine ev_step (fun k => impl_SocksOk.l0.eq_2 ..) (ev_pos (by omega) (ev_pos (by omega) (ev_pos (by omega) (ev_bind (impl_SockOk_ev _) ?_))))
    have e1 : wrap64 (i + 1) = i + 1 := w64 (by omega) (by omega)
    have e2 : wrap64 (i - 1) = i - 1 := w64 (by omega) (by omega)
    simp only [e1, e2]
    rw [allF]
    refine ev_ite (fun c => ev_ite (fun c1 => ev_pos (by omega) (ev_pos (by omega) (ev_ite (fun c2 => ?_) (fun c2 => ?_)))) (fun c1 => ?_)) (fun c => ?_)
    · refine ev_as (ev_now _) ?_
      have : sockAtB l i = false := by unfold sockAtB; rw [c, decide_eq_true c1, decide_eq_true (by omega)]; rfl
      rw [this]; rfl
    · refine ev_as hn ?_
      have : sockAtB l i = true := by unfold sockAtB; rw [c, decide_eq_true c1, decide_eq_false (by omega)]; rfl
      rw [this]; rfl
    · refine ev_as hn ?_
      have : sockAtB l i = true := by unfold sockAtB; rw [c, decide_eq_false c1]; rfl
      rw [this]; rfl
    · refine ev_as (ev_now _) ?_
      have : sockAtB l i = false := by unfold sockAtB; rw [Bool.eq_false_iff.2 c]; rfl
      rw [this]; rfl
theorem impl_SocksOk_ev (l : List S50) (hl : l.length ≤ 4611686018427387904) : Ev (fun k => impl_SocksOk.f k l) (socksB l) := impl_SocksOk_l0 l hl l.length 0 (by omega) (by omega)

/-! ### laws_eqByteS -/
def eqcl_ByteS (l : List Int) : Prop := l.length ≤ 4611686018427387904
theorem eq_ByteS_l0 (l : List Int) (hq : eqcl_ByteS l) (d : Nat) : ∀ i : Nat, i + d = l.length → Ev (fun k => laws_eqByteS.l0 k l l (i : Int)) true := by
  have hl : l.length ≤ 4611686018427387904 := hq
  induction d with
  | zero =>
    intro i hi
    exact ev_step (fun k => laws_eqByteS.l0.eq_2 ..) (ev_neg (by omega) (ev_now _))
  | succ d ih =>
    intro i hi
    have hn := ih (i + 1) (by omega)
    have hlt : i < l.length := by omega
    refine ev_step (fun k => laws_eqByteS.l0.eq_2 ..) (ev_pos (by omega) (ev_pos (by omega) (ev_pos (by omega) ?_)))
    rw [w64 (by omega) (by omega)]
    exact ev_pos rfl hn
theorem eq_ByteS (l : List Int) (hq : eqcl_ByteS l) : Ev (fun k => laws_eqByteS.f k l l) true := by
  unfold laws_eqByteS.f
  exact ev_pos rfl (eq_ByteS_l0 l hq l.length 0 (by omega))

/-! ### laws_eqSock -/
def eqc_Sock (x : S50) : Prop := eqcl_ByteS x.f4 ∧ eqcl_ByteS x.f5
theorem eq_Sock (x : S50) (hq : eqc_Sock x) : Ev (fun k => laws_eqSock.f k x.f0 x.f1 x.f2 x.f3 x.f4 x.f5 x.f6 x.f7 x.f0 x.f1 x.f2 x.f3 x.f4 x.f5 x.f6 x.f7) true := by
  unfold laws_eqSock.f
  exact ev_pos rfl (ev_pos rfl (ev_pos rfl (ev_neg (by simp) (ev_bind (eq_ByteS x.f4 (hq.1)) (ev_pos rfl (ev_bind (eq_ByteS x.f5 (hq.2)) (ev_pos rfl (ev_pos rfl (ev_pos rfl (ev_now _))))))))))

/-! ### laws_eqSockS -/
def eqcl_SockS (l : List S50) : Prop := l.length ≤ 4611686018427387904 ∧ ∀ x ∈ l, eqc_Sock x
theorem eq_SockS_l0 (l : List S50) (hq : eqcl_SockS l) (d : Nat) : ∀ i : Nat, i + d = l.length → Ev (fun k => laws_eqSockS.l0 k l l (i : Int)) true := by
  have hl : l.length ≤ 4611686018427387904 := hq.1
  induction d with
  | zero =>
    intro i hi
    exact ev_step (fun k => laws_eqSockS.l0.eq_2 ..) (ev_neg (by omega) (ev_now _))
  | succ d ih =>
    intro i hi
    have hn := ih (i + 1) (by omega)
    have hlt : i < l.length := by omega
    refine ev_step (fun k => laws_eqSockS.l0.eq_2 ..) (ev_pos (by omega) (ev_pos (by omega) (ev_pos (by omega) ?_)))
    rw [w64 (by omega) (by omega)]
    have hr : rd_T50 l (i : Int) = l[i] := getD_nth _ l i hlt
    simp only [hr]
    exact ev_bind (eq_Sock _ (hq.2 _ (List.getElem_mem hlt))) (ev_pos rfl hn)
theorem eq_SockS (l : List S50) (hq : eqcl_SockS l) : Ev (fun k => laws_eqSockS.f k l l) true := by
  unfold laws_eqSockS.f
  exact ev_pos rfl (eq_SockS_l0 l hq l.length 0 (by omega))

theorem FnExactSocksOk : VFnExactSocksOk.Pure := by
  intro l hl hG
  refine ev_rounds ?_
  unfold laws_FnExactSocksOk.f
  obtain ⟨t, et, ct⟩ := sz_SockS l hl hG 1048576 (by omega) (by omega)
  rcases ct with ct | ⟨ct, dt⟩
  · exact ev_bind et (ev_pos ct (ev_now _))
  have hs : szl_SockS l ≤ 1048576 := by omega
  have hto := to_SockS l hs
  have hl2 : (l.map cv_Sock).length ≤ 4611686018427387904 := by
    unfold szl_SockS at hs
    simp
    omega
  have hq : eqcl_SockS (l.map cv_Sock) := ⟨hl2, fun y hy => by
    obtain ⟨z, hz, rfl⟩ := List.mem_map.1 hy
    have h1 := mem_sum szv_Sock l z hz
    have h2 : szv_Sock z ≤ 1048576 := by unfold szl_SockS at hs; omega
    unfold szv_Sock szl_ByteS at h2
    show z.f4.length ≤ _ ∧ z.f5.length ≤ _
    omega⟩
  exact ev_bind et (ev_neg (by omega) (ev_bind hto (ev_bind (spec_SocksOk_ev _ hl2) (ev_bind hto (ev_bind (impl_SocksOk_ev _ hl2) (ev_neg (by simp) (ev_bind hto (ev_bind (eq_SockS _ hq) (ev_pos rfl (ev_now _))))))))))
end Go.Proofs.Ythmfmpmljndjhaa.Pure
