/- The program's Hear answers as the reference's, whatever the socket and the bytes; what came in stays as it is, and the answer's slices are its own. -/
import Derived.Test.YthmfmpmljndjhaaVFnExactHear
import Derived.Test.YthmfmpmljndjhaaVBase
import Derived.Test.YthmfmpmljndjhaaVExt
import Derived.Test.YthmfmpmljndjhaaVMark
namespace Go.Proofs.Ythmfmpmljndjhaa.Pure
open Go.RowKit Go.Proofs.Ythmfmpmljndjhaa.PFnExactHear Go.Proofs.Ythmfmpmljndjhaa.VFnExactHear Go.Proofs.YthmfmpmljndjhaaW.PrintWords Go.Proofs.YthmfmpmljndjhaaW.PrintLast Go.Proofs.YthmfmpmljndjhaaV
set_option linter.unusedVariables false
set_option linter.unusedSimpArgs false
set_option maxRecDepth 20000

/-! ### laws_szByteS -/
def szl_ByteS (l : List Int) : Nat := l.length
theorem sz_ByteS (l : List Int) (hl : l.length ≤ 9223372036854775807) (left : Int) (h0 : 0 ≤ left) (h1 : left ≤ 1048576) :
    ∃ t, Ev (fun k => laws_szByteS.f l left) t ∧ (t < 0 ∨ 0 ≤ t ∧ t + (szl_ByteS l : Int) = left) := by
  unfold laws_szByteS.f szl_ByteS
  have e : wrap64 (left - (l.length : Int)) = left - (l.length : Int) := w64 (by omega) (by omega)
  simp only [e]
  by_cases hc : left - (l.length : Int) < 0
  · exact ⟨-1, ev_pos hc (ev_now _), .inl (by omega)⟩
  · exact ⟨_, ev_neg hc (ev_now _), .inr ⟨by omega, by omega⟩⟩

/-! ### laws_szSock -/
def szv_Sock (x : S48) : Nat := szl_ByteS x.f4 + szl_ByteS x.f5
theorem sz_Sock (x : S48) (hG : G48 x) (left : Int) (h0 : 0 ≤ left) (h1 : left ≤ 1048576) :
    ∃ t, Ev (fun k => laws_szSock.f x.f0 x.f1 x.f2 x.f3 x.f4 x.f5 x.f6 x.f7 left) t ∧ (t < 0 ∨ 0 ≤ t ∧ t + (szv_Sock x : Int) = left) := by
  obtain ⟨g0, g1, g2, g3, g4, g5, g6, g7⟩ := hG
  unfold laws_szSock.f szv_Sock
  obtain ⟨t4, et4, ct4⟩ := sz_ByteS x.f4 g4.1 (left) (by omega) (by omega)
  rcases ct4 with ct4 | ⟨ct4, dt4⟩
  · exact ⟨-1, ev_bind et4 (ev_pos ct4 (ev_now _)), .inl (by omega)⟩
  obtain ⟨t5, et5, ct5⟩ := sz_ByteS x.f5 g5.1 (t4) (by omega) (by omega)
  rcases ct5 with ct5 | ⟨ct5, dt5⟩
  · exact ⟨-1, ev_bind et4 (ev_neg (by omega) (ev_bind et5 (ev_pos ct5 (ev_now _)))), .inl (by omega)⟩
  exact ⟨_, ev_bind et4 (ev_neg (by omega) (ev_bind et5 (ev_neg (by omega) (ev_now _)))), .inr ⟨by omega, by omega⟩⟩

/-! ### spec_l1In -/
theorem spec_l1In_eq (a b c : Int) : spec_l1In.f a b c = some (inB a b c) := by
  unfold spec_l1In.f inB
  by_cases h : b ≤ a <;> simp [h]

/-! ### spec_SockOk -/
/-- A socket as it has to be: number, kind, holders, what came in, what went out, status, what is done. -/
def sockB (id ki ho : Int) (inp out : List Int) (st dn : Int) : Bool :=
  inB id 1 9999 && (inB ho 1 3 && (!(decide ((inp.length : Int) > 240)) &&
    (if ki = 1 then st == 0 && dn == 0 else if ki = 2 then inB st 0 2 && inB dn 0 (out.length : Int) else false)))
theorem spec_SockOk_j0 (b : Bool) (x0 x1 x2 : Int) (x3 : Bool) (x4 x5 : List Int) (x6 x7 : Int) : Ev (fun k => spec_SockOk.j0 k b x0 x1 x2 x3 x4 x5 x6 x7)
    (!b && (if x1 = 1 then x6 == 0 && x7 == 0 else inB x6 0 2 && inB x7 0 (x5.length : Int))) := by
  refine ev_step (fun k => spec_SockOk.j0.eq_2 ..) ?_
  refine ev_ite (fun c => ?_) (fun c => ?_)
  · exact ev_as (ev_now _) (by simp [c])
  have hb : b = false := by simpa using c
  refine ev_ite (fun c1 => ev_ite (fun c2 => ?_) (fun c2 => ?_)) (fun c1 => ?_)
  · exact ev_as (ev_now _) (by simp [hb, c1, c2])
  · exact ev_as (ev_now _) (by simp [c1, c2])
  · refine ev_bind1 (spec_l1In_eq _ _ _) ?_
    refine ev_ite (fun c2 => ?_) (fun c2 => ?_)
    · exact ev_bind1 (spec_l1In_eq _ _ _) (ev_as (ev_now _) (by simp [hb, c1, c2]))
    · exact ev_as (ev_now _) (by simp [c1, c2])
theorem spec_SockOk_ev (x : S50) : Ev (fun k => spec_SockOk.f k x.f0 x.f1 x.f2 x.f3 x.f4 x.f5 x.f6 x.f7) (sockB x.f0 x.f1 x.f2 x.f4 x.f5 x.f6 x.f7) := by
  obtain ⟨x0, x1, x2, x3, x4, x5, x6, x7⟩ := x
  unfold spec_SockOk.f sockB
  have hk : inB x1 1 2 = true → (if x1 = 1 then x6 == 0 && x7 == 0 else inB x6 0 2 && inB x7 0 (x5.length : Int)) = (if x1 = 1 then x6 == 0 && x7 == 0 else if x1 = 2 then inB x6 0 2 && inB x7 0 (x5.length : Int) else false) := by
    intro h
    have := (inB_iff _ _ _).1 h
    by_cases e : x1 = 1
    · simp [e]
    · have e2 : x1 = 2 := by omega
      simp [e2]
  have hk2 : ¬ inB x1 1 2 = true → (if x1 = 1 then x6 == 0 && x7 == 0 else if x1 = 2 then inB x6 0 2 && inB x7 0 (x5.length : Int) else false) = false := by
    intro h
    have e1 : ¬ x1 = 1 := fun e => h (by rw [e]; rfl)
    have e2 : ¬ x1 = 2 := fun e => h (by rw [e]; rfl)
    simp [e1, e2]
  refine ev_bind1 (spec_l1In_eq _ _ _) ?_
  refine ev_ite (fun c => ?_) (fun c => ?_)
  · refine ev_bind1 (spec_l1In_eq _ _ _) ?_
    refine ev_ite (fun c2 => ?_) (fun c2 => ?_)
    · refine ev_bind1 (spec_l1In_eq _ _ _) ?_
      refine ev_ite (fun c3 => ?_) (fun c3 => ?_)
      · exact ev_as (spec_SockOk_j0 ..) (by rw [c, c3, hk c2]; simp)
      · exact ev_as (spec_SockOk_j0 ..) (by simp [c3])
    · exact ev_as (spec_SockOk_j0 ..) (by simp only [hk2 c2]; simp)
  · exact ev_as (spec_SockOk_j0 ..) (by simp [c])

/-! ### spec_l8Copy -/
theorem spec_l8Copy_eq (x : S50) (h4 : x.f4.length ≤ 1000000000000) (h5 : x.f5.length ≤ 1000000000000) : spec_l8Copy.f x.f0 x.f1 x.f2 x.f3 x.f4 x.f5 x.f6 x.f7 = some (x.f0, x.f1, x.f2, x.f3, x.f4, x.f5, x.f6, x.f7) := by
  unfold spec_l8Copy.f
  simp only [Option.bind_some, List.nil_append, List.length_nil]
  rw [if_pos (by omega), if_pos (by omega)]

/-! ### spec_Hear -/
/-- What a socket is after it heard some bytes, and whether it took them. -/
def hearV (x : S50) (b : List Int) : S50 × Bool :=
  if sockB x.f0 x.f1 x.f2 x.f4 x.f5 x.f6 x.f7 = true ∧ x.f3 = false ∧ ¬ ((x.f4.length : Int) + (b.length : Int) > 240) then (⟨x.f0, x.f1, x.f2, x.f3, x.f4 ++ b, x.f5, x.f6, x.f7⟩, true) else (x, false)
theorem spec_Hear_ev (x : S50) (b : List Int) (h4 : x.f4.length ≤ 1000000000000) (h5 : x.f5.length ≤ 1000000000000) (hb : b.length ≤ 1000000000000) :
    Ev (fun k => spec_Hear.f k x.f0 x.f1 x.f2 x.f3 x.f4 x.f5 x.f6 x.f7 b) ((hearV x b).1.f0, (hearV x b).1.f1, (hearV x b).1.f2, (hearV x b).1.f3, (hearV x b).1.f4, (hearV x b).1.f5, (hearV x b).1.f6, (hearV x b).1.f7, (hearV x b).2) := by
  unfold spec_Hear.f hearV
  have w : wrap64 (240 - (x.f4.length : Int)) = 240 - (x.f4.length : Int) := w64 (by omega) (by omega)
  simp only [w]
  refine ev_bind1 (spec_l8Copy_eq x h4 h5) (ev_bind (spec_SockOk_ev x) (ev_ite (fun c => ev_ite (fun c2 => ?_) (fun c2 => ev_ite (fun c3 => ?_) (fun c3 => ev_pos (by show x.f4.length + b.length < _; omega) ?_))) (fun c => ?_)))
  · exact ev_as (ev_now _) (by rw [if_neg (fun h => by rw [c2] at h; exact absurd h.2.1 (by decide))])
  · exact ev_as (ev_now _) (by rw [if_neg (fun h => h.2.2 (by omega))])
  · exact ev_as (ev_now _) (by rw [if_pos ⟨c, by simpa using c2, by omega⟩])
  · exact ev_as (ev_now _) (by rw [if_neg (fun h => c h.1)])

/-! ### laws_toByteS -/
theorem to_ByteS_l0 (l : List Int) (hs : szl_ByteS l ≤ 1048576) (d : Nat) : ∀ (i : Nat) (x : List Int), i + d = l.length → x.length = l.length → x.take i = (l).take i → Ev (fun k => laws_toByteS.l0 k l x (i : Int)) (l) := by
  have hl : l.length ≤ 1048576 := by unfold szl_ByteS at hs; omega
  induction d with
  | zero =>
    intro i x hi hx ht
    refine ev_as (ev_step (fun k => laws_toByteS.l0.eq_2 ..) (ev_neg (by omega) (ev_now _))) ?_
    rw [List.take_of_length_le (by omega), List.take_of_length_le (by first | omega | (simp; omega))] at ht
    exact ht
  | succ d ih =>
    intro i x hi hx ht
    have hlt : i < l.length := by omega
    have hr : rd l (i : Int) = l[i] := rd_nth l i hlt
    refine ev_step (fun k => laws_toByteS.l0.eq_2 ..) (ev_pos (by omega) (ev_pos (by omega) ?_))
    refine ev_pos (by omega) ?_
    rw [hr, Int.toNat_natCast, w64 (by omega) (by omega)]
    exact ih (i + 1) _ (by omega) (by simp; omega) (take_set x l i _ (by omega) (by omega) ht rfl)
theorem to_ByteS (l : List Int) (hs : szl_ByteS l ≤ 1048576) : Ev (fun k => laws_toByteS.f k l) (l) := by
  have hl : l.length ≤ 1048576 := by unfold szl_ByteS at hs; omega
  unfold laws_toByteS.f
  refine ev_pos (by omega) (ev_pos (by simp; omega) ?_)
  exact to_ByteS_l0 l hs l.length 0 _ (by omega) (by simp) (by simp)

/-! ### laws_toSock -/
def cv_Sock (x : S48) : S50 := ⟨x.f0, x.f1, x.f2, x.f3, x.f4, x.f5, x.f6, x.f7⟩
theorem to_Sock (x : S48) (hs : szv_Sock x ≤ 1048576) : Ev (fun k => laws_toSock.f k x.f0 x.f1 x.f2 x.f3 x.f4 x.f5 x.f6 x.f7) ((cv_Sock x).f0, (cv_Sock x).f1, (cv_Sock x).f2, (cv_Sock x).f3, (cv_Sock x).f4, (cv_Sock x).f5, (cv_Sock x).f6, (cv_Sock x).f7) := by
  unfold szv_Sock at hs
  unfold laws_toSock.f
  refine ev_bind (to_ByteS x.f4 (by omega)) ?_
  refine ev_bind (to_ByteS x.f5 (by omega)) ?_
  exact ev_now _

/-! ### impl_isIn -/
theorem impl_isIn_eq (a b c : Int) : impl_isIn.f a b c = some (inB a b c) := by
  unfold impl_isIn.f inB
  by_cases h : b ≤ a <;> simp [h]

/-! ### impl_sockIdOk -/
theorem impl_sockIdOk_eq (a : Int) : impl_sockIdOk.f a = some (inB a 1 9999) := by
  unfold impl_sockIdOk.f
  rw [impl_isIn_eq]
  rfl

/-! ### impl_SockOk -/
theorem impl_SockOk_j0 (b : Bool) (x0 x1 x2 : Int) (x3 : Bool) (x4 x5 : List Int) (x6 x7 : Int) : Ev (fun k => impl_SockOk.j0 k b x0 x1 x2 x3 x4 x5 x6 x7)
    (!b && (if x1 = 1 then x6 == 0 && x7 == 0 else if x1 = 2 then inB x6 0 2 && inB x7 0 (x5.length : Int) else false)) := by
  refine ev_step (fun k => impl_SockOk.j0.eq_2 ..) ?_
  refine ev_ite (fun c => ?_) (fun c => ?_)
  · exact ev_as (ev_now _) (by simp [c])
  have hb : b = false := by simpa using c
  refine ev_ite (fun c1 => ev_ite (fun c2 => ?_) (fun c2 => ?_)) (fun c1 => ev_ite (fun c2 => ?_) (fun c2 => ?_))
  · exact ev_as (ev_now _) (by simp [hb, c1, c2])
  · exact ev_as (ev_now _) (by simp [c1, c2])
  · refine ev_bind1 (impl_isIn_eq _ _ _) ?_
    refine ev_ite (fun c3 => ?_) (fun c3 => ?_)
    · exact ev_bind1 (impl_isIn_eq _ _ _) (ev_as (ev_now _) (by simp [hb, c2, c3]))
    · exact ev_as (ev_now _) (by simp [c2, c3])
  · exact ev_as (ev_now _) (by simp [c1, c2])
theorem impl_SockOk_ev (x : S50) : Ev (fun k => impl_SockOk.f k x.f0 x.f1 x.f2 x.f3 x.f4 x.f5 x.f6 x.f7) (sockB x.f0 x.f1 x.f2 x.f4 x.f5 x.f6 x.f7) := by
  obtain ⟨x0, x1, x2, x3, x4, x5, x6, x7⟩ := x
  unfold impl_SockOk.f sockB
  refine ev_bind1 (impl_sockIdOk_eq _) ?_
  refine ev_ite (fun c => ?_) (fun c => ?_)
  · refine ev_bind1 (impl_isIn_eq _ _ _) ?_
    refine ev_ite (fun c2 => ?_) (fun c2 => ?_)
    · exact ev_as (impl_SockOk_j0 ..) (by rw [c, c2]; simp)
    · exact ev_as (impl_SockOk_j0 ..) (by simp [c2])
  · exact ev_as (impl_SockOk_j0 ..) (by simp [c])

/-! ### slices_Clone_byte -/
theorem slices_Clone_byte_eq (l : List Int) (h : l.length ≤ 1000000000000) : slices_Clone_byte.f l = some l := by
  unfold slices_Clone_byte.f
  simp only [Option.bind_some, List.nil_append, List.length_nil]
  rw [if_pos (by omega)]

/-! ### impl_sockCopy -/
theorem impl_sockCopy_eq (x : S50) (h4 : x.f4.length ≤ 1000000000000) (h5 : x.f5.length ≤ 1000000000000) : impl_sockCopy.f x.f0 x.f1 x.f2 x.f3 x.f4 x.f5 x.f6 x.f7 = some (x.f0, x.f1, x.f2, x.f3, x.f4, x.f5, x.f6, x.f7) := by
  unfold impl_sockCopy.f
  rw [slices_Clone_byte_eq _ h4, Option.bind_some, slices_Clone_byte_eq _ h5, Option.bind_some]

/-! ### impl_Hear -/
theorem impl_Hear_ev (x : S50) (b : List Int) (h4 : x.f4.length ≤ 1000000000000) (h5 : x.f5.length ≤ 1000000000000) (hb : b.length ≤ 1000000000000) :
    Ev (fun k => impl_Hear.f k x.f0 x.f1 x.f2 x.f3 x.f4 x.f5 x.f6 x.f7 b) ((hearV x b).1.f0, (hearV x b).1.f1, (hearV x b).1.f2, (hearV x b).1.f3, (hearV x b).1.f4, (hearV x b).1.f5, (hearV x b).1.f6, (hearV x b).1.f7, (hearV x b).2) := by
  unfold impl_Hear.f hearV
  have w : wrap64 ((x.f4.length : Int) + (b.length : Int)) = (x.f4.length : Int) + (b.length : Int) := w64 (by omega) (by omega)
  simp only [w]
  refine ev_bind1 (impl_sockCopy_eq x h4 h5) (ev_bind (impl_SockOk_ev x) (ev_ite (fun c => ev_ite (fun c2 => ?_) (fun c2 => ev_ite (fun c3 => ?_) (fun c3 => ev_pos (by show x.f4.length + b.length < _; omega) ?_))) (fun c => ?_)))
  · exact ev_as (ev_now _) (by rw [if_neg (fun h => by rw [c2] at h; exact absurd h.2.1 (by decide))])
  · exact ev_as (ev_now _) (by rw [if_neg (fun h => h.2.2 c3)])
  · exact ev_as (ev_now _) (by rw [if_pos ⟨c, by simpa using c2, c3⟩])
  · exact ev_as (ev_now _) (by rw [if_neg (fun h => c h.1)])

/-! ### laws_eqByteS -/
def eqcl_ByteS (l : List Int) : Prop := l.length ≤ 4611686018427387904
theorem eq_ByteS_l0 (l : List Int) (hq : eqcl_ByteS l) (d : Nat) : ∀ i : Nat, i + d = l.length → Ev (fun k => laws_eqByteS.l0 k l l (i : Int)) true := by
  have hl : l.length ≤ 4611686018427387904 := hq
  induction d with
  | zero =>
    intro i hi
    exact ev_step (fun k => laws_eqByteS.l0.eq_2 ..) (ev_neg (by omega) (ev_now _))
  | succ d ih =>
    intro i hi
    have hn := ih (i + 1) (by omega)
    have hlt : i < l.length := by omega
    refine ev_step (fun k => laws_eqByteS.l0.eq_2 ..) (ev_pos (by omega) (ev_pos (by omega) (ev_pos (by omega) ?_)))
    rw [w64 (by omega) (by omega)]
    exact ev_pos rfl hn
theorem eq_ByteS (l : List Int) (hq : eqcl_ByteS l) : Ev (fun k => laws_eqByteS.f k l l) true := by
  unfold laws_eqByteS.f
  exact ev_pos rfl (eq_ByteS_l0 l hq l.length 0 (by omega))

/-! ### laws_eqSock -/
def eqc_Sock (x : S50) : Prop := eqcl_ByteS x.f4 ∧ eqcl_ByteS x.f5
theorem eq_Sock (x : S50) (hq : eqc_Sock x) : Ev (fun k => laws_eqSock.f k x.f0 x.f1 x.f2 x.f3 x.f4 x.f5 x.f6 x.f7 x.f0 x.f1 x.f2 x.f3 x.f4 x.f5 x.f6 x.f7) true := by
  unfold laws_eqSock.f
  exact ev_pos rfl (ev_pos rfl (ev_pos rfl (ev_neg (by simp) (ev_bind (eq_ByteS x.f4 (hq.1)) (ev_pos rfl (ev_bind (eq_ByteS x.f5 (hq.2)) (ev_pos rfl (ev_pos rfl (ev_pos rfl (ev_now _))))))))))

/-! ### laws_markByteS -/
def mk_Byte (k : Int) : Int := k % 256
theorem mark_ByteS (l : List Int) (hl : l.length ≤ 4611686018427387904) (k : Int) (h0 : 0 ≤ k) (h1 : k + 1 * (l.length : Int) ≤ 4611686018427387904) : Ev (fun n => laws_markByteS.f n l k) (k + 1 * (l.length : Int), mkl mk_Byte 1 k l.length) := by
  refine mark_loop (g := fun n x k i => laws_markByteS.l0 n x k i) (by omega) (fun x k i hi => ev_step (fun n => laws_markByteS.l0.eq_2 ..) (ev_neg (by omega) (ev_now _))) (fun x k i r hi hx h0 h1 hn => ?_) l hl k h0 h1
  refine ev_step (fun n => laws_markByteS.l0.eq_2 ..) (ev_pos (by omega) (ev_pos (by omega) ?_))
  have wi : wrap64 ((i : Int) + 1) = (i : Int) + 1 := w64 (by omega) (by omega)
  have w1 : wrap64 (k + 1) = k + 1 := w64 (by omega) (by omega)
  rw [show k + 1 = k + 1 by omega] at hn
  simp only [wi, w1, Int.toNat_natCast]
  exact hn

/-! ### laws_markSock -/
theorem mark_Sock (x : S50) (k : Int) (h0 : 0 ≤ k) (h1 : k ≤ 1000000000000) (h4 : x.f4.length ≤ 1000000000000) (h5 : x.f5.length ≤ 1000000000000) :
    Ev (fun n => laws_markSock.f n x.f0 x.f1 x.f2 x.f3 x.f4 x.f5 x.f6 x.f7 k) (k + 1 * (x.f4.length : Int) + 1 * (x.f5.length : Int), mkl mk_Byte 1 k x.f4.length, mkl mk_Byte 1 (k + 1 * (x.f4.length : Int)) x.f5.length) := by
  unfold laws_markSock.f
  exact ev_bind (mark_ByteS x.f4 (by omega) k h0 (by omega)) (ev_bind (mark_ByteS x.f5 (by omega) _ (by omega) (by omega)) (ev_now _))

/-! ### laws_heldByteS -/
theorem held_ByteS (m : Nat) (hm : m ≤ 4611686018427387904) (k : Int) (h0 : 0 ≤ k) (h1 : k + 1 * (m : Int) ≤ 4611686018427387904) : Ev (fun n => laws_heldByteS.f n (mkl mk_Byte 1 k m) k) (k + 1 * (m : Int)) := by
  refine held_loop (g := fun n x k i => laws_heldByteS.l0 n x k i) (by omega) (fun x k i hi => ev_step (fun n => laws_heldByteS.l0.eq_2 ..) (ev_neg (by omega) (ev_now _))) (fun x k i r hi he hx h0 h1 hn => ?_) m hm k h0 h1
  have hr : rd x (i : Int) = mk_Byte k := (rd_nth x i hi).trans he
  refine ev_step (fun n => laws_heldByteS.l0.eq_2 ..) (ev_pos (by omega) (ev_pos (by omega) ?_))
  have wi : wrap64 ((i : Int) + 1) = (i : Int) + 1 := w64 (by omega) (by omega)
  have w1 : wrap64 (k + 1) = k + 1 := w64 (by omega) (by omega)
  rw [show k + 1 = k + 1 by omega] at hn
  simp only [hr, w1, wi]
  exact ev_pos rfl (hn)

/-! ### laws_heldSock -/
theorem held_Sock (x0 x1 x2 : Int) (x3 : Bool) (m4 m5 : Nat) (x6 x7 : Int) (k : Int) (h0 : 0 ≤ k) (h1 : k ≤ 1000000000000) (h4 : m4 ≤ 1000000000000) (h5 : m5 ≤ 1000000000000) :
    Ev (fun n => laws_heldSock.f n x0 x1 x2 x3 (mkl mk_Byte 1 k m4) (mkl mk_Byte 1 (k + 1 * (m4 : Int)) m5) x6 x7 k) (k + 1 * (m4 : Int) + 1 * (m5 : Int)) := by
  unfold laws_heldSock.f
  exact ev_bind (held_ByteS m4 (by omega) k h0 (by omega)) (ev_neg (by omega) (ev_bind (held_ByteS m5 (by omega) _ (by omega) (by omega)) (ev_neg (by omega) (ev_now _))))

theorem FnExactHear : VFnExactHear.Pure := by
  intro x b hG hb _
  refine ev_rounds ?_
  unfold laws_FnExactHear.f
  refine ev_ite (fun c => ev_now _) (fun cb => ?_)
  obtain ⟨t, et, ct⟩ := sz_Sock x hG 1048576 (by omega) (by omega)
  rcases ct with ct | ⟨ct, dt⟩
  · exact ev_bind et (ev_pos ct (ev_now _))
  have hs : szv_Sock x ≤ 1048576 := by omega
  have hto := to_Sock x hs
  have htb := to_ByteS b (show szl_ByteS b ≤ 1048576 by unfold szl_ByteS; omega)
  have hl : (cv_Sock x).f4.length ≤ 1048576 ∧ (cv_Sock x).f5.length ≤ 1048576 := by
    unfold szv_Sock szl_ByteS at hs
    show x.f4.length ≤ _ ∧ x.f5.length ≤ _
    omega
  have e1 := spec_Hear_ev (cv_Sock x) b (by omega) (by omega) (by omega)
  have e2 := impl_Hear_ev (cv_Sock x) b (by omega) (by omega) (by omega)
  have hR : (hearV (cv_Sock x) b).1.f4.length ≤ 4000000 ∧ (hearV (cv_Sock x) b).1.f5.length ≤ 4000000 := by
    unfold hearV
    split
    · show ((cv_Sock x).f4 ++ b).length ≤ _ ∧ (cv_Sock x).f5.length ≤ _
      rw [List.length_append]
      omega
    · show (cv_Sock x).f4.length ≤ _ ∧ (cv_Sock x).f5.length ≤ _
      omega
  generalize (hearV (cv_Sock x) b).1 = R at *
  generalize (hearV (cv_Sock x) b).2 = g at *
  have hqR := eq_Sock R ⟨show R.f4.length ≤ _ by omega, show R.f5.length ≤ _ by omega⟩
  have hqX := eq_Sock (cv_Sock x) ⟨show (cv_Sock x).f4.length ≤ _ by omega, show (cv_Sock x).f5.length ≤ _ by omega⟩
  have hqb := eq_ByteS b (show b.length ≤ _ by omega)
  have mX := mark_Sock (cv_Sock x) 1 (by omega) (by omega) (by omega) (by omega)
  have mb := mark_ByteS b (by omega) (1 + 1 * ((cv_Sock x).f4.length : Int) + 1 * ((cv_Sock x).f5.length : Int)) (by omega) (by omega)
  have mR := mark_Sock R 1 (by omega) (by omega) (by omega) (by omega)
  have hh := held_Sock R.f0 R.f1 R.f2 R.f3 R.f4.length R.f5.length R.f6 R.f7 1 (by omega) (by omega) (by omega) (by omega)
  refine ev_bind et (ev_neg (by omega) (ev_bind hto (ev_bind htb (ev_bind e1 (ev_bind hto (ev_bind htb (ev_bind e2 (ev_bind hqR (ev_pos rfl ?_)))))))))
  refine ev_step (fun k => laws_FnExactHear.j0.eq_2 ..) (ev_neg (by simp) (ev_bind hto (ev_bind hqX (ev_pos rfl (ev_bind htb (ev_bind hqb (ev_pos rfl (ev_bind mX (ev_bind mb (ev_neg (by show ¬ (_ : Int) < 0; omega) (ev_bind hqR (ev_pos rfl ?_))))))))))))
  refine ev_step (fun k => laws_FnExactHear.j1.eq_2 ..) (ev_neg (by simp) (ev_bind mR (ev_bind hh (ev_neg (by omega) (ev_pos rfl (ev_bind hto (ev_bind htb (ev_bind e2 (ev_bind hqR (ev_pos rfl ?_))))))))))
  exact ev_step (fun k => laws_FnExactHear.j2.eq_2 ..) (ev_neg (by simp) (ev_bind hh (ev_neg (by omega) (ev_pos rfl (ev_now _)))))
end Go.Proofs.Ythmfmpmljndjhaa.Pure
