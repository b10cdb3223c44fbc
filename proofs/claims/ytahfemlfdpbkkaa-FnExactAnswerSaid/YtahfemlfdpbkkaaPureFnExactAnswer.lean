/- The program's Answer answers as the reference's, whatever the socket; what came in stays as it is, and the answer's slices are its own. -/
import Derived.Test.YtahfemlfdpbkkaaVFnExactAnswer
import Derived.Test.YtahfemlfdpbkkaaVBase
import Derived.Test.YtahfemlfdpbkkaaVExt
import Derived.Test.YtahfemlfdpbkkaaVMark
namespace Go.Proofs.Ytahfemlfdpbkkaa.Pure
open Go.RowKit Go.Proofs.Ytahfemlfdpbkkaa.PFnExactAnswer Go.Proofs.Ytahfemlfdpbkkaa.VFnExactAnswer Go.Proofs.YtahfemlfdpbkkaaW.PrintWords Go.Proofs.YtahfemlfdpbkkaaW.PrintLast Go.Proofs.YtahfemlfdpbkkaaV
set_option linter.unusedVariables false
set_option linter.unusedSimpArgs false
set_option maxRecDepth 20000

/-! ### laws_szByteS -/
def szl_ByteS (l : List Int) : Nat := l.length
theorem sz_ByteS (l : List Int) (hl : l.length ≤ 9223372036854775807) (left : Int) (h0 : 0 ≤ left) (h1 : left ≤ 1048576) :
    ∃ t, Ev (fun k => laws_szByteS.f l left) t ∧ (t < 0 ∨ 0 ≤ t ∧ t + (szl_ByteS l : Int) = left) := by
  unfold laws_szByteS.f szl_ByteS
  have e : wrap64 (left - (l.length : Int)) = left - (l.length : Int) := w64 (by omega) (by omega)
  simp only [e]
  by_cases hc : left - (l.length : Int) < 0
  · exact ⟨-1, ev_pos hc (ev_now _), .inl (by omega)⟩
  · exact ⟨_, ev_neg hc (ev_now _), .inr ⟨by omega, by omega⟩⟩

/-! ### laws_szSock -/
def szv_Sock (x : S24) : Nat := szl_ByteS x.f4 + szl_ByteS x.f5
theorem sz_Sock (x : S24) (hG : G24 x) (left : Int) (h0 : 0 ≤ left) (h1 : left ≤ 1048576) :
    ∃ t, Ev (fun k => laws_szSock.f x.f0 x.f1 x.f2 x.f3 x.f4 x.f5 x.f6 x.f7 left) t ∧ (t < 0 ∨ 0 ≤ t ∧ t + (szv_Sock x : Int) = left) := by
  obtain ⟨g0, g1, g2, g3, g4, g5, g6, g7⟩ := hG
  unfold laws_szSock.f szv_Sock
  obtain ⟨t4, et4, ct4⟩ := sz_ByteS x.f4 g4.1 (left) (by omega) (by omega)
  rcases ct4 with ct4 | ⟨ct4, dt4⟩
  · exact ⟨-1, ev_bind et4 (ev_pos ct4 (ev_now _)), .inl (by omega)⟩
  obtain ⟨t5, et5, ct5⟩ := sz_ByteS x.f5 g5.1 (t4) (by omega) (by omega)
  rcases ct5 with ct5 | ⟨ct5, dt5⟩
  · exact ⟨-1, ev_bind et4 (ev_neg (by omega) (ev_bind et5 (ev_pos ct5 (ev_now _)))), .inl (by omega)⟩
  exact ⟨_, ev_bind et4 (ev_neg (by omega) (ev_bind et5 (ev_neg (by omega) (ev_now _)))), .inr ⟨by omega, by omega⟩⟩

/-! ### laws_toByteS -/
theorem to_ByteS_l0 (l : List Int) (hs : szl_ByteS l ≤ 1048576) (d : Nat) : ∀ (i : Nat) (x : List Int), i + d = l.length → x.length = l.length → x.take i = (l).take i → Ev (fun k => laws_toByteS.l0 k l x (i : Int)) (l) := by
  have hl : l.length ≤ 1048576 := by unfold szl_ByteS at hs; omega
  induction d with
  | zero =>
    intro i x hi hx ht
    refine ev_as (ev_step (fun k => laws_toByteS.l0.eq_2 ..) (ev_neg (by omega) (ev_now _))) ?_
    rw [List.take_of_length_le (by omega), List.take_of_length_le (by first | omega | (simp; omega))] at ht
    exact ht
  | succ d ih =>
    intro i x hi hx ht
    have hlt : i < l.length := by omega
    have hr : rd l (i : Int) = l[i] := rd_nth l i hlt
    refine ev_step (fun k => laws_toByteS.l0.eq_2 ..) (ev_pos (by omega) (ev_pos (by omega) ?_))
    refine ev_pos (by omega) ?_
    rw [hr, Int.toNat_natCast, w64 (by omega) (by omega)]
    exact ih (i + 1) _ (by omega) (by simp; omega) (take_set x l i _ (by omega) (by omega) ht rfl)
theorem to_ByteS (l : List Int) (hs : szl_ByteS l ≤ 1048576) : Ev (fun k => laws_toByteS.f k l) (l) := by
  have hl : l.length ≤ 1048576 := by unfold szl_ByteS at hs; omega
  unfold laws_toByteS.f
  refine ev_pos (by omega) (ev_pos (by simp; omega) ?_)
  exact to_ByteS_l0 l hs l.length 0 _ (by omega) (by simp) (by simp)

/-! ### laws_toSock -/
def cv_Sock (x : S24) : S29 := ⟨x.f0, x.f1, x.f2, x.f3, x.f4, x.f5, x.f6, x.f7⟩
theorem to_Sock (x : S24) (hs : szv_Sock x ≤ 1048576) : Ev (fun k => laws_toSock.f k x.f0 x.f1 x.f2 x.f3 x.f4 x.f5 x.f6 x.f7) ((cv_Sock x).f0, (cv_Sock x).f1, (cv_Sock x).f2, (cv_Sock x).f3, (cv_Sock x).f4, (cv_Sock x).f5, (cv_Sock x).f6, (cv_Sock x).f7) := by
  unfold szv_Sock at hs
  unfold laws_toSock.f
  refine ev_bind (to_ByteS x.f4 (by omega)) ?_
  refine ev_bind (to_ByteS x.f5 (by omega)) ?_
  exact ev_now _

/-! ### laws_eqByteS -/
def eqcl_ByteS (l : List Int) : Prop := l.length ≤ 4611686018427387904
theorem eq_ByteS_l0 (l : List Int) (hq : eqcl_ByteS l) (d : Nat) : ∀ i : Nat, i + d = l.length → Ev (fun k => laws_eqByteS.l0 k l l (i : Int)) true := by
  have hl : l.length ≤ 4611686018427387904 := hq
  induction d with
  | zero =>
    intro i hi
    exact ev_step (fun k => laws_eqByteS.l0.eq_2 ..) (ev_neg (by omega) (ev_now _))
  | succ d ih =>
    intro i hi
    have hn := ih (i + 1) (by omega)
    have hlt : i < l.length := by omega
    refine ev_step (fun k => laws_eqByteS.l0.eq_2 ..) (ev_pos (by omega) (ev_pos (by omega) (ev_pos (by omega) ?_)))
    rw [w64 (by omega) (by omega)]
    exact ev_pos rfl hn
theorem eq_ByteS (l : List Int) (hq : eqcl_ByteS l) : Ev (fun k => laws_eqByteS.f k l l) true := by
  unfold laws_eqByteS.f
  exact ev_pos rfl (eq_ByteS_l0 l hq l.length 0 (by omega))

/-! ### laws_eqSock -/
def eqc_Sock (x : S29) : Prop := eqcl_ByteS x.f4 ∧ eqcl_ByteS x.f5
theorem eq_Sock (x : S29) (hq : eqc_Sock x) : Ev (fun k => laws_eqSock.f k x.f0 x.f1 x.f2 x.f3 x.f4 x.f5 x.f6 x.f7 x.f0 x.f1 x.f2 x.f3 x.f4 x.f5 x.f6 x.f7) true := by
  unfold laws_eqSock.f
  exact ev_pos rfl (ev_pos rfl (ev_pos rfl (ev_neg (by simp) (ev_bind (eq_ByteS x.f4 (hq.1)) (ev_pos rfl (ev_bind (eq_ByteS x.f5 (hq.2)) (ev_pos rfl (ev_pos rfl (ev_pos rfl (ev_now _))))))))))

/-! ### laws_markByteS -/
def mk_Byte (k : Int) : Int := k % 256
theorem mark_ByteS (l : List Int) (hl : l.length ≤ 4611686018427387904) (k : Int) (h0 : 0 ≤ k) (h1 : k + 1 * (l.length : Int) ≤ 4611686018427387904) : Ev (fun n => laws_markByteS.f n l k) (k + 1 * (l.length : Int), mkl mk_Byte 1 k l.length) := by
  refine mark_loop (g := fun n x k i => laws_markByteS.l0 n x k i) (by omega) (fun x k i hi => ev_step (fun n => laws_markByteS.l0.eq_2 ..) (ev_neg (by omega) (ev_now _))) (fun x k i r hi hx h0 h1 hn => ?_) l hl k h0 h1
  refine ev_step (fun n => laws_markByteS.l0.eq_2 ..) (ev_pos (by omega) (ev_pos (by omega) ?_))
  have wi : wrap64 ((i : Int) + 1) = (i : Int) + 1 := w64 (by omega) (by omega)
  have w1 : wrap64 (k + 1) = k + 1 := w64 (by omega) (by omega)
  rw [show k + 1 = k + 1 by omega] at hn
  simp only [wi, w1, Int.toNat_natCast]
  exact hn

/-! ### laws_markSock -/
theorem mark_Sock (x : S29) (k : Int) (h0 : 0 ≤ k) (h1 : k ≤ 1000000000000) (h4 : x.f4.length ≤ 1000000000000) (h5 : x.f5.length ≤ 1000000000000) :
    Ev (fun n => laws_markSock.f n x.f0 x.f1 x.f2 x.f3 x.f4 x.f5 x.f6 x.f7 k) (k + 1 * (x.f4.length : Int) + 1 * (x.f5.length : Int), mkl mk_Byte 1 k x.f4.length, mkl mk_Byte 1 (k + 1 * (x.f4.length : Int)) x.f5.length) := by
  unfold laws_markSock.f
  exact ev_bind (mark_ByteS x.f4 (by omega) k h0 (by omega)) (ev_bind (mark_ByteS x.f5 (by omega) _ (by omega) (by omega)) (ev_now _))

/-! ### laws_heldByteS -/
theorem held_ByteS (m : Nat) (hm : m ≤ 4611686018427387904) (k : Int) (h0 : 0 ≤ k) (h1 : k + 1 * (m : Int) ≤ 4611686018427387904) : Ev (fun n => laws_heldByteS.f n (mkl mk_Byte 1 k m) k) (k + 1 * (m : Int)) := by
  refine held_loop (g := fun n x k i => laws_heldByteS.l0 n x k i) (by omega) (fun x k i hi => ev_step (fun n => laws_heldByteS.l0.eq_2 ..) (ev_neg (by omega) (ev_now _))) (fun x k i r hi he hx h0 h1 hn => ?_) m hm k h0 h1
  have hr : rd x (i : Int) = mk_Byte k := (rd_nth x i hi).trans he
  refine ev_step (fun n => laws_heldByteS.l0.eq_2 ..) (ev_pos (by omega) (ev_pos (by omega) ?_))
  have wi : wrap64 ((i : Int) + 1) = (i : Int) + 1 := w64 (by omega) (by omega)
  have w1 : wrap64 (k + 1) = k + 1 := w64 (by omega) (by omega)
  rw [show k + 1 = k + 1 by omega] at hn
  simp only [hr, w1, wi]
  exact ev_pos rfl (hn)

/-! ### laws_heldSock -/
theorem held_Sock (x0 x1 x2 : Int) (x3 : Bool) (m4 m5 : Nat) (x6 x7 : Int) (k : Int) (h0 : 0 ≤ k) (h1 : k ≤ 1000000000000) (h4 : m4 ≤ 1000000000000) (h5 : m5 ≤ 1000000000000) :
    Ev (fun n => laws_heldSock.f n x0 x1 x2 x3 (mkl mk_Byte 1 k m4) (mkl mk_Byte 1 (k + 1 * (m4 : Int)) m5) x6 x7 k) (k + 1 * (m4 : Int) + 1 * (m5 : Int)) := by
  unfold laws_heldSock.f
  exact ev_bind (held_ByteS m4 (by omega) k h0 (by omega)) (ev_neg (by omega) (ev_bind (held_ByteS m5 (by omega) _ (by omega) (by omega)) (ev_neg (by omega) (ev_now _))))

/-! ### spec_l8Copy -/
theorem spec_l8Copy_eq (x : S29) (h4 : x.f4.length ≤ 1000000000000) (h5 : x.f5.length ≤ 1000000000000) : spec_l8Copy.f x.f0 x.f1 x.f2 x.f3 x.f4 x.f5 x.f6 x.f7 = some (x.f0, x.f1, x.f2, x.f3, x.f4, x.f5, x.f6, x.f7) := by
  unfold spec_l8Copy.f
  simp only [Option.bind_some, List.nil_append, List.length_nil]
  rw [if_pos (by omega), if_pos (by omega)]

/-! ### spec_l1In -/
theorem spec_l1In_eq (a b c : Int) : spec_l1In.f a b c = some (inB a b c) := by
  unfold spec_l1In.f inB
  by_cases h : b ≤ a <;> simp [h]

/-! ### spec_SockOk -/
/-- A socket as it has to be: number, kind, holders, what came in, what went out, status, what is done. -/
def sockB (id ki ho : Int) (inp out : List Int) (st dn : Int) : Bool :=
  inB id 1 9999 && (inB ho 1 3 && (!(decide ((inp.length : Int) > 240)) &&
    (if ki = 1 then st == 0 && dn == 0 else if ki = 2 then inB st 0 2 && inB dn 0 (out.length : Int) else false)))
theorem spec_SockOk_j0 (b : Bool) (x0 x1 x2 : Int) (x3 : Bool) (x4 x5 : List Int) (x6 x7 : Int) : Ev (fun k => spec_SockOk.j0 k b x0 x1 x2 x3 x4 x5 x6 x7)
    (!b && (if x1 = 1 then x6 == 0 && x7 == 0 else inB x6 0 2 && inB x7 0 (x5.length : Int))) := by
  refine ev_step (fun k => spec_SockOk.j0.eq_2 ..) ?_
  refine ev_ite (fun c => ?_) (fun c => ?_)
  · exact ev_as (ev_now _) (by simp [c])
  have hb : b = false := by simpa using c
  refine ev_ite (fun c1 => ev_ite (fun c2 => ?_) (fun c2 => ?_)) (fun c1 => ?_)
  · exact ev_as (ev_now _) (by simp [hb, c1, c2])
  · exact ev_as (ev_now _) (by simp [c1, c2])
  · refine ev_bind1 (spec_l1In_eq _ _ _) ?_
    refine ev_ite (fun c2 => ?_) (fun c2 => ?_)
    · exact ev_bind1 (spec_l1In_eq _ _ _) (ev_as (ev_now _) (by simp [hb, c1, c2]))
    · exact ev_as (ev_now _) (by simp [c1, c2])
theorem spec_SockOk_ev (x : S29) : Ev (fun k => spec_SockOk.f k x.f0 x.f1 x.f2 x.f3 x.f4 x.f5 x.f6 x.f7) (sockB x.f0 x.f1 x.f2 x.f4 x.f5 x.f6 x.f7) := by
  obtain ⟨x0, x1, x2, x3, x4, x5, x6, x7⟩ := x
  unfold spec_SockOk.f sockB
  have hk : inB x1 1 2 = true → (if x1 = 1 then x6 == 0 && x7 == 0 else inB x6 0 2 && inB x7 0 (x5.length : Int)) = (if x1 = 1 then x6 == 0 && x7 == 0 else if x1 = 2 then inB x6 0 2 && inB x7 0 (x5.length : Int) else false) := by
    intro h
    have := (inB_iff _ _ _).1 h
    by_cases e : x1 = 1
    · simp [e]
    · have e2 : x1 = 2 := by omega
      simp [e2]
  have hk2 : ¬ inB x1 1 2 = true → (if x1 = 1 then x6 == 0 && x7 == 0 else if x1 = 2 then inB x6 0 2 && inB x7 0 (x5.length : Int) else false) = false := by
    intro h
    have e1 : ¬ x1 = 1 := fun e => h (by rw [e]; rfl)
    have e2 : ¬ x1 = 2 := fun e => h (by rw [e]; rfl)
    simp [e1, e2]
  refine ev_bind1 (spec_l1In_eq _ _ _) ?_
  refine ev_ite (fun c => ?_) (fun c => ?_)
  · refine ev_bind1 (spec_l1In_eq _ _ _) ?_
    refine ev_ite (fun c2 => ?_) (fun c2 => ?_)
    · refine ev_bind1 (spec_l1In_eq _ _ _) ?_
      refine ev_ite (fun c3 => ?_) (fun c3 => ?_)
      · exact ev_as (spec_SockOk_j0 ..) (by rw [c, c3, hk c2]; simp)
      · exact ev_as (spec_SockOk_j0 ..) (by simp [c3])
    · exact ev_as (spec_SockOk_j0 ..) (by simp only [hk2 c2]; simp)
  · exact ev_as (spec_SockOk_j0 ..) (by simp [c])

/-! ### spec_TextOk -/
theorem spec_TextOk_l0 (s : ByteArray) (hs : s.size ≤ 4611686018427387904) (d : Nat) : ∀ i : Int, 0 ≤ i → i + d = s.size → i ≤ 101 → Ev (fun k => spec_TextOk.l0 k s i) (allF (byteIn s 32 126) i d && decide ((s.size : Int) ≤ 100)) := by
  induction d with
  | zero =>
    intro i h0 h1 h2
    refine ev_step (fun k => spec_TextOk.l0.eq_2 ..) ?_
    refine ev_neg (by omega) ?_
    refine ev_step (fun k => spec_TextOk.j1.eq_2 ..) ?_
    refine ev_neg (by decide) ?_
    exact ev_now _
  | succ d ih =>
    intro i h0 h1 h2
    refine ev_step (fun k => spec_TextOk.l0.eq_2 ..) ?_
    refine ev_pos (by omega) ?_
    refine ev_step (fun k => spec_TextOk.j1.eq_2 ..) ?_
    refine ev_ite (fun c0 => ?_) (fun c0 => ?_)
    · have c0' := of_decide_eq_true c0
      refine ev_pos (by omega) (ev_pos (by omega) ?_)
      refine ev_ite (fun c1 => ?_) (fun c1 => ev_ite (fun c2 => ?_) (fun c2 => ?_))
      · refine ev_as (ev_now _) ?_
        have : byteIn s 32 126 i = false := by rw [byteIn_false]; omega
        simp [allF, this]
      · refine ev_as (ev_now _) ?_
        have : byteIn s 32 126 i = false := by rw [byteIn_false]; omega
        simp [allF, this]
      · have : byteIn s 32 126 i = true := by rw [byteIn_iff]; omega
        rw [w64 (by omega) (by omega), allF, this, Bool.true_and]
        exact ih (i + 1) (by omega) (by omega) (by omega)
    · have c0' : ¬ i ≤ 100 := fun h => c0 (decide_eq_true h)
      refine ev_as (ev_now _) ?_
      have : decide ((s.size : Int) ≤ 100) = false := decide_eq_false (by omega)
      rw [this, Bool.and_false]
theorem spec_TextOk_ev (s : ByteArray) (hs : s.size ≤ 4611686018427387904) : Ev (fun k => spec_TextOk.f k s) (textB s) := spec_TextOk_l0 s hs s.size 0 (by omega) (by omega) (by omega)

/-! ### spec_PutText -/
/-- Bytes with a text behind them, if it is one that may stand there. -/
def putTextV (l : List Int) (s : ByteArray) : List Int := if textB s = true then (l ++ [(s.size : Int) % 256]) ++ bytesOf s else l
theorem textB_size (s : ByteArray) (h : textB s = true) : s.size ≤ 100 := by
  unfold textB at h
  rw [Bool.and_eq_true] at h
  have := of_decide_eq_true h.2
  omega
theorem putTextV_len (l : List Int) (s : ByteArray) : (putTextV l s).length ≤ l.length + 101 := by
  unfold putTextV
  split
  · rename_i h
    have := textB_size s h
    rw [List.length_append, List.length_append, bytesOf_length]
    simp only [List.length_cons, List.length_nil]
    omega
  · omega
theorem putTextV_ge (l : List Int) (s : ByteArray) : l.length ≤ (putTextV l s).length := by
  unfold putTextV
  split
  · rw [List.length_append, List.length_append]
    omega
  · omega
theorem spec_PutText_ev (l : List Int) (s : ByteArray) (hl : l.length ≤ 1000000000000) (hs : s.size ≤ 1000000000000) : Ev (fun k => spec_PutText.f k l s) (putTextV l s) := by
  unfold spec_PutText.f putTextV
  simp only [Option.bind_some, List.nil_append, List.length_nil]
  refine ev_pos (by omega) (ev_bind (spec_TextOk_ev s (by omega)) (ev_ite (fun c => ?_) (fun c => ?_)))
  · exact ev_pos (by omega) (ev_pos (by rw [List.length_append]; simp only [List.length_cons, List.length_nil]; omega) (ev_as (ev_now _) (by rw [if_pos c])))
  · exact ev_as (ev_now _) (by rw [if_neg c])

/-! ### spec_l1Name -/
theorem spec_l1Name_l0 (s : ByteArray) (hs : s.size ≤ 4611686018427387904) (d : Nat) : ∀ i : Int, 0 ≤ i → i + d = s.size → Ev (fun k => spec_l1Name.l0 k s i) (allF (byteIn s 97 122) i d && inB s.size 1 8) := by
  induction d with
  | zero =>
    intro i h0 h1
    refine ev_step (fun k => spec_l1Name.l0.eq_2 ..) ?_
    refine ev_neg (by omega) ?_
    rw [spec_l1In_eq]
    exact ev_now _
  | succ d ih =>
    intro i h0 h1
    refine ev_step (fun k => spec_l1Name.l0.eq_2 ..) ?_
    refine ev_pos (by omega) (ev_pos (by omega) ?_)
    refine ev_ite (fun c1 => ?_) (fun c1 => ev_ite (fun c2 => ?_) (fun c2 => ?_))
    · refine ev_as (ev_now _) ?_
      have : byteIn s 97 122 i = false := by rw [byteIn_false]; omega
      simp [allF, this]
    · refine ev_as (ev_now _) ?_
      have : byteIn s 97 122 i = false := by rw [byteIn_false]; omega
      simp [allF, this]
    · have : byteIn s 97 122 i = true := by rw [byteIn_iff]; omega
      rw [w64 (by omega) (by omega), allF, this, Bool.true_and]
      exact ih (i + 1) (by omega) (by omega)
theorem spec_l1Name_ev (s : ByteArray) (hs : s.size ≤ 4611686018427387904) : Ev (fun k => spec_l1Name.f k s) (nameB s) := spec_l1Name_l0 s hs s.size 0 (by omega) (by omega)

/-! ### spec_FrameOk -/
/-- A frame as it has to be. -/
def frameB (k : Int) (t : ByteArray) (s : Int) : Bool :=
  if k = 1 then nameB t && s == 0 else if k = 2 ∨ k = 4 ∨ k = 6 then textB t && s == 0 else if k = 5 then (t.toList == ([] : List UInt8)) && inB s 0 2 else if k = 3 then (t.toList == ([] : List UInt8)) && s == 0 else false
theorem spec_FrameOk_j0 (k : Int) (b : Bool) (t : ByteArray) (s : Int) (ht : t.size ≤ 4611686018427387904) : Ev (fun n => spec_FrameOk.j0 n k b k t s) (if b = true then textB t && s == 0 else if k = 5 then (t.toList == ([] : List UInt8)) && inB s 0 2 else if k = 3 then (t.toList == ([] : List UInt8)) && s == 0 else false) := by
  refine ev_step (fun n => spec_FrameOk.j0.eq_2 ..) (ev_ite (fun c => ?_) (fun c => ev_ite (fun c5 => ev_ite (fun ce => ?_) (fun ce => ?_)) (fun c5 => ev_ite (fun c3 => ev_ite (fun ce => ?_) (fun ce => ?_)) (fun c3 => ?_))))
  · refine ev_bind (spec_TextOk_ev t ht) (ev_ite (fun c1 => ?_) (fun c1 => ?_))
    · exact ev_as (ev_now _) (by simp [c, c1])
    · exact ev_as (ev_now _) (by simp [c, c1])
  · exact ev_bind1 (spec_l1In_eq _ _ _) (ev_as (ev_now _) (by simp [c, c5, ce]))
  · exact ev_as (ev_now _) (by simp [c, c5, ce])
  · exact ev_as (ev_now _) (by simp [c, c3, ce])
  · exact ev_as (ev_now _) (by simp [c, c3, ce])
  · exact ev_as (ev_now _) (by simp [c, c5, c3])
theorem spec_FrameOk_ev (k : Int) (t : ByteArray) (s : Int) (ht : t.size ≤ 4611686018427387904) : Ev (fun n => spec_FrameOk.f n k t s) (frameB k t s) := by
  unfold spec_FrameOk.f
  refine ev_ite (fun c1 => ?_) (fun c1 => ev_ite (fun c2 => ?_) (fun c2 => ev_ite (fun c4 => ?_) (fun c4 => ?_)))
  · refine ev_bind (spec_l1Name_ev t ht) (ev_ite (fun c => ?_) (fun c => ?_))
    · exact ev_as (ev_now _) (by simp [frameB, c1, c])
    · exact ev_as (ev_now _) (by simp [frameB, c1, c])
  · exact ev_as (spec_FrameOk_j0 k _ t s ht) (by simp [frameB, c2])
  · exact ev_as (spec_FrameOk_j0 k _ t s ht) (by simp [frameB, c4])
  · exact ev_as (spec_FrameOk_j0 k _ t s ht) (by simp [frameB, c1, c2, c4])

/-! ### spec_PutFrame -/
/-- The bytes of a frame. -/
def putFrameV (k : Int) (t : ByteArray) (s : Int) : List Int := if frameB k t s = true then (if k = 5 then [k % 256] ++ [s % 256] else if k = 3 then [k % 256] else putTextV [k % 256] t) else []
theorem putFrameV_len (k : Int) (t : ByteArray) (s : Int) : (putFrameV k t s).length ≤ 102 := by
  have := putTextV_len [k % 256] t
  simp only [List.length_cons, List.length_nil] at this
  unfold putFrameV
  split
  · split
    · simp
    · split
      · simp
      · omega
  · simp
theorem spec_PutFrame_ev (k : Int) (t : ByteArray) (s : Int) (ht : t.size ≤ 1000000000000) : Ev (fun n => spec_PutFrame.f n k t s) (putFrameV k t s) := by
  unfold spec_PutFrame.f putFrameV
  simp only [Option.bind_some, List.length_cons, List.length_nil]
  refine ev_bind (spec_FrameOk_ev k t s (by omega)) (ev_ite (fun c => ?_) (fun c => ?_))
  · refine ev_ite (fun c1 => ev_pos (by omega) ?_) (fun c1 => ev_ite (fun c2 => ?_) (fun c2 => ?_))
    · exact ev_as (ev_now _) (by rw [if_pos c, if_pos c1])
    · exact ev_as (ev_now _) (by rw [if_pos c, if_neg c1, if_pos c2])
    · exact ev_bind (spec_PutText_ev [k % 256] t (by simp) ht) (ev_as (ev_now _) (by rw [if_pos c, if_neg c1, if_neg c2]))
  · exact ev_as (ev_now _) (by rw [if_neg c])

/-! ### spec_GetFrame -/
/-- All of a list are bytes. -/
def bytesL (l : List Int) : Prop := ∀ x ∈ l, 0 ≤ x ∧ x < 256
theorem rd_byte {l : List Int} (hb : bytesL l) (i : Int) : 0 ≤ rd l i ∧ rd l i < 256 := by
  unfold rd
  rw [List.getD_eq_getElem?_getD]
  by_cases h : i.toNat < l.length
  · rw [List.getElem?_eq_getElem h]
    exact hb _ (List.getElem_mem h)
  · rw [List.getElem?_eq_none (by omega)]
    simp
theorem strN_size (l : List Int) (n : Nat) : (strOfNums ((l.take n).drop 2)).size ≤ l.length := by
  rw [strOfNums_size]
  simp
  omega
/-- The first frame of some bytes: the frame, its length, the code. -/
def getV (l : List Int) : Int × ByteArray × Int × Int × Int :=
  if (l.length : Int) = 0 then (0, ⟨#[]⟩, 0, 0, 1)
  else if rd l 0 = 3 then (3, ⟨#[]⟩, 0, 1, 0)
  else if inB (rd l 0) 1 6 = false then (0, ⟨#[]⟩, 0, 0, 2)
  else if (l.length : Int) < 2 then (0, ⟨#[]⟩, 0, 0, 1)
  else if rd l 0 = 5 then (if inB (rd l 1) 0 2 = true then (5, ⟨#[]⟩, rd l 1, 2, 0) else (0, ⟨#[]⟩, 0, 0, 2))
  else if rd l 1 > 100 then (0, ⟨#[]⟩, 0, 0, 2)
  else if (l.length : Int) < 2 + rd l 1 then (0, ⟨#[]⟩, 0, 0, 1)
  else if frameB (rd l 0) (strOfNums ((l.take (2 + rd l 1).toNat).drop 2)) 0 = true then (rd l 0, strOfNums ((l.take (2 + rd l 1).toNat).drop 2), 0, 2 + rd l 1, 0)
  else (0, ⟨#[]⟩, 0, 0, 2)
theorem empty_toList : (⟨#[]⟩ : ByteArray).toList = [] := by unfold ByteArray.toList; unfold ByteArray.toList.loop; rfl
theorem spec_GetFrame_ev (l : List Int) (hl : l.length ≤ 4611686018427387904) (hb : bytesL l) : Ev (fun k => spec_GetFrame.f k l) (getV l) := by
  have h0 := rd_byte hb 0
  have h1 := rd_byte hb 1
  have w0 : wrap64 (rd l 0) = rd l 0 := w64 (by omega) (by omega)
  have w1 : wrap64 (rd l 1) = rd l 1 := w64 (by omega) (by omega)
  have w2 : wrap64 (2 + rd l 1) = 2 + rd l 1 := w64 (by omega) (by omega)
  have w3 : wrap64 ((l.length : Int) - 2) = (l.length : Int) - 2 := w64 (by omega) (by omega)
  unfold spec_GetFrame.f getV
  simp only [w0, w1, w2, w3]
  refine ev_ite (fun c => ?_) (fun c => ev_pos (by omega) ?_)
  · exact ev_as (ev_now _) (by rw [if_pos c])
  rw [if_neg c]
  refine ev_bind1 (spec_l1In_eq _ _ _) (ev_ite (fun ci => ?_) (fun ci => ?_))
  · have ci' : ¬ inB (rd l 0) 1 6 = false := by simp [ci]
    refine ev_ite (fun c3 => ?_) (fun c3 => ev_ite (fun cl => ?_) (fun cl => ev_ite (fun c5 => ev_pos (by omega) ?_) (fun c5 => ev_pos (by omega) ?_)))
    · rw [c3]
      exact ev_bind (spec_FrameOk_ev 3 ⟨#[]⟩ 0 (Nat.zero_le _)) (ev_pos (by simp [frameB, empty_toList]) (ev_as (ev_now _) (by simp)))
    · exact ev_as (ev_now _) (by rw [if_neg c3, if_neg ci', if_pos (by omega)])
    · refine ev_bind (spec_FrameOk_ev _ ⟨#[]⟩ _ (Nat.zero_le _)) ?_
      have e : frameB (rd l 0) ⟨#[]⟩ (rd l 1) = inB (rd l 1) 0 2 := by simp [frameB, c5, empty_toList]
      rw [e, if_neg c3, if_neg ci', if_neg (show ¬ (l.length : Int) < 2 by omega), if_pos c5]
      refine ev_ite (fun ck => ?_) (fun ck => ?_)
      · exact ev_as (ev_now _) (by rw [if_pos ck, c5])
      · exact ev_as (ev_now _) (by rw [if_neg ck])
    · rw [if_neg c3, if_neg ci', if_neg (show ¬ (l.length : Int) < 2 by omega), if_neg c5]
      refine ev_ite (fun ca => ?_) (fun ca => ev_ite (fun cb => ?_) (fun cb => ev_pos (by omega) (ev_pos (by omega) ?_)))
      · exact ev_as (ev_now _) (by rw [if_pos ca])
      · exact ev_as (ev_now _) (by rw [if_neg ca, if_pos (by omega)])
      · rw [if_neg ca, if_neg (show ¬ (l.length : Int) < 2 + rd l 1 by omega)]
        refine ev_bind (spec_FrameOk_ev _ _ _ (Nat.le_trans (strN_size l _) hl)) (ev_ite (fun ck => ?_) (fun ck => ?_))
        · exact ev_as (ev_now _) (by rw [if_pos ck])
        · exact ev_as (ev_now _) (by rw [if_neg ck])
  · have ci2 : inB (rd l 0) 1 6 = false := by simpa using ci
    have c3 : ¬ rd l 0 = 3 := by intro h; rw [h] at ci; exact ci (by decide)
    exact ev_as (ev_now _) (by rw [if_neg c3, if_pos ci2])

/-! ### spec_NextSt -/
/-- The status that a word leads to. -/
def nextV (st w : Int) : Int := if st = 0 then (if w = 1 then 1 else 0) else if st = 1 then (if w = 4 then 2 else if w = 2 ∨ w = 3 then 0 else 1) else if st = 2 then (if w = 2 ∨ w = 3 then 0 else 2) else 0
theorem spec_NextSt_ev (st w : Int) : Ev (fun k => spec_NextSt.f k st w) (nextV st w) := by
  have key : ∀ b : Bool, b = decide (w = 2 ∨ w = 3) → Ev (fun k => spec_NextSt.j0 k st w b) (nextV st w) := by
    intro b hb
    refine ev_step (fun k => spec_NextSt.j0.eq_2 ..) ?_
    refine ev_as (ev_eq (r := nextV st w) ?_) rfl
    unfold nextV
    by_cases s0 : st = 0
    · simp only [s0, if_true]
      split <;> rfl
    · simp only [s0, if_false]
      by_cases s1 : st = 1
      · simp only [s1, if_true]
        by_cases h4 : w = 4
        · simp [h4]
        · by_cases h2 : w = 2 ∨ w = 3 <;> simp [h4, h2, hb]
      · simp only [s1, if_false]
        by_cases s2 : st = 2
        · by_cases h2 : w = 2 ∨ w = 3 <;> simp [s2, h2, hb]
        · simp [s2]
  unfold spec_NextSt.f
  refine ev_ite (fun c => ?_) (fun c => ?_)
  · exact key true (by simp [c])
  · exact key _ (by simp [c]; rfl)

/-! ### spec_WordOf -/
/-- A query's word. -/
def wordV (q : ByteArray) : Int := if q.toList = ([98, 101, 103, 105, 110] : List UInt8) then 1 else if q.toList = ([99, 111, 109, 109, 105, 116] : List UInt8) then 2 else if q.toList = ([114, 111, 108, 108, 98, 97, 99, 107] : List UInt8) then 3 else if q.toList = ([102, 97, 105, 108] : List UInt8) then 4 else 0
theorem spec_WordOf_eq (q : ByteArray) : spec_WordOf.f q = some (wordV q) := by
  unfold spec_WordOf.f wordV
  repeat' split
  all_goals rfl

/-! ### spec_AnswerTo -/
/-- The two frames that answer a query, or none. -/
def answV (st : Int) (q : ByteArray) : List S32 :=
  if (inB st 0 2 && textB q) = false then []
  else [if st = 2 ∧ ¬ (wordV q = 2 ∨ wordV q = 3) then ⟨6, ⟨#[97, 98, 111, 114, 116, 101, 100]⟩, 0⟩ else if wordV q = 4 then ⟨6, ⟨#[102, 97, 105, 108, 101, 100]⟩, 0⟩ else if st = 2 ∧ wordV q = 2 then ⟨4, ⟨#[114, 111, 108, 108, 98, 97, 99, 107]⟩, 0⟩ else ⟨4, q, 0⟩, ⟨5, ⟨#[]⟩, nextV st (wordV q)⟩]
theorem spec_AnswerTo_ev (st : Int) (q : ByteArray) (hq : q.size ≤ 4611686018427387904) : Ev (fun k => spec_AnswerTo.f k st q) (answV st q) := by
  have k2 : ∀ b : Bool, b = decide (st = 2 ∧ ¬ (wordV q = 2 ∨ wordV q = 3)) → (inB st 0 2 && textB q) = true → Ev (fun k => spec_AnswerTo.j2 k st (wordV q) b 4 q 0) (answV st q) := by
    intro b hb hok
    have ho : ¬ (inB st 0 2 && textB q) = false := by simp [hok]
    unfold answV
    rw [if_neg ho]
    refine ev_step (fun k => spec_AnswerTo.j2.eq_2 ..) (ev_ite (fun c => ?_) (fun c => ev_ite (fun c4 => ?_) (fun c4 => ev_ite (fun cs => ev_ite (fun c2 => ?_) (fun c2 => ?_)) (fun cs => ?_))))
    all_goals refine ev_bind (spec_NextSt_ev _ _) (ev_as (ev_now _) ?_)
    · rw [hb] at c
      rw [if_pos (of_decide_eq_true c)]
    all_goals (rw [hb] at c; rw [if_neg (fun h => c (decide_eq_true h))])
    · rw [if_pos c4]
    · rw [if_neg c4, if_pos ⟨cs, c2⟩]
    · rw [if_neg c4, if_neg (fun h => c2 h.2)]
    · rw [if_neg c4, if_neg (fun h => cs h.1)]
  have k1 : ∀ b : Bool, b = decide (wordV q = 2 ∨ wordV q = 3) → (inB st 0 2 && textB q) = true → Ev (fun k => spec_AnswerTo.j1 k st q (wordV q) b) (answV st q) := by
    intro b hb hok
    refine ev_step (fun k => spec_AnswerTo.j1.eq_2 ..) (ev_ite (fun c => ?_) (fun c => ?_))
    · exact k2 _ (by rw [hb]; by_cases h : wordV q = 2 ∨ wordV q = 3 <;> simp [c, h]) hok
    · exact k2 _ (by simp [c]) hok
  have k0 : ∀ b : Bool, b = !(inB st 0 2 && textB q) → Ev (fun k => spec_AnswerTo.j0 k st q b) (answV st q) := by
    intro b hb
    refine ev_step (fun k => spec_AnswerTo.j0.eq_2 ..) (ev_ite (fun c => ?_) (fun c => ?_))
    · rw [hb] at c
      exact ev_as (ev_now _) (by unfold answV; rw [if_pos (by revert c; generalize (inB st 0 2 && textB q) = z; cases z <;> simp)])
    · rw [hb] at c
      have hok : (inB st 0 2 && textB q) = true := by revert c; generalize (inB st 0 2 && textB q) = z; cases z <;> simp
      refine ev_bind1 (spec_WordOf_eq _) (ev_ite (fun c2 => ?_) (fun c2 => ?_))
      · exact k1 _ (by simp [c2]) hok
      · exact k1 _ (by simp [c2]; rfl) hok
  unfold spec_AnswerTo.f
  refine ev_bind1 (spec_l1In_eq _ _ _) (ev_ite (fun c => ?_) (fun c => ?_))
  · exact ev_bind (spec_TextOk_ev q hq) (k0 _ (by simp [c]))
  · exact k0 _ (by simp [c])

/-! ### spec_Answer -/
/-- What a line's socket is after its far end has answered by two frames, and that it did. -/
def ans2 (x : S29) (n st : Int) (a b : S32) : Int × Int × Int × Bool × List Int × List Int × Int × Int × Bool :=
  if (x.f4.length : Int) + ((putFrameV a.f0 a.f1 a.f2 ++ putFrameV b.f0 b.f1 b.f2).length : Int) > 240 then (x.f0, x.f1, x.f2, x.f3, x.f4, x.f5, x.f6, x.f7, false)
  else (x.f0, x.f1, x.f2, x.f3, x.f4 ++ (putFrameV a.f0 a.f1 a.f2 ++ putFrameV b.f0 b.f1 b.f2), x.f5, st, wrap64 (x.f7 + n), true)
theorem spec_Answer_j1 (x : S29) (n st : Int) (a b : S32) (h4 : x.f4.length ≤ 1000000000) (h5 : x.f5.length ≤ 1000000000) (ha : a.f1.size ≤ 1000000000) (hb : b.f1.size ≤ 1000000000) :
    Ev (fun k => spec_Answer.j1 k n [a, b] x.f0 x.f1 x.f2 x.f3 x.f4 x.f5 x.f6 x.f7 x.f0 x.f1 x.f2 x.f3 x.f4 x.f5 st x.f7) (ans2 x n st a b) := by
  have pa := putFrameV_len a.f0 a.f1 a.f2
  have pb := putFrameV_len b.f0 b.f1 b.f2
  have e1 : Ev (fun k => spec_PutFrame.f k (rd_T32 [a, b] 0).f0 (rd_T32 [a, b] 0).f1 (rd_T32 [a, b] 0).f2) (putFrameV a.f0 a.f1 a.f2) := spec_PutFrame_ev a.f0 a.f1 a.f2 (by omega)
  have e2 : Ev (fun k => spec_PutFrame.f k (rd_T32 [a, b] 1).f0 (rd_T32 [a, b] 1).f1 (rd_T32 [a, b] 1).f2) (putFrameV b.f0 b.f1 b.f2) := spec_PutFrame_ev b.f0 b.f1 b.f2 (by omega)
  have w : wrap64 (240 - (x.f4.length : Int)) = 240 - (x.f4.length : Int) := w64 (by omega) (by omega)
  unfold ans2
  refine ev_step (fun k => spec_Answer.j1.eq_2 ..) (ev_pos (by simp) (ev_bind e1 (ev_pos (by simp) (ev_bind e2 (ev_pos (by omega) (ev_bind1 rfl ?_))))))
  simp only [w]
  have hl : (putFrameV a.f0 a.f1 a.f2 ++ putFrameV b.f0 b.f1 b.f2).length ≤ 204 := by rw [List.length_append]; omega
  refine ev_ite (fun c => ?_) (fun c => ev_pos (by omega) ?_)
  · exact ev_bind1 (spec_l8Copy_eq x (by omega) (by omega)) (ev_as (ev_now _) (by rw [if_pos (by omega)]))
  · exact ev_as (ev_now _) (by rw [if_neg (by omega)])
theorem spec_Answer_no (x : S29) (y0 y1 y2 : Int) (y3 : Bool) (y4 y5 : List Int) (y6 y7 : Int) : Ev (fun k => spec_Answer.j0 k true y0 y1 y2 y3 y4 y5 y6 y7 x.f0 x.f1 x.f2 x.f3 x.f4 x.f5 x.f6 x.f7) (x.f0, x.f1, x.f2, x.f3, x.f4, x.f5, x.f6, x.f7, false) :=
  ev_step (fun k => spec_Answer.j0.eq_2 ..) (ev_pos rfl (ev_now _))

/-! ### slices_Clone_byte -/
theorem slices_Clone_byte_eq (l : List Int) (h : l.length ≤ 1000000000000) : slices_Clone_byte.f l = some l := by
  unfold slices_Clone_byte.f
  simp only [Option.bind_some, List.nil_append, List.length_nil]
  rw [if_pos (by omega)]

/-! ### impl_sockCopy -/
theorem impl_sockCopy_eq (x : S29) (h4 : x.f4.length ≤ 1000000000000) (h5 : x.f5.length ≤ 1000000000000) : impl_sockCopy.f x.f0 x.f1 x.f2 x.f3 x.f4 x.f5 x.f6 x.f7 = some (x.f0, x.f1, x.f2, x.f3, x.f4, x.f5, x.f6, x.f7) := by
  unfold impl_sockCopy.f
  rw [slices_Clone_byte_eq _ h4, Option.bind_some, slices_Clone_byte_eq _ h5, Option.bind_some]

/-! ### impl_isIn -/
theorem impl_isIn_eq (a b c : Int) : impl_isIn.f a b c = some (inB a b c) := by
  unfold impl_isIn.f inB
  by_cases h : b ≤ a <;> simp [h]

/-! ### impl_sockIdOk -/
theorem impl_sockIdOk_eq (a : Int) : impl_sockIdOk.f a = some (inB a 1 9999) := by
  unfold impl_sockIdOk.f
  rw [impl_isIn_eq]
  rfl

/-! ### impl_SockOk -/
theorem impl_SockOk_j0 (b : Bool) (x0 x1 x2 : Int) (x3 : Bool) (x4 x5 : List Int) (x6 x7 : Int) : Ev (fun k => impl_SockOk.j0 k b x0 x1 x2 x3 x4 x5 x6 x7)
    (!b && (if x1 = 1 then x6 == 0 && x7 == 0 else if x1 = 2 then inB x6 0 2 && inB x7 0 (x5.length : Int) else false)) := by
  refine ev_step (fun k => impl_SockOk.j0.eq_2 ..) ?_
  refine ev_ite (fun c => ?_) (fun c => ?_)
  · exact ev_as (ev_now _) (by simp [c])
  have hb : b = false := by simpa using c
  refine ev_ite (fun c1 => ev_ite (fun c2 => ?_) (fun c2 => ?_)) (fun c1 => ev_ite (fun c2 => ?_) (fun c2 => ?_))
  · exact ev_as (ev_now _) (by simp [hb, c1, c2])
  · exact ev_as (ev_now _) (by simp [c1, c2])
  · refine ev_bind1 (impl_isIn_eq _ _ _) ?_
    refine ev_ite (fun c3 => ?_) (fun c3 => ?_)
    · exact ev_bind1 (impl_isIn_eq _ _ _) (ev_as (ev_now _) (by simp [hb, c2, c3]))
    · exact ev_as (ev_now _) (by simp [c2, c3])
  · exact ev_as (ev_now _) (by simp [c1, c2])
theorem impl_SockOk_ev (x : S29) : Ev (fun k => impl_SockOk.f k x.f0 x.f1 x.f2 x.f3 x.f4 x.f5 x.f6 x.f7) (sockB x.f0 x.f1 x.f2 x.f4 x.f5 x.f6 x.f7) := by
  obtain ⟨x0, x1, x2, x3, x4, x5, x6, x7⟩ := x
  unfold impl_SockOk.f sockB
  refine ev_bind1 (impl_sockIdOk_eq _) ?_
  refine ev_ite (fun c => ?_) (fun c => ?_)
  · refine ev_bind1 (impl_isIn_eq _ _ _) ?_
    refine ev_ite (fun c2 => ?_) (fun c2 => ?_)
    · exact ev_as (impl_SockOk_j0 ..) (by rw [c, c2]; simp)
    · exact ev_as (impl_SockOk_j0 ..) (by simp [c2])
  · exact ev_as (impl_SockOk_j0 ..) (by simp [c])

/-! ### impl_TextOk -/
theorem impl_TextOk_l0 (s : ByteArray) (hs : s.size ≤ 4611686018427387904) (d : Nat) : ∀ i : Int, 0 ≤ i → i + d = s.size → Ev (fun k => impl_TextOk.l0 k s (s.size : Int) i) (allF (byteIn s 32 126) i d && decide ((s.size : Int) ≤ 100)) := by
  induction d with
  | zero =>
    intro i h0 h1
    refine ev_step (fun k => impl_TextOk.l0.eq_2 ..) ?_
    refine ev_neg (by omega) ?_
    exact ev_now _
  | succ d ih =>
    intro i h0 h1
    refine ev_step (fun k => impl_TextOk.l0.eq_2 ..) ?_
    refine ev_pos (by omega) (ev_pos (by omega) (ev_pos (by omega) ?_))
    refine ev_ite (fun c1 => ?_) (fun c1 => ev_ite (fun c2 => ?_) (fun c2 => ?_))
    · refine ev_as (ev_now _) ?_
      have : byteIn s 32 126 i = false := by rw [byteIn_false]; omega
      simp [allF, this]
    · refine ev_as (ev_now _) ?_
      have : byteIn s 32 126 i = false := by rw [byteIn_false]; omega
      simp [allF, this]
    · have : byteIn s 32 126 i = true := by rw [byteIn_iff]; omega
      rw [w64 (by omega) (by omega), allF, this, Bool.true_and]
      exact ih (i + 1) (by omega) (by omega)
theorem impl_TextOk_ev (s : ByteArray) (hs : s.size ≤ 4611686018427387904) : Ev (fun k => impl_TextOk.f k s) (textB s) := impl_TextOk_l0 s hs s.size 0 (by omega) (by omega)

/-! ### impl_PutText -/
theorem impl_PutText_ev (l : List Int) (s : ByteArray) (hl : l.length ≤ 1000000000000) (hs : s.size ≤ 1000000000000) : Ev (fun k => impl_PutText.f k l s) (putTextV l s) := by
  unfold impl_PutText.f putTextV
  simp only [Option.bind_some]
  refine ev_bind1 (slices_Clone_byte_eq l (by omega)) (ev_bind (impl_TextOk_ev s (by omega)) (ev_ite (fun c => ?_) (fun c => ?_)))
  · exact ev_pos (by omega) (ev_pos (by rw [List.length_append]; simp only [List.length_cons, List.length_nil]; omega) (ev_as (ev_now _) (by rw [if_pos c])))
  · exact ev_as (ev_now _) (by rw [if_neg c])

/-! ### impl_nameOk -/
theorem impl_nameOk_l0 (s : ByteArray) (hs : s.size ≤ 4611686018427387904) (d : Nat) : ∀ i : Int, 0 ≤ i → i + d = s.size → Ev (fun k => impl_nameOk.l0 k s (s.size : Int) i) (allF (byteIn s 97 122) i d && inB s.size 1 8) := by
  induction d with
  | zero =>
    intro i h0 h1
    refine ev_step (fun k => impl_nameOk.l0.eq_2 ..) ?_
    refine ev_neg (by omega) ?_
    rw [impl_isIn_eq]
    exact ev_now _
  | succ d ih =>
    intro i h0 h1
    refine ev_step (fun k => impl_nameOk.l0.eq_2 ..) ?_
    refine ev_pos (by omega) (ev_pos (by omega) (ev_pos (by omega) ?_))
    refine ev_ite (fun c1 => ?_) (fun c1 => ev_ite (fun c2 => ?_) (fun c2 => ?_))
    · refine ev_as (ev_now _) ?_
      have : byteIn s 97 122 i = false := by rw [byteIn_false]; omega
      simp [allF, this]
    · refine ev_as (ev_now _) ?_
      have : byteIn s 97 122 i = false := by rw [byteIn_false]; omega
      simp [allF, this]
    · have : byteIn s 97 122 i = true := by rw [byteIn_iff]; omega
      rw [w64 (by omega) (by omega), allF, this, Bool.true_and]
      exact ih (i + 1) (by omega) (by omega)
theorem impl_nameOk_ev (s : ByteArray) (hs : s.size ≤ 4611686018427387904) : Ev (fun k => impl_nameOk.f k s) (nameB s) := impl_nameOk_l0 s hs s.size 0 (by omega) (by omega)

/-! ### impl_FrameOk -/
theorem impl_FrameOk_j0 (k : Int) (b : Bool) (t : ByteArray) (s : Int) (ht : t.size ≤ 4611686018427387904) : Ev (fun n => impl_FrameOk.j0 n k b k t s) (if b = true then textB t && s == 0 else if k = 5 then (t.toList == ([] : List UInt8)) && inB s 0 2 else if k = 3 then (t.toList == ([] : List UInt8)) && s == 0 else false) := by
  refine ev_step (fun n => impl_FrameOk.j0.eq_2 ..) (ev_ite (fun c => ?_) (fun c => ev_ite (fun c5 => ev_ite (fun ce => ?_) (fun ce => ?_)) (fun c5 => ev_ite (fun c3 => ?_) (fun c3 => ?_))))
  · refine ev_bind (impl_TextOk_ev t ht) (ev_ite (fun c1 => ?_) (fun c1 => ?_))
    · exact ev_as (ev_now _) (by simp [c, c1])
    · exact ev_as (ev_now _) (by simp [c, c1])
  · exact ev_bind1 (impl_isIn_eq _ _ _) (ev_as (ev_now _) (by simp [c, c5, ce]))
  · exact ev_as (ev_now _) (by simp [c, c5, ce])
  · exact ev_as (ev_now _) (by simp [c, c3])
  · exact ev_as (ev_now _) (by simp [c, c5, c3])
theorem impl_FrameOk_ev (k : Int) (t : ByteArray) (s : Int) (ht : t.size ≤ 4611686018427387904) : Ev (fun n => impl_FrameOk.f n k t s) (frameB k t s) := by
  unfold impl_FrameOk.f
  refine ev_ite (fun c1 => ?_) (fun c1 => ev_ite (fun c2 => ?_) (fun c2 => ev_ite (fun c4 => ?_) (fun c4 => ?_)))
  · refine ev_bind (impl_nameOk_ev t ht) (ev_ite (fun c => ?_) (fun c => ?_))
    · exact ev_as (ev_now _) (by simp [frameB, c1, c])
    · exact ev_as (ev_now _) (by simp [frameB, c1, c])
  · exact ev_as (impl_FrameOk_j0 k _ t s ht) (by simp [frameB, c2])
  · exact ev_as (impl_FrameOk_j0 k _ t s ht) (by simp [frameB, c4])
  · exact ev_as (impl_FrameOk_j0 k _ t s ht) (by simp [frameB, c1, c2, c4])

/-! ### impl_PutFrame -/
theorem impl_PutFrame_ev (k : Int) (t : ByteArray) (s : Int) (ht : t.size ≤ 1000000000000) : Ev (fun n => impl_PutFrame.f n k t s) (putFrameV k t s) := by
  unfold impl_PutFrame.f putFrameV
  simp only [Option.bind_some, List.length_cons, List.length_nil]
  refine ev_bind (impl_FrameOk_ev k t s (by omega)) (ev_ite (fun c => ?_) (fun c => ?_))
  · refine ev_ite (fun c1 => ev_pos (by omega) ?_) (fun c1 => ev_ite (fun c2 => ?_) (fun c2 => ?_))
    · exact ev_as (ev_now _) (by rw [if_pos c, if_pos c1])
    · exact ev_as (ev_now _) (by rw [if_pos c, if_neg c1, if_pos c2])
    · exact ev_bind (impl_PutText_ev [k % 256] t (by simp) ht) (ev_as (ev_now _) (by rw [if_pos c, if_neg c1, if_neg c2]))
  · exact ev_as (ev_now _) (by rw [if_neg c])

/-! ### impl_GetFrame -/
theorem impl_GetFrame_j0 (l : List Int) (c : Int) (b : Bool) (hl : l.length ≤ 4611686018427387904) (hb : bytesL l) : Ev (fun k => impl_GetFrame.j0 k l 1 b c ⟨#[]⟩ 0)
    (if b = true then (if (l.length : Int) < 2 then (0, ⟨#[]⟩, 0, 0, 1) else if rd l 1 > 100 then (0, ⟨#[]⟩, 0, 0, 2) else if (l.length : Int) < 2 + rd l 1 then (0, ⟨#[]⟩, 0, 0, 1)
      else if frameB c (strOfNums ((l.take (2 + rd l 1).toNat).drop 2)) 0 = true then (c, strOfNums ((l.take (2 + rd l 1).toNat).drop 2), 0, 2 + rd l 1, 0) else (0, ⟨#[]⟩, 0, 0, 2))
     else if frameB c ⟨#[]⟩ 0 = true then (c, ⟨#[]⟩, 0, 1, 0) else (0, ⟨#[]⟩, 0, 0, 2)) := by
  have h1 := rd_byte hb 1
  have w1 : wrap64 (rd l 1) = rd l 1 := w64 (by omega) (by omega)
  have w2 : wrap64 (2 + rd l 1) = 2 + rd l 1 := w64 (by omega) (by omega)
  refine ev_step (fun k => impl_GetFrame.j0.eq_2 ..) ?_
  simp only [w1, w2]
  refine ev_ite (fun c0 => ?_) (fun c0 => ?_)
  · rw [if_pos c0]
    refine ev_ite (fun ca => ?_) (fun ca => ev_pos (by omega) (ev_ite (fun cb => ?_) (fun cb => ev_ite (fun cc => ?_) (fun cc => ev_pos (by omega) (ev_pos (by omega) ?_)))))
    · exact ev_as (ev_now _) (by rw [if_pos ca])
    · exact ev_as (ev_now _) (by rw [if_neg ca, if_pos cb])
    · exact ev_as (ev_now _) (by rw [if_neg ca, if_neg cb, if_pos cc])
    · rw [if_neg ca, if_neg cb, if_neg cc]
      refine ev_bind (impl_FrameOk_ev _ _ _ (Nat.le_trans (strN_size l _) hl)) (ev_ite (fun ck => ?_) (fun ck => ?_))
      · exact ev_as (ev_now _) (by rw [if_pos ck])
      · exact ev_as (ev_now _) (by rw [if_neg ck])
  · rw [if_neg c0]
    refine ev_bind (impl_FrameOk_ev _ _ _ (Nat.zero_le _)) (ev_ite (fun ck => ?_) (fun ck => ?_))
    · exact ev_as (ev_now _) (by rw [if_pos ck])
    · exact ev_as (ev_now _) (by rw [if_neg ck])
theorem impl_GetFrame_ev (l : List Int) (hl : l.length ≤ 4611686018427387904) (hb : bytesL l) : Ev (fun k => impl_GetFrame.f k l) (getV l) := by
  have h0 := rd_byte hb 0
  have h1 := rd_byte hb 1
  have w0 : wrap64 (rd l 0) = rd l 0 := w64 (by omega) (by omega)
  have w1 : wrap64 (rd l 1) = rd l 1 := w64 (by omega) (by omega)
  unfold impl_GetFrame.f getV
  simp only [w0, w1]
  refine ev_ite (fun c => ?_) (fun c => ev_pos (by omega) ?_)
  · exact ev_as (ev_now _) (by rw [if_pos c])
  rw [if_neg c]
  refine ev_ite (fun c3 => ?_) (fun c3 => ?_)
  · rw [c3]
    exact ev_bind (impl_FrameOk_ev 3 ⟨#[]⟩ 0 (Nat.zero_le _)) (ev_pos (by simp [frameB, empty_toList]) (ev_as (ev_now _) (by simp)))
  rw [if_neg c3]
  refine ev_ite (fun c5 => ?_) (fun c5 => ?_)
  · have ci' : ¬ inB (rd l 0) 1 6 = false := by rw [c5]; decide
    rw [if_neg ci', if_pos c5]
    refine ev_ite (fun cl => ?_) (fun cl => ev_pos (by omega) ?_)
    · exact ev_as (ev_now _) (by rw [if_pos cl])
    · refine ev_bind (impl_FrameOk_ev _ ⟨#[]⟩ _ (Nat.zero_le _)) ?_
      have e : frameB (rd l 0) ⟨#[]⟩ (rd l 1) = inB (rd l 1) 0 2 := by simp [frameB, c5, empty_toList]
      rw [e, if_neg cl]
      refine ev_ite (fun ck => ?_) (fun ck => ?_)
      · exact ev_as (ev_now _) (by rw [if_pos ck, c5])
      · exact ev_as (ev_now _) (by rw [if_neg ck])
  rw [if_neg c5]
  have key : ∀ b : Bool, b = decide (rd l 0 = 1 ∨ rd l 0 = 2 ∨ rd l 0 = 4 ∨ rd l 0 = 6) → Ev (fun k => impl_GetFrame.j0 k l 1 b (rd l 0) ⟨#[]⟩ 0) (if inB (rd l 0) 1 6 = false then (0, ⟨#[]⟩, 0, 0, 2)
      else if (l.length : Int) < 2 then (0, ⟨#[]⟩, 0, 0, 1)
      else if rd l 1 > 100 then (0, ⟨#[]⟩, 0, 0, 2)
      else if (l.length : Int) < 2 + rd l 1 then (0, ⟨#[]⟩, 0, 0, 1)
      else if frameB (rd l 0) (strOfNums ((l.take (2 + rd l 1).toNat).drop 2)) 0 = true then (rd l 0, strOfNums ((l.take (2 + rd l 1).toNat).drop 2), 0, 2 + rd l 1, 0)
      else (0, ⟨#[]⟩, 0, 0, 2)) := by
    intro b hb2
    refine ev_as (impl_GetFrame_j0 l (rd l 0) b hl hb) ?_
    by_cases ci : inB (rd l 0) 1 6 = false
    · have hh := (inB_false _ _ _).1 ci
      have hbf : b = false := by rw [hb2]; exact decide_eq_false (by omega)
      have hf : frameB (rd l 0) ⟨#[]⟩ 0 = false := by
        unfold frameB
        rw [if_neg (by omega), if_neg (by omega), if_neg (by omega), if_neg (by omega)]
      simp [ci, hbf, hf]
    · have hh := (inB_iff (rd l 0) 1 6).1 (by simpa using ci)
      have hbt : b = true := by rw [hb2]; exact decide_eq_true (by omega)
      rw [if_pos hbt, if_neg ci]
  refine ev_ite (fun d1 => ?_) (fun d1 => ev_ite (fun d2 => ?_) (fun d2 => ev_ite (fun d4 => ?_) (fun d4 => ?_)))
  · exact key _ (by simp [d1])
  · exact key _ (by simp [d2])
  · exact key _ (by simp [d4])
  · exact key _ (by simp [d1, d2, d4]; rfl)

/-! ### impl_NextSt -/
theorem impl_NextSt_ev (st w : Int) : Ev (fun k => impl_NextSt.f k st w) (nextV st w) := by
  have k2 : ∀ b c : Bool, Ev (fun k => impl_NextSt.j2 k st b c) (if c = true then 2 else if st = 1 ∨ st = 2 then (if b = true then 0 else st) else 0) := by
    intro b c
    refine ev_step (fun k => impl_NextSt.j2.eq_2 ..) ?_
    refine ev_as (ev_eq (r := (if c = true then 2 else if st = 1 ∨ st = 2 then (if b = true then 0 else st) else 0)) ?_) rfl
    by_cases hc : c = true
    · simp [hc]
    · by_cases s1 : st = 1
      · by_cases hb : b = true <;> simp [hc, s1, hb]
      · by_cases s2 : st = 2
        · by_cases hb : b = true <;> simp [hc, s2, hb]
        · simp [hc, s1, s2]
  have k1 : ∀ b c : Bool, Ev (fun k => impl_NextSt.j1 k st w b c) (if c = true then 1 else if st = 1 ∧ w = 4 then 2 else if st = 1 ∨ st = 2 then (if b = true then 0 else st) else 0) := by
    intro b c
    refine ev_step (fun k => impl_NextSt.j1.eq_2 ..) ?_
    refine ev_ite (fun hc => ?_) (fun hc => ev_ite (fun s1 => ?_) (fun s1 => ?_))
    · exact ev_as (ev_now _) (by simp [hc])
    · refine ev_as (k2 _ _) ?_
      by_cases h4 : w = 4 <;> simp [hc, s1, h4]
    · refine ev_as (k2 _ _) ?_
      simp [hc, s1]
  have key : ∀ b : Bool, b = decide (w = 2 ∨ w = 3) → Ev (fun k => impl_NextSt.j0 k st w b) (nextV st w) := by
    intro b hb
    refine ev_step (fun k => impl_NextSt.j0.eq_2 ..) ?_
    refine ev_ite (fun s0 => ?_) (fun s0 => ?_)
    · refine ev_as (k1 _ _) ?_
      by_cases h1 : w = 1 <;> simp [nextV, s0, h1]
    · refine ev_as (k1 _ _) ?_
      unfold nextV
      by_cases s1 : st = 1
      · by_cases h4 : w = 4
        · simp [s1, h4]
        · by_cases h2 : w = 2 ∨ w = 3 <;> simp [s1, h4, h2, hb]
      · by_cases s2 : st = 2
        · by_cases h2 : w = 2 ∨ w = 3 <;> simp [s2, h2, hb]
        · simp [s0, s1, s2]
  unfold impl_NextSt.f
  refine ev_ite (fun c => ?_) (fun c => ?_)
  · exact key true (by simp [c])
  · exact key _ (by simp [c]; rfl)

/-! ### impl_WordOf -/
theorem impl_WordOf_eq (q : ByteArray) : impl_WordOf.f q = some (wordV q) := by
  unfold impl_WordOf.f wordV
  repeat' split
  all_goals rfl

/-! ### impl_AnswerTo -/
theorem impl_AnswerTo_ev (st : Int) (q : ByteArray) (hq : q.size ≤ 4611686018427387904) : Ev (fun k => impl_AnswerTo.f k st q) (answV st q) := by
  have k2 : ∀ b : Bool, b = decide (st = 2 ∧ ¬ (wordV q = 2 ∨ wordV q = 3)) → (inB st 0 2 && textB q) = true → Ev (fun k => impl_AnswerTo.j1 k st (wordV q) b 4 q 0) (answV st q) := by
    intro b hb hok
    have ho : ¬ (inB st 0 2 && textB q) = false := by simp [hok]
    unfold answV
    rw [if_neg ho]
    refine ev_step (fun k => impl_AnswerTo.j1.eq_2 ..) (ev_ite (fun c => ?_) (fun c => ev_ite (fun c4 => ?_) (fun c4 => ev_ite (fun cs => ev_ite (fun c2 => ?_) (fun c2 => ?_)) (fun cs => ?_))))
    all_goals refine ev_bind (impl_NextSt_ev _ _) (ev_as (ev_now _) ?_)
    · rw [hb] at c
      rw [if_pos (of_decide_eq_true c)]
    all_goals (rw [hb] at c; rw [if_neg (fun h => c (decide_eq_true h))])
    · rw [if_pos c4]
    · rw [if_neg c4, if_pos ⟨cs, c2⟩]
    · rw [if_neg c4, if_neg (fun h => c2 h.2)]
    · rw [if_neg c4, if_neg (fun h => cs h.1)]
  have k0 : ∀ b : Bool, b = !(inB st 0 2 && textB q) → Ev (fun k => impl_AnswerTo.j0 k st q b) (answV st q) := by
    intro b hb
    refine ev_step (fun k => impl_AnswerTo.j0.eq_2 ..) (ev_ite (fun c => ?_) (fun c => ?_))
    · rw [hb] at c
      exact ev_as (ev_now _) (by unfold answV; rw [if_pos (by revert c; generalize (inB st 0 2 && textB q) = z; cases z <;> simp)])
    · rw [hb] at c
      have hok : (inB st 0 2 && textB q) = true := by revert c; generalize (inB st 0 2 && textB q) = z; cases z <;> simp
      refine ev_bind1 (impl_WordOf_eq _) (ev_ite (fun cs => ev_ite (fun c2 => ?_) (fun c2 => ?_)) (fun cs => ?_))
      · exact k2 _ (by simp [c2]) hok
      · exact k2 _ (by by_cases h3 : wordV q = 3 <;> simp [cs, c2, h3, bne]) hok
      · exact k2 _ (by simp [cs]) hok
  unfold impl_AnswerTo.f
  refine ev_bind1 (impl_isIn_eq _ _ _) (ev_ite (fun c => ?_) (fun c => ?_))
  · exact ev_bind (impl_TextOk_ev q hq) (k0 _ (by simp [c]))
  · exact k0 _ (by simp [c])

/-! ### impl_Answer -/
theorem impl_Answer_j1 (x : S29) (n st : Int) (a b : S32) (h4 : x.f4.length ≤ 1000000000) (h5 : x.f5.length ≤ 1000000000) (ha : a.f1.size ≤ 1000000000) (hb : b.f1.size ≤ 1000000000) :
    Ev (fun k => impl_Answer.j1 k n [a, b] x.f0 x.f1 x.f2 x.f3 x.f4 x.f5 x.f6 x.f7 x.f0 x.f1 x.f2 x.f3 x.f4 x.f5 st x.f7) (ans2 x n st a b) := by
  have pa := putFrameV_len a.f0 a.f1 a.f2
  have pb := putFrameV_len b.f0 b.f1 b.f2
  have e1 : Ev (fun k => impl_PutFrame.f k (rd_T32 [a, b] 0).f0 (rd_T32 [a, b] 0).f1 (rd_T32 [a, b] 0).f2) (putFrameV a.f0 a.f1 a.f2) := impl_PutFrame_ev a.f0 a.f1 a.f2 (by omega)
  have e2 : Ev (fun k => impl_PutFrame.f k (rd_T32 [a, b] 1).f0 (rd_T32 [a, b] 1).f1 (rd_T32 [a, b] 1).f2) (putFrameV b.f0 b.f1 b.f2) := impl_PutFrame_ev b.f0 b.f1 b.f2 (by omega)
  have w1 : wrap64 (0 + 1) = 1 := w64 (by omega) (by omega)
  have w2 : wrap64 (1 + 1) = 2 := w64 (by omega) (by omega)
  have hl : (putFrameV a.f0 a.f1 a.f2 ++ putFrameV b.f0 b.f1 b.f2).length ≤ 204 := by rw [List.length_append]; omega
  have hq : ((x.f4 ++ putFrameV a.f0 a.f1 a.f2) ++ putFrameV b.f0 b.f1 b.f2).length = x.f4.length + (putFrameV a.f0 a.f1 a.f2 ++ putFrameV b.f0 b.f1 b.f2).length := by simp only [List.length_append]; omega
  have hL : ((([a, b] : List S32).length : Nat) : Int) = 2 := rfl
  unfold ans2
  refine ev_step (fun k => impl_Answer.j1.eq_2 ..) (ev_step (fun k => impl_Answer.l0.eq_2 ..) ?_)
  rw [hL]
  refine ev_pos (by omega) (ev_pos (by omega) (ev_pos (by omega) (ev_bind e1 (ev_pos (by omega) ?_))))
  rw [w1]
  refine ev_step (fun k => impl_Answer.l0.eq_2 ..) ?_
  rw [hL]
  refine ev_pos (by omega) (ev_pos (by omega) (ev_pos (by omega) (ev_bind e2 (ev_pos (by rw [List.length_append]; omega) ?_))))
  rw [w2]
  refine ev_step (fun k => impl_Answer.l0.eq_2 ..) (ev_neg (by omega) ?_)
  refine ev_ite (fun c => ?_) (fun c => ?_)
  · rw [hq] at c
    exact ev_bind1 (impl_sockCopy_eq x (by omega) (by omega)) (ev_as (ev_now _) (by rw [if_pos (by omega)]))
  · rw [hq] at c
    exact ev_as (ev_now _) (by rw [if_neg (by omega), List.append_assoc])
theorem impl_Answer_no (x : S29) (y0 y1 y2 : Int) (y3 : Bool) (y4 y5 : List Int) (y6 y7 : Int) : Ev (fun k => impl_Answer.j0 k true y0 y1 y2 y3 y4 y5 y6 y7 x.f0 x.f1 x.f2 x.f3 x.f4 x.f5 x.f6 x.f7) (x.f0, x.f1, x.f2, x.f3, x.f4, x.f5, x.f6, x.f7, false) :=
  ev_step (fun k => impl_Answer.j0.eq_2 ..) (ev_pos rfl (ev_now _))
theorem getV_text (l : List Int) (hc : (getV l).2.2.2.2 = 0) (hk : (getV l).1 = 2) : textB (getV l).2.1 = true := by
  unfold getV at hc hk ⊢
  by_cases c1 : (l.length : Int) = 0
  · rw [if_pos c1] at hk
    exact absurd hk (by decide)
  rw [if_neg c1] at hc hk ⊢
  by_cases c2 : rd l 0 = 3
  · rw [if_pos c2] at hk
    exact absurd hk (by decide)
  rw [if_neg c2] at hc hk ⊢
  by_cases c3 : inB (rd l 0) 1 6 = false
  · rw [if_pos c3] at hk
    exact absurd hk (by decide)
  rw [if_neg c3] at hc hk ⊢
  by_cases c4 : (l.length : Int) < 2
  · rw [if_pos c4] at hk
    exact absurd hk (by decide)
  rw [if_neg c4] at hc hk ⊢
  by_cases c5 : rd l 0 = 5
  · rw [if_pos c5] at hk
    split at hk
    · exact absurd hk (by show ¬ (5 : Int) = 2; decide)
    · exact absurd hk (by decide)
  rw [if_neg c5] at hc hk ⊢
  by_cases c6 : rd l 1 > 100
  · rw [if_pos c6] at hk
    exact absurd hk (by decide)
  rw [if_neg c6] at hc hk ⊢
  by_cases c7 : (l.length : Int) < 2 + rd l 1
  · rw [if_pos c7] at hk
    exact absurd hk (by decide)
  rw [if_neg c7] at hc hk ⊢
  by_cases c8 : frameB (rd l 0) (strOfNums ((l.take (2 + rd l 1).toNat).drop 2)) 0 = true
  · rw [if_pos c8] at hk ⊢
    have h2 : rd l 0 = 2 := hk
    rw [h2] at c8
    unfold frameB at c8
    rw [if_neg (by decide), if_pos (by decide), Bool.and_eq_true] at c8
    exact c8.1
  · rw [if_neg c8] at hk
    exact absurd hk (by decide)
theorem getV_size (l : List Int) : (getV l).2.1.size ≤ l.length := by
  unfold getV
  repeat' split
  all_goals first | (show (⟨#[]⟩ : ByteArray).size ≤ _; exact Nat.zero_le _) | skip
  show (strOfNums _).size ≤ _
  rw [strOfNums_size, List.length_drop, List.length_take]
  omega
theorem ans2_len (x : S29) (n st : Int) (a b : S32) (h4 : x.f4.length ≤ 2000000) (h5 : x.f5.length ≤ 2000000) : (ans2 x n st a b).2.2.2.2.1.length ≤ 4000000 ∧ (ans2 x n st a b).2.2.2.2.2.1.length ≤ 4000000 := by
  have pa := putFrameV_len a.f0 a.f1 a.f2
  have pb := putFrameV_len b.f0 b.f1 b.f2
  unfold ans2
  split
  · exact ⟨by show x.f4.length ≤ _; omega, by show x.f5.length ≤ _; omega⟩
  · exact ⟨by show (x.f4 ++ (_ ++ _)).length ≤ _; rw [List.length_append, List.length_append]; omega, by show x.f5.length ≤ _; omega⟩
/-- Both answer alike. -/
theorem answer_both (x : S29) (h4 : x.f4.length ≤ 2000000) (h5 : x.f5.length ≤ 2000000) (hb : bytesL x.f5) :
    ∃ r : Int × Int × Int × Bool × List Int × List Int × Int × Int × Bool, Ev (fun k => spec_Answer.f k x.f0 x.f1 x.f2 x.f3 x.f4 x.f5 x.f6 x.f7) r ∧ Ev (fun k => impl_Answer.f k x.f0 x.f1 x.f2 x.f3 x.f4 x.f5 x.f6 x.f7) r ∧ r.2.2.2.2.1.length ≤ 4000000 ∧ r.2.2.2.2.2.1.length ≤ 4000000 := by
  have no : ∀ y : S29, y = x → y.f4.length ≤ 4000000 ∧ y.f5.length ≤ 4000000 := by
    rintro y rfl
    omega
  have cs := spec_l8Copy_eq x (by omega) (by omega)
  have ci := impl_sockCopy_eq x (by omega) (by omega)
  by_cases hs : sockB x.f0 x.f1 x.f2 x.f4 x.f5 x.f6 x.f7 = true
  · by_cases h1 : x.f1 = 2
    · by_cases h3 : x.f3 = true
      · refine ⟨(x.f0, x.f1, x.f2, x.f3, x.f4, x.f5, x.f6, x.f7, false), ev_bind1 cs (ev_bind (spec_SockOk_ev x) (ev_pos hs (ev_pos h1 ?_))), ev_bind1 ci (ev_bind (impl_SockOk_ev x) (ev_pos hs (ev_pos h1 ?_))), no x rfl⟩
        · refine ev_step (fun k => spec_Answer.j0.eq_2 ..) (ev_pos h3 (ev_now _))
        · refine ev_step (fun k => impl_Answer.j0.eq_2 ..) (ev_pos h3 (ev_now _))
      · have hd : 0 ≤ x.f7 ∧ x.f7 ≤ (x.f5.length : Int) ∧ inB x.f6 0 2 = true := by
          unfold sockB at hs
          rw [h1] at hs
          simp only [Bool.and_eq_true] at hs
          have hz : (inB x.f6 0 2 && inB x.f7 0 (x.f5.length : Int)) = true := hs.2.2.2
          rw [Bool.and_eq_true] at hz
          have := (inB_iff _ _ _).1 hz.2
          exact ⟨this.1, this.2, hz.1⟩
        have hbd : bytesL (x.f5.drop (x.f7 : Int).toNat) := fun z hz => hb z (List.mem_of_mem_drop hz)
        have hdl : (x.f5.drop (x.f7 : Int).toNat).length ≤ 2000000 := by rw [List.length_drop]; omega
        have gs := spec_GetFrame_ev (x.f5.drop (x.f7 : Int).toNat) (by omega) hbd
        have gi := impl_GetFrame_ev (x.f5.drop (x.f7 : Int).toNat) (by omega) hbd
        have tz := getV_size (x.f5.drop (x.f7 : Int).toNat)
        have tt := getV_text (x.f5.drop (x.f7 : Int).toNat)
        generalize getV (x.f5.drop (x.f7 : Int).toNat) = g at *
        by_cases hc : g.2.2.2.2 = 0
        · by_cases hk : g.1 = 2
          · have ht := tt hc hk
            have hq : g.2.1.size ≤ 4611686018427387904 := by omega
            have hA : ∃ a b : S32, answV x.f6 g.2.1 = [a, b] ∧ a.f1.size ≤ 1000000000 ∧ b.f1.size ≤ 1000000000 := by
              unfold answV
              rw [if_neg (by rw [hd.2.2, ht]; decide)]
              refine ⟨_, _, rfl, ?_, ?_⟩
              · split
                · show (7 : Nat) ≤ _; omega
                · split
                  · show (6 : Nat) ≤ _; omega
                  · split
                    · show (8 : Nat) ≤ _; omega
                    · show g.2.1.size ≤ _; omega
              · show (0 : Nat) ≤ _; omega
            obtain ⟨a, b, hab, ha, hb'⟩ := hA
            have aw := spec_AnswerTo_ev x.f6 g.2.1 hq
            have ai := impl_AnswerTo_ev x.f6 g.2.1 hq
            rw [hab] at aw ai
            refine ⟨ans2 x g.2.2.2.1 (nextV x.f6 (wordV g.2.1)) a b, ev_bind1 cs (ev_bind (spec_SockOk_ev x) (ev_pos hs (ev_pos h1 ?_))), ev_bind1 ci (ev_bind (impl_SockOk_ev x) (ev_pos hs (ev_pos h1 ?_))), ans2_len x _ _ a b h4 h5⟩
            · exact ev_step (fun k => spec_Answer.j0.eq_2 ..) (ev_neg h3 (ev_pos hd.1 (ev_pos hd.2.1 (ev_bind gs (ev_pos hc (ev_pos hk (ev_bind aw (ev_bind1 (spec_WordOf_eq _) (ev_bind (spec_NextSt_ev _ _) (spec_Answer_j1 x _ _ a b (by omega) (by omega) ha hb'))))))))))
            · exact ev_step (fun k => impl_Answer.j0.eq_2 ..) (ev_neg h3 (ev_pos hd.1 (ev_pos hd.2.1 (ev_bind gi (ev_pos hc (ev_pos hk (ev_bind ai (ev_bind1 (impl_WordOf_eq _) (ev_bind (impl_NextSt_ev _ _) (impl_Answer_j1 x _ _ a b (by omega) (by omega) ha hb'))))))))))
          · refine ⟨ans2 x g.2.2.2.1 x.f6 ⟨6, ⟨#[102, 111, 114, 109]⟩, 0⟩ ⟨5, ⟨#[]⟩, x.f6⟩, ev_bind1 cs (ev_bind (spec_SockOk_ev x) (ev_pos hs (ev_pos h1 ?_))), ev_bind1 ci (ev_bind (impl_SockOk_ev x) (ev_pos hs (ev_pos h1 ?_))), ans2_len x _ _ _ _ h4 h5⟩
            · exact ev_step (fun k => spec_Answer.j0.eq_2 ..) (ev_neg h3 (ev_pos hd.1 (ev_pos hd.2.1 (ev_bind gs (ev_pos hc (ev_neg hk (spec_Answer_j1 x _ _ _ _ (by omega) (by omega) (show (4 : Nat) ≤ _ by omega) (show (0 : Nat) ≤ _ by omega))))))))
            · exact ev_step (fun k => impl_Answer.j0.eq_2 ..) (ev_neg h3 (ev_pos hd.1 (ev_pos hd.2.1 (ev_bind gi (ev_pos hc (ev_neg hk (impl_Answer_j1 x _ _ _ _ (by omega) (by omega) (show (4 : Nat) ≤ _ by omega) (show (0 : Nat) ≤ _ by omega))))))))
        · refine ⟨(x.f0, x.f1, x.f2, x.f3, x.f4, x.f5, x.f6, x.f7, false), ev_bind1 cs (ev_bind (spec_SockOk_ev x) (ev_pos hs (ev_pos h1 ?_))), ev_bind1 ci (ev_bind (impl_SockOk_ev x) (ev_pos hs (ev_pos h1 ?_))), no x rfl⟩
          · exact ev_step (fun k => spec_Answer.j0.eq_2 ..) (ev_neg h3 (ev_pos hd.1 (ev_pos hd.2.1 (ev_bind gs (ev_neg hc (ev_now _))))))
          · exact ev_step (fun k => impl_Answer.j0.eq_2 ..) (ev_neg h3 (ev_pos hd.1 (ev_pos hd.2.1 (ev_bind gi (ev_neg hc (ev_now _))))))
    · exact ⟨(x.f0, x.f1, x.f2, x.f3, x.f4, x.f5, x.f6, x.f7, false), ev_bind1 cs (ev_bind (spec_SockOk_ev x) (ev_pos hs (ev_neg h1 (spec_Answer_no x ..)))), ev_bind1 ci (ev_bind (impl_SockOk_ev x) (ev_pos hs (ev_neg h1 (impl_Answer_no x ..)))), no x rfl⟩
  · exact ⟨(x.f0, x.f1, x.f2, x.f3, x.f4, x.f5, x.f6, x.f7, false), ev_bind1 cs (ev_bind (spec_SockOk_ev x) (ev_neg hs (spec_Answer_no x ..))), ev_bind1 ci (ev_bind (impl_SockOk_ev x) (ev_neg hs (impl_Answer_no x ..))), no x rfl⟩

theorem wf_bytes {l : List Int} (h : ∀ x ∈ l, (Lit.int .u8 x).wf = true) : bytesL l := by
  intro x hx
  have := h x hx
  simp [Lit.wf, IntKind.min, IntKind.max, IntKind.bits, IntKind.signed] at this
  omega
theorem FnExactAnswer : VFnExactAnswer.Pure := by
  intro x hG
  refine ev_rounds ?_
  unfold laws_FnExactAnswer.f
  obtain ⟨t, et, ct⟩ := sz_Sock x hG 1048576 (by omega) (by omega)
  rcases ct with ct | ⟨ct, dt⟩
  · exact ev_bind et (ev_pos ct (ev_now _))
  have hs : szv_Sock x ≤ 1048576 := by omega
  have hto := to_Sock x hs
  have hl : (cv_Sock x).f4.length ≤ 1048576 ∧ (cv_Sock x).f5.length ≤ 1048576 := by
    unfold szv_Sock szl_ByteS at hs
    show x.f4.length ≤ _ ∧ x.f5.length ≤ _
    omega
  have hbl : bytesL (cv_Sock x).f5 := by
    intro z hz
    exact wf_bytes hG.2.2.2.2.2.1.2 z hz
  obtain ⟨r, e1, e2, hr4, hr5⟩ := answer_both (cv_Sock x) (by omega) (by omega) hbl
  obtain ⟨r0, r1, r2, r3, r4, r5, r6, r7, g⟩ := r
  have hqR := eq_Sock ⟨r0, r1, r2, r3, r4, r5, r6, r7⟩ ⟨show r4.length ≤ _ from Nat.le_trans hr4 (by omega), show r5.length ≤ _ from Nat.le_trans hr5 (by omega)⟩
  have hqX := eq_Sock (cv_Sock x) ⟨show (cv_Sock x).f4.length ≤ _ by omega, show (cv_Sock x).f5.length ≤ _ by omega⟩
  have mX := mark_Sock (cv_Sock x) 1 (by omega) (by omega) (by omega) (by omega)
  have hr4' : r4.length ≤ 1000000000000 := Nat.le_trans hr4 (by omega)
  have hr5' : r5.length ≤ 1000000000000 := Nat.le_trans hr5 (by omega)
  have mR := mark_Sock ⟨r0, r1, r2, r3, r4, r5, r6, r7⟩ 1 (by omega) (by omega) hr4' hr5'
  have hh := held_Sock r0 r1 r2 r3 r4.length r5.length r6 r7 1 (by omega) (by omega) hr4' hr5'
  refine ev_bind et (ev_neg (by omega) (ev_bind hto (ev_bind e1 (ev_bind hto (ev_bind e2 (ev_bind hqR (ev_pos rfl ?_)))))))
  refine ev_step (fun k => laws_FnExactAnswer.j0.eq_2 ..) (ev_neg (by simp) (ev_bind hto (ev_bind hqX (ev_pos rfl (ev_bind mX (ev_neg (by show ¬ (_ : Int) < 0; omega) (ev_bind hqR (ev_pos rfl ?_))))))))
  refine ev_step (fun k => laws_FnExactAnswer.j1.eq_2 ..) (ev_neg (by simp) (ev_bind mR (ev_bind hh (ev_neg (by show ¬ (_ : Int) < 0; omega) (ev_pos rfl (ev_bind hto (ev_bind e2 (ev_bind hqR (ev_pos rfl ?_)))))))))
  exact ev_step (fun k => laws_FnExactAnswer.j2.eq_2 ..) (ev_neg (by simp) (ev_bind hh (ev_neg (by show ¬ (_ : Int) < 0; omega) (ev_pos rfl (ev_now _)))))
end Go.Proofs.Ytahfemlfdpbkkaa.Pure
