/- The program's Tell answers as the reference's, whatever the socket and the frame; what came in stays as it is, and the answer's slices are its own. -/
import Derived.Test.YtahfemlfdpbkkaaVFnExactTell
import Derived.Test.YtahfemlfdpbkkaaVBase
import Derived.Test.YtahfemlfdpbkkaaVExt
import Derived.Test.YtahfemlfdpbkkaaVMark
namespace Go.Proofs.Ytahfemlfdpbkkaa.Pure
open Go.RowKit Go.Proofs.Ytahfemlfdpbkkaa.PFnExactTell Go.Proofs.Ytahfemlfdpbkkaa.VFnExactTell Go.Proofs.YtahfemlfdpbkkaaW.PrintWords Go.Proofs.YtahfemlfdpbkkaaW.PrintLast Go.Proofs.YtahfemlfdpbkkaaV
set_option linter.unusedVariables false
set_option linter.unusedSimpArgs false
set_option maxRecDepth 20000

/-! ### laws_szByteS -/
def szl_ByteS (l : List Int) : Nat := l.length
theorem sz_ByteS (l : List Int) (hl : l.length ≤ 9223372036854775807) (left : Int) (h0 : 0 ≤ left) (h1 : left ≤ 1048576) :
    ∃ t, Ev (fun k => laws_szByteS.f l left) t ∧ (t < 0 ∨ 0 ≤ t ∧ t + (szl_ByteS l : Int) = left) := by
  unfold laws_szByteS.f szl_ByteS
  have e : wrap64 (left - (l.length : Int)) = left - (l.length : Int) := w64 (by omega) (by omega)
  simp only [e]
  by_cases hc : left - (l.length : Int) < 0
  · exact ⟨-1, ev_pos hc (ev_now _), .inl (by omega)⟩
  · exact ⟨_, ev_neg hc (ev_now _), .inr ⟨by omega, by omega⟩⟩

/-! ### laws_szSock -/
def szv_Sock (x : S24) : Nat := szl_ByteS x.f4 + szl_ByteS x.f5
theorem sz_Sock (x : S24) (hG : G24 x) (left : Int) (h0 : 0 ≤ left) (h1 : left ≤ 1048576) :
    ∃ t, Ev (fun k => laws_szSock.f x.f0 x.f1 x.f2 x.f3 x.f4 x.f5 x.f6 x.f7 left) t ∧ (t < 0 ∨ 0 ≤ t ∧ t + (szv_Sock x : Int) = left) := by
  obtain ⟨g0, g1, g2, g3, g4, g5, g6, g7⟩ := hG
  unfold laws_szSock.f szv_Sock
  obtain ⟨t4, et4, ct4⟩ := sz_ByteS x.f4 g4.1 (left) (by omega) (by omega)
  rcases ct4 with ct4 | ⟨ct4, dt4⟩
  · exact ⟨-1, ev_bind et4 (ev_pos ct4 (ev_now _)), .inl (by omega)⟩
  obtain ⟨t5, et5, ct5⟩ := sz_ByteS x.f5 g5.1 (t4) (by omega) (by omega)
  rcases ct5 with ct5 | ⟨ct5, dt5⟩
  · exact ⟨-1, ev_bind et4 (ev_neg (by omega) (ev_bind et5 (ev_pos ct5 (ev_now _)))), .inl (by omega)⟩
  exact ⟨_, ev_bind et4 (ev_neg (by omega) (ev_bind et5 (ev_neg (by omega) (ev_now _)))), .inr ⟨by omega, by omega⟩⟩

/-! ### laws_szFrame -/
def szv_Frame (x : S26) : Nat := x.f1.size
theorem sz_Frame (x : S26) (hG : G26 x) (left : Int) (h0 : 0 ≤ left) (h1 : left ≤ 1048576) :
    ∃ t, Ev (fun k => laws_szFrame.f x.f0 x.f1 x.f2 left) t ∧ (t < 0 ∨ 0 ≤ t ∧ t + (szv_Frame x : Int) = left) := by
  obtain ⟨g0, g1, g2⟩ := hG
  unfold laws_szFrame.f szv_Frame
  have e1 : wrap64 (left - (x.f1.size : Int)) = left - (x.f1.size : Int) := w64 (by omega) (by omega)
  simp only [e1]
  by_cases c1 : left - (x.f1.size : Int) < 0
  · exact ⟨-1, ev_pos c1 (ev_now _), .inl (by omega)⟩
  exact ⟨_, ev_neg c1 (ev_now _), .inr ⟨by omega, by omega⟩⟩

/-! ### spec_l8Copy -/
theorem spec_l8Copy_eq (x : S29) (h4 : x.f4.length ≤ 1000000000000) (h5 : x.f5.length ≤ 1000000000000) : spec_l8Copy.f x.f0 x.f1 x.f2 x.f3 x.f4 x.f5 x.f6 x.f7 = some (x.f0, x.f1, x.f2, x.f3, x.f4, x.f5, x.f6, x.f7) := by
  unfold spec_l8Copy.f
  simp only [Option.bind_some, List.nil_append, List.length_nil]
  rw [if_pos (by omega), if_pos (by omega)]

/-! ### spec_l1In -/
theorem spec_l1In_eq (a b c : Int) : spec_l1In.f a b c = some (inB a b c) := by
  unfold spec_l1In.f inB
  by_cases h : b ≤ a <;> simp [h]

/-! ### spec_SockOk -/
/-- A socket as it has to be: number, kind, holders, what came in, what went out, status, what is done. -/
def sockB (id ki ho : Int) (inp out : List Int) (st dn : Int) : Bool :=
  inB id 1 9999 && (inB ho 1 3 && (!(decide ((inp.length : Int) > 240)) &&
    (if ki = 1 then st == 0 && dn == 0 else if ki = 2 then inB st 0 2 && inB dn 0 (out.length : Int) else false)))
theorem spec_SockOk_j0 (b : Bool) (x0 x1 x2 : Int) (x3 : Bool) (x4 x5 : List Int) (x6 x7 : Int) : Ev (fun k => spec_SockOk.j0 k b x0 x1 x2 x3 x4 x5 x6 x7)
    (!b && (if x1 = 1 then x6 == 0 && x7 == 0 else inB x6 0 2 && inB x7 0 (x5.length : Int))) := by
  refine ev_step (fun k => spec_SockOk.j0.eq_2 ..) ?_
  refine ev_ite (fun c => ?_) (fun c => ?_)
  · exact ev_as (ev_now _) (by simp [c])
  have hb : b = false := by simpa using c
  refine ev_ite (fun c1 => ev_ite (fun c2 => ?_) (fun c2 => ?_)) (fun c1 => ?_)
  · exact ev_as (ev_now _) (by simp [hb, c1, c2])
  · exact ev_as (ev_now _) (by simp [c1, c2])
  · refine ev_bind1 (spec_l1In_eq _ _ _) ?_
    refine ev_ite (fun c2 => ?_) (fun c2 => ?_)
    · exact ev_bind1 (spec_l1In_eq _ _ _) (ev_as (ev_now _) (by simp [hb, c1, c2]))
    · exact ev_as (ev_now _) (by simp [c1, c2])
theorem spec_SockOk_ev (x : S29) : Ev (fun k => spec_SockOk.f k x.f0 x.f1 x.f2 x.f3 x.f4 x.f5 x.f6 x.f7) (sockB x.f0 x.f1 x.f2 x.f4 x.f5 x.f6 x.f7) := by
  obtain ⟨x0, x1, x2, x3, x4, x5, x6, x7⟩ := x
  unfold spec_SockOk.f sockB
  have hk : inB x1 1 2 = true → (if x1 = 1 then x6 == 0 && x7 == 0 else inB x6 0 2 && inB x7 0 (x5.length : Int)) = (if x1 = 1 then x6 == 0 && x7 == 0 else if x1 = 2 then inB x6 0 2 && inB x7 0 (x5.length : Int) else false) := by
    intro h
    have := (inB_iff _ _ _).1 h
    by_cases e : x1 = 1
    · simp [e]
    · have e2 : x1 = 2 := by omega
      simp [e2]
  have hk2 : ¬ inB x1 1 2 = true → (if x1 = 1 then x6 == 0 && x7 == 0 else if x1 = 2 then inB x6 0 2 && inB x7 0 (x5.length : Int) else false) = false := by
    intro h
    have e1 : ¬ x1 = 1 := fun e => h (by rw [e]; rfl)
    have e2 : ¬ x1 = 2 := fun e => h (by rw [e]; rfl)
    simp [e1, e2]
  refine ev_bind1 (spec_l1In_eq _ _ _) ?_
  refine ev_ite (fun c => ?_) (fun c => ?_)
  · refine ev_bind1 (spec_l1In_eq _ _ _) ?_
    refine ev_ite (fun c2 => ?_) (fun c2 => ?_)
    · refine ev_bind1 (spec_l1In_eq _ _ _) ?_
      refine ev_ite (fun c3 => ?_) (fun c3 => ?_)
      · exact ev_as (spec_SockOk_j0 ..) (by rw [c, c3, hk c2]; simp)
      · exact ev_as (spec_SockOk_j0 ..) (by simp [c3])
    · exact ev_as (spec_SockOk_j0 ..) (by simp only [hk2 c2]; simp)
  · exact ev_as (spec_SockOk_j0 ..) (by simp [c])

/-! ### spec_TextOk -/
theorem spec_TextOk_l0 (s : ByteArray) (hs : s.size ≤ 4611686018427387904) (d : Nat) : ∀ i : Int, 0 ≤ i → i + d = s.size → i ≤ 101 → Ev (fun k => spec_TextOk.l0 k s i) (allF (byteIn s 32 126) i d && decide ((s.size : Int) ≤ 100)) := by
  induction d with
  | zero =>
    intro i h0 h1 h2
    refine ev_step (fun k => spec_TextOk.l0.eq_2 ..) ?_
    refine ev_neg (by omega) ?_
    refine ev_step (fun k => spec_TextOk.j1.eq_2 ..) ?_
    refine ev_neg (by decide) ?_
    exact ev_now _
  | succ d ih =>
    intro i h0 h1 h2
    refine ev_step (fun k => spec_TextOk.l0.eq_2 ..) ?_
    refine ev_pos (by omega) ?_
    refine ev_step (fun k => spec_TextOk.j1.eq_2 ..) ?_
    refine ev_ite (fun c0 => ?_) (fun c0 => ?_)
    · have c0' := of_decide_eq_true c0
      refine ev_pos (by omega) (ev_pos (by omega) ?_)
      refine ev_ite (fun c1 => ?_) (fun c1 => ev_ite (fun c2 => ?_) (fun c2 => ?_))
      · refine ev_as (ev_now _) ?_
        have : byteIn s 32 126 i = false := by rw [byteIn_false]; omega
        simp [allF, this]
      · refine ev_as (ev_now _) ?_
        have : byteIn s 32 126 i = false := by rw [byteIn_false]; omega
        simp [allF, this]
      · have : byteIn s 32 126 i = true := by rw [byteIn_iff]; omega
        rw [w64 (by omega) (by omega), allF, this, Bool.true_and]
        exact ih (i + 1) (by omega) (by omega) (by omega)
    · have c0' : ¬ i ≤ 100 := fun h => c0 (decide_eq_true h)
      refine ev_as (ev_now _) ?_
      have : decide ((s.size : Int) ≤ 100) = false := decide_eq_false (by omega)
      rw [this, Bool.and_false]
theorem spec_TextOk_ev (s : ByteArray) (hs : s.size ≤ 4611686018427387904) : Ev (fun k => spec_TextOk.f k s) (textB s) := spec_TextOk_l0 s hs s.size 0 (by omega) (by omega) (by omega)

/-! ### spec_PutText -/
/-- Bytes with a text behind them, if it is one that may stand there. -/
def putTextV (l : List Int) (s : ByteArray) : List Int := if textB s = true then (l ++ [(s.size : Int) % 256]) ++ bytesOf s else l
theorem textB_size (s : ByteArray) (h : textB s = true) : s.size ≤ 100 := by
  unfold textB at h
  rw [Bool.and_eq_true] at h
  have := of_decide_eq_true h.2
  omega
theorem putTextV_len (l : List Int) (s : ByteArray) : (putTextV l s).length ≤ l.length + 101 := by
  unfold putTextV
  split
  · rename_i h
    have := textB_size s h
    rw [List.length_append, List.length_append, bytesOf_length]
    simp only [List.length_cons, List.length_nil]
    omega
  · omega
theorem spec_PutText_ev (l : List Int) (s : ByteArray) (hl : l.length ≤ 1000000000000) (hs : s.size ≤ 1000000000000) : Ev (fun k => spec_PutText.f k l s) (putTextV l s) := by
  unfold spec_PutText.f putTextV
  simp only [Option.bind_some, List.nil_append, List.length_nil]
  refine ev_pos (by omega) (ev_bind (spec_TextOk_ev s (by omega)) (ev_ite (fun c => ?_) (fun c => ?_)))
  · exact ev_pos (by omega) (ev_pos (by rw [List.length_append]; simp only [List.length_cons, List.length_nil]; omega) (ev_as (ev_now _) (by rw [if_pos c])))
  · exact ev_as (ev_now _) (by rw [if_neg c])

/-! ### spec_l1Name -/
theorem spec_l1Name_l0 (s : ByteArray) (hs : s.size ≤ 4611686018427387904) (d : Nat) : ∀ i : Int, 0 ≤ i → i + d = s.size → Ev (fun k => spec_l1Name.l0 k s i) (allF (byteIn s 97 122) i d && inB s.size 1 8) := by
  induction d with
  | zero =>
    intro i h0 h1
    refine ev_step (fun k => spec_l1Name.l0.eq_2 ..) ?_
    refine ev_neg (by omega) ?_
    rw [spec_l1In_eq]
    exact ev_now _
  | succ d ih =>
    intro i h0 h1
    refine ev_step (fun k => spec_l1Name.l0.eq_2 ..) ?_
    refine ev_pos (by omega) (ev_pos (by omega) ?_)
    refine ev_ite (fun c1 => ?_) (fun c1 => ev_ite (fun c2 => ?_) (fun c2 => ?_))
    · refine ev_as (ev_now _) ?_
      have : byteIn s 97 122 i = false := by rw [byteIn_false]; omega
      simp [allF, this]
    · refine ev_as (ev_now _) ?_
      have : byteIn s 97 122 i = false := by rw [byteIn_false]; omega
      simp [allF, this]
    · have : byteIn s 97 122 i = true := by rw [byteIn_iff]; omega
      rw [w64 (by omega) (by omega), allF, this, Bool.true_and]
      exact ih (i + 1) (by omega) (by omega)
theorem spec_l1Name_ev (s : ByteArray) (hs : s.size ≤ 4611686018427387904) : Ev (fun k => spec_l1Name.f k s) (nameB s) := spec_l1Name_l0 s hs s.size 0 (by omega) (by omega)

/-! ### spec_FrameOk -/
/-- A frame as it has to be. -/
def frameB (k : Int) (t : ByteArray) (s : Int) : Bool :=
  if k = 1 then nameB t && s == 0 else if k = 2 ∨ k = 4 ∨ k = 6 then textB t && s == 0 else if k = 5 then (t.toList == ([] : List UInt8)) && inB s 0 2 else if k = 3 then (t.toList == ([] : List UInt8)) && s == 0 else false
theorem spec_FrameOk_j0 (k : Int) (b : Bool) (t : ByteArray) (s : Int) (ht : t.size ≤ 4611686018427387904) : Ev (fun n => spec_FrameOk.j0 n k b k t s) (if b = true then textB t && s == 0 else if k = 5 then (t.toList == ([] : List UInt8)) && inB s 0 2 else if k = 3 then (t.toList == ([] : List UInt8)) && s == 0 else false) := by
  refine ev_step (fun n => spec_FrameOk.j0.eq_2 ..) (ev_ite (fun c => ?_) (fun c => ev_ite (fun c5 => ev_ite (fun ce => ?_) (fun ce => ?_)) (fun c5 => ev_ite (fun c3 => ev_ite (fun ce => ?_) (fun ce => ?_)) (fun c3 => ?_))))
  · refine ev_bind (spec_TextOk_ev t ht) (ev_ite (fun c1 => ?_) (fun c1 => ?_))
    · exact ev_as (ev_now _) (by simp [c, c1])
    · exact ev_as (ev_now _) (by simp [c, c1])
  · exact ev_bind1 (spec_l1In_eq _ _ _) (ev_as (ev_now _) (by simp [c, c5, ce]))
  · exact ev_as (ev_now _) (by simp [c, c5, ce])
  · exact ev_as (ev_now _) (by simp [c, c3, ce])
  · exact ev_as (ev_now _) (by simp [c, c3, ce])
  · exact ev_as (ev_now _) (by simp [c, c5, c3])
theorem spec_FrameOk_ev (k : Int) (t : ByteArray) (s : Int) (ht : t.size ≤ 4611686018427387904) : Ev (fun n => spec_FrameOk.f n k t s) (frameB k t s) := by
  unfold spec_FrameOk.f
  refine ev_ite (fun c1 => ?_) (fun c1 => ev_ite (fun c2 => ?_) (fun c2 => ev_ite (fun c4 => ?_) (fun c4 => ?_)))
  · refine ev_bind (spec_l1Name_ev t ht) (ev_ite (fun c => ?_) (fun c => ?_))
    · exact ev_as (ev_now _) (by simp [frameB, c1, c])
    · exact ev_as (ev_now _) (by simp [frameB, c1, c])
  · exact ev_as (spec_FrameOk_j0 k _ t s ht) (by simp [frameB, c2])
  · exact ev_as (spec_FrameOk_j0 k _ t s ht) (by simp [frameB, c4])
  · exact ev_as (spec_FrameOk_j0 k _ t s ht) (by simp [frameB, c1, c2, c4])

/-! ### spec_PutFrame -/
/-- The bytes of a frame. -/
def putFrameV (k : Int) (t : ByteArray) (s : Int) : List Int := if frameB k t s = true then (if k = 5 then [k % 256] ++ [s % 256] else if k = 3 then [k % 256] else putTextV [k % 256] t) else []
theorem putFrameV_len (k : Int) (t : ByteArray) (s : Int) : (putFrameV k t s).length ≤ 102 := by
  have := putTextV_len [k % 256] t
  simp only [List.length_cons, List.length_nil] at this
  unfold putFrameV
  split
  · split
    · simp
    · split
      · simp
      · omega
  · simp
theorem spec_PutFrame_ev (k : Int) (t : ByteArray) (s : Int) (ht : t.size ≤ 1000000000000) : Ev (fun n => spec_PutFrame.f n k t s) (putFrameV k t s) := by
  unfold spec_PutFrame.f putFrameV
  simp only [Option.bind_some, List.length_cons, List.length_nil]
  refine ev_bind (spec_FrameOk_ev k t s (by omega)) (ev_ite (fun c => ?_) (fun c => ?_))
  · refine ev_ite (fun c1 => ev_pos (by omega) ?_) (fun c1 => ev_ite (fun c2 => ?_) (fun c2 => ?_))
    · exact ev_as (ev_now _) (by rw [if_pos c, if_pos c1])
    · exact ev_as (ev_now _) (by rw [if_pos c, if_neg c1, if_pos c2])
    · exact ev_bind (spec_PutText_ev [k % 256] t (by simp) ht) (ev_as (ev_now _) (by rw [if_pos c, if_neg c1, if_neg c2]))
  · exact ev_as (ev_now _) (by rw [if_neg c])

/-! ### spec_Tell -/
/-- What a socket is after a frame was told to it. -/
def tellV (x : S29) (k : Int) (t : ByteArray) (s : Int) : S29 :=
  if sockB x.f0 x.f1 x.f2 x.f4 x.f5 x.f6 x.f7 = true then ⟨x.f0, x.f1, x.f2, x.f3, x.f4, x.f5 ++ putFrameV k t s, x.f6, x.f7⟩ else x
theorem spec_Tell_ev (x : S29) (k : Int) (t : ByteArray) (s : Int) (h4 : x.f4.length ≤ 1000000000000) (h5 : x.f5.length ≤ 1000000000000) (ht : t.size ≤ 1000000000000) :
    Ev (fun n => spec_Tell.f n x.f0 x.f1 x.f2 x.f3 x.f4 x.f5 x.f6 x.f7 k t s) ((tellV x k t s).f0, (tellV x k t s).f1, (tellV x k t s).f2, (tellV x k t s).f3, (tellV x k t s).f4, (tellV x k t s).f5, (tellV x k t s).f6, (tellV x k t s).f7) := by
  have hp := putFrameV_len k t s
  unfold spec_Tell.f tellV
  refine ev_bind1 (spec_l8Copy_eq x h4 h5) (ev_bind (spec_SockOk_ev x) (ev_ite (fun c => ?_) (fun c => ?_)))
  · exact ev_bind (spec_PutFrame_ev k t s ht) (ev_pos (by show x.f5.length + _ < _; omega) (ev_as (ev_now _) (by rw [if_pos c])))
  · exact ev_as (ev_now _) (by rw [if_neg c])

/-! ### laws_toByteS -/
theorem to_ByteS_l0 (l : List Int) (hs : szl_ByteS l ≤ 1048576) (d : Nat) : ∀ (i : Nat) (x : List Int), i + d = l.length → x.length = l.length → x.take i = (l).take i → Ev (fun k => laws_toByteS.l0 k l x (i : Int)) (l) := by
  have hl : l.length ≤ 1048576 := by unfold szl_ByteS at hs; omega
  induction d with
  | zero =>
    intro i x hi hx ht
    refine ev_as (ev_step (fun k => laws_toByteS.l0.eq_2 ..) (ev_neg (by omega) (ev_now _))) ?_
    rw [List.take_of_length_le (by omega), List.take_of_length_le (by first | omega | (simp; omega))] at ht
    exact ht
  | succ d ih =>
    intro i x hi hx ht
    have hlt : i < l.length := by omega
    have hr : rd l (i : Int) = l[i] := rd_nth l i hlt
    refine ev_step (fun k => laws_toByteS.l0.eq_2 ..) (ev_pos (by omega) (ev_pos (by omega) ?_))
    refine ev_pos (by omega) ?_
    rw [hr, Int.toNat_natCast, w64 (by omega) (by omega)]
    exact ih (i + 1) _ (by omega) (by simp; omega) (take_set x l i _ (by omega) (by omega) ht rfl)
theorem to_ByteS (l : List Int) (hs : szl_ByteS l ≤ 1048576) : Ev (fun k => laws_toByteS.f k l) (l) := by
  have hl : l.length ≤ 1048576 := by unfold szl_ByteS at hs; omega
  unfold laws_toByteS.f
  refine ev_pos (by omega) (ev_pos (by simp; omega) ?_)
  exact to_ByteS_l0 l hs l.length 0 _ (by omega) (by simp) (by simp)

/-! ### laws_toSock -/
def cv_Sock (x : S24) : S29 := ⟨x.f0, x.f1, x.f2, x.f3, x.f4, x.f5, x.f6, x.f7⟩
theorem to_Sock (x : S24) (hs : szv_Sock x ≤ 1048576) : Ev (fun k => laws_toSock.f k x.f0 x.f1 x.f2 x.f3 x.f4 x.f5 x.f6 x.f7) ((cv_Sock x).f0, (cv_Sock x).f1, (cv_Sock x).f2, (cv_Sock x).f3, (cv_Sock x).f4, (cv_Sock x).f5, (cv_Sock x).f6, (cv_Sock x).f7) := by
  unfold szv_Sock at hs
  unfold laws_toSock.f
  refine ev_bind (to_ByteS x.f4 (by omega)) ?_
  refine ev_bind (to_ByteS x.f5 (by omega)) ?_
  exact ev_now _

/-! ### laws_toFrame -/
def cv_Frame (x : S26) : S32 := ⟨x.f0, x.f1, x.f2⟩
theorem to_Frame (x : S26) (hs : szv_Frame x ≤ 1048576) : Ev (fun k => laws_toFrame.f x.f0 x.f1 x.f2) ((cv_Frame x).f0, (cv_Frame x).f1, (cv_Frame x).f2) := by
  unfold szv_Frame at hs
  unfold laws_toFrame.f
  exact ev_now _

/-! ### slices_Clone_byte -/
theorem slices_Clone_byte_eq (l : List Int) (h : l.length ≤ 1000000000000) : slices_Clone_byte.f l = some l := by
  unfold slices_Clone_byte.f
  simp only [Option.bind_some, List.nil_append, List.length_nil]
  rw [if_pos (by omega)]

/-! ### impl_sockCopy -/
theorem impl_sockCopy_eq (x : S29) (h4 : x.f4.length ≤ 1000000000000) (h5 : x.f5.length ≤ 1000000000000) : impl_sockCopy.f x.f0 x.f1 x.f2 x.f3 x.f4 x.f5 x.f6 x.f7 = some (x.f0, x.f1, x.f2, x.f3, x.f4, x.f5, x.f6, x.f7) := by
  unfold impl_sockCopy.f
  rw [slices_Clone_byte_eq _ h4, Option.bind_some, slices_Clone_byte_eq _ h5, Option.bind_some]

/-! ### impl_isIn -/
theorem impl_isIn_eq (a b c : Int) : impl_isIn.f a b c = some (inB a b c) := by
  unfold impl_isIn.f inB
  by_cases h : b ≤ a <;> simp [h]

/-! ### impl_sockIdOk -/
theorem impl_sockIdOk_eq (a : Int) : impl_sockIdOk.f a = some (inB a 1 9999) := by
  unfold impl_sockIdOk.f
  rw [impl_isIn_eq]
  rfl

/-! ### impl_SockOk -/
theorem impl_SockOk_j0 (b : Bool) (x0 x1 x2 : Int) (x3 : Bool) (x4 x5 : List Int) (x6 x7 : Int) : Ev (fun k => impl_SockOk.j0 k b x0 x1 x2 x3 x4 x5 x6 x7)
    (!b && (if x1 = 1 then x6 == 0 && x7 == 0 else if x1 = 2 then inB x6 0 2 && inB x7 0 (x5.length : Int) else false)) := by
  refine ev_step (fun k => impl_SockOk.j0.eq_2 ..) ?_
  refine ev_ite (fun c => ?_) (fun c => ?_)
  · exact ev_as (ev_now _) (by simp [c])
  have hb : b = false := by simpa using c
  refine ev_ite (fun c1 => ev_ite (fun c2 => ?_) (fun c2 => ?_)) (fun c1 => ev_ite (fun c2 => ?_) (fun c2 => ?_))
  · exact ev_as (ev_now _) (by simp [hb, c1, c2])
  · exact ev_as (ev_now _) (by simp [c1, c2])
  · refine ev_bind1 (impl_isIn_eq _ _ _) ?_
    refine ev_ite (fun c3 => ?_) (fun c3 => ?_)
    · exact ev_bind1 (impl_isIn_eq _ _ _) (ev_as (ev_now _) (by simp [hb, c2, c3]))
    · exact ev_as (ev_now _) (by simp [c2, c3])
  · exact ev_as (ev_now _) (by simp [c1, c2])
theorem impl_SockOk_ev (x : S29) : Ev (fun k => impl_SockOk.f k x.f0 x.f1 x.f2 x.f3 x.f4 x.f5 x.f6 x.f7) (sockB x.f0 x.f1 x.f2 x.f4 x.f5 x.f6 x.f7) := by
  obtain ⟨x0, x1, x2, x3, x4, x5, x6, x7⟩ := x
  unfold impl_SockOk.f sockB
  refine ev_bind1 (impl_sockIdOk_eq _) ?_
  refine ev_ite (fun c => ?_) (fun c => ?_)
  · refine ev_bind1 (impl_isIn_eq _ _ _) ?_
    refine ev_ite (fun c2 => ?_) (fun c2 => ?_)
    · exact ev_as (impl_SockOk_j0 ..) (by rw [c, c2]; simp)
    · exact ev_as (impl_SockOk_j0 ..) (by simp [c2])
  · exact ev_as (impl_SockOk_j0 ..) (by simp [c])

/-! ### impl_TextOk -/
theorem impl_TextOk_l0 (s : ByteArray) (hs : s.size ≤ 4611686018427387904) (d : Nat) : ∀ i : Int, 0 ≤ i → i + d = s.size → Ev (fun k => impl_TextOk.l0 k s (s.size : Int) i) (allF (byteIn s 32 126) i d && decide ((s.size : Int) ≤ 100)) := by
  induction d with
  | zero =>
    intro i h0 h1
    refine ev_step (fun k => impl_TextOk.l0.eq_2 ..) ?_
    refine ev_neg (by omega) ?_
    exact ev_now _
  | succ d ih =>
    intro i h0 h1
    refine ev_step (fun k => impl_TextOk.l0.eq_2 ..) ?_
    refine ev_pos (by omega) (ev_pos (by omega) (ev_pos (by omega) ?_))
    refine ev_ite (fun c1 => ?_) (fun c1 => ev_ite (fun c2 => ?_) (fun c2 => ?_))
    · refine ev_as (ev_now _) ?_
      have : byteIn s 32 126 i = false := by rw [byteIn_false]; omega
      simp [allF, this]
    · refine ev_as (ev_now _) ?_
      have : byteIn s 32 126 i = false := by rw [byteIn_false]; omega
      simp [allF, this]
    · have : byteIn s 32 126 i = true := by rw [byteIn_iff]; omega
      rw [w64 (by omega) (by omega), allF, this, Bool.true_and]
      exact ih (i + 1) (by omega) (by omega)
theorem impl_TextOk_ev (s : ByteArray) (hs : s.size ≤ 4611686018427387904) : Ev (fun k => impl_TextOk.f k s) (textB s) := impl_TextOk_l0 s hs s.size 0 (by omega) (by omega)

/-! ### impl_PutText -/
theorem impl_PutText_ev (l : List Int) (s : ByteArray) (hl : l.length ≤ 1000000000000) (hs : s.size ≤ 1000000000000) : Ev (fun k => impl_PutText.f k l s) (putTextV l s) := by
  unfold impl_PutText.f putTextV
  simp only [Option.bind_some]
  refine ev_bind1 (slices_Clone_byte_eq l (by omega)) (ev_bind (impl_TextOk_ev s (by omega)) (ev_ite (fun c => ?_) (fun c => ?_)))
  · exact ev_pos (by omega) (ev_pos (by rw [List.length_append]; simp only [List.length_cons, List.length_nil]; omega) (ev_as (ev_now _) (by rw [if_pos c])))
  · exact ev_as (ev_now _) (by rw [if_neg c])

/-! ### impl_nameOk -/
theorem impl_nameOk_l0 (s : ByteArray) (hs : s.size ≤ 4611686018427387904) (d : Nat) : ∀ i : Int, 0 ≤ i → i + d = s.size → Ev (fun k => impl_nameOk.l0 k s (s.size : Int) i) (allF (byteIn s 97 122) i d && inB s.size 1 8) := by
  induction d with
  | zero =>
    intro i h0 h1
    refine ev_step (fun k => impl_nameOk.l0.eq_2 ..) ?_
    refine ev_neg (by omega) ?_
    rw [impl_isIn_eq]
    exact ev_now _
  | succ d ih =>
    intro i h0 h1
    refine ev_step (fun k => impl_nameOk.l0.eq_2 ..) ?_
    refine ev_pos (by omega) (ev_pos (by omega) (ev_pos (by omega) ?_))
    refine ev_ite (fun c1 => ?_) (fun c1 => ev_ite (fun c2 => ?_) (fun c2 => ?_))
    · refine ev_as (ev_now _) ?_
      have : byteIn s 97 122 i = false := by rw [byteIn_false]; omega
      simp [allF, this]
    · refine ev_as (ev_now _) ?_
      have : byteIn s 97 122 i = false := by rw [byteIn_false]; omega
      simp [allF, this]
    · have : byteIn s 97 122 i = true := by rw [byteIn_iff]; omega
      rw [w64 (by omega) (by omega), allF, this, Bool.true_and]
      exact ih (i + 1) (by omega) (by omega)
theorem impl_nameOk_ev (s : ByteArray) (hs : s.size ≤ 4611686018427387904) : Ev (fun k => impl_nameOk.f k s) (nameB s) := impl_nameOk_l0 s hs s.size 0 (by omega) (by omega)

/-! ### impl_FrameOk -/
theorem impl_FrameOk_j0 (k : Int) (b : Bool) (t : ByteArray) (s : Int) (ht : t.size ≤ 4611686018427387904) : Ev (fun n => impl_FrameOk.j0 n k b k t s) (if b = true then textB t && s == 0 else if k = 5 then (t.toList == ([] : List UInt8)) && inB s 0 2 else if k = 3 then (t.toList == ([] : List UInt8)) && s == 0 else false) := by
  refine ev_step (fun n => impl_FrameOk.j0.eq_2 ..) (ev_ite (fun c => ?_) (fun c => ev_ite (fun c5 => ev_ite (fun ce => ?_) (fun ce => ?_)) (fun c5 => ev_ite (fun c3 => ?_) (fun c3 => ?_))))
  · refine ev_bind (impl_TextOk_ev t ht) (ev_ite (fun c1 => ?_) (fun c1 => ?_))
    · exact ev_as (ev_now _) (by simp [c, c1])
    · exact ev_as (ev_now _) (by simp [c, c1])
  · exact ev_bind1 (impl_isIn_eq _ _ _) (ev_as (ev_now _) (by simp [c, c5, ce]))
  · exact ev_as (ev_now _) (by simp [c, c5, ce])
  · exact ev_as (ev_now _) (by simp [c, c3])
  · exact ev_as (ev_now _) (by simp [c, c5, c3])
theorem impl_FrameOk_ev (k : Int) (t : ByteArray) (s : Int) (ht : t.size ≤ 4611686018427387904) : Ev (fun n => impl_FrameOk.f n k t s) (frameB k t s) := by
  unfold impl_FrameOk.f
  refine ev_ite (fun c1 => ?_) (fun c1 => ev_ite (fun c2 => ?_) (fun c2 => ev_ite (fun c4 => ?_) (fun c4 => ?_)))
  · refine ev_bind (impl_nameOk_ev t ht) (ev_ite (fun c => ?_) (fun c => ?_))
    · exact ev_as (ev_now _) (by simp [frameB, c1, c])
    · exact ev_as (ev_now _) (by simp [frameB, c1, c])
  · exact ev_as (impl_FrameOk_j0 k _ t s ht) (by simp [frameB, c2])
  · exact ev_as (impl_FrameOk_j0 k _ t s ht) (by simp [frameB, c4])
  · exact ev_as (impl_FrameOk_j0 k _ t s ht) (by simp [frameB, c1, c2, c4])

/-! ### impl_PutFrame -/
theorem impl_PutFrame_ev (k : Int) (t : ByteArray) (s : Int) (ht : t.size ≤ 1000000000000) : Ev (fun n => impl_PutFrame.f n k t s) (putFrameV k t s) := by
  unfold impl_PutFrame.f putFrameV
  simp only [Option.bind_some, List.length_cons, List.length_nil]
  refine ev_bind (impl_FrameOk_ev k t s (by omega)) (ev_ite (fun c => ?_) (fun c => ?_))
  · refine ev_ite (fun c1 => ev_pos (by omega) ?_) (fun c1 => ev_ite (fun c2 => ?_) (fun c2 => ?_))
    · exact ev_as (ev_now _) (by rw [if_pos c, if_pos c1])
    · exact ev_as (ev_now _) (by rw [if_pos c, if_neg c1, if_pos c2])
    · exact ev_bind (impl_PutText_ev [k % 256] t (by simp) ht) (ev_as (ev_now _) (by rw [if_pos c, if_neg c1, if_neg c2]))
  · exact ev_as (ev_now _) (by rw [if_neg c])

/-! ### impl_Tell -/
theorem impl_Tell_ev (x : S29) (k : Int) (t : ByteArray) (s : Int) (h4 : x.f4.length ≤ 1000000000000) (h5 : x.f5.length ≤ 1000000000000) (ht : t.size ≤ 1000000000000) :
    Ev (fun n => impl_Tell.f n x.f0 x.f1 x.f2 x.f3 x.f4 x.f5 x.f6 x.f7 k t s) ((tellV x k t s).f0, (tellV x k t s).f1, (tellV x k t s).f2, (tellV x k t s).f3, (tellV x k t s).f4, (tellV x k t s).f5, (tellV x k t s).f6, (tellV x k t s).f7) := by
  have hp := putFrameV_len k t s
  unfold impl_Tell.f tellV
  refine ev_bind1 (impl_sockCopy_eq x h4 h5) (ev_bind (impl_SockOk_ev x) (ev_ite (fun c => ?_) (fun c => ?_)))
  · exact ev_bind (impl_PutFrame_ev k t s ht) (ev_pos (by show x.f5.length + _ < _; omega) (ev_as (ev_now _) (by rw [if_pos c])))
  · exact ev_as (ev_now _) (by rw [if_neg c])

/-! ### laws_eqByteS -/
def eqcl_ByteS (l : List Int) : Prop := l.length ≤ 4611686018427387904
theorem eq_ByteS_l0 (l : List Int) (hq : eqcl_ByteS l) (d : Nat) : ∀ i : Nat, i + d = l.length → Ev (fun k => laws_eqByteS.l0 k l l (i : Int)) true := by
  have hl : l.length ≤ 4611686018427387904 := hq
  induction d with
  | zero =>
    intro i hi
    exact ev_step (fun k => laws_eqByteS.l0.eq_2 ..) (ev_neg (by omega) (ev_now _))
  | succ d ih =>
    intro i hi
    have hn := ih (i + 1) (by omega)
    have hlt : i < l.length := by omega
    refine ev_step (fun k => laws_eqByteS.l0.eq_2 ..) (ev_pos (by omega) (ev_pos (by omega) (ev_pos (by omega) ?_)))
    rw [w64 (by omega) (by omega)]
    exact ev_pos rfl hn
theorem eq_ByteS (l : List Int) (hq : eqcl_ByteS l) : Ev (fun k => laws_eqByteS.f k l l) true := by
  unfold laws_eqByteS.f
  exact ev_pos rfl (eq_ByteS_l0 l hq l.length 0 (by omega))

/-! ### laws_eqSock -/
def eqc_Sock (x : S29) : Prop := eqcl_ByteS x.f4 ∧ eqcl_ByteS x.f5
theorem eq_Sock (x : S29) (hq : eqc_Sock x) : Ev (fun k => laws_eqSock.f k x.f0 x.f1 x.f2 x.f3 x.f4 x.f5 x.f6 x.f7 x.f0 x.f1 x.f2 x.f3 x.f4 x.f5 x.f6 x.f7) true := by
  unfold laws_eqSock.f
  exact ev_pos rfl (ev_pos rfl (ev_pos rfl (ev_neg (by simp) (ev_bind (eq_ByteS x.f4 (hq.1)) (ev_pos rfl (ev_bind (eq_ByteS x.f5 (hq.2)) (ev_pos rfl (ev_pos rfl (ev_pos rfl (ev_now _))))))))))

/-! ### laws_markByteS -/
def mk_Byte (k : Int) : Int := k % 256
theorem mark_ByteS (l : List Int) (hl : l.length ≤ 4611686018427387904) (k : Int) (h0 : 0 ≤ k) (h1 : k + 1 * (l.length : Int) ≤ 4611686018427387904) : Ev (fun n => laws_markByteS.f n l k) (k + 1 * (l.length : Int), mkl mk_Byte 1 k l.length) := by
  refine mark_loop (g := fun n x k i => laws_markByteS.l0 n x k i) (by omega) (fun x k i hi => ev_step (fun n => laws_markByteS.l0.eq_2 ..) (ev_neg (by omega) (ev_now _))) (fun x k i r hi hx h0 h1 hn => ?_) l hl k h0 h1
  refine ev_step (fun n => laws_markByteS.l0.eq_2 ..) (ev_pos (by omega) (ev_pos (by omega) ?_))
  have wi : wrap64 ((i : Int) + 1) = (i : Int) + 1 := w64 (by omega) (by omega)
  have w1 : wrap64 (k + 1) = k + 1 := w64 (by omega) (by omega)
  rw [show k + 1 = k + 1 by omega] at hn
  simp only [wi, w1, Int.toNat_natCast]
  exact hn

/-! ### laws_markSock -/
theorem mark_Sock (x : S29) (k : Int) (h0 : 0 ≤ k) (h1 : k ≤ 1000000000000) (h4 : x.f4.length ≤ 1000000000000) (h5 : x.f5.length ≤ 1000000000000) :
    Ev (fun n => laws_markSock.f n x.f0 x.f1 x.f2 x.f3 x.f4 x.f5 x.f6 x.f7 k) (k + 1 * (x.f4.length : Int) + 1 * (x.f5.length : Int), mkl mk_Byte 1 k x.f4.length, mkl mk_Byte 1 (k + 1 * (x.f4.length : Int)) x.f5.length) := by
  unfold laws_markSock.f
  exact ev_bind (mark_ByteS x.f4 (by omega) k h0 (by omega)) (ev_bind (mark_ByteS x.f5 (by omega) _ (by omega) (by omega)) (ev_now _))

/-! ### laws_heldByteS -/
theorem held_ByteS (m : Nat) (hm : m ≤ 4611686018427387904) (k : Int) (h0 : 0 ≤ k) (h1 : k + 1 * (m : Int) ≤ 4611686018427387904) : Ev (fun n => laws_heldByteS.f n (mkl mk_Byte 1 k m) k) (k + 1 * (m : Int)) := by
  refine held_loop (g := fun n x k i => laws_heldByteS.l0 n x k i) (by omega) (fun x k i hi => ev_step (fun n => laws_heldByteS.l0.eq_2 ..) (ev_neg (by omega) (ev_now _))) (fun x k i r hi he hx h0 h1 hn => ?_) m hm k h0 h1
  have hr : rd x (i : Int) = mk_Byte k := (rd_nth x i hi).trans he
  refine ev_step (fun n => laws_heldByteS.l0.eq_2 ..) (ev_pos (by omega) (ev_pos (by omega) ?_))
  have wi : wrap64 ((i : Int) + 1) = (i : Int) + 1 := w64 (by omega) (by omega)
  have w1 : wrap64 (k + 1) = k + 1 := w64 (by omega) (by omega)
  rw [show k + 1 = k + 1 by omega] at hn
  simp only [hr, w1, wi]
  exact ev_pos rfl (hn)

/-! ### laws_heldSock -/
theorem held_Sock (x0 x1 x2 : Int) (x3 : Bool) (m4 m5 : Nat) (x6 x7 : Int) (k : Int) (h0 : 0 ≤ k) (h1 : k ≤ 1000000000000) (h4 : m4 ≤ 1000000000000) (h5 : m5 ≤ 1000000000000) :
    Ev (fun n => laws_heldSock.f n x0 x1 x2 x3 (mkl mk_Byte 1 k m4) (mkl mk_Byte 1 (k + 1 * (m4 : Int)) m5) x6 x7 k) (k + 1 * (m4 : Int) + 1 * (m5 : Int)) := by
  unfold laws_heldSock.f
  exact ev_bind (held_ByteS m4 (by omega) k h0 (by omega)) (ev_neg (by omega) (ev_bind (held_ByteS m5 (by omega) _ (by omega) (by omega)) (ev_neg (by omega) (ev_now _))))

theorem FnExactTell : VFnExactTell.Pure := by
  intro x y hG hF
  refine ev_rounds ?_
  unfold laws_FnExactTell.f
  obtain ⟨t, et, ct⟩ := sz_Sock x hG 1048576 (by omega) (by omega)
  rcases ct with ct | ⟨ct, dt⟩
  · exact ev_bind et (ev_pos ct (ev_now _))
  obtain ⟨u, eu, cu⟩ := sz_Frame y hF t (by omega) (by omega)
  rcases cu with cu | ⟨cu, du⟩
  · exact ev_bind et (ev_neg (by omega) (ev_bind eu (ev_pos cu (ev_now _))))
  have hs : szv_Sock x ≤ 1048576 := by omega
  have hf : szv_Frame y ≤ 1048576 := by omega
  have hto := to_Sock x hs
  have htf := to_Frame y hf
  have hl : (cv_Sock x).f4.length ≤ 1048576 ∧ (cv_Sock x).f5.length ≤ 1048576 := by
    unfold szv_Sock szl_ByteS at hs
    show x.f4.length ≤ _ ∧ x.f5.length ≤ _
    omega
  have hy : (cv_Frame y).f1.size ≤ 1048576 := by
    unfold szv_Frame at hf
    exact hf
  have e1 := spec_Tell_ev (cv_Sock x) (cv_Frame y).f0 (cv_Frame y).f1 (cv_Frame y).f2 (by omega) (by omega) (by omega)
  have e2 := impl_Tell_ev (cv_Sock x) (cv_Frame y).f0 (cv_Frame y).f1 (cv_Frame y).f2 (by omega) (by omega) (by omega)
  have hR : (tellV (cv_Sock x) (cv_Frame y).f0 (cv_Frame y).f1 (cv_Frame y).f2).f4.length ≤ 4000000 ∧ (tellV (cv_Sock x) (cv_Frame y).f0 (cv_Frame y).f1 (cv_Frame y).f2).f5.length ≤ 4000000 := by
    have hp := putFrameV_len (cv_Frame y).f0 (cv_Frame y).f1 (cv_Frame y).f2
    unfold tellV
    split
    · show (cv_Sock x).f4.length ≤ _ ∧ ((cv_Sock x).f5 ++ _).length ≤ _
      rw [List.length_append]
      omega
    · omega
  generalize tellV (cv_Sock x) (cv_Frame y).f0 (cv_Frame y).f1 (cv_Frame y).f2 = R at *
  have hqR := eq_Sock R ⟨show R.f4.length ≤ _ by omega, show R.f5.length ≤ _ by omega⟩
  have hqX := eq_Sock (cv_Sock x) ⟨show (cv_Sock x).f4.length ≤ _ by omega, show (cv_Sock x).f5.length ≤ _ by omega⟩
  have mX := mark_Sock (cv_Sock x) 1 (by omega) (by omega) (by omega) (by omega)
  have mR := mark_Sock R 1 (by omega) (by omega) (by omega) (by omega)
  have hh := held_Sock R.f0 R.f1 R.f2 R.f3 R.f4.length R.f5.length R.f6 R.f7 1 (by omega) (by omega) (by omega) (by omega)
  refine ev_bind et (ev_neg (by omega) (ev_bind eu (ev_neg (by omega) (ev_bind hto (ev_bind htf (ev_bind e1 (ev_bind hto (ev_bind htf (ev_bind e2 (ev_bind hqR (ev_pos rfl (ev_bind hto (ev_bind hqX (ev_pos rfl (ev_bind mX (ev_neg (by show ¬ (_ : Int) < 0; omega) (ev_bind hqR ?_)))))))))))))))))
  refine ev_step (fun k => laws_FnExactTell.j0.eq_2 ..) (ev_neg (by simp) (ev_bind mR (ev_bind hh (ev_neg (by omega) (ev_pos rfl (ev_bind hto (ev_bind htf (ev_bind e2 (ev_bind hqR (ev_pos rfl (ev_bind hh (ev_neg (by omega) (ev_pos rfl (ev_now _))))))))))))))
end Go.Proofs.Ytahfemlfdpbkkaa.Pure
