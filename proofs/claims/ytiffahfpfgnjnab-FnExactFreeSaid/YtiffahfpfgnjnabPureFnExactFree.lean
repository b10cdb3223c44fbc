/- The program's Free answers as the reference's, whatever the sockets, the number and what is let go; what it hands back is its own. -/
import Derived.Test.YtiffahfpfgnjnabVFnExactFree
import Derived.Test.YtiffahfpfgnjnabVBase
import Derived.Test.YtiffahfpfgnjnabVExt
import Derived.Test.YtiffahfpfgnjnabVMark
namespace Go.Proofs.Ytiffahfpfgnjnab.Pure
open Go.RowKit Go.Proofs.Ytiffahfpfgnjnab.PFnExactFree Go.Proofs.Ytiffahfpfgnjnab.VFnExactFree Go.Proofs.YtiffahfpfgnjnabW.PrintWords Go.Proofs.YtiffahfpfgnjnabW.PrintLast Go.Proofs.YtiffahfpfgnjnabV
set_option linter.unusedVariables false
set_option linter.unusedSimpArgs false
set_option maxRecDepth 20000

/-! ### laws_szByteS -/
def szl_ByteS (l : List Int) : Nat := l.length
theorem sz_ByteS (l : List Int) (hl : l.length ≤ 9223372036854775807) (left : Int) (h0 : 0 ≤ left) (h1 : left ≤ 1048576) :
    ∃ t, Ev (fun k => laws_szByteS.f l left) t ∧ (t < 0 ∨ 0 ≤ t ∧ t + (szl_ByteS l : Int) = left) := by
  unfold laws_szByteS.f szl_ByteS
  have e : wrap64 (left - (l.length : Int)) = left - (l.length : Int) := w64 (by omega) (by omega)
  simp only [e]
  by_cases hc : left - (l.length : Int) < 0
  · exact ⟨-1, ev_pos hc (ev_now _), .inl (by omega)⟩
  · exact ⟨_, ev_neg hc (ev_now _), .inr ⟨by omega, by omega⟩⟩

/-! ### laws_szSock -/
def szv_Sock (x : S79) : Nat := szl_ByteS x.f4 + szl_ByteS x.f5
theorem sz_Sock (x : S79) (hG : G79 x) (left : Int) (h0 : 0 ≤ left) (h1 : left ≤ 1048576) :
    ∃ t, Ev (fun k => laws_szSock.f x.f0 x.f1 x.f2 x.f3 x.f4 x.f5 x.f6 x.f7 left) t ∧ (t < 0 ∨ 0 ≤ t ∧ t + (szv_Sock x : Int) = left) := by
  obtain ⟨g0, g1, g2, g3, g4, g5, g6, g7⟩ := hG
  unfold laws_szSock.f szv_Sock
  obtain ⟨t4, et4, ct4⟩ := sz_ByteS x.f4 g4.1 (left) (by omega) (by omega)
  rcases ct4 with ct4 | ⟨ct4, dt4⟩
  · exact ⟨-1, ev_bind et4 (ev_pos ct4 (ev_now _)), .inl (by omega)⟩
  obtain ⟨t5, et5, ct5⟩ := sz_ByteS x.f5 g5.1 (t4) (by omega) (by omega)
  rcases ct5 with ct5 | ⟨ct5, dt5⟩
  · exact ⟨-1, ev_bind et4 (ev_neg (by omega) (ev_bind et5 (ev_pos ct5 (ev_now _)))), .inl (by omega)⟩
  exact ⟨_, ev_bind et4 (ev_neg (by omega) (ev_bind et5 (ev_neg (by omega) (ev_now _)))), .inr ⟨by omega, by omega⟩⟩

/-! ### laws_szSockS -/
def szl_SockS (l : List S79) : Nat := l.length + (l.map szv_Sock).sum
theorem sz_SockS_l0 (l : List S79) (hG : ∀ x ∈ l, G79 x) (hl : l.length ≤ 9223372036854775807) (d : Nat) : ∀ (i : Nat) (left : Int), i + d = l.length → 0 ≤ left → left ≤ 1048576 →
    ∃ t, Ev (fun k => laws_szSockS.l0 k l left (i : Int)) t ∧ (t < 0 ∨ 0 ≤ t ∧ t + (((l.drop i).map szv_Sock).sum : Nat) = left) := by
  induction d with
  | zero =>
    intro i left hi h0 h1
    refine ⟨left, ev_step (fun k => laws_szSockS.l0.eq_2 ..) (ev_neg (by omega) (ev_now _)), .inr ⟨h0, ?_⟩⟩
    rw [List.drop_of_length_le (by omega)]
    simp
  | succ d ih =>
    intro i left hi h0 h1
    have hlt : i < l.length := by omega
    have hg := hG l[i] (List.getElem_mem hlt)
    have hd : l.drop i = l[i] :: l.drop (i + 1) := List.drop_eq_getElem_cons hlt
    have hr : rd_T79 l (i : Int) = l[i] := getD_nth _ l i hlt
    obtain ⟨t1, et1, ct1⟩ := sz_Sock l[i] hg left h0 h1
    rcases ct1 with ct1 | ⟨ct1, dt1⟩
    · refine ⟨-1, ev_step (fun k => laws_szSockS.l0.eq_2 ..) (ev_pos (by omega) (ev_pos (by omega) ?_)), .inl (by omega)⟩
      simp only [hr]
      exact ev_bind et1 (ev_pos ct1 (ev_now _))
    · obtain ⟨t, et, ct⟩ := ih (i + 1) t1 (by omega) ct1 (by omega)
      refine ⟨t, ev_step (fun k => laws_szSockS.l0.eq_2 ..) (ev_pos (by omega) (ev_pos (by omega) ?_)), ?_⟩
      · simp only [hr]
        rw [w64 (by omega) (by omega)]
        exact ev_bind et1 (ev_neg (by omega) et)
      · rw [hd, List.map_cons, List.sum_cons]
        omega
theorem sz_SockS (l : List S79) (hl : l.length ≤ 9223372036854775807) (hG : ∀ x ∈ l, G79 x) (left : Int) (h0 : 0 ≤ left) (h1 : left ≤ 1048576) :
    ∃ t, Ev (fun k => laws_szSockS.f k l left) t ∧ (t < 0 ∨ 0 ≤ t ∧ t + (szl_SockS l : Int) = left) := by
  unfold laws_szSockS.f szl_SockS
  have e : wrap64 (left - (l.length : Int)) = left - (l.length : Int) := w64 (by omega) (by omega)
  simp only [e]
  by_cases hc : left - (l.length : Int) < 0
  · exact ⟨-1, ev_pos hc (ev_now _), .inl (by omega)⟩
  · obtain ⟨t, et, ct⟩ := sz_SockS_l0 l hG hl l.length 0 (left - (l.length : Int)) (by omega) (by omega) (by omega)
    refine ⟨t, ev_neg hc et, ?_⟩
    rw [List.drop_zero] at ct
    omega

/-! ### spec_l8Copy -/
theorem spec_l8Copy_eq (x : S80) (h4 : x.f4.length ≤ 1000000000000) (h5 : x.f5.length ≤ 1000000000000) : spec_l8Copy.f x.f0 x.f1 x.f2 x.f3 x.f4 x.f5 x.f6 x.f7 = some (x.f0, x.f1, x.f2, x.f3, x.f4, x.f5, x.f6, x.f7) := by
  unfold spec_l8Copy.f
  simp only [Option.bind_some, List.nil_append, List.length_nil]
  rw [if_pos (by omega), if_pos (by omega)]

/-! ### spec_l1In -/
theorem spec_l1In_eq (a b c : Int) : spec_l1In.f a b c = some (inB a b c) := by
  unfold spec_l1In.f inB
  by_cases h : b ≤ a <;> simp [h]

/-! ### spec_Free -/
def frS (a1 a2 : Int) (x : S80) : List S80 :=
  if x.f0 = a1 ∧ inB a2 1 3 = true then (if Go.bits .andNot .i64 x.f2 a2 = 0 then [] else [⟨x.f0, x.f1, Go.bits .andNot .i64 x.f2 a2, x.f3, x.f4, x.f5, x.f6, x.f7⟩]) else [x]
def fr (a1 a2 : Int) (l : List S80) : List S80 := l.flatMap (frS a1 a2)
theorem frS_len (a1 a2 : Int) (x : S80) : (frS a1 a2 x).length ≤ 1 := by
  unfold frS
  split
  · split <;> simp
  · simp
theorem fr_len (a1 a2 : Int) : ∀ l : List S80, (fr a1 a2 l).length ≤ l.length
  | [] => by simp [fr]
  | x :: l => by
    have h := fr_len a1 a2 l
    have h1 := frS_len a1 a2 x
    unfold fr at h ⊢
    rw [List.flatMap_cons, List.length_append, List.length_cons]
    omega
theorem fr_snoc (a1 a2 : Int) (l : List S80) (x : S80) : fr a1 a2 (l ++ [x]) = fr a1 a2 l ++ frS a1 a2 x := by
  unfold fr
  rw [List.flatMap_append, List.flatMap_cons, List.flatMap_nil, List.append_nil]
theorem spec_Free_j1 (l : List S80) (a1 a2 : Int) (ys : List S80) (i : Int) (b : Bool) (x : S80) (r : List S80) (hy : ys.length ≤ 1000000000000) (hb : b = true ↔ (x.f0 = a1 ∧ inB a2 1 3 = true))
    (h : Ev (fun k => spec_Free.l0 k l a1 a2 (ys ++ frS a1 a2 x) (wrap64 (i + 1))) r) : Ev (fun k => spec_Free.j1 k l a1 a2 ys i b x.f0 x.f1 x.f2 x.f3 x.f4 x.f5 x.f6 x.f7) r := by
  refine ev_step (fun k => spec_Free.j1.eq_2 ..) ?_
  unfold frS at h
  by_cases c : b = true
  · rw [if_pos (hb.1 c)] at h
    refine ev_pos c ?_
    by_cases z : Go.bits .andNot .i64 x.f2 a2 = 0
    · rw [if_pos z, List.append_nil] at h
      exact ev_pos z h
    · rw [if_neg z] at h
      exact ev_neg z (ev_pos (by omega) h)
  · rw [if_neg (fun e => c (hb.2 e))] at h
    exact ev_neg c (ev_pos (by omega) h)
theorem spec_Free_l0 (l : List S80) (a1 a2 : Int) (hl : l.length ≤ 1000000000000) (hx : ∀ x ∈ l, x.f4.length ≤ 1000000000000 ∧ x.f5.length ≤ 1000000000000) (d : Nat) : ∀ i : Nat, i + d = l.length → Ev (fun k => spec_Free.l0 k l a1 a2 (fr a1 a2 (l.take i)) (i : Int)) (fr a1 a2 l) := by
  induction d with
  | zero =>
    intro i hi
    refine ev_step (fun k => spec_Free.l0.eq_2 ..) (ev_neg (by omega) ?_)
    rw [List.take_of_length_le (by omega)]
    exact ev_now _
  | succ d ih =>
    intro i hi
    have hlt : i < l.length := by omega
    have hr : rd_T80 l (i : Int) = l[i] := getD_nth _ l i hlt
    have hn := ih (i + 1) (by omega)
    rw [List.take_add_one, List.getElem?_eq_getElem hlt] at hn
    have hm := hx _ (List.getElem_mem hlt)
    have hy : (fr a1 a2 (l.take i)).length ≤ 1000000000000 := by
      have := fr_len a1 a2 (l.take i)
      rw [List.length_take] at this
      omega
    have hn2 : Ev (fun k => spec_Free.l0 k l a1 a2 (fr a1 a2 (l.take i) ++ frS a1 a2 l[i]) (wrap64 ((i : Int) + 1))) (fr a1 a2 l) := by
      rw [w64 (by omega) (by omega), ← fr_snoc]
      exact hn
    refine ev_step (fun k => spec_Free.l0.eq_2 ..) (ev_pos (by omega) (ev_pos (by omega) ?_))
    simp only [hr]
    refine ev_bind1 (spec_l8Copy_eq _ hm.1 hm.2) ?_
    by_cases c : l[i].f0 = a1
    · exact ev_pos c (ev_bind1 (spec_l1In_eq a2 1 3) (spec_Free_j1 l a1 a2 _ _ _ l[i] _ hy ⟨fun h => ⟨c, h⟩, fun h => h.2⟩ hn2))
    · exact ev_neg c (spec_Free_j1 l a1 a2 _ _ _ l[i] _ hy ⟨fun h => by simp at h, fun h => absurd h.1 c⟩ hn2)
theorem spec_Free_ev (l : List S80) (a1 a2 : Int) (hl : l.length ≤ 1000000000000) (hx : ∀ x ∈ l, x.f4.length ≤ 1000000000000 ∧ x.f5.length ≤ 1000000000000) : Ev (fun k => spec_Free.f k l a1 a2) (fr a1 a2 l) := by
  have h := spec_Free_l0 l a1 a2 hl hx l.length 0 (by omega)
  exact h

/-! ### laws_toByteS -/
theorem to_ByteS_l0 (l : List Int) (hs : szl_ByteS l ≤ 1048576) (d : Nat) : ∀ (i : Nat) (x : List Int), i + d = l.length → x.length = l.length → x.take i = (l).take i → Ev (fun k => laws_toByteS.l0 k l x (i : Int)) (l) := by
  have hl : l.length ≤ 1048576 := by unfold szl_ByteS at hs; omega
  induction d with
  | zero =>
    intro i x hi hx ht
    refine ev_as (ev_step (fun k => laws_toByteS.l0.eq_2 ..) (ev_neg (by omega) (ev_now _))) ?_
    rw [List.take_of_length_le (by omega), List.take_of_length_le (by first | omega | (simp; omega))] at ht
    exact ht
  | succ d ih =>
    intro i x hi hx ht
    have hlt : i < l.length := by omega
    have hr : rd l (i : Int) = l[i] := rd_nth l i hlt
    refine ev_step (fun k => laws_toByteS.l0.eq_2 ..) (ev_pos (by omega) (ev_pos (by omega) ?_))
    refine ev_pos (by omega) ?_
    rw [hr, Int.toNat_natCast, w64 (by omega) (by omega)]
    exact ih (i + 1) _ (by omega) (by simp; omega) (take_set x l i _ (by omega) (by omega) ht rfl)
theorem to_ByteS (l : List Int) (hs : szl_ByteS l ≤ 1048576) : Ev (fun k => laws_toByteS.f k l) (l) := by
  have hl : l.length ≤ 1048576 := by unfold szl_ByteS at hs; omega
  unfold laws_toByteS.f
  refine ev_pos (by omega) (ev_pos (by simp; omega) ?_)
  exact to_ByteS_l0 l hs l.length 0 _ (by omega) (by simp) (by simp)

/-! ### laws_toSock -/
def cv_Sock (x : S79) : S80 := ⟨x.f0, x.f1, x.f2, x.f3, x.f4, x.f5, x.f6, x.f7⟩
theorem to_Sock (x : S79) (hs : szv_Sock x ≤ 1048576) : Ev (fun k => laws_toSock.f k x.f0 x.f1 x.f2 x.f3 x.f4 x.f5 x.f6 x.f7) ((cv_Sock x).f0, (cv_Sock x).f1, (cv_Sock x).f2, (cv_Sock x).f3, (cv_Sock x).f4, (cv_Sock x).f5, (cv_Sock x).f6, (cv_Sock x).f7) := by
  unfold szv_Sock at hs
  unfold laws_toSock.f
  refine ev_bind (to_ByteS x.f4 (by omega)) ?_
  refine ev_bind (to_ByteS x.f5 (by omega)) ?_
  exact ev_now _

/-! ### laws_toSockS -/
theorem to_SockS_l0 (l : List S79) (hs : szl_SockS l ≤ 1048576) (d : Nat) : ∀ (i : Nat) (x : List S80), i + d = l.length → x.length = l.length → x.take i = (l.map cv_Sock).take i → Ev (fun k => laws_toSockS.l0 k l x (i : Int)) (l.map cv_Sock) := by
  have hl : l.length ≤ 1048576 := by unfold szl_SockS at hs; omega
  induction d with
  | zero =>
    intro i x hi hx ht
    refine ev_as (ev_step (fun k => laws_toSockS.l0.eq_2 ..) (ev_neg (by omega) (ev_now _))) ?_
    rw [List.take_of_length_le (by omega), List.take_of_length_le (by first | omega | (simp; omega))] at ht
    exact ht
  | succ d ih =>
    intro i x hi hx ht
    have hlt : i < l.length := by omega
    have hr : rd_T79 l (i : Int) = l[i] := getD_nth _ l i hlt
    refine ev_step (fun k => laws_toSockS.l0.eq_2 ..) (ev_pos (by omega) (ev_pos (by omega) ?_))
    have he := to_Sock l[i] (by have := mem_sum szv_Sock l l[i] (List.getElem_mem hlt); unfold szl_SockS at hs; omega)
    simp only [hr]
    refine ev_bind he ?_
    refine ev_pos (by omega) ?_
    rw [Int.toNat_natCast, w64 (by omega) (by omega)]
    exact ih (i + 1) _ (by omega) (by simp; omega) (take_set x (l.map cv_Sock) i _ (by first | omega | (simp; omega)) (by first | omega | (simp; omega)) ht (by first | (simp; done) | (simp; rfl) | rfl))
theorem to_SockS (l : List S79) (hs : szl_SockS l ≤ 1048576) : Ev (fun k => laws_toSockS.f k l) (l.map cv_Sock) := by
  have hl : l.length ≤ 1048576 := by unfold szl_SockS at hs; omega
  unfold laws_toSockS.f
  refine ev_pos (by omega) (ev_pos (by simp; omega) ?_)
  exact to_SockS_l0 l hs l.length 0 _ (by omega) (by simp) (by simp)

/-! ### slices_Clone_byte -/
theorem slices_Clone_byte_eq (l : List Int) (h : l.length ≤ 1000000000000) : slices_Clone_byte.f l = some l := by
  unfold slices_Clone_byte.f
  simp only [Option.bind_some, List.nil_append, List.length_nil]
  rw [if_pos (by omega)]

/-! ### impl_sockCopy -/
theorem impl_sockCopy_eq (x : S80) (h4 : x.f4.length ≤ 1000000000000) (h5 : x.f5.length ≤ 1000000000000) : impl_sockCopy.f x.f0 x.f1 x.f2 x.f3 x.f4 x.f5 x.f6 x.f7 = some (x.f0, x.f1, x.f2, x.f3, x.f4, x.f5, x.f6, x.f7) := by
  unfold impl_sockCopy.f
  rw [slices_Clone_byte_eq _ h4, Option.bind_some, slices_Clone_byte_eq _ h5, Option.bind_some]

/-! ### impl_socksCopy -/
theorem impl_socksCopy_l0 (l : List S80) (hl : l.length ≤ 1000000000000) (hx : ∀ x ∈ l, x.f4.length ≤ 1000000000000 ∧ x.f5.length ≤ 1000000000000) (d : Nat) : ∀ i : Nat, i + d = l.length → Ev (fun k => impl_socksCopy.l0 k (l.take i) l (l.length : Int) (i : Int)) l := by
  induction d with
  | zero =>
    intro i hi
    refine ev_step (fun k => impl_socksCopy.l0.eq_2 ..) (ev_neg (by omega) ?_)
    rw [List.take_of_length_le (by omega)]
    exact ev_now _
  | succ d ih =>
    intro i hi
    have hlt : i < l.length := by omega
    have hr : rd_T80 l (i : Int) = l[i] := getD_nth _ l i hlt
    have hn := ih (i + 1) (by omega)
    rw [List.take_add_one, List.getElem?_eq_getElem hlt] at hn
    have hm := hx _ (List.getElem_mem hlt)
    refine ev_step (fun k => impl_socksCopy.l0.eq_2 ..) (ev_pos (by omega) (ev_pos (by omega) (ev_pos (by omega) ?_)))
    simp only [hr]
    rw [w64 (by omega) (by omega)]
    refine ev_bind1 (impl_sockCopy_eq _ hm.1 hm.2) (ev_pos (by rw [List.length_take]; omega) ?_)
    exact hn
theorem impl_socksCopy_ev (l : List S80) (hl : l.length ≤ 1000000000000) (hx : ∀ x ∈ l, x.f4.length ≤ 1000000000000 ∧ x.f5.length ≤ 1000000000000) : Ev (fun k => impl_socksCopy.f k l) l := by
  have h := impl_socksCopy_l0 l hl hx l.length 0 (by omega)
  exact h

/-! ### impl_isIn -/
theorem impl_isIn_eq (a b c : Int) : impl_isIn.f a b c = some (inB a b c) := by
  unfold impl_isIn.f inB
  by_cases h : b ≤ a <;> simp [h]

/-! ### impl_Free -/
theorem impl_Free_g (a1 a2 : Int) : ∀ (l ys : List S80), ys.length + l.length ≤ 1000000000000 → impl_Free.g a1 a2 l ys = some (ys ++ fr a1 a2 l)
  | [], ys, _ => by simp [impl_Free.g, fr]
  | x :: l, ys, h => by
    rw [List.length_cons] at h
    have e : fr a1 a2 (x :: l) = frS a1 a2 x ++ fr a1 a2 l := List.flatMap_cons
    unfold impl_Free.g
    rw [impl_isIn_eq, Option.bind_some, e]
    unfold frS
    by_cases c : x.f0 = a1 ∧ inB a2 1 3 = true
    · rw [if_pos c, if_pos c]
      by_cases z : Go.bits .andNot .i64 x.f2 a2 = 0
      · rw [if_pos z, if_pos z, impl_Free_g a1 a2 l ys (by omega)]
        rfl
      · rw [if_neg z, if_neg z, if_pos (by omega), impl_Free_g a1 a2 l _ (by rw [List.length_append, List.length_singleton]; omega), List.append_assoc]
    · rw [if_neg c, if_neg c, if_pos (by omega), impl_Free_g a1 a2 l _ (by rw [List.length_append, List.length_singleton]; omega), List.append_assoc]
theorem impl_Free_ev (l : List S80) (a1 a2 : Int) (hl : l.length ≤ 1000000000000) (hx : ∀ x ∈ l, x.f4.length ≤ 1000000000000 ∧ x.f5.length ≤ 1000000000000) : Ev (fun k => impl_Free.f k l a1 a2) (fr a1 a2 l) := by
  unfold impl_Free.f
  exact ev_bind (impl_socksCopy_ev l hl hx) (ev_as (by rw [impl_Free_g a1 a2 l [] (by simpa using hl)]; exact ev_now _) (List.nil_append _))

/-! ### laws_eqByteS -/
def eqcl_ByteS (l : List Int) : Prop := l.length ≤ 4611686018427387904
theorem eq_ByteS_l0 (l : List Int) (hq : eqcl_ByteS l) (d : Nat) : ∀ i : Nat, i + d = l.length → Ev (fun k => laws_eqByteS.l0 k l l (i : Int)) true := by
  have hl : l.length ≤ 4611686018427387904 := hq
  induction d with
  | zero =>
    intro i hi
    exact ev_step (fun k => laws_eqByteS.l0.eq_2 ..) (ev_neg (by omega) (ev_now _))
  | succ d ih =>
    intro i hi
    have hn := ih (i + 1) (by omega)
    have hlt : i < l.length := by omega
    refine ev_step (fun k => laws_eqByteS.l0.eq_2 ..) (ev_pos (by omega) (ev_pos (by omega) (ev_pos (by omega) ?_)))
    rw [w64 (by omega) (by omega)]
    exact ev_pos rfl hn
theorem eq_ByteS (l : List Int) (hq : eqcl_ByteS l) : Ev (fun k => laws_eqByteS.f k l l) true := by
  unfold laws_eqByteS.f
  exact ev_pos rfl (eq_ByteS_l0 l hq l.length 0 (by omega))

/-! ### laws_eqSock -/
def eqc_Sock (x : S80) : Prop := eqcl_ByteS x.f4 ∧ eqcl_ByteS x.f5
theorem eq_Sock (x : S80) (hq : eqc_Sock x) : Ev (fun k => laws_eqSock.f k x.f0 x.f1 x.f2 x.f3 x.f4 x.f5 x.f6 x.f7 x.f0 x.f1 x.f2 x.f3 x.f4 x.f5 x.f6 x.f7) true := by
  unfold laws_eqSock.f
  exact ev_pos rfl (ev_pos rfl (ev_pos rfl (ev_neg (by simp) (ev_bind (eq_ByteS x.f4 (hq.1)) (ev_pos rfl (ev_bind (eq_ByteS x.f5 (hq.2)) (ev_pos rfl (ev_pos rfl (ev_pos rfl (ev_now _))))))))))

/-! ### laws_eqSockS -/
def eqcl_SockS (l : List S80) : Prop := l.length ≤ 4611686018427387904 ∧ ∀ x ∈ l, eqc_Sock x
theorem eq_SockS_l0 (l : List S80) (hq : eqcl_SockS l) (d : Nat) : ∀ i : Nat, i + d = l.length → Ev (fun k => laws_eqSockS.l0 k l l (i : Int)) true := by
  have hl : l.length ≤ 4611686018427387904 := hq.1
  induction d with
  | zero =>
    intro i hi
    exact ev_step (fun k => laws_eqSockS.l0.eq_2 ..) (ev_neg (by omega) (ev_now _))
  | succ d ih =>
    intro i hi
    have hn := ih (i + 1) (by omega)
    have hlt : i < l.length := by omega
    refine ev_step (fun k => laws_eqSockS.l0.eq_2 ..) (ev_pos (by omega) (ev_pos (by omega) (ev_pos (by omega) ?_)))
    rw [w64 (by omega) (by omega)]
    have hr : rd_T80 l (i : Int) = l[i] := getD_nth _ l i hlt
    simp only [hr]
    exact ev_bind (eq_Sock _ (hq.2 _ (List.getElem_mem hlt))) (ev_pos rfl hn)
theorem eq_SockS (l : List S80) (hq : eqcl_SockS l) : Ev (fun k => laws_eqSockS.f k l l) true := by
  unfold laws_eqSockS.f
  exact ev_pos rfl (eq_SockS_l0 l hq l.length 0 (by omega))

/-! ### laws_markByteS -/
def mk_Byte (k : Int) : Int := k % 256
theorem mark_ByteS (l : List Int) (hl : l.length ≤ 4611686018427387904) (k : Int) (h0 : 0 ≤ k) (h1 : k + 1 * (l.length : Int) ≤ 4611686018427387904) : Ev (fun n => laws_markByteS.f n l k) (k + 1 * (l.length : Int), mkl mk_Byte 1 k l.length) := by
  refine mark_loop (g := fun n x k i => laws_markByteS.l0 n x k i) (by omega) (fun x k i hi => ev_step (fun n => laws_markByteS.l0.eq_2 ..) (ev_neg (by omega) (ev_now _))) (fun x k i r hi hx h0 h1 hn => ?_) l hl k h0 h1
  refine ev_step (fun n => laws_markByteS.l0.eq_2 ..) (ev_pos (by omega) (ev_pos (by omega) ?_))
  have wi : wrap64 ((i : Int) + 1) = (i : Int) + 1 := w64 (by omega) (by omega)
  have w1 : wrap64 (k + 1) = k + 1 := w64 (by omega) (by omega)
  rw [show k + 1 = k + 1 by omega] at hn
  simp only [wi, w1, Int.toNat_natCast]
  exact hn

/-! ### laws_markSockS -/
def szs : List S80 → Nat
  | [] => 0
  | x :: l => 6 + x.f4.length + x.f5.length + szs l
theorem szs_append (l m : List S80) : szs (l ++ m) = szs l + szs m := by
  induction l with
  | nil => simp [szs]
  | cons x l ih => simp only [List.cons_append, szs, ih]; omega
theorem szs_mem (l : List S80) (x : S80) (h : x ∈ l) : 6 + x.f4.length + x.f5.length ≤ szs l := by
  induction l with
  | nil => cases h
  | cons y l ih =>
    rcases List.mem_cons.1 h with rfl | h
    · simp only [szs]; omega
    · have := ih h; simp only [szs]; omega
theorem szs_len (l : List S80) : l.length ≤ szs l := by
  induction l with
  | nil => simp [szs]
  | cons y l ih => simp only [szs, List.length_cons]; omega
def mkSl : List S80 → Int → List S80
  | [], _ => []
  | x :: l, k => ⟨k, k + 1, k + 1 + 1, (Int.tmod (k + 1 + 1 + 1) 3 == 0), mkl mk_Byte 1 (k + 1 + 1 + 1 + 1) x.f4.length, mkl mk_Byte 1 (k + 1 + 1 + 1 + 1 + 1 * (x.f4.length : Int)) x.f5.length, k + 1 + 1 + 1 + 1 + 1 * (x.f4.length : Int) + 1 * (x.f5.length : Int), k + 1 + 1 + 1 + 1 + 1 * (x.f4.length : Int) + 1 * (x.f5.length : Int) + 1⟩ :: mkSl l (k + 1 + 1 + 1 + 1 + 1 * (x.f4.length : Int) + 1 * (x.f5.length : Int) + 1 + 1)
theorem mark_SockS : ∀ (l : List S80) (k : Int), 0 ≤ k → k + (szs l : Int) ≤ 1000000000000 → Ev (fun n => laws_markSockS.f n l k) (k + (szs l : Int), mkSl l k)
  | [], k, h0, h1 => ev_as (ev_now (k, [])) (by simp [szs, mkSl])
  | x :: l, k, h0, h1 => by
    have e : szs (x :: l) = 6 + x.f4.length + x.f5.length + szs l := rfl
    rw [e] at h1 ⊢
    have w5 : Aside0 (wrap64 (k + 1 + 1 + 1 + 1 + 1 * (x.f4.length : Int) + 1 * (x.f5.length : Int) + 1) = k + 1 + 1 + 1 + 1 + 1 * (x.f4.length : Int) + 1 * (x.f5.length : Int) + 1) := ⟨w64 (by omega) (by omega)⟩
    have w6 : Aside0 (wrap64 (k + 1 + 1 + 1 + 1 + 1 * (x.f4.length : Int) + 1 * (x.f5.length : Int) + 1 + 1) = k + 1 + 1 + 1 + 1 + 1 * (x.f4.length : Int) + 1 * (x.f5.length : Int) + 1 + 1) := ⟨w64 (by omega) (by omega)⟩
    have w1 : wrap64 (k + 1) = k + 1 := w64 (by omega) (by omega)
    have w2 : wrap64 (k + 1 + 1) = k + 1 + 1 := w64 (by omega) (by omega)
    have w3 : wrap64 (k + 1 + 1 + 1) = k + 1 + 1 + 1 := w64 (by omega) (by omega)
    have w4 : wrap64 (k + 1 + 1 + 1 + 1) = k + 1 + 1 + 1 + 1 := w64 (by omega) (by omega)
    unfold laws_markSockS.f
    simp only [w1, w2, w3, w4]
    clear w1 w2 w3 w4
    refine ev_bind (mark_ByteS x.f4 (by omega) (k + 1 + 1 + 1 + 1) (by omega) (by omega)) (ev_bind (mark_ByteS x.f5 (by omega) (k + 1 + 1 + 1 + 1 + 1 * (x.f4.length : Int)) (by omega) (by omega)) ?_)
    simp only [w5.out, w6.out]
    clear w5 w6
    refine ev_bind (mark_SockS l (k + 1 + 1 + 1 + 1 + 1 * (x.f4.length : Int) + 1 * (x.f5.length : Int) + 1 + 1) (by omega) (by omega)) (ev_as (ev_now _) ?_)
    simp only [mkSl, Prod.mk.injEq, and_true]
    omega

/-! ### laws_heldByteS -/
theorem held_ByteS (m : Nat) (hm : m ≤ 4611686018427387904) (k : Int) (h0 : 0 ≤ k) (h1 : k + 1 * (m : Int) ≤ 4611686018427387904) : Ev (fun n => laws_heldByteS.f n (mkl mk_Byte 1 k m) k) (k + 1 * (m : Int)) := by
  refine held_loop (g := fun n x k i => laws_heldByteS.l0 n x k i) (by omega) (fun x k i hi => ev_step (fun n => laws_heldByteS.l0.eq_2 ..) (ev_neg (by omega) (ev_now _))) (fun x k i r hi he hx h0 h1 hn => ?_) m hm k h0 h1
  have hr : rd x (i : Int) = mk_Byte k := (rd_nth x i hi).trans he
  refine ev_step (fun n => laws_heldByteS.l0.eq_2 ..) (ev_pos (by omega) (ev_pos (by omega) ?_))
  have wi : wrap64 ((i : Int) + 1) = (i : Int) + 1 := w64 (by omega) (by omega)
  have w1 : wrap64 (k + 1) = k + 1 := w64 (by omega) (by omega)
  rw [show k + 1 = k + 1 by omega] at hn
  simp only [hr, w1, wi]
  exact ev_pos rfl (hn)

/-! ### laws_heldSockS -/
theorem held_SockS_l0 (xs : List S80) (hl : xs.length ≤ 1000000000000) : ∀ (l : List S80) (k : Int) (i : Nat), xs.drop i = mkSl l k → 0 ≤ k → k + (szs l : Int) ≤ 1000000000000 → Ev (fun n => laws_heldSockS.l0 n xs k (i : Int)) (k + (szs l : Int))
  | [], k, i, hd, h0, h1 => by
    have hi : xs.length ≤ i := List.drop_eq_nil_iff.1 hd
    refine ev_step (fun n => laws_heldSockS.l0.eq_2 ..) (ev_neg (by omega) (ev_as (ev_now _) ?_))
    simp [szs]
  | x :: l, k, i, hd, h0, h1 => by
    have e : szs (x :: l) = 6 + x.f4.length + x.f5.length + szs l := rfl
    rw [e] at h1 ⊢
    have hlt : i < xs.length := by
      refine Nat.lt_of_not_le fun hi => ?_
      rw [List.drop_eq_nil_iff.2 hi] at hd
      cases hd
    rw [List.drop_eq_getElem_cons hlt] at hd
    obtain ⟨hx, hd⟩ := List.cons.inj hd
    have hr := (getD_nth z80 xs i hlt).trans hx
    rw [show xs.getD (i : Int).toNat z80 = rd_T80 xs (i : Int) from rfl] at hr
    have hA : (i : Int) < (xs.length : Int) := by omega
    have hB : 0 ≤ (i : Int) := by omega
    have w5 : Aside0 (wrap64 (k + 1 + 1 + 1 + 1 + 1 * (x.f4.length : Int) + 1 * (x.f5.length : Int) + 1) = k + 1 + 1 + 1 + 1 + 1 * (x.f4.length : Int) + 1 * (x.f5.length : Int) + 1) := ⟨w64 (by omega) (by omega)⟩
    have w6 : Aside0 (wrap64 (k + 1 + 1 + 1 + 1 + 1 * (x.f4.length : Int) + 1 * (x.f5.length : Int) + 1 + 1) = k + 1 + 1 + 1 + 1 + 1 * (x.f4.length : Int) + 1 * (x.f5.length : Int) + 1 + 1) := ⟨w64 (by omega) (by omega)⟩
    have w1 : wrap64 (k + 1) = k + 1 := w64 (by omega) (by omega)
    have w2 : wrap64 (k + 1 + 1) = k + 1 + 1 := w64 (by omega) (by omega)
    have w3 : wrap64 (k + 1 + 1 + 1) = k + 1 + 1 + 1 := w64 (by omega) (by omega)
    have w4 : wrap64 (k + 1 + 1 + 1 + 1) = k + 1 + 1 + 1 + 1 := w64 (by omega) (by omega)
    have wi : wrap64 ((i : Int) + 1) = (i : Int) + 1 := w64 (by omega) (by omega)
    refine ev_step (fun n => laws_heldSockS.l0.eq_2 ..) (ev_pos hA (ev_pos hB ?_))
    simp only [hr, w1, w2, w3, w4, wi, if_true]
    clear w1 w2 w3 w4 wi
    refine ev_neg (by simp) ?_
    refine ev_bind (held_ByteS x.f4.length (by omega) (k + 1 + 1 + 1 + 1) (by omega) (by omega)) (ev_neg (by omega) ?_)
    refine ev_bind (held_ByteS x.f5.length (by omega) (k + 1 + 1 + 1 + 1 + 1 * (x.f4.length : Int)) (by omega) (by omega)) (ev_neg (by omega) ?_)
    simp only [w5.out, w6.out, if_true]
    clear w5 w6
    refine ev_as (held_SockS_l0 xs hl l (k + 1 + 1 + 1 + 1 + 1 * (x.f4.length : Int) + 1 * (x.f5.length : Int) + 1 + 1) (i + 1) hd (by omega) (by omega)) ?_
    omega
theorem mkSl_len : ∀ (l : List S80) (k : Int), (mkSl l k).length = l.length
  | [], k => rfl
  | x :: l, k => congrArg Nat.succ (mkSl_len l _)
theorem held_SockS (l : List S80) (k : Int) (h0 : 0 ≤ k) (h1 : k + (szs l : Int) ≤ 1000000000000) : Ev (fun n => laws_heldSockS.f n (mkSl l k) k) (k + (szs l : Int)) := by
  unfold laws_heldSockS.f
  have := szs_len l
  exact held_SockS_l0 _ (by rw [mkSl_len]; omega) l k 0 rfl h0 h1

theorem szs_map (l : List S79) : szs (l.map cv_Sock) ≤ 6 * szl_SockS l := by
  unfold szl_SockS
  induction l with
  | nil => simp [szs]
  | cons x l ih =>
    simp only [List.map_cons, szs, List.length_cons, List.sum_cons]
    simp only [cv_Sock, szv_Sock, szl_ByteS]
    omega
theorem szs_fr (a1 a2 : Int) : ∀ l : List S80, szs (fr a1 a2 l) ≤ szs l
  | [] => by simp [fr, szs]
  | x :: l => by
    have h := szs_fr a1 a2 l
    have e : fr a1 a2 (x :: l) = frS a1 a2 x ++ fr a1 a2 l := List.flatMap_cons
    rw [e, szs_append]
    have h1 : szs (frS a1 a2 x) ≤ 6 + x.f4.length + x.f5.length := by
      unfold frS
      split
      · split <;> simp [szs]
      · simp [szs]
    simp only [szs]
    omega
theorem FnExactFree : VFnExactFree.Pure := by
  intro l a1 a2 hl hG h1 h2
  refine ev_rounds ?_
  unfold laws_FnExactFree.f
  obtain ⟨t, et, ct⟩ := sz_SockS l hl hG 1048576 (by omega) (by omega)
  rcases ct with ct | ⟨ct, dt⟩
  · exact ev_bind et (ev_pos ct (ev_now _))
  have hs : szl_SockS l ≤ 1048576 := by omega
  have hto := to_SockS l hs
  have hz := szs_map l
  generalize l.map cv_Sock = xs at hto hz
  have hlen := szs_len xs
  have hxs : ∀ x ∈ xs, x.f4.length ≤ 1000000000000 ∧ x.f5.length ≤ 1000000000000 := fun x hx => by have := szs_mem xs x hx; exact ⟨by omega, by omega⟩
  have hg := szs_fr a1 a2 xs
  have hq : ∀ z : List S80, szs z ≤ 6 * 1048576 → eqcl_SockS z := fun z hz => ⟨by have := szs_len z; omega, fun y hy => by
    have := szs_mem z y hy
    exact ⟨show y.f4.length ≤ _ by omega, show y.f5.length ≤ _ by omega⟩⟩
  refine ev_bind et (ev_neg (by omega) (ev_bind hto (ev_bind (spec_Free_ev xs a1 a2 (by omega) hxs) (ev_bind (impl_Free_ev xs a1 a2 (by omega) hxs) ?_))))
  refine ev_bind (eq_SockS _ (hq _ (by omega))) (ev_bind (eq_SockS _ (hq _ (by omega))) (ev_bind (mark_SockS xs 1 (by omega) (by omega)) (ev_bind (mark_SockS _ 1 (by omega) (by omega)) (ev_bind (held_SockS (fr a1 a2 xs) 1 (by omega) (by omega)) (ev_pos ⟨rfl, rfl, ?_, ?_, rfl⟩ (ev_now _))))))
  · show 0 ≤ 1 + (szs xs : Int); omega
  · omega
end Go.Proofs.Ytiffahfpfgnjnab.Pure
