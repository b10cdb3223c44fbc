/- The program's TakeOut answers as the reference's, whatever the channel and the place; what it hands back is its own. -/
import Derived.Test.YthmfmpmljndjhaaVFnExactTakeOut
import Derived.Test.YthmfmpmljndjhaaVBase
import Derived.Test.YthmfmpmljndjhaaVExt
import Derived.Test.YthmfmpmljndjhaaVMark
namespace Go.Proofs.Ythmfmpmljndjhaa.Pure
open Go.RowKit Go.Proofs.Ythmfmpmljndjhaa.PFnExactTakeOut Go.Proofs.Ythmfmpmljndjhaa.VFnExactTakeOut Go.Proofs.YthmfmpmljndjhaaW.PrintWords Go.Proofs.YthmfmpmljndjhaaW.PrintLast Go.Proofs.YthmfmpmljndjhaaV
set_option linter.unusedVariables false
set_option linter.unusedSimpArgs false
set_option maxRecDepth 20000

/-! ### laws_szByteS -/
def szl_ByteS (l : List Int) : Nat := l.length
theorem sz_ByteS (l : List Int) (hl : l.length ≤ 9223372036854775807) (left : Int) (h0 : 0 ≤ left) (h1 : left ≤ 1048576) :
    ∃ t, Ev (fun k => laws_szByteS.f l left) t ∧ (t < 0 ∨ 0 ≤ t ∧ t + (szl_ByteS l : Int) = left) := by
  unfold laws_szByteS.f szl_ByteS
  have e : wrap64 (left - (l.length : Int)) = left - (l.length : Int) := w64 (by omega) (by omega)
  simp only [e]
  by_cases hc : left - (l.length : Int) < 0
  · exact ⟨-1, ev_pos hc (ev_now _), .inl (by omega)⟩
  · exact ⟨_, ev_neg hc (ev_now _), .inr ⟨by omega, by omega⟩⟩

/-! ### laws_szPack -/
def szv_Pack (x : S112) : Nat := szl_ByteS x.f1
theorem sz_Pack (x : S112) (hG : G112 x) (left : Int) (h0 : 0 ≤ left) (h1 : left ≤ 1048576) :
    ∃ t, Ev (fun k => laws_szPack.f x.f0 x.f1 left) t ∧ (t < 0 ∨ 0 ≤ t ∧ t + (szv_Pack x : Int) = left) := by
  obtain ⟨g0, g1⟩ := hG
  unfold laws_szPack.f szv_Pack
  obtain ⟨t1, et1, ct1⟩ := sz_ByteS x.f1 g1.1 (left) (by omega) (by omega)
  rcases ct1 with ct1 | ⟨ct1, dt1⟩
  · exact ⟨-1, ev_bind et1 (ev_pos ct1 (ev_now _)), .inl (by omega)⟩
  exact ⟨_, ev_bind et1 (ev_neg (by omega) (ev_now _)), .inr ⟨by omega, by omega⟩⟩

/-! ### laws_szPackS -/
def szl_PackS (l : List S112) : Nat := l.length + (l.map szv_Pack).sum
theorem sz_PackS_l0 (l : List S112) (hG : ∀ x ∈ l, G112 x) (hl : l.length ≤ 9223372036854775807) (d : Nat) : ∀ (i : Nat) (left : Int), i + d = l.length → 0 ≤ left → left ≤ 1048576 →
    ∃ t, Ev (fun k => laws_szPackS.l0 k l left (i : Int)) t ∧ (t < 0 ∨ 0 ≤ t ∧ t + (((l.drop i).map szv_Pack).sum : Nat) = left) := by
  induction d with
  | zero =>
    intro i left hi h0 h1
    refine ⟨left, ev_step (fun k => laws_szPackS.l0.eq_2 ..) (ev_neg (by omega) (ev_now _)), .inr ⟨h0, ?_⟩⟩
    rw [List.drop_of_length_le (by omega)]
    simp
  | succ d ih =>
    intro i left hi h0 h1
    have hlt : i < l.length := by omega
    have hg := hG l[i] (List.getElem_mem hlt)
    have hd : l.drop i = l[i] :: l.drop (i + 1) := List.drop_eq_getElem_cons hlt
    have hr : rd_T112 l (i : Int) = l[i] := getD_nth _ l i hlt
    obtain ⟨t1, et1, ct1⟩ := sz_Pack l[i] hg left h0 h1
    rcases ct1 with ct1 | ⟨ct1, dt1⟩
    · refine ⟨-1, ev_step (fun k => laws_szPackS.l0.eq_2 ..) (ev_pos (by omega) (ev_pos (by omega) ?_)), .inl (by omega)⟩
      simp only [hr]
      exact ev_bind et1 (ev_pos ct1 (ev_now _))
    · obtain ⟨t, et, ct⟩ := ih (i + 1) t1 (by omega) ct1 (by omega)
      refine ⟨t, ev_step (fun k => laws_szPackS.l0.eq_2 ..) (ev_pos (by omega) (ev_pos (by omega) ?_)), ?_⟩
      · simp only [hr]
        rw [w64 (by omega) (by omega)]
        exact ev_bind et1 (ev_neg (by omega) et)
      · rw [hd, List.map_cons, List.sum_cons]
        omega
theorem sz_PackS (l : List S112) (hl : l.length ≤ 9223372036854775807) (hG : ∀ x ∈ l, G112 x) (left : Int) (h0 : 0 ≤ left) (h1 : left ≤ 1048576) :
    ∃ t, Ev (fun k => laws_szPackS.f k l left) t ∧ (t < 0 ∨ 0 ≤ t ∧ t + (szl_PackS l : Int) = left) := by
  unfold laws_szPackS.f szl_PackS
  have e : wrap64 (left - (l.length : Int)) = left - (l.length : Int) := w64 (by omega) (by omega)
  simp only [e]
  by_cases hc : left - (l.length : Int) < 0
  · exact ⟨-1, ev_pos hc (ev_now _), .inl (by omega)⟩
  · obtain ⟨t, et, ct⟩ := sz_PackS_l0 l hG hl l.length 0 (left - (l.length : Int)) (by omega) (by omega) (by omega)
    refine ⟨t, ev_neg hc et, ?_⟩
    rw [List.drop_zero] at ct
    omega

/-! ### laws_toByteS -/
theorem to_ByteS_l0 (l : List Int) (hs : szl_ByteS l ≤ 1048576) (d : Nat) : ∀ (i : Nat) (x : List Int), i + d = l.length → x.length = l.length → x.take i = (l).take i → Ev (fun k => laws_toByteS.l0 k l x (i : Int)) (l) := by
  have hl : l.length ≤ 1048576 := by unfold szl_ByteS at hs; omega
  induction d with
  | zero =>
    intro i x hi hx ht
    refine ev_as (ev_step (fun k => laws_toByteS.l0.eq_2 ..) (ev_neg (by omega) (ev_now _))) ?_
    rw [List.take_of_length_le (by omega), List.take_of_length_le (by first | omega | (simp; omega))] at ht
    exact ht
  | succ d ih =>
    intro i x hi hx ht
    have hlt : i < l.length := by omega
    have hr : rd l (i : Int) = l[i] := rd_nth l i hlt
    refine ev_step (fun k => laws_toByteS.l0.eq_2 ..) (ev_pos (by omega) (ev_pos (by omega) ?_))
    refine ev_pos (by omega) ?_
    rw [hr, Int.toNat_natCast, w64 (by omega) (by omega)]
    exact ih (i + 1) _ (by omega) (by simp; omega) (take_set x l i _ (by omega) (by omega) ht rfl)
theorem to_ByteS (l : List Int) (hs : szl_ByteS l ≤ 1048576) : Ev (fun k => laws_toByteS.f k l) (l) := by
  have hl : l.length ≤ 1048576 := by unfold szl_ByteS at hs; omega
  unfold laws_toByteS.f
  refine ev_pos (by omega) (ev_pos (by simp; omega) ?_)
  exact to_ByteS_l0 l hs l.length 0 _ (by omega) (by simp) (by simp)

/-! ### laws_toPack -/
def cv_Pack (x : S112) : S74 := ⟨x.f0, x.f1⟩
theorem to_Pack (x : S112) (hs : szv_Pack x ≤ 1048576) : Ev (fun k => laws_toPack.f k x.f0 x.f1) ((cv_Pack x).f0, (cv_Pack x).f1) := by
  unfold szv_Pack at hs
  unfold laws_toPack.f
  refine ev_bind (to_ByteS x.f1 (by omega)) ?_
  exact ev_now _

/-! ### laws_toPackS -/
theorem to_PackS_l0 (l : List S112) (hs : szl_PackS l ≤ 1048576) (d : Nat) : ∀ (i : Nat) (x : List S74), i + d = l.length → x.length = l.length → x.take i = (l.map cv_Pack).take i → Ev (fun k => laws_toPackS.l0 k l x (i : Int)) (l.map cv_Pack) := by
  have hl : l.length ≤ 1048576 := by unfold szl_PackS at hs; omega
  induction d with
  | zero =>
    intro i x hi hx ht
    refine ev_as (ev_step (fun k => laws_toPackS.l0.eq_2 ..) (ev_neg (by omega) (ev_now _))) ?_
    rw [List.take_of_length_le (by omega), List.take_of_length_le (by first | omega | (simp; omega))] at ht
    exact ht
  | succ d ih =>
    intro i x hi hx ht
    have hlt : i < l.length := by omega
    have hr : rd_T112 l (i : Int) = l[i] := getD_nth _ l i hlt
    refine ev_step (fun k => laws_toPackS.l0.eq_2 ..) (ev_pos (by omega) (ev_pos (by omega) ?_))
    have he := to_Pack l[i] (by have := mem_sum szv_Pack l l[i] (List.getElem_mem hlt); unfold szl_PackS at hs; omega)
    simp only [hr]
    refine ev_bind he ?_
    refine ev_pos (by omega) ?_
    rw [Int.toNat_natCast, w64 (by omega) (by omega)]
    exact ih (i + 1) _ (by omega) (by simp; omega) (take_set x (l.map cv_Pack) i _ (by first | omega | (simp; omega)) (by first | omega | (simp; omega)) ht (by first | (simp; done) | (simp; rfl) | rfl))
theorem to_PackS (l : List S112) (hs : szl_PackS l ≤ 1048576) : Ev (fun k => laws_toPackS.f k l) (l.map cv_Pack) := by
  have hl : l.length ≤ 1048576 := by unfold szl_PackS at hs; omega
  unfold laws_toPackS.f
  refine ev_pos (by omega) (ev_pos (by simp; omega) ?_)
  exact to_PackS_l0 l hs l.length 0 _ (by omega) (by simp) (by simp)

/-! ### laws_eqByteS -/
def eqcl_ByteS (l : List Int) : Prop := l.length ≤ 4611686018427387904
theorem eq_ByteS_l0 (l : List Int) (hq : eqcl_ByteS l) (d : Nat) : ∀ i : Nat, i + d = l.length → Ev (fun k => laws_eqByteS.l0 k l l (i : Int)) true := by
  have hl : l.length ≤ 4611686018427387904 := hq
  induction d with
  | zero =>
    intro i hi
    exact ev_step (fun k => laws_eqByteS.l0.eq_2 ..) (ev_neg (by omega) (ev_now _))
  | succ d ih =>
    intro i hi
    have hn := ih (i + 1) (by omega)
    have hlt : i < l.length := by omega
    refine ev_step (fun k => laws_eqByteS.l0.eq_2 ..) (ev_pos (by omega) (ev_pos (by omega) (ev_pos (by omega) ?_)))
    rw [w64 (by omega) (by omega)]
    exact ev_pos rfl hn
theorem eq_ByteS (l : List Int) (hq : eqcl_ByteS l) : Ev (fun k => laws_eqByteS.f k l l) true := by
  unfold laws_eqByteS.f
  exact ev_pos rfl (eq_ByteS_l0 l hq l.length 0 (by omega))

/-! ### laws_eqPack -/
def eqc_Pack (x : S74) : Prop := eqcl_ByteS x.f1
theorem eq_Pack (x : S74) (hq : eqc_Pack x) : Ev (fun k => laws_eqPack.f k x.f0 x.f1 x.f0 x.f1) true := by
  unfold laws_eqPack.f
  exact ev_pos rfl (ev_bind (eq_ByteS x.f1 (hq)) (ev_pos rfl (ev_now _)))

/-! ### laws_eqPackS -/
def eqcl_PackS (l : List S74) : Prop := l.length ≤ 4611686018427387904 ∧ ∀ x ∈ l, eqc_Pack x
theorem eq_PackS_l0 (l : List S74) (hq : eqcl_PackS l) (d : Nat) : ∀ i : Nat, i + d = l.length → Ev (fun k => laws_eqPackS.l0 k l l (i : Int)) true := by
  have hl : l.length ≤ 4611686018427387904 := hq.1
  induction d with
  | zero =>
    intro i hi
    exact ev_step (fun k => laws_eqPackS.l0.eq_2 ..) (ev_neg (by omega) (ev_now _))
  | succ d ih =>
    intro i hi
    have hn := ih (i + 1) (by omega)
    have hlt : i < l.length := by omega
    refine ev_step (fun k => laws_eqPackS.l0.eq_2 ..) (ev_pos (by omega) (ev_pos (by omega) (ev_pos (by omega) ?_)))
    rw [w64 (by omega) (by omega)]
    have hr : rd_T74 l (i : Int) = l[i] := getD_nth _ l i hlt
    simp only [hr]
    exact ev_bind (eq_Pack _ (hq.2 _ (List.getElem_mem hlt))) (ev_pos rfl hn)
theorem eq_PackS (l : List S74) (hq : eqcl_PackS l) : Ev (fun k => laws_eqPackS.f k l l) true := by
  unfold laws_eqPackS.f
  exact ev_pos rfl (eq_PackS_l0 l hq l.length 0 (by omega))

/-! ### laws_markByteS -/
def mk_Byte (k : Int) : Int := k % 256
theorem mark_ByteS (l : List Int) (hl : l.length ≤ 4611686018427387904) (k : Int) (h0 : 0 ≤ k) (h1 : k + 1 * (l.length : Int) ≤ 4611686018427387904) : Ev (fun n => laws_markByteS.f n l k) (k + 1 * (l.length : Int), mkl mk_Byte 1 k l.length) := by
  refine mark_loop (g := fun n x k i => laws_markByteS.l0 n x k i) (by omega) (fun x k i hi => ev_step (fun n => laws_markByteS.l0.eq_2 ..) (ev_neg (by omega) (ev_now _))) (fun x k i r hi hx h0 h1 hn => ?_) l hl k h0 h1
  refine ev_step (fun n => laws_markByteS.l0.eq_2 ..) (ev_pos (by omega) (ev_pos (by omega) ?_))
  have wi : wrap64 ((i : Int) + 1) = (i : Int) + 1 := w64 (by omega) (by omega)
  have w1 : wrap64 (k + 1) = k + 1 := w64 (by omega) (by omega)
  rw [show k + 1 = k + 1 by omega] at hn
  simp only [wi, w1, Int.toNat_natCast]
  exact hn

/-! ### laws_markPackS -/
def szp : List S74 → Nat
  | [] => 0
  | x :: l => 1 + x.f1.length + szp l
theorem szp_append (l m : List S74) : szp (l ++ m) = szp l + szp m := by
  induction l with
  | nil => simp [szp]
  | cons x l ih => simp only [List.cons_append, szp, ih]; omega
theorem szp_mem (l : List S74) (x : S74) (h : x ∈ l) : 1 + x.f1.length ≤ szp l := by
  induction l with
  | nil => cases h
  | cons y l ih =>
    rcases List.mem_cons.1 h with rfl | h
    · simp only [szp]; omega
    · have := ih h; simp only [szp]; omega
theorem szp_len (l : List S74) : l.length ≤ szp l := by
  induction l with
  | nil => simp [szp]
  | cons y l ih => simp only [szp, List.length_cons]; omega
def mkPl : List S74 → Int → List S74
  | [], _ => []
  | x :: l, k => ⟨k, mkl mk_Byte 1 (k + 1) x.f1.length⟩ :: mkPl l (k + 1 + 1 * (x.f1.length : Int))
theorem mark_PackS : ∀ (l : List S74) (k : Int), 0 ≤ k → k + (szp l : Int) ≤ 1000000000000 → Ev (fun n => laws_markPackS.f n l k) (k + (szp l : Int), mkPl l k)
  | [], k, h0, h1 => ev_as (ev_now (k, [])) (by simp [szp, mkPl])
  | x :: l, k, h0, h1 => by
    have e : szp (x :: l) = 1 + x.f1.length + szp l := rfl
    rw [e] at h1 ⊢
    have w1 : wrap64 (k + 1) = k + 1 := w64 (by omega) (by omega)
    unfold laws_markPackS.f
    simp only [w1]
    refine ev_bind (mark_ByteS x.f1 (by omega) (k + 1) (by omega) (by omega)) (ev_bind (mark_PackS l (k + 1 + 1 * (x.f1.length : Int)) (by omega) (by omega)) (ev_as (ev_now _) ?_))
    simp only [mkPl, Prod.mk.injEq, and_true]
    omega

/-! ### laws_heldByteS -/
theorem held_ByteS (m : Nat) (hm : m ≤ 4611686018427387904) (k : Int) (h0 : 0 ≤ k) (h1 : k + 1 * (m : Int) ≤ 4611686018427387904) : Ev (fun n => laws_heldByteS.f n (mkl mk_Byte 1 k m) k) (k + 1 * (m : Int)) := by
  refine held_loop (g := fun n x k i => laws_heldByteS.l0 n x k i) (by omega) (fun x k i hi => ev_step (fun n => laws_heldByteS.l0.eq_2 ..) (ev_neg (by omega) (ev_now _))) (fun x k i r hi he hx h0 h1 hn => ?_) m hm k h0 h1
  have hr : rd x (i : Int) = mk_Byte k := (rd_nth x i hi).trans he
  refine ev_step (fun n => laws_heldByteS.l0.eq_2 ..) (ev_pos (by omega) (ev_pos (by omega) ?_))
  have wi : wrap64 ((i : Int) + 1) = (i : Int) + 1 := w64 (by omega) (by omega)
  have w1 : wrap64 (k + 1) = k + 1 := w64 (by omega) (by omega)
  rw [show k + 1 = k + 1 by omega] at hn
  simp only [hr, w1, wi]
  exact ev_pos rfl (hn)

/-! ### laws_heldPackS -/
theorem held_PackS_l0 (xs : List S74) (hl : xs.length ≤ 1000000000000) : ∀ (l : List S74) (k : Int) (i : Nat), xs.drop i = mkPl l k → 0 ≤ k → k + (szp l : Int) ≤ 1000000000000 → Ev (fun n => laws_heldPackS.l0 n xs k (i : Int)) (k + (szp l : Int))
  | [], k, i, hd, h0, h1 => by
    have hi : xs.length ≤ i := List.drop_eq_nil_iff.1 hd
    refine ev_step (fun n => laws_heldPackS.l0.eq_2 ..) (ev_neg (by omega) (ev_as (ev_now _) ?_))
    simp [szp]
  | x :: l, k, i, hd, h0, h1 => by
    have e : szp (x :: l) = 1 + x.f1.length + szp l := rfl
    rw [e] at h1 ⊢
    have hlt : i < xs.length := by
      refine Nat.lt_of_not_le fun hi => ?_
      rw [List.drop_eq_nil_iff.2 hi] at hd
      cases hd
    rw [List.drop_eq_getElem_cons hlt] at hd
    obtain ⟨hx, hd⟩ := List.cons.inj hd
    have hr : rd_T74 xs (i : Int) = ⟨k, mkl mk_Byte 1 (k + 1) x.f1.length⟩ := (getD_nth _ xs i hlt).trans hx
    have w1 : wrap64 (k + 1) = k + 1 := w64 (by omega) (by omega)
    have wi : wrap64 ((i : Int) + 1) = (i : Int) + 1 := w64 (by omega) (by omega)
    refine ev_step (fun n => laws_heldPackS.l0.eq_2 ..) (ev_pos (by omega) (ev_pos (by omega) ?_))
    simp only [hr, w1, wi, if_true]
    refine ev_bind (held_ByteS x.f1.length (by omega) (k + 1) (by omega) (by omega)) (ev_neg (by omega) ?_)
    refine ev_as (held_PackS_l0 xs hl l (k + 1 + 1 * (x.f1.length : Int)) (i + 1) hd (by omega) (by omega)) ?_
    omega
theorem mkPl_len : ∀ (l : List S74) (k : Int), (mkPl l k).length = l.length
  | [], k => rfl
  | x :: l, k => congrArg Nat.succ (mkPl_len l _)
theorem held_PackS (l : List S74) (k : Int) (h0 : 0 ≤ k) (h1 : k + (szp l : Int) ≤ 1000000000000) : Ev (fun n => laws_heldPackS.f n (mkPl l k) k) (k + (szp l : Int)) := by
  unfold laws_heldPackS.f
  have := szp_len l
  exact held_PackS_l0 _ (by rw [mkPl_len]; omega) l k 0 rfl h0 h1

/-! ### spec_l12Pack -/
theorem spec_l12Pack_eq (a : Int) (l : List Int) (h : l.length ≤ 1000000000000) : spec_l12Pack.f a l = some (a, l) := by
  unfold spec_l12Pack.f
  simp only [Option.bind_some, List.nil_append, List.length_nil]
  rw [if_pos (by omega)]

/-! ### spec_l12Copy -/
theorem spec_l12Copy_l0 (l : List S74) (hl : l.length ≤ 1000000000000) (hx : ∀ x ∈ l, x.f1.length ≤ 1000000000000) (d : Nat) : ∀ i : Nat, i + d = l.length → Ev (fun k => spec_l12Copy.l0 k l (l.take i) (i : Int)) l := by
  induction d with
  | zero =>
    intro i hi
    refine ev_step (fun k => spec_l12Copy.l0.eq_2 ..) (ev_neg (by omega) ?_)
    rw [List.take_of_length_le (by omega)]
    exact ev_now _
  | succ d ih =>
    intro i hi
    have hlt : i < l.length := by omega
    have hr : rd_T74 l (i : Int) = l[i] := getD_nth _ l i hlt
    have hn := ih (i + 1) (by omega)
    rw [List.take_add_one, List.getElem?_eq_getElem hlt] at hn
    refine ev_step (fun k => spec_l12Copy.l0.eq_2 ..) (ev_pos (by omega) (ev_pos (by omega) ?_))
    simp only [hr]
    rw [w64 (by omega) (by omega)]
    refine ev_bind1 (spec_l12Pack_eq _ _ (hx _ (List.getElem_mem hlt))) (ev_pos (by rw [List.length_take]; omega) ?_)
    exact hn
theorem spec_l12Copy_ev (l : List S74) (hl : l.length ≤ 1000000000000) (hx : ∀ x ∈ l, x.f1.length ≤ 1000000000000) : Ev (fun k => spec_l12Copy.f k l) l := by
  have h := spec_l12Copy_l0 l hl hx l.length 0 (by omega)
  exact h

/-! ### spec_TakeOut -/
def tko (l : List S74) (i : Int) : List S74 × Int × List Int × Bool :=
  if (l.length : Int) = 0 then (l, 0, [], false) else if i < 0 then (l, 0, [], false) else
  (l.eraseIdx (Int.tmod i (l.length : Int)).toNat, (rd_T74 l (Int.tmod i (l.length : Int))).f0, (rd_T74 l (Int.tmod i (l.length : Int))).f1, true)
theorem rd_mem (l : List S74) (j : Int) (h0 : 0 ≤ j) (h1 : j < (l.length : Int)) : rd_T74 l j ∈ l := by
  unfold rd_T74
  rw [List.getD_eq_getElem?_getD, List.getElem?_eq_getElem (by omega)]
  exact List.getElem_mem _
theorem spec_TakeOut_ev (l : List S74) (i : Int) (hl : l.length ≤ 1000000000000) (hx : ∀ x ∈ l, x.f1.length ≤ 1000000000000) : Ev (fun k => spec_TakeOut.f k l i) (tko l i) := by
  unfold spec_TakeOut.f tko
  by_cases h1 : (l.length : Int) = 0
  · simp only [if_pos h1]
    refine ev_step (fun k => spec_TakeOut.j0.eq_2 ..) (ev_pos rfl (ev_bind (spec_l12Copy_ev l hl hx) (ev_now _)))
  simp only [if_neg h1]
  by_cases h2 : i < 0
  · simp only [if_pos h2]
    rw [decide_eq_true h2]
    refine ev_step (fun k => spec_TakeOut.j0.eq_2 ..) (ev_pos rfl (ev_bind (spec_l12Copy_ev l hl hx) (ev_now _)))
  simp only [if_neg h2]
  rw [decide_eq_false h2]
  have hm0 : 0 ≤ Int.tmod i (l.length : Int) := Int.tmod_nonneg _ (by omega)
  have hm1 : Int.tmod i (l.length : Int) < (l.length : Int) := Int.tmod_lt_of_pos _ (by omega)
  refine ev_step (fun k => spec_TakeOut.j0.eq_2 ..) (ev_neg (by decide) (ev_neg h1 ?_))
  generalize Int.tmod i (l.length : Int) = j at hm0 hm1
  have hr := rd_mem l j hm0 hm1
  have w1 : wrap64 (j + 1) = j + 1 := w64 (by omega) (by omega)
  simp only [w1]
  refine ev_pos hm0 (ev_pos (by omega) (ev_bind (spec_l12Copy_ev _ (by rw [List.length_take]; omega) (fun x h => hx x (List.mem_of_mem_take h))) (ev_pos (by omega) (ev_pos (by omega) (ev_bind (spec_l12Copy_ev _ (by rw [List.length_drop]; omega) (fun x h => hx x (List.mem_of_mem_drop h))) (ev_pos (by rw [List.length_take, List.length_drop]; omega) (ev_pos hm1 (ev_bind1 (spec_l12Pack_eq _ _ (hx _ hr)) (ev_as (ev_now _) ?_)))))))))
  rw [show (j + 1).toNat = j.toNat + 1 by omega, List.eraseIdx_eq_take_drop_succ]

/-! ### slices_Clone_byte -/
theorem slices_Clone_byte_eq (l : List Int) (h : l.length ≤ 1000000000000) : slices_Clone_byte.f l = some l := by
  unfold slices_Clone_byte.f
  simp only [Option.bind_some, List.nil_append, List.length_nil]
  rw [if_pos (by omega)]

/-! ### impl_packCopy -/
theorem impl_packCopy_eq (a : Int) (l : List Int) (h : l.length ≤ 1000000000000) : impl_packCopy.f a l = some (a, l) := by
  unfold impl_packCopy.f
  rw [slices_Clone_byte_eq l h]
  rfl

/-! ### impl_wayCopy -/
theorem impl_wayCopy_l0 (l : List S74) (hl : l.length ≤ 1000000000000) (hx : ∀ x ∈ l, x.f1.length ≤ 1000000000000) (d : Nat) : ∀ i : Nat, i + d = l.length → Ev (fun k => impl_wayCopy.l0 k (l.take i) l (l.length : Int) (i : Int)) l := by
  induction d with
  | zero =>
    intro i hi
    refine ev_step (fun k => impl_wayCopy.l0.eq_2 ..) (ev_neg (by omega) ?_)
    rw [List.take_of_length_le (by omega)]
    exact ev_now _
  | succ d ih =>
    intro i hi
    have hlt : i < l.length := by omega
    have hr : rd_T74 l (i : Int) = l[i] := getD_nth _ l i hlt
    have hn := ih (i + 1) (by omega)
    rw [List.take_add_one, List.getElem?_eq_getElem hlt] at hn
    refine ev_step (fun k => impl_wayCopy.l0.eq_2 ..) (ev_pos (by omega) (ev_pos (by omega) (ev_pos (by omega) ?_)))
    simp only [hr]
    rw [w64 (by omega) (by omega)]
    refine ev_bind1 (impl_packCopy_eq _ _ (hx _ (List.getElem_mem hlt))) (ev_pos (by rw [List.length_take]; omega) ?_)
    exact hn
theorem impl_wayCopy_ev (l : List S74) (hl : l.length ≤ 1000000000000) (hx : ∀ x ∈ l, x.f1.length ≤ 1000000000000) : Ev (fun k => impl_wayCopy.f k l) l := by
  have h := impl_wayCopy_l0 l hl hx l.length 0 (by omega)
  exact h

/-! ### slices_Delete_Pack -/
theorem del_Pack (l : List S74) (i : Int) (h0 : 0 ≤ i) (h1 : i < (l.length : Int)) (hl : l.length ≤ 1000000000000) : slices_Delete_Pack.f l i (wrap64 (i + 1)) = some (l.eraseIdx i.toNat) := by
  unfold slices_Delete_Pack.f
  rw [w64 (by omega) (by omega), if_pos ⟨h0, h1, rfl⟩]

/-! ### impl_TakeOut -/
theorem impl_TakeOut_ev (l : List S74) (i : Int) (hl : l.length ≤ 1000000000000) (hx : ∀ x ∈ l, x.f1.length ≤ 1000000000000) : Ev (fun k => impl_TakeOut.f k l i) (tko l i) := by
  unfold impl_TakeOut.f tko
  refine ev_bind (impl_wayCopy_ev l hl hx) ?_
  by_cases h1 : (l.length : Int) = 0
  · simp only [if_pos h1]
    exact ev_step (fun k => impl_TakeOut.j0.eq_2 ..) (ev_pos rfl (ev_now _))
  simp only [if_neg h1]
  by_cases h2 : i < 0
  · simp only [if_pos h2]
    rw [decide_eq_true h2]
    exact ev_step (fun k => impl_TakeOut.j0.eq_2 ..) (ev_pos rfl (ev_now _))
  simp only [if_neg h2]
  rw [decide_eq_false h2]
  have hm0 : 0 ≤ Int.tmod i (l.length : Int) := Int.tmod_nonneg _ (by omega)
  have hm1 : Int.tmod i (l.length : Int) < (l.length : Int) := Int.tmod_lt_of_pos _ (by omega)
  refine ev_step (fun k => impl_TakeOut.j0.eq_2 ..) (ev_neg (by decide) (ev_neg h1 ?_))
  generalize Int.tmod i (l.length : Int) = j at hm0 hm1
  have hr := rd_mem l j hm0 hm1
  exact ev_pos hm0 (ev_pos hm1 (ev_bind1 (impl_packCopy_eq _ _ (hx _ hr)) (ev_bind1 (del_Pack l j hm0 hm1 hl) (ev_now _))))

/-! ### laws_markPack -/
theorem mark_Pack1 (a : Int) (l : List Int) (k : Int) (h0 : 0 ≤ k) (h1 : k + 1 * (l.length : Int) ≤ 1000000000000) : Ev (fun n => laws_markPack.f n a l k) (k + 1 * (l.length : Int), mkl mk_Byte 1 k l.length) := by
  unfold laws_markPack.f
  exact ev_bind (mark_ByteS l (by omega) k (by omega) (by omega)) (ev_now _)

/-! ### laws_heldPack -/
theorem held_Pack1 (a : Int) (l : List Int) (k : Int) (h0 : 0 ≤ k) (h1 : k + 1 * (l.length : Int) ≤ 1000000000000) : Ev (fun n => laws_heldPack.f n a (mkl mk_Byte 1 k l.length) k) (k + 1 * (l.length : Int)) := by
  unfold laws_heldPack.f
  refine ev_bind (held_ByteS l.length (by omega) k (by omega) (by omega)) (ev_neg (by omega) (ev_now _))

theorem szp_map (l : List S112) : szp (l.map cv_Pack) = szl_PackS l := by
  unfold szl_PackS
  induction l with
  | nil => rfl
  | cons x l ih =>
    simp only [List.map_cons, szp, ih, List.length_cons, List.sum_cons]
    simp only [cv_Pack, szv_Pack, szl_ByteS]
    omega
theorem szp_erase (l : List S74) (j : Nat) : szp (l.eraseIdx j) ≤ szp l := by
  induction l generalizing j with
  | nil => simp
  | cons x l ih =>
    cases j with
    | zero => simp [szp]
    | succ j => have := ih j; simp only [List.eraseIdx_cons_succ, szp]; omega
theorem FnExactTakeOut : VFnExactTakeOut.Pure := by
  intro l a1 hl hG h1
  refine ev_rounds ?_
  unfold laws_FnExactTakeOut.f
  obtain ⟨t, et, ct⟩ := sz_PackS l hl hG 1048576 (by omega) (by omega)
  rcases ct with ct | ⟨ct, dt⟩
  · exact ev_bind et (ev_pos ct (ev_now _))
  have hs : szl_PackS l ≤ 1048576 := by omega
  have hto := to_PackS l hs
  have hz := szp_map l
  generalize l.map cv_Pack = xs at hto hz
  have hlen := szp_len xs
  have hxs : ∀ x ∈ xs, x.f1.length ≤ 1000000000000 := fun x hx => by have := szp_mem xs x hx; omega
  have hg : szp (tko xs a1).1 ≤ 1048576 ∧ (tko xs a1).2.2.1.length ≤ 1048576 := by
    unfold tko
    split
    · exact ⟨by show szp xs ≤ _; omega, by simp⟩
    split
    · exact ⟨by show szp xs ≤ _; omega, by simp⟩
    · have hm0 : 0 ≤ Int.tmod a1 (xs.length : Int) := Int.tmod_nonneg _ (by omega)
      have hm1 : Int.tmod a1 (xs.length : Int) < (xs.length : Int) := Int.tmod_lt_of_pos _ (by omega)
      have h2 := szp_mem xs _ (rd_mem xs _ hm0 hm1)
      have h3 := szp_erase xs (Int.tmod a1 (xs.length : Int)).toNat
      exact ⟨by show szp (xs.eraseIdx _) ≤ _; omega, by show (rd_T74 xs _).f1.length ≤ _; omega⟩
  obtain ⟨hg, hg2⟩ := hg
  have hq : ∀ z : List S74, szp z ≤ 2 * 1048576 → eqcl_PackS z := fun z hz => ⟨by have := szp_len z; omega, fun y hy => by
    have := szp_mem z y hy
    show y.f1.length ≤ _
    omega⟩
  generalize htk : tko xs a1 = r at hg hg2
  obtain ⟨gl, gi, gr, gb⟩ := r
  have hsp := spec_TakeOut_ev xs a1 (by omega) hxs
  have him := impl_TakeOut_ev xs a1 (by omega) hxs
  rw [htk] at hsp him
  simp only at hg hg2
  refine ev_bind et (ev_neg (by omega) (ev_bind hto (ev_bind hsp (ev_bind him ?_))))
  refine ev_bind (eq_PackS gl (hq gl (by omega))) (ev_bind (eq_Pack ⟨gi, gr⟩ (by show gr.length ≤ _; omega)) (ev_bind (eq_PackS _ (hq _ (by omega))) (ev_bind (mark_PackS xs 1 (by omega) (by omega)) (ev_bind (mark_PackS gl 1 (by omega) (by omega)) (ev_bind (mark_Pack1 gi gr (1 + (szp gl : Int)) (by omega) (by omega)) (ev_bind (held_PackS gl 1 (by omega) (by omega)) (ev_bind (held_Pack1 gi gr (1 + (szp gl : Int)) (by omega) (by omega)) (ev_pos ⟨rfl, rfl, rfl, rfl, ?_, ?_, ?_, rfl⟩ (ev_now _)))))))))
  · show 0 ≤ 1 + (szp xs : Int); omega
  · omega
  · omega
end Go.Proofs.Ythmfmpmljndjhaa.Pure
