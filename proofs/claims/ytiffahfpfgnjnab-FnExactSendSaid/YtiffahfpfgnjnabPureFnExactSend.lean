/- The program's Send answers as the reference's, whatever the channel and the message; what came in stays as it is, and what it hands back is its own. -/
import Derived.Test.YtiffahfpfgnjnabVFnExactSend
import Derived.Test.YtiffahfpfgnjnabVBase
import Derived.Test.YtiffahfpfgnjnabVExt
import Derived.Test.YtiffahfpfgnjnabVMark
namespace Go.Proofs.Ytiffahfpfgnjnab.Pure
open Go.RowKit Go.Proofs.Ytiffahfpfgnjnab.PFnExactSend Go.Proofs.Ytiffahfpfgnjnab.VFnExactSend Go.Proofs.YtiffahfpfgnjnabW.PrintWords Go.Proofs.YtiffahfpfgnjnabW.PrintLast Go.Proofs.YtiffahfpfgnjnabV
set_option linter.unusedVariables false
set_option linter.unusedSimpArgs false
set_option maxRecDepth 20000

/-! ### laws_szByteS -/
def szl_ByteS (l : List Int) : Nat := l.length
theorem sz_ByteS (l : List Int) (hl : l.length ≤ 9223372036854775807) (left : Int) (h0 : 0 ≤ left) (h1 : left ≤ 1048576) :
    ∃ t, Ev (fun k => laws_szByteS.f l left) t ∧ (t < 0 ∨ 0 ≤ t ∧ t + (szl_ByteS l : Int) = left) := by
  unfold laws_szByteS.f szl_ByteS
  have e : wrap64 (left - (l.length : Int)) = left - (l.length : Int) := w64 (by omega) (by omega)
  simp only [e]
  by_cases hc : left - (l.length : Int) < 0
  · exact ⟨-1, ev_pos hc (ev_now _), .inl (by omega)⟩
  · exact ⟨_, ev_neg hc (ev_now _), .inr ⟨by omega, by omega⟩⟩

/-! ### laws_szPack -/
def szv_Pack (x : S107) : Nat := szl_ByteS x.f1
theorem sz_Pack (x : S107) (hG : G107 x) (left : Int) (h0 : 0 ≤ left) (h1 : left ≤ 1048576) :
    ∃ t, Ev (fun k => laws_szPack.f x.f0 x.f1 left) t ∧ (t < 0 ∨ 0 ≤ t ∧ t + (szv_Pack x : Int) = left) := by
  obtain ⟨g0, g1⟩ := hG
  unfold laws_szPack.f szv_Pack
  obtain ⟨t1, et1, ct1⟩ := sz_ByteS x.f1 g1.1 (left) (by omega) (by omega)
  rcases ct1 with ct1 | ⟨ct1, dt1⟩
  · exact ⟨-1, ev_bind et1 (ev_pos ct1 (ev_now _)), .inl (by omega)⟩
  exact ⟨_, ev_bind et1 (ev_neg (by omega) (ev_now _)), .inr ⟨by omega, by omega⟩⟩

/-! ### laws_szPackS -/
def szl_PackS (l : List S107) : Nat := l.length + (l.map szv_Pack).sum
theorem sz_PackS_l0 (l : List S107) (hG : ∀ x ∈ l, G107 x) (hl : l.length ≤ 9223372036854775807) (d : Nat) : ∀ (i : Nat) (left : Int), i + d = l.length → 0 ≤ left → left ≤ 1048576 →
    ∃ t, Ev (fun k => laws_szPackS.l0 k l left (i : Int)) t ∧ (t < 0 ∨ 0 ≤ t ∧ t + (((l.drop i).map szv_Pack).sum : Nat) = left) := by
  induction d with
  | zero =>
    intro i left hi h0 h1
    refine ⟨left, ev_step (fun k => laws_szPackS.l0.eq_2 ..) (ev_neg (by omega) (ev_now _)), .inr ⟨h0, ?_⟩⟩
    rw [List.drop_of_length_le (by omega)]
    simp
  | succ d ih =>
    intro i left hi h0 h1
    have hlt : i < l.length := by omega
    have hg := hG l[i] (List.getElem_mem hlt)
    have hd : l.drop i = l[i] :: l.drop (i + 1) := List.drop_eq_getElem_cons hlt
    have hr : rd_T107 l (i : Int) = l[i] := getD_nth _ l i hlt
    obtain ⟨t1, et1, ct1⟩ := sz_Pack l[i] hg left h0 h1
    rcases ct1 with ct1 | ⟨ct1, dt1⟩
    · refine ⟨-1, ev_step (fun k => laws_szPackS.l0.eq_2 ..) (ev_pos (by omega) (ev_pos (by omega) ?_)), .inl (by omega)⟩
      simp only [hr]
      exact ev_bind et1 (ev_pos ct1 (ev_now _))
    · obtain ⟨t, et, ct⟩ := ih (i + 1) t1 (by omega) ct1 (by omega)
      refine ⟨t, ev_step (fun k => laws_szPackS.l0.eq_2 ..) (ev_pos (by omega) (ev_pos (by omega) ?_)), ?_⟩
      · simp only [hr]
        rw [w64 (by omega) (by omega)]
        exact ev_bind et1 (ev_neg (by omega) et)
      · rw [hd, List.map_cons, List.sum_cons]
        omega
theorem sz_PackS (l : List S107) (hl : l.length ≤ 9223372036854775807) (hG : ∀ x ∈ l, G107 x) (left : Int) (h0 : 0 ≤ left) (h1 : left ≤ 1048576) :
    ∃ t, Ev (fun k => laws_szPackS.f k l left) t ∧ (t < 0 ∨ 0 ≤ t ∧ t + (szl_PackS l : Int) = left) := by
  unfold laws_szPackS.f szl_PackS
  have e : wrap64 (left - (l.length : Int)) = left - (l.length : Int) := w64 (by omega) (by omega)
  simp only [e]
  by_cases hc : left - (l.length : Int) < 0
  · exact ⟨-1, ev_pos hc (ev_now _), .inl (by omega)⟩
  · obtain ⟨t, et, ct⟩ := sz_PackS_l0 l hG hl l.length 0 (left - (l.length : Int)) (by omega) (by omega) (by omega)
    refine ⟨t, ev_neg hc et, ?_⟩
    rw [List.drop_zero] at ct
    omega

/-! ### laws_szAsker -/
def szv_Asker (x : S137) : Nat := x.f1.size + x.f5.size
theorem sz_Asker (x : S137) (hG : G137 x) (left : Int) (h0 : 0 ≤ left) (h1 : left ≤ 1048576) :
    ∃ t, Ev (fun k => laws_szAsker.f x.f0 x.f1 x.f2 x.f3 x.f4 x.f5 x.f6 x.f7 left) t ∧ (t < 0 ∨ 0 ≤ t ∧ t + (szv_Asker x : Int) = left) := by
  obtain ⟨g0, g1, g2, g3, g4, g5, g6, g7⟩ := hG
  unfold laws_szAsker.f szv_Asker
  have e1 : wrap64 (left - (x.f1.size : Int)) = left - (x.f1.size : Int) := w64 (by omega) (by omega)
  simp only [e1]
  by_cases c1 : left - (x.f1.size : Int) < 0
  · exact ⟨-1, ev_pos c1 (ev_now _), .inl (by omega)⟩
  have e5 : wrap64 ((left - (x.f1.size : Int)) - (x.f5.size : Int)) = (left - (x.f1.size : Int)) - (x.f5.size : Int) := w64 (by omega) (by omega)
  simp only [e5]
  by_cases c5 : (left - (x.f1.size : Int)) - (x.f5.size : Int) < 0
  · exact ⟨-1, ev_neg c1 (ev_pos c5 (ev_now _)), .inl (by omega)⟩
  exact ⟨_, ev_neg c1 (ev_neg c5 (ev_now _)), .inr ⟨by omega, by omega⟩⟩

/-! ### laws_szLine -/
def szv_Line (x : S139) : Nat := x.f1.size
theorem sz_Line (x : S139) (hG : G139 x) (left : Int) (h0 : 0 ≤ left) (h1 : left ≤ 1048576) :
    ∃ t, Ev (fun k => laws_szLine.f x.f0 x.f1 x.f2 x.f3 x.f4 x.f5 x.f6 left) t ∧ (t < 0 ∨ 0 ≤ t ∧ t + (szv_Line x : Int) = left) := by
  obtain ⟨g0, g1, g2, g3, g4, g5, g6⟩ := hG
  unfold laws_szLine.f szv_Line
  have e1 : wrap64 (left - (x.f1.size : Int)) = left - (x.f1.size : Int) := w64 (by omega) (by omega)
  simp only [e1]
  by_cases c1 : left - (x.f1.size : Int) < 0
  · exact ⟨-1, ev_pos c1 (ev_now _), .inl (by omega)⟩
  exact ⟨_, ev_neg c1 (ev_now _), .inr ⟨by omega, by omega⟩⟩

/-! ### laws_szItem -/
def szv_Item (x : S152) : Nat := szv_Asker x.f1 + szv_Line x.f2
theorem sz_Item (x : S152) (hG : G152 x) (left : Int) (h0 : 0 ≤ left) (h1 : left ≤ 1048576) :
    ∃ t, Ev (fun k => laws_szItem.f x.f0 x.f1.f0 x.f1.f1 x.f1.f2 x.f1.f3 x.f1.f4 x.f1.f5 x.f1.f6 x.f1.f7 x.f2.f0 x.f2.f1 x.f2.f2 x.f2.f3 x.f2.f4 x.f2.f5 x.f2.f6 left) t ∧ (t < 0 ∨ 0 ≤ t ∧ t + (szv_Item x : Int) = left) := by
  obtain ⟨g0, g1, g2⟩ := hG
  unfold laws_szItem.f szv_Item
  obtain ⟨t1, et1, ct1⟩ := sz_Asker x.f1 g1 (left) (by omega) (by omega)
  rcases ct1 with ct1 | ⟨ct1, dt1⟩
  · exact ⟨-1, ev_bind et1 (ev_pos ct1 (ev_now _)), .inl (by omega)⟩
  obtain ⟨t2, et2, ct2⟩ := sz_Line x.f2 g2 (t1) (by omega) (by omega)
  rcases ct2 with ct2 | ⟨ct2, dt2⟩
  · exact ⟨-1, ev_bind et1 (ev_neg (by omega) (ev_bind et2 (ev_pos ct2 (ev_now _)))), .inl (by omega)⟩
  exact ⟨_, ev_bind et1 (ev_neg (by omega) (ev_bind et2 (ev_neg (by omega) (ev_now _)))), .inr ⟨by omega, by omega⟩⟩

/-! ### laws_szItemS -/
def szl_ItemS (l : List S152) : Nat := l.length + (l.map szv_Item).sum
theorem sz_ItemS_l0 (l : List S152) (hG : ∀ x ∈ l, G152 x) (hl : l.length ≤ 9223372036854775807) (d : Nat) : ∀ (i : Nat) (left : Int), i + d = l.length → 0 ≤ left → left ≤ 1048576 →
    ∃ t, Ev (fun k => laws_szItemS.l0 k l left (i : Int)) t ∧ (t < 0 ∨ 0 ≤ t ∧ t + (((l.drop i).map szv_Item).sum : Nat) = left) := by
  induction d with
  | zero =>
    intro i left hi h0 h1
    refine ⟨left, ev_step (fun k => laws_szItemS.l0.eq_2 ..) (ev_neg (by omega) (ev_now _)), .inr ⟨h0, ?_⟩⟩
    rw [List.drop_of_length_le (by omega)]
    simp
  | succ d ih =>
    intro i left hi h0 h1
    have hlt : i < l.length := by omega
    have hg := hG l[i] (List.getElem_mem hlt)
    have hd : l.drop i = l[i] :: l.drop (i + 1) := List.drop_eq_getElem_cons hlt
    have hr : rd_T152 l (i : Int) = l[i] := getD_nth _ l i hlt
    obtain ⟨t1, et1, ct1⟩ := sz_Item l[i] hg left h0 h1
    rcases ct1 with ct1 | ⟨ct1, dt1⟩
    · refine ⟨-1, ev_step (fun k => laws_szItemS.l0.eq_2 ..) (ev_pos (by omega) (ev_pos (by omega) ?_)), .inl (by omega)⟩
      simp only [hr]
      exact ev_bind et1 (ev_pos ct1 (ev_now _))
    · obtain ⟨t, et, ct⟩ := ih (i + 1) t1 (by omega) ct1 (by omega)
      refine ⟨t, ev_step (fun k => laws_szItemS.l0.eq_2 ..) (ev_pos (by omega) (ev_pos (by omega) ?_)), ?_⟩
      · simp only [hr]
        rw [w64 (by omega) (by omega)]
        exact ev_bind et1 (ev_neg (by omega) et)
      · rw [hd, List.map_cons, List.sum_cons]
        omega
theorem sz_ItemS (l : List S152) (hl : l.length ≤ 9223372036854775807) (hG : ∀ x ∈ l, G152 x) (left : Int) (h0 : 0 ≤ left) (h1 : left ≤ 1048576) :
    ∃ t, Ev (fun k => laws_szItemS.f k l left) t ∧ (t < 0 ∨ 0 ≤ t ∧ t + (szl_ItemS l : Int) = left) := by
  unfold laws_szItemS.f szl_ItemS
  have e : wrap64 (left - (l.length : Int)) = left - (l.length : Int) := w64 (by omega) (by omega)
  simp only [e]
  by_cases hc : left - (l.length : Int) < 0
  · exact ⟨-1, ev_pos hc (ev_now _), .inl (by omega)⟩
  · obtain ⟨t, et, ct⟩ := sz_ItemS_l0 l hG hl l.length 0 (left - (l.length : Int)) (by omega) (by omega) (by omega)
    refine ⟨t, ev_neg hc et, ?_⟩
    rw [List.drop_zero] at ct
    omega

/-! ### laws_szCtl -/
def szv_Ctl (x : S55) : Nat := szl_ItemS x.f7
theorem sz_Ctl (x : S55) (hG : G55 x) (left : Int) (h0 : 0 ≤ left) (h1 : left ≤ 1048576) :
    ∃ t, Ev (fun k => laws_szCtl.f k x.f0 x.f1 x.f2 x.f3 x.f4 x.f5 x.f6 x.f7 left) t ∧ (t < 0 ∨ 0 ≤ t ∧ t + (szv_Ctl x : Int) = left) := by
  obtain ⟨g0, g1, g2, g3, g4, g5, g6, g7⟩ := hG
  unfold laws_szCtl.f szv_Ctl
  obtain ⟨t7, et7, ct7⟩ := sz_ItemS x.f7 g7.1 g7.2 (left) (by omega) (by omega)
  rcases ct7 with ct7 | ⟨ct7, dt7⟩
  · exact ⟨-1, ev_bind et7 (ev_pos ct7 (ev_now _)), .inl (by omega)⟩
  exact ⟨_, ev_bind et7 (ev_neg (by omega) (ev_now _)), .inr ⟨by omega, by omega⟩⟩

/-! ### spec_l12Pack -/
theorem spec_l12Pack_eq (a : Int) (l : List Int) (h : l.length ≤ 1000000000000) : spec_l12Pack.f a l = some (a, l) := by
  unfold spec_l12Pack.f
  simp only [Option.bind_some, List.nil_append, List.length_nil]
  rw [if_pos (by omega)]

/-! ### spec_l12Copy -/
theorem spec_l12Copy_l0 (l : List S113) (hl : l.length ≤ 1000000000000) (hx : ∀ x ∈ l, x.f1.length ≤ 1000000000000) (d : Nat) : ∀ i : Nat, i + d = l.length → Ev (fun k => spec_l12Copy.l0 k l (l.take i) (i : Int)) l := by
  induction d with
  | zero =>
    intro i hi
    refine ev_step (fun k => spec_l12Copy.l0.eq_2 ..) (ev_neg (by omega) ?_)
    rw [List.take_of_length_le (by omega)]
    exact ev_now _
  | succ d ih =>
    intro i hi
    have hlt : i < l.length := by omega
    have hr : rd_T113 l (i : Int) = l[i] := getD_nth _ l i hlt
    have hn := ih (i + 1) (by omega)
    rw [List.take_add_one, List.getElem?_eq_getElem hlt] at hn
    refine ev_step (fun k => spec_l12Copy.l0.eq_2 ..) (ev_pos (by omega) (ev_pos (by omega) ?_))
    simp only [hr]
    rw [w64 (by omega) (by omega)]
    refine ev_bind1 (spec_l12Pack_eq _ _ (hx _ (List.getElem_mem hlt))) (ev_pos (by rw [List.length_take]; omega) ?_)
    exact hn
theorem spec_l12Copy_ev (l : List S113) (hl : l.length ≤ 1000000000000) (hx : ∀ x ∈ l, x.f1.length ≤ 1000000000000) : Ev (fun k => spec_l12Copy.f k l) l := by
  have h := spec_l12Copy_l0 l hl hx l.length 0 (by omega)
  exact h

/-! ### spec_l1In -/
theorem spec_l1In_eq (a b c : Int) : spec_l1In.f a b c = some (inB a b c) := by
  unfold spec_l1In.f inB
  by_cases h : b ≤ a <;> simp [h]

/-! ### spec_WayOk -/
/-- A message as it has to be. -/
def packB (x : S113) : Bool := inB x.f0 0 1 && !(decide ((x.f1.length : Int) > 400))
def wayB (l : List S113) : Bool := l.all packB && decide ((l.length : Int) ≤ 12)
theorem spec_WayOk_l0 (l : List S113) (hl : l.length ≤ 4611686018427387904) (d : Nat) : ∀ i : Nat, i + d = l.length → Ev (fun k => spec_WayOk.l0 k l (i : Int)) ((l.drop i).all packB && decide ((l.length : Int) ≤ 12)) := by
  induction d with
  | zero =>
    intro i hi
    refine ev_step (fun k => spec_WayOk.l0.eq_2 ..) (ev_neg (by omega) ?_)
    rw [List.drop_of_length_le (by omega)]
    exact ev_as (ev_now _) (by simp)
  | succ d ih =>
    intro i hi
    have hlt : i < l.length := by omega
    have hr : rd_T113 l (i : Int) = l[i] := getD_nth _ l i hlt
    have hd : l.drop i = l[i] :: l.drop (i + 1) := List.drop_eq_getElem_cons hlt
    have hn := ih (i + 1) (by omega)
    refine ev_step (fun k => spec_WayOk.l0.eq_2 ..) (ev_pos (by omega) (ev_pos (by omega) ?_))
    simp only [hr]
    rw [w64 (by omega) (by omega), hd, List.all_cons]
    refine ev_bind1 (spec_l1In_eq _ _ _) ?_
    refine ev_ite (fun c => ev_ite (fun c2 => ?_) (fun c2 => ?_)) (fun c => ?_)
    · exact ev_as (ev_now _) (by simp [packB, c, c2])
    · refine ev_as hn ?_
      have : packB l[i] = true := by simp only [packB, c, Bool.true_and]; simpa using c2
      simp [this]
    · exact ev_as (ev_now _) (by simp [packB, c])
theorem spec_WayOk_ev (l : List S113) (hl : l.length ≤ 4611686018427387904) : Ev (fun k => spec_WayOk.f k l) (wayB l) := ev_as (spec_WayOk_l0 l hl l.length 0 (by omega)) (by simp [wayB])

/-! ### spec_PutWord -/
theorem and255 (x : Int) : Go.bits .and .i64 x 255 = x % 256 := by
  have h : (BitVec.ofInt 64 x &&& BitVec.ofInt 64 255).toNat = (x % 256).toNat := by
    rw [BitVec.toNat_and, BitVec.toNat_ofInt, BitVec.toNat_ofInt]
    have e : ((255 : Int) % ((2 ^ 64 : Nat) : Int)).toNat = 2 ^ 8 - 1 := by decide
    rw [e, Nat.and_two_pow_sub_one_eq_mod]
    omega
  show IntKind.i64.wrap (((BitVec.ofInt 64 x &&& BitVec.ofInt 64 255).toNat : Nat) : Int) = x % 256
  rw [h]
  have h0 : 0 ≤ x % 256 := Int.emod_nonneg _ (by decide)
  have h1 : x % 256 < 256 := Int.emod_lt_of_pos _ (by decide)
  rw [Int.toNat_of_nonneg h0]
  have hw : ∀ n : Int, 0 ≤ n → n < 256 → IntKind.i64.wrap n = n := by
    intro n a b
    simp [IntKind.wrap, IntKind.bits, IntKind.signed]
    (try split) <;> omega
  exact hw _ h0 h1
/-- Bytes with a number of two bytes behind them. -/
def putWordV (l : List Int) (n : Int) : List Int := l ++ [(n / 256) % 256, n % 256]
theorem putWordV_len (l : List Int) (n : Int) : (putWordV l n).length = l.length + 2 := by simp [putWordV]
/-- Bytes with a time behind them. -/
def sinceV (l : List Int) (n : Int) : List Int := putWordV l (wrap64 (Int.tdiv n 256)) ++ [(Int.tmod n 256) % 256]
theorem sinceV_len (l : List Int) (n : Int) : (sinceV l n).length = l.length + 3 := by simp [sinceV, putWordV]
theorem spec_PutWord_eq (l : List Int) (n : Int) (hl : l.length ≤ 1000000000000) : spec_PutWord.f l n = some (putWordV l n) := by
  unfold spec_PutWord.f putWordV
  simp only [Option.bind_some, List.nil_append, List.length_nil, List.length_cons, and255]
  rw [if_pos (by omega), if_pos (by omega)]
  have e1 : n / 256 % 256 % 256 = n / 256 % 256 := by omega
  have e2 : n % 256 % 256 = n % 256 := by omega
  rw [e1, e2]

/-! ### spec_l1Name -/
theorem spec_l1Name_l0 (s : ByteArray) (hs : s.size ≤ 4611686018427387904) (d : Nat) : ∀ i : Int, 0 ≤ i → i + d = s.size → Ev (fun k => spec_l1Name.l0 k s i) (allF (byteIn s 97 122) i d && inB s.size 1 8) := by
  induction d with
  | zero =>
    intro i h0 h1
    refine ev_step (fun k => spec_l1Name.l0.eq_2 ..) ?_
    refine ev_neg (by omega) ?_
    rw [spec_l1In_eq]
    exact ev_now _
  | succ d ih =>
    intro i h0 h1
    refine ev_step (fun k => spec_l1Name.l0.eq_2 ..) ?_
    refine ev_pos (by omega) (ev_pos (by omega) ?_)
    refine ev_ite (fun c1 => ?_) (fun c1 => ev_ite (fun c2 => ?_) (fun c2 => ?_))
    · refine ev_as (ev_now _) ?_
      have : byteIn s 97 122 i = false := by rw [byteIn_false]; omega
      simp [allF, this]
    · refine ev_as (ev_now _) ?_
      have : byteIn s 97 122 i = false := by rw [byteIn_false]; omega
      simp [allF, this]
    · have : byteIn s 97 122 i = true := by rw [byteIn_iff]; omega
      rw [w64 (by omega) (by omega), allF, this, Bool.true_and]
      exact ih (i + 1) (by omega) (by omega)
theorem spec_l1Name_ev (s : ByteArray) (hs : s.size ≤ 4611686018427387904) : Ev (fun k => spec_l1Name.f k s) (nameB s) := spec_l1Name_l0 s hs s.size 0 (by omega) (by omega)

/-! ### spec_l9Time -/
theorem spec_l9Time_eq (a : Int) : spec_l9Time.f a = some (inB a 0 100000) := by
  unfold spec_l9Time.f
  rw [spec_l1In_eq]
  rfl

/-! ### spec_TextOk -/
theorem spec_TextOk_l0 (s : ByteArray) (hs : s.size ≤ 4611686018427387904) (d : Nat) : ∀ i : Int, 0 ≤ i → i + d = s.size → i ≤ 101 → Ev (fun k => spec_TextOk.l0 k s i) (allF (byteIn s 32 126) i d && decide ((s.size : Int) ≤ 100)) := by
  induction d with
  | zero =>
    intro i h0 h1 h2
    refine ev_step (fun k => spec_TextOk.l0.eq_2 ..) ?_
    refine ev_neg (by omega) ?_
    refine ev_step (fun k => spec_TextOk.j1.eq_2 ..) ?_
    refine ev_neg (by decide) ?_
    exact ev_now _
  | succ d ih =>
    intro i h0 h1 h2
    refine ev_step (fun k => spec_TextOk.l0.eq_2 ..) ?_
    refine ev_pos (by omega) ?_
    refine ev_step (fun k => spec_TextOk.j1.eq_2 ..) ?_
    refine ev_ite (fun c0 => ?_) (fun c0 => ?_)
    · have c0' := of_decide_eq_true c0
      refine ev_pos (by omega) (ev_pos (by omega) ?_)
      refine ev_ite (fun c1 => ?_) (fun c1 => ev_ite (fun c2 => ?_) (fun c2 => ?_))
      · refine ev_as (ev_now _) ?_
        have : byteIn s 32 126 i = false := by rw [byteIn_false]; omega
        simp [allF, this]
      · refine ev_as (ev_now _) ?_
        have : byteIn s 32 126 i = false := by rw [byteIn_false]; omega
        simp [allF, this]
      · have : byteIn s 32 126 i = true := by rw [byteIn_iff]; omega
        rw [w64 (by omega) (by omega), allF, this, Bool.true_and]
        exact ih (i + 1) (by omega) (by omega) (by omega)
    · have c0' : ¬ i ≤ 100 := fun h => c0 (decide_eq_true h)
      refine ev_as (ev_now _) ?_
      have : decide ((s.size : Int) ≤ 100) = false := decide_eq_false (by omega)
      rw [this, Bool.and_false]
theorem spec_TextOk_ev (s : ByteArray) (hs : s.size ≤ 4611686018427387904) : Ev (fun k => spec_TextOk.f k s) (textB s) := spec_TextOk_l0 s hs s.size 0 (by omega) (by omega) (by omega)

/-! ### spec_AskerOk -/
/-- A client as it has to be. -/
def askerB (so : Int) (db : ByteArray) (st ti si : Int) (q : ByteArray) (li le : Int) : Bool :=
  inB so 1 9999 &&
    (if st = 0 then db.toList == ([] : List UInt8) && (ti == 0 && (si == 0 && (q.toList == ([] : List UInt8) && (li == 0 && le == 0))))
    else nameB db &&
      (if st = 1 then ti == 0 && (si == 0 && (q.toList == ([] : List UInt8) && (li == 0 && le == 0)))
      else if st = 2 then (li == 0 && le == 0) && (inB ti 0 65535 && (inB si 0 100000 && textB q))
      else if st = 3 ∨ st = 4 then (ti == 0 && (si == 0 && q.toList == ([] : List UInt8))) && (inB li 1 9999 && decide (le ≥ 1))
      else false))
theorem spec_AskerOk_j2 (b : Bool) (x0 : Int) (x1 : ByteArray) (x2 x3 x4 : Int) (x5 : ByteArray) (x6 x7 : Int) (h1 : x1.size ≤ 4611686018427387904) :
    Ev (fun k => spec_AskerOk.j2 k b x0 x1 x2 x3 x4 x5 x6 x7) (b && (nameB x1 && (inB x6 1 9999 && decide (x7 ≥ 1)))) := by
  refine ev_step (fun k => spec_AskerOk.j2.eq_2 ..) ?_
  refine ev_ite (fun c => ?_) (fun c => ?_)
  · refine ev_bind (spec_l1Name_ev _ h1) ?_
    refine ev_ite (fun c2 => ?_) (fun c2 => ?_)
    · refine ev_bind1 (spec_l1In_eq _ _ _) ?_
      refine ev_ite (fun c3 => ?_) (fun c3 => ?_)
      all_goals exact ev_as (ev_now _) (by simp_all)
    · exact ev_as (ev_now _) (by simp_all)
  · exact ev_as (ev_now _) (by simp_all)
theorem spec_AskerOk_j1 (b : Bool) (x0 : Int) (x1 : ByteArray) (x2 x3 x4 : Int) (x5 : ByteArray) (x6 x7 : Int) (h1 : x1.size ≤ 4611686018427387904) (h5 : x5.size ≤ 4611686018427387904) :
    Ev (fun k => spec_AskerOk.j1 k b x0 x1 x2 x3 x4 x5 x6 x7)
      (!b && (if x2 = 0 then x1.toList == ([] : List UInt8) else nameB x1 && (if x2 = 1 then true else if x2 = 2 then inB x3 0 65535 && (inB x4 0 100000 && textB x5) else if x2 = 3 ∨ x2 = 4 then inB x6 1 9999 && decide (x7 ≥ 1) else false))) := by
  refine ev_step (fun k => spec_AskerOk.j1.eq_2 ..) ?_
  refine ev_ite (fun c => ?_) (fun c => ?_)
  · exact ev_as (ev_now _) (by simp [c])
  have hb : b = false := by simpa using c
  subst hb
  refine ev_ite (fun c0 => ?_) (fun c0 => ev_ite (fun c1 => ?_) (fun c1 => ev_ite (fun c2 => ?_) (fun c2 => ev_ite (fun c3 => ?_) (fun c3 => ?_))))
  · exact ev_as (ev_now _) (by simp [c0])
  · exact ev_bind (spec_l1Name_ev _ h1) (ev_as (ev_now _) (by simp [c1]))
  · refine ev_bind (spec_l1Name_ev _ h1) ?_
    refine ev_ite (fun c3 => ?_) (fun c3 => ?_)
    · refine ev_bind1 (spec_l1In_eq _ _ _) ?_
      refine ev_ite (fun c4 => ?_) (fun c4 => ?_)
      · refine ev_bind1 (spec_l9Time_eq _) ?_
        refine ev_ite (fun c5 => ?_) (fun c5 => ?_)
        · exact ev_bind (spec_TextOk_ev _ h5) (ev_as (ev_now _) (by simp [c2, c3, c4, c5]))
        · exact ev_as (ev_now _) (by simp [c2, c5])
      · exact ev_as (ev_now _) (by simp [c2, c4])
    · exact ev_as (ev_now _) (by simp [c2, c3])
  · exact ev_as (spec_AskerOk_j2 _ _ _ _ _ _ _ _ _ h1) (by simp [c3])
  · refine ev_as (spec_AskerOk_j2 _ _ _ _ _ _ _ _ _ h1) ?_
    by_cases c4 : x2 = 4
    · simp [c4]
    · simp [c0, c1, c2, c3, c4]
theorem spec_AskerOk_j0 (b : Bool) (x0 : Int) (x1 : ByteArray) (x2 x3 x4 : Int) (x5 : ByteArray) (x6 x7 : Int) (h1 : x1.size ≤ 4611686018427387904) (h5 : x5.size ≤ 4611686018427387904) :
    Ev (fun k => spec_AskerOk.j0 k b x0 x1 x2 x3 x4 x5 x6 x7)
      (!b && (!(decide (x2 < 3) && !(x6 == 0 && x7 == 0)) && (if x2 = 0 then x1.toList == ([] : List UInt8) else nameB x1 && (if x2 = 1 then true else if x2 = 2 then inB x3 0 65535 && (inB x4 0 100000 && textB x5) else if x2 = 3 ∨ x2 = 4 then inB x6 1 9999 && decide (x7 ≥ 1) else false)))) := by
  refine ev_step (fun k => spec_AskerOk.j0.eq_2 ..) ?_
  refine ev_ite (fun c => ?_) (fun c => ?_)
  · exact ev_as (ev_now _) (by simp [c])
  have hb : b = false := by simpa using c
  subst hb
  refine ev_ite (fun c0 => ev_ite (fun c1 => ?_) (fun c1 => ?_)) (fun c0 => ?_)
  · refine ev_as (spec_AskerOk_j1 _ _ _ _ _ _ _ _ _ h1 h5) ?_
    subst c1
    by_cases c2 : x7 = 0
    · simp [c2]
    · simp [c0, c2, bne]
  · refine ev_as (spec_AskerOk_j1 _ _ _ _ _ _ _ _ _ h1 h5) ?_
    simp [c0, c1]
  · refine ev_as (spec_AskerOk_j1 _ _ _ _ _ _ _ _ _ h1 h5) ?_
    simp [c0]
theorem spec_AskerOk_core (x0 : Int) (x1 : ByteArray) (x2 x3 x4 : Int) (x5 : ByteArray) (x6 x7 : Int) (h1 : x1.size ≤ 4611686018427387904) (h5 : x5.size ≤ 4611686018427387904) : Ev (fun k => spec_AskerOk.f k x0 x1 x2 x3 x4 x5 x6 x7) (askerB x0 x1 x2 x3 x4 x5 x6 x7) := by
  unfold spec_AskerOk.f askerB
  refine ev_bind1 (spec_l1In_eq _ _ _) ?_
  have key : ∀ b : Bool, (b = !(decide (x2 = 2) || (x3 == 0 && (x4 == 0 && x5.toList == ([] : List UInt8))))) → inB x0 1 9999 = true →
      Ev (fun k => spec_AskerOk.j0 k b x0 x1 x2 x3 x4 x5 x6 x7) (inB x0 1 9999 &&
    (if x2 = 0 then x1.toList == ([] : List UInt8) && (x3 == 0 && (x4 == 0 && (x5.toList == ([] : List UInt8) && (x6 == 0 && x7 == 0))))
    else nameB x1 &&
      (if x2 = 1 then x3 == 0 && (x4 == 0 && (x5.toList == ([] : List UInt8) && (x6 == 0 && x7 == 0)))
      else if x2 = 2 then (x6 == 0 && x7 == 0) && (inB x3 0 65535 && (inB x4 0 100000 && textB x5))
      else if x2 = 3 ∨ x2 = 4 then (x3 == 0 && (x4 == 0 && x5.toList == ([] : List UInt8))) && (inB x6 1 9999 && decide (x7 ≥ 1))
      else false))) := by
    intro b hb h0
    refine ev_as (spec_AskerOk_j0 _ _ _ _ _ _ _ _ _ h1 h5) ?_
    rw [hb, h0]
    generalize (x5.toList == ([] : List UInt8)) = e5
    generalize (x1.toList == ([] : List UInt8)) = e1
    generalize nameB x1 = n1
    generalize textB x5 = t5
    generalize inB x3 0 65535 = i3
    generalize inB x4 0 100000 = i4
    generalize inB x6 1 9999 = i6
    by_cases s0 : x2 = 0
    · subst s0
      cases (x3 == 0) <;> cases (x4 == 0) <;> cases e5 <;> cases (x6 == 0) <;> cases (x7 == 0) <;> cases e1 <;> rfl
    · by_cases s1 : x2 = 1
      · subst s1
        cases (x3 == 0) <;> cases (x4 == 0) <;> cases e5 <;> cases (x6 == 0) <;> cases (x7 == 0) <;> cases n1 <;> rfl
      · by_cases s2 : x2 = 2
        · subst s2
          cases (x6 == 0) <;> cases (x7 == 0) <;> cases n1 <;> cases i3 <;> cases i4 <;> cases t5 <;> rfl
        · by_cases s3 : x2 = 3 ∨ x2 = 4
          · have hn : ¬ x2 < 3 := by omega
            simp only [s0, s1, s2, s3, hn, decide_false, if_true, if_false]
            cases (x3 == 0) <;> cases (x4 == 0) <;> cases e5 <;> cases n1 <;> simp
          · simp only [s0, s1, s2, s3, if_false, Bool.and_false]
  refine ev_ite (fun c => ?_) (fun c => ?_)
  · refine ev_ite (fun c2 => ?_) (fun c2 => ev_ite (fun c3 => ev_ite (fun c4 => ?_) (fun c4 => ?_)) (fun c3 => ?_))
    · exact key _ (by simp [c2]) c
    · exact key _ (by simp only [c2, c3, c4, bne]; simp) c
    · exact key _ (by simp [c2, c3, c4]) c
    · exact key _ (by simp [c2, c3]) c
  · exact ev_as (ev_now _) (by simp [c])
theorem spec_AskerOk_ev (x : S90) (h1 : x.f1.size ≤ 4611686018427387904) (h5 : x.f5.size ≤ 4611686018427387904) : Ev (fun k => spec_AskerOk.f k x.f0 x.f1 x.f2 x.f3 x.f4 x.f5 x.f6 x.f7) (askerB x.f0 x.f1 x.f2 x.f3 x.f4 x.f5 x.f6 x.f7) := spec_AskerOk_core _ _ _ _ _ _ _ _ h1 h5

/-! ### spec_PutText -/
/-- Bytes with a text behind them, if it is one that may stand there. -/
def putTextV (l : List Int) (s : ByteArray) : List Int := if textB s = true then (l ++ [(s.size : Int) % 256]) ++ bytesOf s else l
theorem textB_size (s : ByteArray) (h : textB s = true) : s.size ≤ 100 := by
  unfold textB at h
  rw [Bool.and_eq_true] at h
  have := of_decide_eq_true h.2
  omega
theorem putTextV_len (l : List Int) (s : ByteArray) : (putTextV l s).length ≤ l.length + 101 := by
  unfold putTextV
  split
  · rename_i h
    have := textB_size s h
    rw [List.length_append, List.length_append, bytesOf_length]
    simp only [List.length_cons, List.length_nil]
    omega
  · omega
theorem putTextV_ge (l : List Int) (s : ByteArray) : l.length ≤ (putTextV l s).length := by
  unfold putTextV
  split
  · rw [List.length_append, List.length_append]
    omega
  · omega
theorem spec_PutText_ev (l : List Int) (s : ByteArray) (hl : l.length ≤ 1000000000000) (hs : s.size ≤ 1000000000000) : Ev (fun k => spec_PutText.f k l s) (putTextV l s) := by
  unfold spec_PutText.f putTextV
  simp only [Option.bind_some, List.nil_append, List.length_nil]
  refine ev_pos (by omega) (ev_bind (spec_TextOk_ev s (by omega)) (ev_ite (fun c => ?_) (fun c => ?_)))
  · exact ev_pos (by omega) (ev_pos (by rw [List.length_append]; simp only [List.length_cons, List.length_nil]; omega) (ev_as (ev_now _) (by rw [if_pos c])))
  · exact ev_as (ev_now _) (by rw [if_neg c])

/-! ### spec_LineOk -/
def lineB (so : Int) (db : ByteArray) (ge st si asn le : Int) : Bool :=
  inB so 1 9999 && (nameB db && (inB ge 1 60000 &&
    (if st = 0 then inB si 0 100000 && (asn == 0 && le == 0)
    else if st = 1 ∨ st = 2 then si == 0 && (inB asn 1 9999 && decide (le ≥ 1))
    else false)))
theorem spec_LineOk_j0 (b : Bool) (x0 : Int) (x1 : ByteArray) (x2 x3 x4 x5 x6 : Int) : Ev (fun k => spec_LineOk.j0 k b x0 x1 x2 x3 x4 x5 x6)
    (!b && (if x3 = 0 then inB x4 0 100000 && (x5 == 0 && x6 == 0) else if x3 = 1 ∨ x3 = 2 then x4 == 0 && (inB x5 1 9999 && decide (x6 ≥ 1)) else false)) := by
  refine ev_step (fun k => spec_LineOk.j0.eq_2 ..) ?_
  refine ev_ite (fun c => ?_) (fun c => ?_)
  · exact ev_as (ev_now _) (by simp [c])
  · have hb : b = false := by simpa using c
    refine ev_ite (fun c1 => ?_) (fun c1 => ?_)
    · refine ev_bind1 (spec_l9Time_eq x4) ?_
      refine ev_ite (fun c2 => ev_ite (fun c3 => ?_) (fun c3 => ?_)) (fun c2 => ?_)
      all_goals exact ev_as (ev_now _) (by simp_all)
    · refine ev_bind1 (spec_l1In_eq x3 1 2) ?_
      refine ev_ite (fun c2 => ?_) (fun c2 => ?_)
      · have h3 : x3 = 1 ∨ x3 = 2 := by have := (inB_iff _ _ _).1 c2; omega
        refine ev_ite (fun c3 => ?_) (fun c3 => ?_)
        · refine ev_bind1 (spec_l1In_eq x5 1 9999) ?_
          refine ev_ite (fun c4 => ?_) (fun c4 => ?_)
          all_goals exact ev_as (ev_now _) (by simp_all)
        · exact ev_as (ev_now _) (by simp_all)
      · have h3 : ¬ (x3 = 1 ∨ x3 = 2) := by
          intro h
          exact c2 ((inB_iff _ _ _).2 (by omega))
        exact ev_as (ev_now _) (by simp [c1, h3])
theorem spec_LineOk_ev (x : S124) (hs : x.f1.size ≤ 4611686018427387904) : Ev (fun k => spec_LineOk.f k x.f0 x.f1 x.f2 x.f3 x.f4 x.f5 x.f6) (lineB x.f0 x.f1 x.f2 x.f3 x.f4 x.f5 x.f6) := by
  unfold spec_LineOk.f lineB
  refine ev_bind1 (spec_l1In_eq _ _ _) ?_
  refine ev_ite (fun c => ?_) (fun c => ?_)
  · refine ev_bind (spec_l1Name_ev _ hs) ?_
    refine ev_ite (fun c2 => ?_) (fun c2 => ?_)
    · refine ev_bind1 (spec_l1In_eq _ _ _) ?_
      exact ev_as (spec_LineOk_j0 ..) (by rw [c, c2]; simp)
    · exact ev_as (spec_LineOk_j0 ..) (by simp [c2])
  · exact ev_as (spec_LineOk_j0 ..) (by simp [c])

/-! ### spec_PutItem -/
/-- The bytes of a client that is handed over. -/
def askV (a : S90) : List Int := putWordV (putWordV (putTextV (sinceV (putWordV (putTextV (putWordV [1] a.f0 ++ [a.f2 % 256]) a.f1) a.f3) a.f4) a.f5) a.f6) a.f7
/-- The bytes of a connection that is handed over. -/
def lineV (l : S124) : List Int := putWordV (putWordV (sinceV (putWordV (putTextV (putWordV [2] l.f0 ++ [l.f3 % 256]) l.f1) l.f2) l.f4) l.f5) l.f6
def zeroA (a : S90) : Bool := a.f0 == 0 && (a.f1.toList == ([] : List UInt8) && (a.f2 == 0 && (a.f3 == 0 && (a.f4 == 0 && (a.f5.toList == ([] : List UInt8) && (a.f6 == 0 && (a.f7 == 0)))))))
def zeroL (l : S124) : Bool := l.f0 == 0 && (l.f1.toList == ([] : List UInt8) && (l.f2 == 0 && (l.f3 == 0 && (l.f4 == 0 && (l.f5 == 0 && (l.f6 == 0))))))
/-- May this be handed over. -/
def itemB (k : Int) (a : S90) (l : S124) : Bool :=
  if k = 1 then askerB a.f0 a.f1 a.f2 a.f3 a.f4 a.f5 a.f6 a.f7 && (zeroL l && !(decide (a.f7 > 65535)))
  else if k = 2 then lineB l.f0 l.f1 l.f2 l.f3 l.f4 l.f5 l.f6 && (zeroA a && !(decide (l.f6 > 65535))) else false
def itemV (k : Int) (a : S90) (l : S124) : List Int := if itemB k a l = true then (if k = 1 then askV a else lineV l) else []
theorem askV_len (a : S90) : 13 ≤ (askV a).length ∧ (askV a).length ≤ 215 := by
  have t1 := putTextV_len (putWordV [1] a.f0 ++ [a.f2 % 256]) a.f1
  have t2 := putTextV_len (sinceV (putWordV (putTextV (putWordV [1] a.f0 ++ [a.f2 % 256]) a.f1) a.f3) a.f4) a.f5
  have g1 := putTextV_ge (putWordV [1] a.f0 ++ [a.f2 % 256]) a.f1
  have g2 := putTextV_ge (sinceV (putWordV (putTextV (putWordV [1] a.f0 ++ [a.f2 % 256]) a.f1) a.f3) a.f4) a.f5
  simp only [putWordV_len, sinceV_len, List.length_append, List.length_cons, List.length_nil] at t1 t2 g1 g2
  unfold askV
  simp only [putWordV_len]
  omega
theorem lineV_len (l : S124) : 13 ≤ (lineV l).length ∧ (lineV l).length ≤ 114 := by
  have t1 := putTextV_len (putWordV [2] l.f0 ++ [l.f3 % 256]) l.f1
  have g1 := putTextV_ge (putWordV [2] l.f0 ++ [l.f3 % 256]) l.f1
  simp only [putWordV_len, List.length_append, List.length_cons, List.length_nil] at t1 g1
  unfold lineV
  simp only [putWordV_len, sinceV_len]
  omega
theorem itemV_len (k : Int) (a : S90) (l : S124) : (itemV k a l).length ≤ 215 := by
  have := askV_len a
  have := lineV_len l
  unfold itemV
  split
  · split <;> omega
  · simp
theorem itemV_nil (k : Int) (a : S90) (l : S124) : (itemV k a l).length = 0 ↔ itemB k a l = false := by
  have := askV_len a
  have := lineV_len l
  unfold itemV
  by_cases c : itemB k a l = true
  · rw [if_pos c, c]
    constructor
    · intro h
      split at h <;> omega
    · intro h
      exact absurd h (by decide)
  · rw [if_neg c]
    simpa using c
theorem askerB_lease (so : Int) (db : ByteArray) (st ti si : Int) (q : ByteArray) (li le : Int) (h : askerB so db st ti si q li le = true) : 0 ≤ le := by
  unfold askerB at h
  rw [Bool.and_eq_true] at h
  have h := h.2
  split at h
  · simp only [Bool.and_eq_true, beq_iff_eq] at h
    omega
  · rw [Bool.and_eq_true] at h
    have h := h.2
    split at h
    · simp only [Bool.and_eq_true, beq_iff_eq] at h
      omega
    · split at h
      · simp only [Bool.and_eq_true, beq_iff_eq] at h
        omega
      · split at h
        · simp only [Bool.and_eq_true, decide_eq_true_eq] at h
          omega
        · exact absurd h (by decide)
theorem lineB_lease (so : Int) (db : ByteArray) (ge st si asn le : Int) (h : lineB so db ge st si asn le = true) : 0 ≤ le := by
  unfold lineB at h
  simp only [Bool.and_eq_true] at h
  have h := h.2.2.2
  split at h
  · simp only [Bool.and_eq_true, beq_iff_eq] at h
    omega
  · split at h
    · simp only [Bool.and_eq_true, decide_eq_true_eq] at h
      omega
    · exact absurd h (by decide)
theorem spec_PutItem_ev (k : Int) (a : S90) (l : S124) (h1 : a.f1.size ≤ 1000000000) (h5 : a.f5.size ≤ 1000000000) (hl : l.f1.size ≤ 1000000000) :
    Ev (fun n => spec_PutItem.f n k a.f0 a.f1 a.f2 a.f3 a.f4 a.f5 a.f6 a.f7 l.f0 l.f1 l.f2 l.f3 l.f4 l.f5 l.f6) (itemV k a l) := by
  have p1 : Ev (fun n => spec_PutItem.j0 n false a.f0 a.f1 a.f2 a.f3 a.f4 a.f5 a.f6 a.f7) (askV a) := by
    have t1 := putTextV_len (putWordV [1] a.f0 ++ [a.f2 % 256]) a.f1
    have t2 := putTextV_len (sinceV (putWordV (putTextV (putWordV [1] a.f0 ++ [a.f2 % 256]) a.f1) a.f3) a.f4) a.f5
    simp only [putWordV_len, sinceV_len, List.length_append, List.length_cons, List.length_nil] at t1 t2
    refine ev_step (fun n => spec_PutItem.j0.eq_2 ..) (ev_neg (by simp) ?_)
    refine ev_bind1 (spec_PutWord_eq _ _ (by simp)) (ev_bind1 rfl (ev_pos (by simp only [putWordV_len, List.length_cons, List.length_nil]; omega) ?_))
    refine ev_bind (spec_PutText_ev _ _ (by simp only [putWordV_len, List.length_append, List.length_cons, List.length_nil]; omega) (by omega)) ?_
    refine ev_bind1 (spec_PutWord_eq _ _ (by omega)) (ev_bind1 (spec_PutWord_eq _ _ (by rw [putWordV_len]; omega)) (ev_bind1 rfl (ev_pos (by simp only [putWordV_len, List.length_cons, List.length_nil]; omega) ?_)))
    refine ev_bind (spec_PutText_ev _ _ (by simp only [putWordV_len, List.length_append, List.length_cons, List.length_nil]; omega) (by omega)) ?_
    exact ev_bind1 (spec_PutWord_eq _ _ (by unfold sinceV at t2; omega)) (ev_bind1 (spec_PutWord_eq _ _ (by rw [putWordV_len]; unfold sinceV at t2; omega)) (ev_now _))
  have p2 : Ev (fun n => spec_PutItem.j1 n false l.f0 l.f1 l.f2 l.f3 l.f4 l.f5 l.f6) (lineV l) := by
    have t1 := putTextV_len (putWordV [2] l.f0 ++ [l.f3 % 256]) l.f1
    simp only [putWordV_len, List.length_append, List.length_cons, List.length_nil] at t1
    refine ev_step (fun n => spec_PutItem.j1.eq_2 ..) (ev_neg (by simp) ?_)
    refine ev_bind1 (spec_PutWord_eq _ _ (by simp)) (ev_bind1 rfl (ev_pos (by simp only [putWordV_len, List.length_cons, List.length_nil]; omega) ?_))
    refine ev_bind (spec_PutText_ev _ _ (by simp only [putWordV_len, List.length_append, List.length_cons, List.length_nil]; omega) (by omega)) ?_
    refine ev_bind1 (spec_PutWord_eq _ _ (by omega)) (ev_bind1 (spec_PutWord_eq _ _ (by rw [putWordV_len]; omega)) (ev_bind1 rfl (ev_pos (by simp only [putWordV_len, List.length_cons, List.length_nil]; omega) ?_)))
    exact ev_bind1 (spec_PutWord_eq _ _ (by simp only [putWordV_len, List.length_append, List.length_cons, List.length_nil]; omega)) (ev_bind1 (spec_PutWord_eq _ _ (by simp only [putWordV_len, List.length_append, List.length_cons, List.length_nil]; omega)) (ev_now _))
  have n1 : Ev (fun n => spec_PutItem.j0 n true a.f0 a.f1 a.f2 a.f3 a.f4 a.f5 a.f6 a.f7) [] := ev_step (fun n => spec_PutItem.j0.eq_2 ..) (ev_pos rfl (ev_now _))
  have n2 : Ev (fun n => spec_PutItem.j1 n true l.f0 l.f1 l.f2 l.f3 l.f4 l.f5 l.f6) [] := ev_step (fun n => spec_PutItem.j1.eq_2 ..) (ev_pos rfl (ev_now _))
  have z1 : (!(l.f0 == 0) || (!(l.f1.toList == ([] : List UInt8)) || (!(l.f2 == 0) || (!(l.f3 == 0) || (!(l.f4 == 0) || (!(l.f5 == 0) || (!(l.f6 == 0)))))))) = !zeroL l := by simp [zeroL, Bool.not_and]
  have z2 : (!(a.f0 == 0) || (!(a.f1.toList == ([] : List UInt8)) || (!(a.f2 == 0) || (!(a.f3 == 0) || (!(a.f4 == 0) || (!(a.f5.toList == ([] : List UInt8)) || (!(a.f6 == 0) || (!(a.f7 == 0))))))))) = !zeroA a := by simp [zeroA, Bool.not_and]
  unfold spec_PutItem.f itemV itemB
  rw [z1, z2]
  refine ev_ite (fun c => ?_) (fun c => ev_ite (fun c' => ?_) (fun c' => ?_))
  · refine ev_bind (spec_AskerOk_core _ _ _ _ _ _ _ _ (by omega) (by omega)) (ev_ite (fun d => ev_ite (fun e => ?_) (fun e => ?_)) (fun d => ?_))
    · exact ev_as n1 (by rw [if_neg]; rw [if_pos c, d]; simp at e; simp [e])
    · by_cases f : a.f7 > 65535
      · rw [decide_eq_true f]
        exact ev_as n1 (by rw [if_neg]; rw [if_pos c, d]; simp [f])
      · rw [decide_eq_false f]
        exact ev_as p1 (by rw [if_pos, if_pos c]; rw [if_pos c, d]; simp at e; simp [e, f])
    · exact ev_as n1 (by rw [if_neg]; rw [if_pos c]; simp [d])
  · refine ev_bind (spec_LineOk_ev l (by omega)) (ev_ite (fun d => ev_ite (fun e => ?_) (fun e => ?_)) (fun d => ?_))
    · exact ev_as n2 (by rw [if_neg]; rw [if_neg c, if_pos c', d]; simp at e; simp [e])
    · by_cases f : l.f6 > 65535
      · rw [decide_eq_true f]
        exact ev_as n2 (by rw [if_neg]; rw [if_neg c, if_pos c', d]; simp [f])
      · rw [decide_eq_false f]
        exact ev_as p2 (by rw [if_pos, if_neg c]; rw [if_neg c, if_pos c', d]; simp at e; simp [e, f])
    · exact ev_as n2 (by rw [if_neg]; rw [if_neg c, if_pos c']; simp [d])
  · exact ev_as n2 (by rw [if_neg]; rw [if_neg c, if_neg c']; simp)

/-! ### spec_CtlOk -/
def itemOkB (x : S126) : Bool := itemB x.f0 x.f1 x.f2
def partB (n of ti : Int) (m : Nat) : Bool := inB of 1 20 && (inB n 0 (wrap64 (of - 1)) && (inB ti 0 65535 && decide (m ≤ 2)))
/-- A message between proxies as it has to be. -/
def ctlB (ki fr id n of : Int) (pa : Bool) (ti : Int) (l : List S126) : Bool :=
  inB fr 0 1 && (inB id 1 60000 &&
    (if ki = 1 then l.all itemOkB && partB n of ti l.length
     else of == 0 && (!pa && (ti == 0 && (decide (l.length = 0) && (if ki = 2 then inB n 0 20 else if ki = 3 then n == 0 else false))))))
theorem spec_CtlOk_l0 (ki fr id n of : Int) (pa : Bool) (ti : Int) (l : List S126) (hl : l.length ≤ 1000000000) (hz : ∀ x ∈ l, x.f1.f1.size ≤ 1000000000 ∧ x.f1.f5.size ≤ 1000000000 ∧ x.f2.f1.size ≤ 1000000000) (d : Nat) : ∀ i : Nat, i + d = l.length → Ev (fun k => spec_CtlOk.l0 k (i : Int) ki fr id n of pa ti l) ((l.drop i).all itemOkB && partB n of ti l.length) := by
  induction d with
  | zero =>
    intro i hi
    refine ev_step (fun k => spec_CtlOk.l0.eq_2 ..) (ev_neg (by omega) ?_)
    have hd : l.drop i = [] := List.drop_of_length_le (by omega)
    rw [hd]
    unfold partB
    refine ev_bind1 (spec_l1In_eq _ _ _) (ev_ite (fun c => ev_bind1 (spec_l1In_eq _ _ _) (ev_ite (fun c1 => ev_bind1 (spec_l1In_eq _ _ _) (ev_ite (fun c2 => ?_) (fun c2 => ?_))) (fun c1 => ?_))) (fun c => ?_))
    · exact ev_as (ev_now _) (by simp [c, c1, c2]; omega)
    · exact ev_as (ev_now _) (by simp [c2])
    · exact ev_as (ev_now _) (by simp [c1])
    · exact ev_as (ev_now _) (by simp [c])
  | succ d ih =>
    intro i hi
    have hn := ih (i + 1) (by omega)
    have hlt : i < l.length := by omega
    have hr : rd_T126 l (i : Int) = l[i] := getD_nth _ l i hlt
    have hd : l.drop i = l[i] :: l.drop (i + 1) := List.drop_eq_getElem_cons hlt
    have h := hz l[i] (List.getElem_mem hlt)
    rw [hd, List.all_cons]
    refine ev_step (fun k => spec_CtlOk.l0.eq_2 ..) (ev_pos (by omega) (ev_pos (by omega) (?_)))
    simp only [hr]
    rw [w64 (by omega) (by omega)]
    refine ev_bind (spec_PutItem_ev l[i].f0 l[i].f1 l[i].f2 h.1 h.2.1 h.2.2) (ev_ite (fun c => ?_) (fun c => ?_))
    · have := (itemV_nil l[i].f0 l[i].f1 l[i].f2).1 (by omega)
      exact ev_as (ev_now _) (by unfold itemOkB; rw [this]; rfl)
    · have : itemB l[i].f0 l[i].f1 l[i].f2 = true := by
        rw [← Bool.not_eq_false]
        exact fun e => c (by have := (itemV_nil l[i].f0 l[i].f1 l[i].f2).2 e; omega)
      exact ev_as hn (by unfold itemOkB; rw [this]; simp)
theorem spec_CtlOk_ev (ki fr id n of : Int) (pa : Bool) (ti : Int) (l : List S126) (hl : l.length ≤ 1000000000) (hz : ∀ x ∈ l, x.f1.f1.size ≤ 1000000000 ∧ x.f1.f5.size ≤ 1000000000 ∧ x.f2.f1.size ≤ 1000000000) : Ev (fun k => spec_CtlOk.f k ki fr id n of pa ti l) (ctlB ki fr id n of pa ti l) := by
  have h0 := spec_CtlOk_l0 ki fr id n of pa ti l hl hz l.length 0 (by omega)
  unfold spec_CtlOk.f ctlB
  refine ev_bind1 (spec_l1In_eq _ _ _) (ev_ite (fun c => ev_bind1 (spec_l1In_eq _ _ _) (ev_step (fun k => spec_CtlOk.j0.eq_2 ..) (ev_ite (fun c1 => ?_) (fun c1 => ev_ite (fun c2 => ?_) (fun c2 => ?_))))) (fun c => ev_step (fun k => spec_CtlOk.j0.eq_2 ..) (ev_pos rfl (ev_as (ev_now _) (by simp [c])))))
  · exact ev_as (ev_now _) (by simp at c1; simp [c1])
  · exact ev_as h0 (by simp at c1; simp [c, c1, c2])
  · simp at c1
    refine ev_ite (fun c3 => ev_ite (fun c4 => ?_) (fun c4 => ev_ite (fun c5 => ev_ite (fun c6 => ?_) (fun c6 => ?_)) (fun c5 => ?_))) (fun c3 => ?_)
    · exact ev_as (ev_now _) (by simp [c2, c4])
    · have hn : l = [] := List.eq_nil_of_length_eq_zero (by omega)
      simp at c4
      refine ev_ite (fun c7 => ev_bind1 (spec_l1In_eq _ _ _) (ev_ite (fun c8 => ?_) (fun c8 => ev_neg (by omega) ?_))) (fun c7 => ev_ite (fun c9 => ?_) (fun c9 => ?_))
      · exact ev_as (ev_now _) (by simp [c, c1, c3, c4, c5, c7, c8, hn])
      · exact ev_as (ev_now _) (by simp [c7, c8])
      · exact ev_as (ev_now _) (by simp [c, c1, c3, c4, c5, c9, hn])
      · exact ev_as (ev_now _) (by simp [c2, c7, c9])
    · have : ¬ l = [] := by
        intro e
        rw [e] at c6
        exact c6 rfl
      exact ev_as (ev_now _) (by simp [c2, this])
    · exact ev_as (ev_now _) (by simp [c2, c5])
    · exact ev_as (ev_now _) (by simp [c2, c3])

/-! ### spec_Sum -/
/-- One step of the check sum. -/
def crcS (s : Int) : Int := if wrap64 (s * 2) > 65535 then Go.bits .xor .i64 (wrap64 (s * 2)) 69665 else wrap64 (s * 2)
def itS : Nat → Int → Int
  | 0, s => s
  | n + 1, s => itS n (crcS s)
def sumS (s x : Int) : Int := itS 8 (Go.bits .xor .i64 s (wrap64 ((wrap64 x) * 256)))
/-- The check sum of some bytes. -/
def sumV (l : List Int) : Int := Go.bits .and .i64 (l.foldl sumS 65535) 65535
theorem spec_Sum_l1 (l : List Int) (i : Nat) (hi : i < 1000000000000) (r : Int) (d : Nat) : ∀ (j : Nat) (s : Int), j + d = 8 → Ev (fun k => spec_Sum.l0 k l (itS d s) ((i : Int) + 1)) r → Ev (fun k => spec_Sum.l1 k l s (i : Int) (j : Int)) r := by
  induction d with
  | zero =>
    intro j s hj h
    refine ev_step (fun k => spec_Sum.l1.eq_2 ..) (ev_neg (by omega) ?_)
    rw [w64 (by omega) (by omega)]
    exact h
  | succ d ih =>
    intro j s hj h
    have e : wrap64 ((j : Int) + 1) = ((j + 1 : Nat) : Int) := by rw [w64 (by omega) (by omega)]; omega
    refine ev_step (fun k => spec_Sum.l1.eq_2 ..) (ev_pos (by omega) ?_)
    rw [e]
    have h' := ih (j + 1) (crcS s) (by omega) h
    unfold crcS at h'
    refine ev_ite (fun c => ?_) (fun c => ?_)
    · rw [if_pos c] at h'
      exact h'
    · rw [if_neg c] at h'
      exact h'
theorem spec_Sum_l0 (l : List Int) (hl : l.length ≤ 1000000000) (d : Nat) : ∀ (i : Nat) (s : Int), i + d = l.length → Ev (fun k => spec_Sum.l0 k l s (i : Int)) (Go.bits .and .i64 ((l.drop i).foldl sumS s) 65535) := by
  induction d with
  | zero =>
    intro i s hi
    rw [List.drop_of_length_le (by omega)]
    exact ev_step (fun k => spec_Sum.l0.eq_2 ..) (ev_neg (by omega) (ev_now _))
  | succ d ih =>
    intro i s hi
    have hlt : i < l.length := by omega
    have hr : rd l (i : Int) = l[i] := rd_nth l i hlt
    rw [List.drop_eq_getElem_cons hlt, List.foldl_cons]
    refine ev_step (fun k => spec_Sum.l0.eq_2 ..) (ev_pos (by omega) (ev_pos (by omega) ?_))
    rw [hr]
    have h := ih (i + 1) (sumS s l[i]) (by omega)
    rw [show ((i + 1 : Nat) : Int) = (i : Int) + 1 by omega] at h
    exact spec_Sum_l1 l i (by omega) _ 8 0 _ rfl h
theorem spec_Sum_ev (l : List Int) (hl : l.length ≤ 1000000000) : Ev (fun k => spec_Sum.f k l) (sumV l) := by
  have h := spec_Sum_l0 l hl l.length 0 65535 (by omega)
  rw [List.drop_zero] at h
  exact h

/-! ### spec_PutCtl -/
def itemsS (b : List Int) (x : S126) : List Int := (b ++ [((itemV x.f0 x.f1 x.f2).length : Int) % 256]) ++ itemV x.f0 x.f1 x.f2
/-- The bytes of a message ahead of its check sum. -/
def ctlH (ki fr id n of p ti : Int) (l : List S126) : List Int := l.foldl itemsS (putWordV (putWordV [ki % 256, fr % 256] id ++ [n % 256, of % 256, p]) ti ++ [(l.length : Int) % 256])
def ctlX (ki fr id n of p ti : Int) (l : List S126) : List Int := putWordV (ctlH ki fr id n of p ti l) (sumV (ctlH ki fr id n of p ti l))
/-- The bytes of a message between proxies. -/
def ctlV (ki fr id n of : Int) (pa : Bool) (ti : Int) (l : List S126) : List Int := if ctlB ki fr id n of pa ti l = true then ctlX ki fr id n of (if pa = true then 1 else 0) ti l else []
theorem items_len (l : List S126) : ∀ b : List Int, (l.foldl itemsS b).length ≤ b.length + 300 * l.length := by
  induction l with
  | nil => intro b; simp
  | cons x l ih =>
    intro b
    have hv := itemV_len x.f0 x.f1 x.f2
    have h := ih (itemsS b x)
    have hq : (itemsS b x).length = b.length + 1 + (itemV x.f0 x.f1 x.f2).length := by unfold itemsS; simp only [List.length_append, List.length_cons, List.length_nil]
    rw [List.foldl_cons, List.length_cons]
    omega
theorem ctlV_len (ki fr id n of : Int) (pa : Bool) (ti : Int) (l : List S126) : (ctlV ki fr id n of pa ti l).length ≤ 20 + 300 * l.length := by
  unfold ctlV
  split
  · unfold ctlX
    rw [putWordV_len]
    have h := items_len l (putWordV (putWordV [ki % 256, fr % 256] id ++ [n % 256, of % 256, if pa = true then 1 else 0]) ti ++ [(l.length : Int) % 256])
    simp only [putWordV_len, List.length_append, List.length_cons, List.length_nil] at h
    unfold ctlH
    omega
  · simp
theorem spec_PutCtl_l0 (ki fr id n of : Int) (pa : Bool) (ti : Int) (l : List S126) (hl : l.length ≤ 2000000) (hz : ∀ x ∈ l, x.f1.f1.size ≤ 1000000000 ∧ x.f1.f5.size ≤ 1000000000 ∧ x.f2.f1.size ≤ 1000000000) (d : Nat) : ∀ (i : Nat) (b : List Int), i + d = l.length → b.length + 300 * d ≤ 700000000 → Ev (fun k => spec_PutCtl.l0 k b (i : Int) ki fr id n of pa ti l) (putWordV ((l.drop i).foldl itemsS b) (sumV ((l.drop i).foldl itemsS b))) := by
  induction d with
  | zero =>
    intro i b hi hb
    rw [List.drop_of_length_le (by omega)]
    exact ev_step (fun k => spec_PutCtl.l0.eq_2 ..) (ev_neg (by omega) (ev_bind (spec_Sum_ev b (by omega)) (ev_bind1 (spec_PutWord_eq b _ (by omega)) (ev_now _))))
  | succ d ih =>
    intro i b hi hb
    have hlt : i < l.length := by omega
    have hr : rd_T126 l (i : Int) = l[i] := getD_nth _ l i hlt
    have h := hz l[i] (List.getElem_mem hlt)
    have hv := itemV_len l[i].f0 l[i].f1 l[i].f2
    have hq : (itemsS b l[i]).length = b.length + 1 + (itemV l[i].f0 l[i].f1 l[i].f2).length := by unfold itemsS; simp only [List.length_append, List.length_cons, List.length_nil]
    have hn := ih (i + 1) (itemsS b l[i]) (by omega) (by omega)
    rw [List.drop_eq_getElem_cons hlt, List.foldl_cons]
    refine ev_step (fun k => spec_PutCtl.l0.eq_2 ..) (ev_pos (by omega) (ev_pos (by omega) ?_))
    simp only [hr]
    rw [w64 (by omega) (by omega)]
    refine ev_bind (spec_PutItem_ev l[i].f0 l[i].f1 l[i].f2 h.1 h.2.1 h.2.2) (ev_bind1 rfl (ev_pos (by simp only [List.length_cons, List.length_nil]; omega) (ev_bind1 rfl (ev_pos (by simp only [List.length_append, List.length_cons, List.length_nil]; omega) ?_))))
    rw [show (i : Int) + 1 = ((i + 1 : Nat) : Int) by omega]
    exact hn
theorem spec_PutCtl_ev (ki fr id n of : Int) (pa : Bool) (ti : Int) (l : List S126) (hl : l.length ≤ 2000000) (hz : ∀ x ∈ l, x.f1.f1.size ≤ 1000000000 ∧ x.f1.f5.size ≤ 1000000000 ∧ x.f2.f1.size ≤ 1000000000) : Ev (fun k => spec_PutCtl.f k ki fr id n of pa ti l) (ctlV ki fr id n of pa ti l) := by
  have h0 : ∀ p : Int, Ev (fun k => spec_PutCtl.j0 k p ki fr id n of pa ti l) (ctlX ki fr id n of (p % 256) ti l) := by
    intro p
    refine ev_step (fun k => spec_PutCtl.j0.eq_2 ..) (ev_bind1 (spec_PutWord_eq _ _ (by simp)) (ev_bind1 rfl (ev_pos (by simp only [putWordV_len, List.length_cons, List.length_nil]; omega) (ev_bind1 (spec_PutWord_eq _ _ (by simp only [putWordV_len, List.length_append, List.length_cons, List.length_nil]; omega)) (ev_bind1 rfl (ev_pos (by simp only [putWordV_len, List.length_append, List.length_cons, List.length_nil]; omega) ?_))))))
    exact spec_PutCtl_l0 ki fr id n of pa ti l hl hz l.length 0 _ (by omega) (by simp only [putWordV_len, List.length_append, List.length_cons, List.length_nil]; omega)
  unfold spec_PutCtl.f ctlV
  refine ev_bind (spec_CtlOk_ev ki fr id n of pa ti l (by omega) hz) (ev_ite (fun c => ev_ite (fun c1 => ?_) (fun c1 => ?_)) (fun c => ?_))
  · exact ev_as (h0 1) (by rw [if_pos c, if_pos c1]; rfl)
  · exact ev_as (h0 0) (by rw [if_pos c, if_neg c1]; rfl)
  · exact ev_as (ev_now _) (by rw [if_neg c])

/-! ### spec_Send -/
def sendV (l : List S113) (ki fr id n of : Int) (pa : Bool) (ti : Int) (it : List S126) : List S113 :=
  if wayB l = true then (if ctlB ki fr id n of pa ti it = true then (if (l.length : Int) = 12 then l else l ++ [⟨fr, ctlV ki fr id n of pa ti it⟩]) else l) else l
theorem spec_Send_ev (l : List S113) (hl : l.length ≤ 1000000000000) (hx : ∀ x ∈ l, x.f1.length ≤ 1000000000000) (ki fr id n of : Int) (pa : Bool) (ti : Int) (it : List S126) (hi : it.length ≤ 2000000) (hz : ∀ x ∈ it, x.f1.f1.size ≤ 1000000000 ∧ x.f1.f5.size ≤ 1000000000 ∧ x.f2.f1.size ≤ 1000000000) : Ev (fun k => spec_Send.f k l ki fr id n of pa ti it) (sendV l ki fr id n of pa ti it) := by
  unfold spec_Send.f sendV
  refine ev_bind (spec_l12Copy_ev l hl hx) (ev_bind (spec_WayOk_ev l (by omega)) ?_)
  by_cases h1 : wayB l = true
  · simp only [if_pos h1]
    refine ev_bind (spec_CtlOk_ev ki fr id n of pa ti it (by omega) hz) ?_
    by_cases h2 : ctlB ki fr id n of pa ti it = true
    · simp only [if_pos h2]
      by_cases h3 : (l.length : Int) = 12
      · simp only [if_pos h3]; exact ev_now _
      simp only [if_neg h3]
      exact ev_bind (spec_PutCtl_ev ki fr id n of pa ti it hi hz) (ev_pos (by omega) (ev_now _))
    · simp only [if_neg h2]; exact ev_now _
  · simp only [if_neg h1]; exact ev_now _

/-! ### laws_toByteS -/
theorem to_ByteS_l0 (l : List Int) (hs : szl_ByteS l ≤ 1048576) (d : Nat) : ∀ (i : Nat) (x : List Int), i + d = l.length → x.length = l.length → x.take i = (l).take i → Ev (fun k => laws_toByteS.l0 k l x (i : Int)) (l) := by
  have hl : l.length ≤ 1048576 := by unfold szl_ByteS at hs; omega
  induction d with
  | zero =>
    intro i x hi hx ht
    refine ev_as (ev_step (fun k => laws_toByteS.l0.eq_2 ..) (ev_neg (by omega) (ev_now _))) ?_
    rw [List.take_of_length_le (by omega), List.take_of_length_le (by first | omega | (simp; omega))] at ht
    exact ht
  | succ d ih =>
    intro i x hi hx ht
    have hlt : i < l.length := by omega
    have hr : rd l (i : Int) = l[i] := rd_nth l i hlt
    refine ev_step (fun k => laws_toByteS.l0.eq_2 ..) (ev_pos (by omega) (ev_pos (by omega) ?_))
    refine ev_pos (by omega) ?_
    rw [hr, Int.toNat_natCast, w64 (by omega) (by omega)]
    exact ih (i + 1) _ (by omega) (by simp; omega) (take_set x l i _ (by omega) (by omega) ht rfl)
theorem to_ByteS (l : List Int) (hs : szl_ByteS l ≤ 1048576) : Ev (fun k => laws_toByteS.f k l) (l) := by
  have hl : l.length ≤ 1048576 := by unfold szl_ByteS at hs; omega
  unfold laws_toByteS.f
  refine ev_pos (by omega) (ev_pos (by simp; omega) ?_)
  exact to_ByteS_l0 l hs l.length 0 _ (by omega) (by simp) (by simp)

/-! ### laws_toPack -/
def cv_Pack (x : S107) : S113 := ⟨x.f0, x.f1⟩
theorem to_Pack (x : S107) (hs : szv_Pack x ≤ 1048576) : Ev (fun k => laws_toPack.f k x.f0 x.f1) ((cv_Pack x).f0, (cv_Pack x).f1) := by
  unfold szv_Pack at hs
  unfold laws_toPack.f
  refine ev_bind (to_ByteS x.f1 (by omega)) ?_
  exact ev_now _

/-! ### laws_toPackS -/
theorem to_PackS_l0 (l : List S107) (hs : szl_PackS l ≤ 1048576) (d : Nat) : ∀ (i : Nat) (x : List S113), i + d = l.length → x.length = l.length → x.take i = (l.map cv_Pack).take i → Ev (fun k => laws_toPackS.l0 k l x (i : Int)) (l.map cv_Pack) := by
  have hl : l.length ≤ 1048576 := by unfold szl_PackS at hs; omega
  induction d with
  | zero =>
    intro i x hi hx ht
    refine ev_as (ev_step (fun k => laws_toPackS.l0.eq_2 ..) (ev_neg (by omega) (ev_now _))) ?_
    rw [List.take_of_length_le (by omega), List.take_of_length_le (by first | omega | (simp; omega))] at ht
    exact ht
  | succ d ih =>
    intro i x hi hx ht
    have hlt : i < l.length := by omega
    have hr : rd_T107 l (i : Int) = l[i] := getD_nth _ l i hlt
    refine ev_step (fun k => laws_toPackS.l0.eq_2 ..) (ev_pos (by omega) (ev_pos (by omega) ?_))
    have he := to_Pack l[i] (by have := mem_sum szv_Pack l l[i] (List.getElem_mem hlt); unfold szl_PackS at hs; omega)
    simp only [hr]
    refine ev_bind he ?_
    refine ev_pos (by omega) ?_
    rw [Int.toNat_natCast, w64 (by omega) (by omega)]
    exact ih (i + 1) _ (by omega) (by simp; omega) (take_set x (l.map cv_Pack) i _ (by first | omega | (simp; omega)) (by first | omega | (simp; omega)) ht (by first | (simp; done) | (simp; rfl) | rfl))
theorem to_PackS (l : List S107) (hs : szl_PackS l ≤ 1048576) : Ev (fun k => laws_toPackS.f k l) (l.map cv_Pack) := by
  have hl : l.length ≤ 1048576 := by unfold szl_PackS at hs; omega
  unfold laws_toPackS.f
  refine ev_pos (by omega) (ev_pos (by simp; omega) ?_)
  exact to_PackS_l0 l hs l.length 0 _ (by omega) (by simp) (by simp)

/-! ### laws_toAsker -/
def cv_Asker (x : S137) : S90 := ⟨x.f0, x.f1, x.f2, x.f3, x.f4, x.f5, x.f6, x.f7⟩
theorem to_Asker (x : S137) (hs : szv_Asker x ≤ 1048576) : Ev (fun k => laws_toAsker.f x.f0 x.f1 x.f2 x.f3 x.f4 x.f5 x.f6 x.f7) ((cv_Asker x).f0, (cv_Asker x).f1, (cv_Asker x).f2, (cv_Asker x).f3, (cv_Asker x).f4, (cv_Asker x).f5, (cv_Asker x).f6, (cv_Asker x).f7) := by
  unfold szv_Asker at hs
  unfold laws_toAsker.f
  exact ev_now _

/-! ### laws_toLine -/
def cv_Line (x : S139) : S124 := ⟨x.f0, x.f1, x.f2, x.f3, x.f4, x.f5, x.f6⟩
theorem to_Line (x : S139) (hs : szv_Line x ≤ 1048576) : Ev (fun k => laws_toLine.f x.f0 x.f1 x.f2 x.f3 x.f4 x.f5 x.f6) ((cv_Line x).f0, (cv_Line x).f1, (cv_Line x).f2, (cv_Line x).f3, (cv_Line x).f4, (cv_Line x).f5, (cv_Line x).f6) := by
  unfold szv_Line at hs
  unfold laws_toLine.f
  exact ev_now _

/-! ### laws_toItem -/
def cv_Item (x : S152) : S126 := ⟨x.f0, (cv_Asker x.f1), (cv_Line x.f2)⟩
theorem to_Item (x : S152) (hs : szv_Item x ≤ 1048576) : Ev (fun k => laws_toItem.f x.f0 x.f1.f0 x.f1.f1 x.f1.f2 x.f1.f3 x.f1.f4 x.f1.f5 x.f1.f6 x.f1.f7 x.f2.f0 x.f2.f1 x.f2.f2 x.f2.f3 x.f2.f4 x.f2.f5 x.f2.f6) ((cv_Item x).f0, (cv_Item x).f1.f0, (cv_Item x).f1.f1, (cv_Item x).f1.f2, (cv_Item x).f1.f3, (cv_Item x).f1.f4, (cv_Item x).f1.f5, (cv_Item x).f1.f6, (cv_Item x).f1.f7, (cv_Item x).f2.f0, (cv_Item x).f2.f1, (cv_Item x).f2.f2, (cv_Item x).f2.f3, (cv_Item x).f2.f4, (cv_Item x).f2.f5, (cv_Item x).f2.f6) := by
  unfold szv_Item at hs
  unfold laws_toItem.f
  refine ev_bind (to_Asker x.f1 (by omega)) ?_
  refine ev_bind (to_Line x.f2 (by omega)) ?_
  exact ev_now _

/-! ### laws_toItemS -/
theorem to_ItemS_l0 (l : List S152) (hs : szl_ItemS l ≤ 1048576) (d : Nat) : ∀ (i : Nat) (x : List S126), i + d = l.length → x.length = l.length → x.take i = (l.map cv_Item).take i → Ev (fun k => laws_toItemS.l0 k l x (i : Int)) (l.map cv_Item) := by
  have hl : l.length ≤ 1048576 := by unfold szl_ItemS at hs; omega
  induction d with
  | zero =>
    intro i x hi hx ht
    refine ev_as (ev_step (fun k => laws_toItemS.l0.eq_2 ..) (ev_neg (by omega) (ev_now _))) ?_
    rw [List.take_of_length_le (by omega), List.take_of_length_le (by first | omega | (simp; omega))] at ht
    exact ht
  | succ d ih =>
    intro i x hi hx ht
    have hlt : i < l.length := by omega
    have hr : rd_T152 l (i : Int) = l[i] := getD_nth _ l i hlt
    refine ev_step (fun k => laws_toItemS.l0.eq_2 ..) (ev_pos (by omega) (ev_pos (by omega) ?_))
    have he := to_Item l[i] (by have := mem_sum szv_Item l l[i] (List.getElem_mem hlt); unfold szl_ItemS at hs; omega)
    simp only [hr]
    refine ev_bind he ?_
    refine ev_pos (by omega) ?_
    rw [Int.toNat_natCast, w64 (by omega) (by omega)]
    exact ih (i + 1) _ (by omega) (by simp; omega) (take_set x (l.map cv_Item) i _ (by first | omega | (simp; omega)) (by first | omega | (simp; omega)) ht (by first | (simp; done) | (simp; rfl) | rfl))
theorem to_ItemS (l : List S152) (hs : szl_ItemS l ≤ 1048576) : Ev (fun k => laws_toItemS.f k l) (l.map cv_Item) := by
  have hl : l.length ≤ 1048576 := by unfold szl_ItemS at hs; omega
  unfold laws_toItemS.f
  refine ev_pos (by omega) (ev_pos (by simp; omega) ?_)
  exact to_ItemS_l0 l hs l.length 0 _ (by omega) (by simp) (by simp)

/-! ### laws_toCtl -/
def cv_Ctl (x : S55) : S63 := ⟨x.f0, x.f1, x.f2, x.f3, x.f4, x.f5, x.f6, (x.f7.map cv_Item)⟩
theorem to_Ctl (x : S55) (hs : szv_Ctl x ≤ 1048576) : Ev (fun k => laws_toCtl.f k x.f0 x.f1 x.f2 x.f3 x.f4 x.f5 x.f6 x.f7) ((cv_Ctl x).f0, (cv_Ctl x).f1, (cv_Ctl x).f2, (cv_Ctl x).f3, (cv_Ctl x).f4, (cv_Ctl x).f5, (cv_Ctl x).f6, (cv_Ctl x).f7) := by
  unfold szv_Ctl at hs
  unfold laws_toCtl.f
  refine ev_bind (to_ItemS x.f7 (by omega)) ?_
  exact ev_now _

/-! ### slices_Clone_byte -/
theorem slices_Clone_byte_eq (l : List Int) (h : l.length ≤ 1000000000000) : slices_Clone_byte.f l = some l := by
  unfold slices_Clone_byte.f
  simp only [Option.bind_some, List.nil_append, List.length_nil]
  rw [if_pos (by omega)]

/-! ### impl_packCopy -/
theorem impl_packCopy_eq (a : Int) (l : List Int) (h : l.length ≤ 1000000000000) : impl_packCopy.f a l = some (a, l) := by
  unfold impl_packCopy.f
  rw [slices_Clone_byte_eq l h]
  rfl

/-! ### impl_wayCopy -/
theorem impl_wayCopy_l0 (l : List S113) (hl : l.length ≤ 1000000000000) (hx : ∀ x ∈ l, x.f1.length ≤ 1000000000000) (d : Nat) : ∀ i : Nat, i + d = l.length → Ev (fun k => impl_wayCopy.l0 k (l.take i) l (l.length : Int) (i : Int)) l := by
  induction d with
  | zero =>
    intro i hi
    refine ev_step (fun k => impl_wayCopy.l0.eq_2 ..) (ev_neg (by omega) ?_)
    rw [List.take_of_length_le (by omega)]
    exact ev_now _
  | succ d ih =>
    intro i hi
    have hlt : i < l.length := by omega
    have hr : rd_T113 l (i : Int) = l[i] := getD_nth _ l i hlt
    have hn := ih (i + 1) (by omega)
    rw [List.take_add_one, List.getElem?_eq_getElem hlt] at hn
    refine ev_step (fun k => impl_wayCopy.l0.eq_2 ..) (ev_pos (by omega) (ev_pos (by omega) (ev_pos (by omega) ?_)))
    simp only [hr]
    rw [w64 (by omega) (by omega)]
    refine ev_bind1 (impl_packCopy_eq _ _ (hx _ (List.getElem_mem hlt))) (ev_pos (by rw [List.length_take]; omega) ?_)
    exact hn
theorem impl_wayCopy_ev (l : List S113) (hl : l.length ≤ 1000000000000) (hx : ∀ x ∈ l, x.f1.length ≤ 1000000000000) : Ev (fun k => impl_wayCopy.f k l) l := by
  have h := impl_wayCopy_l0 l hl hx l.length 0 (by omega)
  exact h

/-! ### impl_isIn -/
theorem impl_isIn_eq (a b c : Int) : impl_isIn.f a b c = some (inB a b c) := by
  unfold impl_isIn.f inB
  by_cases h : b ≤ a <;> simp [h]

/-! ### impl_wordOk -/
theorem impl_wordOk_eq (a : Int) : impl_wordOk.f a = some (inB a 0 65535) := by
  unfold impl_wordOk.f
  rw [impl_isIn_eq]
  rfl

/-! ### impl_PutWord -/
theorem impl_PutWord_eq (l : List Int) (n : Int) (hl : l.length ≤ 1000000000000) : impl_PutWord.f l n = some (putWordV l n) := by
  unfold impl_PutWord.f putWordV
  rw [slices_Clone_byte_eq l hl]
  simp only [Option.bind_some, List.length_cons, List.length_nil]
  rw [if_pos (by omega)]

/-! ### impl_sockIdOk -/
theorem impl_sockIdOk_eq (a : Int) : impl_sockIdOk.f a = some (inB a 1 9999) := by
  unfold impl_sockIdOk.f
  rw [impl_isIn_eq]
  rfl

/-! ### impl_nameOk -/
theorem impl_nameOk_l0 (s : ByteArray) (hs : s.size ≤ 4611686018427387904) (d : Nat) : ∀ i : Int, 0 ≤ i → i + d = s.size → Ev (fun k => impl_nameOk.l0 k s (s.size : Int) i) (allF (byteIn s 97 122) i d && inB s.size 1 8) := by
  induction d with
  | zero =>
    intro i h0 h1
    refine ev_step (fun k => impl_nameOk.l0.eq_2 ..) ?_
    refine ev_neg (by omega) ?_
    rw [impl_isIn_eq]
    exact ev_now _
  | succ d ih =>
    intro i h0 h1
    refine ev_step (fun k => impl_nameOk.l0.eq_2 ..) ?_
    refine ev_pos (by omega) (ev_pos (by omega) (ev_pos (by omega) ?_))
    refine ev_ite (fun c1 => ?_) (fun c1 => ev_ite (fun c2 => ?_) (fun c2 => ?_))
    · refine ev_as (ev_now _) ?_
      have : byteIn s 97 122 i = false := by rw [byteIn_false]; omega
      simp [allF, this]
    · refine ev_as (ev_now _) ?_
      have : byteIn s 97 122 i = false := by rw [byteIn_false]; omega
      simp [allF, this]
    · have : byteIn s 97 122 i = true := by rw [byteIn_iff]; omega
      rw [w64 (by omega) (by omega), allF, this, Bool.true_and]
      exact ih (i + 1) (by omega) (by omega)
theorem impl_nameOk_ev (s : ByteArray) (hs : s.size ≤ 4611686018427387904) : Ev (fun k => impl_nameOk.f k s) (nameB s) := impl_nameOk_l0 s hs s.size 0 (by omega) (by omega)

/-! ### impl_sinceOk -/
theorem impl_sinceOk_eq (a : Int) : impl_sinceOk.f a = some (inB a 0 100000) := by
  unfold impl_sinceOk.f
  rw [impl_isIn_eq]
  rfl

/-! ### impl_TextOk -/
theorem impl_TextOk_l0 (s : ByteArray) (hs : s.size ≤ 4611686018427387904) (d : Nat) : ∀ i : Int, 0 ≤ i → i + d = s.size → Ev (fun k => impl_TextOk.l0 k s (s.size : Int) i) (allF (byteIn s 32 126) i d && decide ((s.size : Int) ≤ 100)) := by
  induction d with
  | zero =>
    intro i h0 h1
    refine ev_step (fun k => impl_TextOk.l0.eq_2 ..) ?_
    refine ev_neg (by omega) ?_
    exact ev_now _
  | succ d ih =>
    intro i h0 h1
    refine ev_step (fun k => impl_TextOk.l0.eq_2 ..) ?_
    refine ev_pos (by omega) (ev_pos (by omega) (ev_pos (by omega) ?_))
    refine ev_ite (fun c1 => ?_) (fun c1 => ev_ite (fun c2 => ?_) (fun c2 => ?_))
    · refine ev_as (ev_now _) ?_
      have : byteIn s 32 126 i = false := by rw [byteIn_false]; omega
      simp [allF, this]
    · refine ev_as (ev_now _) ?_
      have : byteIn s 32 126 i = false := by rw [byteIn_false]; omega
      simp [allF, this]
    · have : byteIn s 32 126 i = true := by rw [byteIn_iff]; omega
      rw [w64 (by omega) (by omega), allF, this, Bool.true_and]
      exact ih (i + 1) (by omega) (by omega)
theorem impl_TextOk_ev (s : ByteArray) (hs : s.size ≤ 4611686018427387904) : Ev (fun k => impl_TextOk.f k s) (textB s) := impl_TextOk_l0 s hs s.size 0 (by omega) (by omega)

/-! ### impl_AskerOk -/
theorem impl_AskerOk_core (x0 : Int) (x1 : ByteArray) (x2 x3 x4 : Int) (x5 : ByteArray) (x6 x7 : Int) (h1 : x1.size ≤ 4611686018427387904) (h5 : x5.size ≤ 4611686018427387904) : Ev (fun k => impl_AskerOk.f k x0 x1 x2 x3 x4 x5 x6 x7) (askerB x0 x1 x2 x3 x4 x5 x6 x7) := by
  unfold impl_AskerOk.f askerB
  refine ev_step (fun k => impl_AskerOk.j0.eq_2 ..) ?_
  have e0 : (⟨#[]⟩ : ByteArray).toList = [] := by unfold ByteArray.toList; unfold ByteArray.toList.loop; rfl
  simp only [beq_self_eq_true, Bool.true_and, Bool.and_true, e0]
  refine ev_bind1 (impl_sockIdOk_eq _) ?_
  refine ev_ite (fun c => ?_) (fun c => ?_)
  · refine ev_ite (fun s0 => ?_) (fun s0 => ?_)
    · exact ev_as (ev_now _) (by simp [c, s0])
    · refine ev_bind (impl_nameOk_ev _ h1) ?_
      refine ev_ite (fun cn => ?_) (fun cn => ?_)
      · refine ev_ite (fun s1 => ?_) (fun s1 => ev_ite (fun s2 => ?_) (fun s2 => ev_ite (fun s3 => ?_) (fun s3 => ev_ite (fun s4 => ?_) (fun s4 => ?_))))
        · exact ev_as (ev_now _) (by simp [c, s1, cn])
        · refine ev_ite (fun c1 => ?_) (fun c1 => ?_)
          · refine ev_bind1 (impl_wordOk_eq _) ?_
            refine ev_ite (fun c3 => ?_) (fun c3 => ?_)
            · refine ev_bind1 (impl_sinceOk_eq _) ?_
              refine ev_ite (fun c4 => ?_) (fun c4 => ?_)
              · exact ev_bind (impl_TextOk_ev _ h5) (ev_as (ev_now _) (by rw [c, cn, c3, c4, c1]; simp [s2]))
              · exact ev_as (ev_now _) (by simp [s2, c4])
            · exact ev_as (ev_now _) (by simp [s2, c3])
          · have c1' := Bool.eq_false_iff.2 c1
            exact ev_as (ev_now _) (by rw [c1']; simp [s2])
        · refine ev_ite (fun c1 => ?_) (fun c1 => ?_)
          · refine ev_bind1 (impl_sockIdOk_eq _) ?_
            refine ev_ite (fun c3 => ?_) (fun c3 => ?_)
            · exact ev_as (ev_now _) (by rw [c, cn, c3, c1]; simp [s3])
            · exact ev_as (ev_now _) (by simp [s3, c3])
          · have c1' := Bool.eq_false_iff.2 c1
            exact ev_as (ev_now _) (by rw [c1']; simp [s3])
        · refine ev_ite (fun c1 => ?_) (fun c1 => ?_)
          · refine ev_bind1 (impl_sockIdOk_eq _) ?_
            refine ev_ite (fun c3 => ?_) (fun c3 => ?_)
            · exact ev_as (ev_now _) (by rw [c, cn, c3, c1]; simp [s4])
            · exact ev_as (ev_now _) (by simp [s4, c3])
          · have c1' := Bool.eq_false_iff.2 c1
            exact ev_as (ev_now _) (by rw [c1']; simp [s4])
        · exact ev_as (ev_now _) (by simp [s0, s1, s2, s3, s4])
      · exact ev_as (ev_now _) (by simp [s0, cn])
  · exact ev_as (ev_now _) (by simp [c])
theorem impl_AskerOk_ev (x : S90) (h1 : x.f1.size ≤ 4611686018427387904) (h5 : x.f5.size ≤ 4611686018427387904) : Ev (fun k => impl_AskerOk.f k x.f0 x.f1 x.f2 x.f3 x.f4 x.f5 x.f6 x.f7) (askerB x.f0 x.f1 x.f2 x.f3 x.f4 x.f5 x.f6 x.f7) := impl_AskerOk_core _ _ _ _ _ _ _ _ h1 h5

/-! ### impl_PutText -/
theorem impl_PutText_ev (l : List Int) (s : ByteArray) (hl : l.length ≤ 1000000000000) (hs : s.size ≤ 1000000000000) : Ev (fun k => impl_PutText.f k l s) (putTextV l s) := by
  unfold impl_PutText.f putTextV
  simp only [Option.bind_some]
  refine ev_bind1 (slices_Clone_byte_eq l (by omega)) (ev_bind (impl_TextOk_ev s (by omega)) (ev_ite (fun c => ?_) (fun c => ?_)))
  · exact ev_pos (by omega) (ev_pos (by rw [List.length_append]; simp only [List.length_cons, List.length_nil]; omega) (ev_as (ev_now _) (by rw [if_pos c])))
  · exact ev_as (ev_now _) (by rw [if_neg c])

/-! ### impl_putSince -/
theorem impl_putSince_eq (l : List Int) (n : Int) (hl : l.length ≤ 1000000000) : impl_putSince.f l n = some (sinceV l n) := by
  unfold impl_putSince.f sinceV
  rw [impl_PutWord_eq l _ (by omega), Option.bind_some, if_pos (by rw [putWordV_len]; omega)]

/-! ### impl_LineOk -/
theorem impl_LineOk_j0 (b : Bool) (x0 : Int) (x1 : ByteArray) (x2 x3 x4 x5 x6 : Int) : Ev (fun k => impl_LineOk.j0 k b x0 x1 x2 x3 x4 x5 x6)
    (!b && (if x3 = 0 then inB x4 0 100000 && (x5 == 0 && x6 == 0) else if x3 = 1 ∨ x3 = 2 then x4 == 0 && (inB x5 1 9999 && decide (x6 ≥ 1)) else false)) := by
  refine ev_step (fun k => impl_LineOk.j0.eq_2 ..) ?_
  refine ev_ite (fun c => ?_) (fun c => ?_)
  · exact ev_as (ev_now _) (by simp [c])
  · have hb : b = false := by simpa using c
    refine ev_ite (fun c1 => ?_) (fun c1 => ev_ite (fun c2 => ?_) (fun c2 => ev_ite (fun c3 => ?_) (fun c3 => ?_)))
    · refine ev_bind1 (impl_sinceOk_eq x4) ?_
      refine ev_ite (fun c2 => ev_ite (fun c3 => ?_) (fun c3 => ?_)) (fun c2 => ?_)
      all_goals exact ev_as (ev_now _) (by simp_all)
    · refine ev_ite (fun c3 => ?_) (fun c3 => ?_)
      · refine ev_bind1 (impl_sockIdOk_eq x5) ?_
        refine ev_ite (fun c4 => ?_) (fun c4 => ?_)
        all_goals exact ev_as (ev_now _) (by simp_all)
      · exact ev_as (ev_now _) (by simp_all)
    · refine ev_ite (fun c3 => ?_) (fun c3 => ?_)
      · refine ev_bind1 (impl_sockIdOk_eq x5) ?_
        refine ev_ite (fun c4 => ?_) (fun c4 => ?_)
        all_goals exact ev_as (ev_now _) (by simp_all)
      · exact ev_as (ev_now _) (by simp_all)
    · exact ev_as (ev_now _) (by simp [c1, c2, c3])
theorem impl_LineOk_ev (x : S124) (hs : x.f1.size ≤ 4611686018427387904) : Ev (fun k => impl_LineOk.f k x.f0 x.f1 x.f2 x.f3 x.f4 x.f5 x.f6) (lineB x.f0 x.f1 x.f2 x.f3 x.f4 x.f5 x.f6) := by
  unfold impl_LineOk.f lineB
  refine ev_bind1 (impl_sockIdOk_eq _) ?_
  refine ev_ite (fun c => ?_) (fun c => ?_)
  · refine ev_bind (impl_nameOk_ev _ hs) ?_
    refine ev_ite (fun c2 => ?_) (fun c2 => ?_)
    · refine ev_bind1 (impl_isIn_eq _ _ _) ?_
      exact ev_as (impl_LineOk_j0 ..) (by rw [c, c2]; simp)
    · exact ev_as (impl_LineOk_j0 ..) (by simp [c2])
  · exact ev_as (impl_LineOk_j0 ..) (by simp [c])

/-! ### impl_PutItem -/
theorem impl_PutItem_ev (k : Int) (a : S90) (l : S124) (h1 : a.f1.size ≤ 1000000000) (h5 : a.f5.size ≤ 1000000000) (hl : l.f1.size ≤ 1000000000) :
    Ev (fun n => impl_PutItem.f n k a.f0 a.f1 a.f2 a.f3 a.f4 a.f5 a.f6 a.f7 l.f0 l.f1 l.f2 l.f3 l.f4 l.f5 l.f6) (itemV k a l) := by
  have n2 : ∀ y, Ev (fun n => impl_PutItem.j1 n y false k a.f0 a.f1 a.f2 a.f3 a.f4 a.f5 a.f6 a.f7 l.f0 l.f1 l.f2 l.f3 l.f4 l.f5 l.f6) [] := fun y => ev_step (fun n => impl_PutItem.j1.eq_2 ..) (ev_neg (by simp) (ev_now _))
  have p2 : Ev (fun n => impl_PutItem.j1 n [2] true k a.f0 a.f1 a.f2 a.f3 a.f4 a.f5 a.f6 a.f7 l.f0 l.f1 l.f2 l.f3 l.f4 l.f5 l.f6) (lineV l) := by
    have t1 := putTextV_len (putWordV [2] l.f0 ++ [l.f3 % 256]) l.f1
    simp only [putWordV_len, List.length_append, List.length_cons, List.length_nil] at t1
    refine ev_step (fun n => impl_PutItem.j1.eq_2 ..) (ev_pos rfl ?_)
    refine ev_bind1 (impl_PutWord_eq _ _ (by simp)) (ev_bind1 rfl (ev_pos (by simp only [putWordV_len, List.length_cons, List.length_nil]; omega) ?_))
    refine ev_bind (impl_PutText_ev _ _ (by simp only [putWordV_len, List.length_append, List.length_cons, List.length_nil]; omega) (by omega)) ?_
    refine ev_bind1 (impl_PutWord_eq _ _ (by omega)) (ev_bind1 (impl_putSince_eq _ _ (by rw [putWordV_len]; omega)) ?_)
    exact ev_bind1 (impl_PutWord_eq _ _ (by simp only [sinceV_len, putWordV_len]; omega)) (ev_bind1 (impl_PutWord_eq _ _ (by simp only [sinceV_len, putWordV_len]; omega)) (ev_now _))
  have p1 : Ev (fun n => impl_PutItem.j0 n [1] true k a.f0 a.f1 a.f2 a.f3 a.f4 a.f5 a.f6 a.f7 l.f0 l.f1 l.f2 l.f3 l.f4 l.f5 l.f6) (askV a) := by
    have t1 := putTextV_len (putWordV [1] a.f0 ++ [a.f2 % 256]) a.f1
    have t2 := putTextV_len (sinceV (putWordV (putTextV (putWordV [1] a.f0 ++ [a.f2 % 256]) a.f1) a.f3) a.f4) a.f5
    simp only [putWordV_len, sinceV_len, List.length_append, List.length_cons, List.length_nil] at t1 t2
    refine ev_step (fun n => impl_PutItem.j0.eq_2 ..) (ev_pos rfl ?_)
    refine ev_bind1 (impl_PutWord_eq _ _ (by simp)) (ev_bind1 rfl (ev_pos (by simp only [putWordV_len, List.length_cons, List.length_nil]; omega) ?_))
    refine ev_bind (impl_PutText_ev _ _ (by simp only [putWordV_len, List.length_append, List.length_cons, List.length_nil]; omega) (by omega)) ?_
    refine ev_bind1 (impl_PutWord_eq _ _ (by omega)) (ev_bind1 (impl_putSince_eq _ _ (by rw [putWordV_len]; omega)) ?_)
    refine ev_bind (impl_PutText_ev _ _ (by simp only [sinceV_len, putWordV_len]; omega) (by omega)) ?_
    exact ev_bind1 (impl_PutWord_eq _ _ (by omega)) (ev_bind1 (impl_PutWord_eq _ _ (by rw [putWordV_len]; omega)) (ev_now _))
  have z1 : (l.f0 == 0 && (l.f1.toList == ([] : List UInt8) && (l.f2 == 0 && (l.f3 == 0 && (l.f4 == 0 && (l.f5 == 0 && (l.f6 == 0))))))) = zeroL l := rfl
  have z2 : (a.f0 == 0 && (a.f1.toList == ([] : List UInt8) && (a.f2 == 0 && (a.f3 == 0 && (a.f4 == 0 && (a.f5.toList == ([] : List UInt8) && (a.f6 == 0 && (a.f7 == 0)))))))) = zeroA a := rfl
  have q : ∀ y, (k = 2 → y = [2]) → k ≠ 1 → Ev (fun n => impl_PutItem.j0 n y false k a.f0 a.f1 a.f2 a.f3 a.f4 a.f5 a.f6 a.f7 l.f0 l.f1 l.f2 l.f3 l.f4 l.f5 l.f6) (itemV k a l) := by
    intro y hy c
    refine ev_step (fun n => impl_PutItem.j0.eq_2 ..) (ev_neg (by simp) ?_)
    unfold itemV itemB
    rw [z2]
    refine ev_ite (fun c' => ?_) (fun c' => ?_)
    · obtain rfl := hy c'
      refine ev_bind (impl_LineOk_ev l (by omega)) (ev_ite (fun d => ev_ite (fun e => ?_) (fun e => ?_)) (fun d => ?_))
      · refine ev_bind1 (impl_wordOk_eq _) ?_
        have h0 := lineB_lease _ _ _ _ _ _ _ d
        by_cases f : l.f6 > 65535
        · rw [(inB_false _ _ _).2 (.inr (by omega))]
          exact ev_as (n2 _) (by rw [if_neg]; rw [if_neg c, if_pos c', d]; simp [f])
        · rw [(inB_iff _ _ _).2 ⟨h0, by omega⟩]
          exact ev_as p2 (by rw [if_pos, if_neg c]; rw [if_neg c, if_pos c', d, e]; simp; omega)
      · exact ev_as (n2 _) (by rw [if_neg]; rw [if_neg c, if_pos c', d]; simp at e; simp [e])
      · exact ev_as (n2 _) (by rw [if_neg]; rw [if_neg c, if_pos c']; simp [d])
    · exact ev_as (n2 _) (by rw [if_neg]; rw [if_neg c, if_neg c']; simp)
  have q1 : ∀ y, k = 1 → itemB k a l = false → Ev (fun n => impl_PutItem.j0 n y false k a.f0 a.f1 a.f2 a.f3 a.f4 a.f5 a.f6 a.f7 l.f0 l.f1 l.f2 l.f3 l.f4 l.f5 l.f6) (itemV k a l) := by
    intro y c hf
    unfold itemV
    rw [hf]
    exact ev_step (fun n => impl_PutItem.j0.eq_2 ..) (ev_neg (by simp) (ev_neg (by omega) (ev_as (n2 _) (by simp))))
  unfold impl_PutItem.f
  rw [z1]
  refine ev_bind1 rfl (ev_ite (fun c => ?_) (fun c => q _ (fun e => by rw [e]; rfl) c))
  have hy : ([k % 256] : List Int) = [1] := by rw [c]; rfl
  rw [hy]
  refine ev_bind (impl_AskerOk_core _ _ _ _ _ _ _ _ (by omega) (by omega)) (ev_ite (fun d => ev_ite (fun e => ?_) (fun e => ?_)) (fun d => ?_))
  · refine ev_bind1 (impl_wordOk_eq _) ?_
    have h0 := askerB_lease _ _ _ _ _ _ _ _ d
    by_cases f : a.f7 > 65535
    · rw [(inB_false _ _ _).2 (.inr (by omega))]
      exact q1 _ c (by unfold itemB; rw [if_pos c, d]; simp [f])
    · rw [(inB_iff _ _ _).2 ⟨h0, by omega⟩]
      exact ev_as p1 (by unfold itemV itemB; rw [if_pos, if_pos c]; rw [if_pos c, d, e]; simp; omega)
  · exact q1 _ c (by unfold itemB; rw [if_pos c, d]; simp at e; simp [e])
  · exact q1 _ c (by unfold itemB; rw [if_pos c]; simp [d])

/-! ### impl_CtlOk -/
theorem impl_CtlOk_l0 (ki fr id n of : Int) (pa : Bool) (ti : Int) (l : List S126) (hl : l.length ≤ 1000000000) (hz : ∀ x ∈ l, x.f1.f1.size ≤ 1000000000 ∧ x.f1.f5.size ≤ 1000000000 ∧ x.f2.f1.size ≤ 1000000000) (d : Nat) : ∀ i : Nat, i + d = l.length → Ev (fun k => impl_CtlOk.l0 k l (l.length : Int) (i : Int) ki fr id n of pa ti l) ((l.drop i).all itemOkB && partB n of ti l.length) := by
  induction d with
  | zero =>
    intro i hi
    refine ev_step (fun k => impl_CtlOk.l0.eq_2 ..) (ev_neg (by omega) ?_)
    have hd : l.drop i = [] := List.drop_of_length_le (by omega)
    rw [hd]
    unfold partB
    refine ev_bind1 (impl_isIn_eq _ _ _) (ev_ite (fun c => ev_bind1 (impl_isIn_eq _ _ _) (ev_ite (fun c1 => ev_bind1 (impl_wordOk_eq _) (ev_ite (fun c2 => ?_) (fun c2 => ?_))) (fun c1 => ?_))) (fun c => ?_))
    · exact ev_as (ev_now _) (by simp [c, c1, c2]; omega)
    · exact ev_as (ev_now _) (by simp [c2])
    · exact ev_as (ev_now _) (by simp [c1])
    · exact ev_as (ev_now _) (by simp [c])
  | succ d ih =>
    intro i hi
    have hn := ih (i + 1) (by omega)
    have hlt : i < l.length := by omega
    have hr : rd_T126 l (i : Int) = l[i] := getD_nth _ l i hlt
    have hd : l.drop i = l[i] :: l.drop (i + 1) := List.drop_eq_getElem_cons hlt
    have h := hz l[i] (List.getElem_mem hlt)
    rw [hd, List.all_cons]
    refine ev_step (fun k => impl_CtlOk.l0.eq_2 ..) (ev_pos (by omega) (ev_pos (by omega) (ev_pos (by omega) (?_))))
    simp only [hr]
    rw [w64 (by omega) (by omega)]
    refine ev_bind (impl_PutItem_ev l[i].f0 l[i].f1 l[i].f2 h.1 h.2.1 h.2.2) (ev_ite (fun c => ?_) (fun c => ?_))
    · have := (itemV_nil l[i].f0 l[i].f1 l[i].f2).1 (by omega)
      exact ev_as (ev_now _) (by unfold itemOkB; rw [this]; rfl)
    · have : itemB l[i].f0 l[i].f1 l[i].f2 = true := by
        rw [← Bool.not_eq_false]
        exact fun e => c (by have := (itemV_nil l[i].f0 l[i].f1 l[i].f2).2 e; omega)
      exact ev_as hn (by unfold itemOkB; rw [this]; simp)
theorem impl_CtlOk_ev (ki fr id n of : Int) (pa : Bool) (ti : Int) (l : List S126) (hl : l.length ≤ 1000000000) (hz : ∀ x ∈ l, x.f1.f1.size ≤ 1000000000 ∧ x.f1.f5.size ≤ 1000000000 ∧ x.f2.f1.size ≤ 1000000000) : Ev (fun k => impl_CtlOk.f k ki fr id n of pa ti l) (ctlB ki fr id n of pa ti l) := by
  have h0 := impl_CtlOk_l0 ki fr id n of pa ti l hl hz l.length 0 (by omega)
  have hL : ((l.length : Int) == 0) = decide (l.length = 0) := by
    by_cases e : l.length = 0
    · rw [e]; rfl
    · rw [decide_eq_false e]
      exact beq_eq_false_iff_ne.2 (by omega)
  unfold impl_CtlOk.f ctlB
  refine ev_bind1 (impl_isIn_eq _ _ _) (ev_ite (fun c => ev_bind1 (impl_isIn_eq _ _ _) (ev_step (fun k => impl_CtlOk.j0.eq_2 ..) (ev_ite (fun c1 => ?_) (fun c1 => ev_ite (fun c2 => ?_) (fun c2 => ev_ite (fun c3 => ?_) (fun c3 => ev_ite (fun c4 => ?_) (fun c4 => ?_))))))) (fun c => ev_step (fun k => impl_CtlOk.j0.eq_2 ..) (ev_pos rfl (ev_as (ev_now _) (by simp [c])))))
  · exact ev_as (ev_now _) (by simp at c1; simp [c1])
  · exact ev_as h0 (by simp at c1; simp [c, c1, c2])
  · simp only [hL]
    simp at c1
    refine ev_bind1 (impl_isIn_eq _ _ _) (ev_ite (fun d => ev_ite (fun d1 => ev_ite (fun d2 => ?_) (fun d2 => ev_ite (fun d3 => ?_) (fun d3 => ?_))) (fun d1 => ?_)) (fun d => ?_))
    · exact ev_as (ev_now _) (by simp [c3, d2])
    · exact ev_as (ev_now _) (by simp at d2; simp [c, c1, c3, d, d1, d2, d3])
    · exact ev_as (ev_now _) (by simp [c3, d3])
    · exact ev_as (ev_now _) (by simp [c3, d1])
    · exact ev_as (ev_now _) (by simp [c3, d])
  · simp only [hL]
    simp at c1
    refine ev_bind1 (impl_isIn_eq _ _ _) (ev_ite (fun d => ev_ite (fun d0 => ev_ite (fun d1 => ev_ite (fun d2 => ?_) (fun d2 => ev_ite (fun d3 => ?_) (fun d3 => ?_))) (fun d1 => ?_)) (fun d0 => ?_)) (fun d => ?_))
    · exact ev_as (ev_now _) (by simp [c4, d2])
    · exact ev_as (ev_now _) (by simp at d2; simp [c, c1, c4, d0, d1, d2, d3])
    · exact ev_as (ev_now _) (by simp [c4, d3])
    · exact ev_as (ev_now _) (by simp [c4, d1])
    · exact ev_as (ev_now _) (by simp [c4, d0])
    · have : ¬ n = 0 := by
        intro e
        rw [e] at d
        exact d (by decide)
      exact ev_as (ev_now _) (by simp [c4, this])
  · exact ev_as (ev_now _) (by simp [c2, c3, c4])

/-! ### impl_WayOk -/
theorem impl_WayOk_l0 (l : List S113) (hl : l.length ≤ 4611686018427387904) (d : Nat) : ∀ i : Nat, i + d = l.length → Ev (fun k => impl_WayOk.l0 k l l (l.length : Int) (i : Int)) ((l.drop i).all packB && decide ((l.length : Int) ≤ 12)) := by
  induction d with
  | zero =>
    intro i hi
    refine ev_step (fun k => impl_WayOk.l0.eq_2 ..) (ev_neg (by omega) ?_)
    rw [List.drop_of_length_le (by omega)]
    exact ev_as (ev_now _) (by simp)
  | succ d ih =>
    intro i hi
    have hlt : i < l.length := by omega
    have hr : rd_T113 l (i : Int) = l[i] := getD_nth _ l i hlt
    have hd : l.drop i = l[i] :: l.drop (i + 1) := List.drop_eq_getElem_cons hlt
    have hn := ih (i + 1) (by omega)
    refine ev_step (fun k => impl_WayOk.l0.eq_2 ..) (ev_pos (by omega) (ev_pos (by omega) (ev_pos (by omega) ?_)))
    simp only [hr]
    rw [w64 (by omega) (by omega), hd, List.all_cons]
    refine ev_bind1 (impl_isIn_eq _ _ _) ?_
    refine ev_ite (fun c => ev_ite (fun c2 => ?_) (fun c2 => ?_)) (fun c => ?_)
    · exact ev_as (ev_now _) (by simp [packB, c, c2])
    · refine ev_as hn ?_
      have : packB l[i] = true := by simp only [packB, c, Bool.true_and]; simpa using c2
      simp [this]
    · exact ev_as (ev_now _) (by simp [packB, c])
theorem impl_WayOk_ev (l : List S113) (hl : l.length ≤ 4611686018427387904) : Ev (fun k => impl_WayOk.f k l) (wayB l) := ev_as (impl_WayOk_l0 l hl l.length 0 (by omega)) (by simp [wayB])

/-! ### impl_Sum -/
theorem impl_Sum_l1 (l : List Int) (i : Nat) (hi : i < 1000000000000) (r : Int) (d : Nat) : ∀ (j : Nat) (s : Int), j + d = 8 → Ev (fun k => impl_Sum.l0 k (itS d s) l (l.length : Int) ((i : Int) + 1)) r → Ev (fun k => impl_Sum.l1 k s l (l.length : Int) (i : Int) (j : Int)) r := by
  induction d with
  | zero =>
    intro j s hj h
    refine ev_step (fun k => impl_Sum.l1.eq_2 ..) (ev_neg (by omega) ?_)
    rw [w64 (by omega) (by omega)]
    exact h
  | succ d ih =>
    intro j s hj h
    have e : wrap64 ((j : Int) + 1) = ((j + 1 : Nat) : Int) := by rw [w64 (by omega) (by omega)]; omega
    refine ev_step (fun k => impl_Sum.l1.eq_2 ..) (ev_pos (by omega) ?_)
    rw [e]
    have h' := ih (j + 1) (crcS s) (by omega) h
    unfold crcS at h'
    refine ev_ite (fun c => ?_) (fun c => ?_)
    · rw [if_pos c] at h'
      exact h'
    · rw [if_neg c] at h'
      exact h'
theorem impl_Sum_l0 (l : List Int) (hl : l.length ≤ 1000000000) (d : Nat) : ∀ (i : Nat) (s : Int), i + d = l.length → Ev (fun k => impl_Sum.l0 k s l (l.length : Int) (i : Int)) (Go.bits .and .i64 ((l.drop i).foldl sumS s) 65535) := by
  induction d with
  | zero =>
    intro i s hi
    rw [List.drop_of_length_le (by omega)]
    exact ev_step (fun k => impl_Sum.l0.eq_2 ..) (ev_neg (by omega) (ev_now _))
  | succ d ih =>
    intro i s hi
    have hlt : i < l.length := by omega
    have hr : rd l (i : Int) = l[i] := rd_nth l i hlt
    rw [List.drop_eq_getElem_cons hlt, List.foldl_cons]
    refine ev_step (fun k => impl_Sum.l0.eq_2 ..) (ev_pos (by omega) (ev_pos (by omega) (ev_pos (by omega) ?_)))
    rw [hr]
    have h := ih (i + 1) (sumS s l[i]) (by omega)
    rw [show ((i + 1 : Nat) : Int) = (i : Int) + 1 by omega] at h
    rw [Int.mul_comm 256]
    exact impl_Sum_l1 l i (by omega) _ 8 0 _ rfl h
theorem impl_Sum_ev (l : List Int) (hl : l.length ≤ 1000000000) : Ev (fun k => impl_Sum.f k l) (sumV l) := by
  have h := impl_Sum_l0 l hl l.length 0 65535 (by omega)
  rw [List.drop_zero] at h
  exact h

/-! ### impl_PutCtl -/
theorem impl_PutCtl_l0 (l : List S126) (hl : l.length ≤ 2000000) (hz : ∀ x ∈ l, x.f1.f1.size ≤ 1000000000 ∧ x.f1.f5.size ≤ 1000000000 ∧ x.f2.f1.size ≤ 1000000000) (d : Nat) : ∀ (i : Nat) (b : List Int), i + d = l.length → b.length + 300 * d ≤ 700000000 → Ev (fun k => impl_PutCtl.l0 k b l (l.length : Int) (i : Int)) (putWordV ((l.drop i).foldl itemsS b) (sumV ((l.drop i).foldl itemsS b))) := by
  induction d with
  | zero =>
    intro i b hi hb
    rw [List.drop_of_length_le (by omega)]
    exact ev_step (fun k => impl_PutCtl.l0.eq_2 ..) (ev_neg (by omega) (ev_bind (impl_Sum_ev b (by omega)) (ev_bind1 (impl_PutWord_eq b _ (by omega)) (ev_now _))))
  | succ d ih =>
    intro i b hi hb
    have hlt : i < l.length := by omega
    have hr : rd_T126 l (i : Int) = l[i] := getD_nth _ l i hlt
    have h := hz l[i] (List.getElem_mem hlt)
    have hv := itemV_len l[i].f0 l[i].f1 l[i].f2
    have hq : (itemsS b l[i]).length = b.length + 1 + (itemV l[i].f0 l[i].f1 l[i].f2).length := by unfold itemsS; simp only [List.length_append, List.length_cons, List.length_nil]
    have hn := ih (i + 1) (itemsS b l[i]) (by omega) (by omega)
    rw [List.drop_eq_getElem_cons hlt, List.foldl_cons]
    refine ev_step (fun k => impl_PutCtl.l0.eq_2 ..) (ev_pos (by omega) (ev_pos (by omega) (ev_pos (by omega) ?_)))
    simp only [hr]
    rw [w64 (by omega) (by omega)]
    refine ev_bind (impl_PutItem_ev l[i].f0 l[i].f1 l[i].f2 h.1 h.2.1 h.2.2) (ev_bind1 rfl (ev_pos (by simp only [List.length_cons, List.length_nil]; omega) (ev_bind1 rfl (ev_pos (by simp only [List.length_append, List.length_cons, List.length_nil]; omega) ?_))))
    rw [show (i : Int) + 1 = ((i + 1 : Nat) : Int) by omega]
    exact hn
theorem impl_PutCtl_ev (ki fr id n of : Int) (pa : Bool) (ti : Int) (l : List S126) (hl : l.length ≤ 2000000) (hz : ∀ x ∈ l, x.f1.f1.size ≤ 1000000000 ∧ x.f1.f5.size ≤ 1000000000 ∧ x.f2.f1.size ≤ 1000000000) : Ev (fun k => impl_PutCtl.f k ki fr id n of pa ti l) (ctlV ki fr id n of pa ti l) := by
  have h0 : ∀ p : Int, Ev (fun k => impl_PutCtl.j0 k p ki fr id n of pa ti l) (ctlX ki fr id n of (p) ti l) := by
    intro p
    refine ev_step (fun k => impl_PutCtl.j0.eq_2 ..) (ev_bind1 (impl_PutWord_eq _ _ (by simp)) (ev_bind1 rfl (ev_pos (by simp only [putWordV_len, List.length_cons, List.length_nil]; omega) (ev_bind1 (impl_PutWord_eq _ _ (by simp only [putWordV_len, List.length_append, List.length_cons, List.length_nil]; omega)) (ev_bind1 rfl (ev_pos (by simp only [putWordV_len, List.length_append, List.length_cons, List.length_nil]; omega) ?_))))))
    exact impl_PutCtl_l0 l hl hz l.length 0 _ (by omega) (by simp only [putWordV_len, List.length_append, List.length_cons, List.length_nil]; omega)
  unfold impl_PutCtl.f ctlV
  refine ev_bind (impl_CtlOk_ev ki fr id n of pa ti l (by omega) hz) (ev_ite (fun c => ev_ite (fun c1 => ?_) (fun c1 => ?_)) (fun c => ?_))
  · exact ev_as (h0 1) (by rw [if_pos c, if_pos c1])
  · exact ev_as (h0 0) (by rw [if_pos c, if_neg c1])
  · exact ev_as (ev_now _) (by rw [if_neg c])

/-! ### impl_Send -/
theorem impl_Send_ev (l : List S113) (hl : l.length ≤ 1000000000000) (hx : ∀ x ∈ l, x.f1.length ≤ 1000000000000) (ki fr id n of : Int) (pa : Bool) (ti : Int) (it : List S126) (hi : it.length ≤ 2000000) (hz : ∀ x ∈ it, x.f1.f1.size ≤ 1000000000 ∧ x.f1.f5.size ≤ 1000000000 ∧ x.f2.f1.size ≤ 1000000000) : Ev (fun k => impl_Send.f k l ki fr id n of pa ti it) (sendV l ki fr id n of pa ti it) := by
  unfold impl_Send.f sendV
  refine ev_bind (impl_wayCopy_ev l hl hx) (ev_bind (impl_CtlOk_ev ki fr id n of pa ti it (by omega) hz) ?_)
  by_cases h2 : ctlB ki fr id n of pa ti it = true
  · simp only [if_pos h2]
    refine ev_bind (impl_WayOk_ev l (by omega)) ?_
    by_cases h1 : wayB l = true
    · simp only [if_pos h1]
      by_cases h3 : (l.length : Int) = 12
      · simp only [if_pos h3]; exact ev_now _
      simp only [if_neg h3]
      exact ev_bind (impl_PutCtl_ev ki fr id n of pa ti it hi hz) (ev_pos (by omega) (ev_now _))
    · simp only [if_neg h1]; exact ev_now _
  · simp only [if_neg h2]
    exact ev_as (ev_now _) (by split <;> rfl)

/-! ### laws_eqByteS -/
def eqcl_ByteS (l : List Int) : Prop := l.length ≤ 4611686018427387904
theorem eq_ByteS_l0 (l : List Int) (hq : eqcl_ByteS l) (d : Nat) : ∀ i : Nat, i + d = l.length → Ev (fun k => laws_eqByteS.l0 k l l (i : Int)) true := by
  have hl : l.length ≤ 4611686018427387904 := hq
  induction d with
  | zero =>
    intro i hi
    exact ev_step (fun k => laws_eqByteS.l0.eq_2 ..) (ev_neg (by omega) (ev_now _))
  | succ d ih =>
    intro i hi
    have hn := ih (i + 1) (by omega)
    have hlt : i < l.length := by omega
    refine ev_step (fun k => laws_eqByteS.l0.eq_2 ..) (ev_pos (by omega) (ev_pos (by omega) (ev_pos (by omega) ?_)))
    rw [w64 (by omega) (by omega)]
    exact ev_pos rfl hn
theorem eq_ByteS (l : List Int) (hq : eqcl_ByteS l) : Ev (fun k => laws_eqByteS.f k l l) true := by
  unfold laws_eqByteS.f
  exact ev_pos rfl (eq_ByteS_l0 l hq l.length 0 (by omega))

/-! ### laws_eqPack -/
def eqc_Pack (x : S113) : Prop := eqcl_ByteS x.f1
theorem eq_Pack (x : S113) (hq : eqc_Pack x) : Ev (fun k => laws_eqPack.f k x.f0 x.f1 x.f0 x.f1) true := by
  unfold laws_eqPack.f
  exact ev_pos rfl (ev_bind (eq_ByteS x.f1 (hq)) (ev_pos rfl (ev_now _)))

/-! ### laws_eqPackS -/
def eqcl_PackS (l : List S113) : Prop := l.length ≤ 4611686018427387904 ∧ ∀ x ∈ l, eqc_Pack x
theorem eq_PackS_l0 (l : List S113) (hq : eqcl_PackS l) (d : Nat) : ∀ i : Nat, i + d = l.length → Ev (fun k => laws_eqPackS.l0 k l l (i : Int)) true := by
  have hl : l.length ≤ 4611686018427387904 := hq.1
  induction d with
  | zero =>
    intro i hi
    exact ev_step (fun k => laws_eqPackS.l0.eq_2 ..) (ev_neg (by omega) (ev_now _))
  | succ d ih =>
    intro i hi
    have hn := ih (i + 1) (by omega)
    have hlt : i < l.length := by omega
    refine ev_step (fun k => laws_eqPackS.l0.eq_2 ..) (ev_pos (by omega) (ev_pos (by omega) (ev_pos (by omega) ?_)))
    rw [w64 (by omega) (by omega)]
    have hr : rd_T113 l (i : Int) = l[i] := getD_nth _ l i hlt
    simp only [hr]
    exact ev_bind (eq_Pack _ (hq.2 _ (List.getElem_mem hlt))) (ev_pos rfl hn)
theorem eq_PackS (l : List S113) (hq : eqcl_PackS l) : Ev (fun k => laws_eqPackS.f k l l) true := by
  unfold laws_eqPackS.f
  exact ev_pos rfl (eq_PackS_l0 l hq l.length 0 (by omega))

/-! ### laws_eqAsker -/
theorem eq_Asker (x : S90) : Ev (fun k => laws_eqAsker.f x.f0 x.f1 x.f2 x.f3 x.f4 x.f5 x.f6 x.f7 x.f0 x.f1 x.f2 x.f3 x.f4 x.f5 x.f6 x.f7) true := by
  unfold laws_eqAsker.f
  exact ev_pos rfl (ev_pos rfl (ev_pos rfl (ev_pos rfl (ev_pos rfl (ev_pos rfl (ev_pos rfl (ev_pos rfl (ev_now _))))))))

/-! ### laws_eqLine -/
theorem eq_Line (x : S124) : Ev (fun k => laws_eqLine.f x.f0 x.f1 x.f2 x.f3 x.f4 x.f5 x.f6 x.f0 x.f1 x.f2 x.f3 x.f4 x.f5 x.f6) true := by
  unfold laws_eqLine.f
  exact ev_pos rfl (ev_pos rfl (ev_pos rfl (ev_pos rfl (ev_pos rfl (ev_pos rfl (ev_pos rfl (ev_now _)))))))

/-! ### laws_eqItem -/
theorem eq_Item (x : S126) : Ev (fun k => laws_eqItem.f x.f0 x.f1.f0 x.f1.f1 x.f1.f2 x.f1.f3 x.f1.f4 x.f1.f5 x.f1.f6 x.f1.f7 x.f2.f0 x.f2.f1 x.f2.f2 x.f2.f3 x.f2.f4 x.f2.f5 x.f2.f6 x.f0 x.f1.f0 x.f1.f1 x.f1.f2 x.f1.f3 x.f1.f4 x.f1.f5 x.f1.f6 x.f1.f7 x.f2.f0 x.f2.f1 x.f2.f2 x.f2.f3 x.f2.f4 x.f2.f5 x.f2.f6) true := by
  unfold laws_eqItem.f
  exact ev_pos rfl (ev_bind (eq_Asker x.f1) (ev_pos rfl (ev_bind (eq_Line x.f2) (ev_pos rfl (ev_now _)))))

/-! ### laws_eqItemS -/
def eqcl_ItemS (l : List S126) : Prop := l.length ≤ 4611686018427387904
theorem eq_ItemS_l0 (l : List S126) (hq : eqcl_ItemS l) (d : Nat) : ∀ i : Nat, i + d = l.length → Ev (fun k => laws_eqItemS.l0 k l l (i : Int)) true := by
  have hl : l.length ≤ 4611686018427387904 := hq
  induction d with
  | zero =>
    intro i hi
    exact ev_step (fun k => laws_eqItemS.l0.eq_2 ..) (ev_neg (by omega) (ev_now _))
  | succ d ih =>
    intro i hi
    have hn := ih (i + 1) (by omega)
    have hlt : i < l.length := by omega
    refine ev_step (fun k => laws_eqItemS.l0.eq_2 ..) (ev_pos (by omega) (ev_pos (by omega) (ev_pos (by omega) ?_)))
    rw [w64 (by omega) (by omega)]
    exact ev_bind (eq_Item _) (ev_pos rfl hn)
theorem eq_ItemS (l : List S126) (hq : eqcl_ItemS l) : Ev (fun k => laws_eqItemS.f k l l) true := by
  unfold laws_eqItemS.f
  exact ev_pos rfl (eq_ItemS_l0 l hq l.length 0 (by omega))

/-! ### laws_eqCtl -/
def eqc_Ctl (x : S63) : Prop := eqcl_ItemS x.f7
theorem eq_Ctl (x : S63) (hq : eqc_Ctl x) : Ev (fun k => laws_eqCtl.f k x.f0 x.f1 x.f2 x.f3 x.f4 x.f5 x.f6 x.f7 x.f0 x.f1 x.f2 x.f3 x.f4 x.f5 x.f6 x.f7) true := by
  unfold laws_eqCtl.f
  exact ev_pos rfl (ev_pos rfl (ev_pos rfl (ev_pos rfl (ev_pos rfl (ev_neg (by simp) (ev_pos rfl (ev_bind (eq_ItemS x.f7 (hq)) (ev_pos rfl (ev_now _)))))))))

/-! ### laws_markByteS -/
def mk_Byte (k : Int) : Int := k % 256
theorem mark_ByteS (l : List Int) (hl : l.length ≤ 4611686018427387904) (k : Int) (h0 : 0 ≤ k) (h1 : k + 1 * (l.length : Int) ≤ 4611686018427387904) : Ev (fun n => laws_markByteS.f n l k) (k + 1 * (l.length : Int), mkl mk_Byte 1 k l.length) := by
  refine mark_loop (g := fun n x k i => laws_markByteS.l0 n x k i) (by omega) (fun x k i hi => ev_step (fun n => laws_markByteS.l0.eq_2 ..) (ev_neg (by omega) (ev_now _))) (fun x k i r hi hx h0 h1 hn => ?_) l hl k h0 h1
  refine ev_step (fun n => laws_markByteS.l0.eq_2 ..) (ev_pos (by omega) (ev_pos (by omega) ?_))
  have wi : wrap64 ((i : Int) + 1) = (i : Int) + 1 := w64 (by omega) (by omega)
  have w1 : wrap64 (k + 1) = k + 1 := w64 (by omega) (by omega)
  rw [show k + 1 = k + 1 by omega] at hn
  simp only [wi, w1, Int.toNat_natCast]
  exact hn

/-! ### laws_markPackS -/
def szp : List S113 → Nat
  | [] => 0
  | x :: l => 1 + x.f1.length + szp l
theorem szp_append (l m : List S113) : szp (l ++ m) = szp l + szp m := by
  induction l with
  | nil => simp [szp]
  | cons x l ih => simp only [List.cons_append, szp, ih]; omega
theorem szp_mem (l : List S113) (x : S113) (h : x ∈ l) : 1 + x.f1.length ≤ szp l := by
  induction l with
  | nil => cases h
  | cons y l ih =>
    rcases List.mem_cons.1 h with rfl | h
    · simp only [szp]; omega
    · have := ih h; simp only [szp]; omega
theorem szp_len (l : List S113) : l.length ≤ szp l := by
  induction l with
  | nil => simp [szp]
  | cons y l ih => simp only [szp, List.length_cons]; omega
def mkPl : List S113 → Int → List S113
  | [], _ => []
  | x :: l, k => ⟨k, mkl mk_Byte 1 (k + 1) x.f1.length⟩ :: mkPl l (k + 1 + 1 * (x.f1.length : Int))
theorem mark_PackS : ∀ (l : List S113) (k : Int), 0 ≤ k → k + (szp l : Int) ≤ 1000000000000 → Ev (fun n => laws_markPackS.f n l k) (k + (szp l : Int), mkPl l k)
  | [], k, h0, h1 => ev_as (ev_now (k, [])) (by simp [szp, mkPl])
  | x :: l, k, h0, h1 => by
    have e : szp (x :: l) = 1 + x.f1.length + szp l := rfl
    rw [e] at h1 ⊢
    have w1 : wrap64 (k + 1) = k + 1 := w64 (by omega) (by omega)
    unfold laws_markPackS.f
    simp only [w1]
    refine ev_bind (mark_ByteS x.f1 (by omega) (k + 1) (by omega) (by omega)) (ev_bind (mark_PackS l (k + 1 + 1 * (x.f1.length : Int)) (by omega) (by omega)) (ev_as (ev_now _) ?_))
    simp only [mkPl, Prod.mk.injEq, and_true]
    omega

/-! ### laws_markText -/
theorem markText_l0 (m : Nat) : ∀ (k : Int) (x : ByteArray), k.toNat ≤ m → x.size + m ≤ 4611686018427387905 → ∃ s, Ev (fun n => laws_markText.l0 n k x) s := by
  induction m with
  | zero =>
    intro k x hk hx
    exact ⟨_, ev_step (fun n => laws_markText.l0.eq_2 ..) (ev_neg (by omega) (ev_pos (by omega) (ev_now _)))⟩
  | succ m ih =>
    intro k x hk hx
    by_cases hc : k > 0
    · have e : Int.tdiv k 10 = k / 10 := Int.tdiv_eq_ediv_of_nonneg (by omega)
      have e2 : wrap64 (Int.tdiv k 10) = k / 10 := by rw [e]; exact w64 (by omega) (by omega)
      obtain ⟨s, hs⟩ := ih (k / 10) (strOfNums [(wrap64 (48 + (Int.tmod k 10))) % 256] ++ x) (by omega) (by rw [ByteArray.size_append, strOfNums_size]; simp; omega)
      refine ⟨s, ev_step (fun n => laws_markText.l0.eq_2 ..) (ev_pos hc (ev_bind1 rfl (ev_pos (by rw [strOfNums_size]; simp; omega) ?_)))⟩
      rw [e2]
      exact hs
    · exact ⟨_, ev_step (fun n => laws_markText.l0.eq_2 ..) (ev_neg hc (ev_pos (by omega) (ev_now _)))⟩
theorem markText_some (k : Int) (h0 : 0 ≤ k) (h1 : k ≤ 4611686018427387904) : ∃ s, Ev (fun n => laws_markText.f n k) s := by
  unfold laws_markText.f
  by_cases hc : k ≤ 0
  · exact ⟨_, ev_pos hc (ev_now _)⟩
  · obtain ⟨s, hs⟩ := markText_l0 k.toNat k ⟨#[]⟩ (Nat.le_refl _) (by show 0 + _ ≤ _; omega)
    exact ⟨s, ev_neg hc hs⟩
/-- The mark's text. -/
noncomputable def mtV (k : Int) : ByteArray := open Classical in if h : ∃ s, Ev (fun n => laws_markText.f n k) s then Classical.choose h else ByteArray.empty
theorem markText_ev (k : Int) (h0 : 0 ≤ k) (h1 : k ≤ 4611686018427387904) : Ev (fun n => laws_markText.f n k) (mtV k) := by
  unfold mtV
  rw [dif_pos (markText_some k h0 h1)]
  exact Classical.choose_spec (markText_some k h0 h1)

/-! ### laws_markItemS -/
noncomputable def mk_Item (k : Int) : S126 := ⟨k, ⟨k + 1, mtV (k + 1 + 1), k + 1 + 1 + 1, k + 1 + 1 + 1 + 1, k + 1 + 1 + 1 + 1 + 1, mtV (k + 1 + 1 + 1 + 1 + 1 + 1), k + 1 + 1 + 1 + 1 + 1 + 1 + 1, k + 1 + 1 + 1 + 1 + 1 + 1 + 1 + 1⟩, ⟨k + 1 + 1 + 1 + 1 + 1 + 1 + 1 + 1 + 1, mtV (k + 1 + 1 + 1 + 1 + 1 + 1 + 1 + 1 + 1 + 1), k + 1 + 1 + 1 + 1 + 1 + 1 + 1 + 1 + 1 + 1 + 1, k + 1 + 1 + 1 + 1 + 1 + 1 + 1 + 1 + 1 + 1 + 1 + 1, k + 1 + 1 + 1 + 1 + 1 + 1 + 1 + 1 + 1 + 1 + 1 + 1 + 1, k + 1 + 1 + 1 + 1 + 1 + 1 + 1 + 1 + 1 + 1 + 1 + 1 + 1 + 1, k + 1 + 1 + 1 + 1 + 1 + 1 + 1 + 1 + 1 + 1 + 1 + 1 + 1 + 1 + 1⟩⟩
theorem st_Item_1 {R : Type} {a0 a1 a2 a3 a4 a5 a6 a7 a8 a9 a10 a11 a12 a13 a14 a15 b : _} {x y : List S126} {i : Nat} {K : Nat → List S126 → Option R} {r : R} (hy : y = x.set i ⟨a0, ⟨a1, a2, a3, a4, a5, a6, a7, a8⟩, ⟨a9, a10, a11, a12, a13, a14, a15⟩⟩) (hi : i < x.length) (h : Ev (fun n => K n (x.set i ⟨a0, ⟨b, a2, a3, a4, a5, a6, a7, a8⟩, ⟨a9, a10, a11, a12, a13, a14, a15⟩⟩)) r) : Ev (fun n => (some (y.set i (⟨(rd_T126 y i).f0, ⟨b, (rd_T126 y i).f1.f1, (rd_T126 y i).f1.f2, (rd_T126 y i).f1.f3, (rd_T126 y i).f1.f4, (rd_T126 y i).f1.f5, (rd_T126 y i).f1.f6, (rd_T126 y i).f1.f7⟩, ⟨(rd_T126 y i).f2.f0, (rd_T126 y i).f2.f1, (rd_T126 y i).f2.f2, (rd_T126 y i).f2.f3, (rd_T126 y i).f2.f4, (rd_T126 y i).f2.f5, (rd_T126 y i).f2.f6⟩⟩ : S126))).bind (K n)) r := by
  subst hy; have rs : ∀ v, rd_T126 (x.set i v) i = v := fun v => getD_set x i v hi
  simp only [rs, List.set_set]; exact ev_bind1 rfl h
theorem st_Item_2 {R : Type} {a0 a1 a2 a3 a4 a5 a6 a7 a8 a9 a10 a11 a12 a13 a14 a15 b : _} {x y : List S126} {i : Nat} {K : Nat → List S126 → Option R} {r : R} (hy : y = x.set i ⟨a0, ⟨a1, a2, a3, a4, a5, a6, a7, a8⟩, ⟨a9, a10, a11, a12, a13, a14, a15⟩⟩) (hi : i < x.length) (h : Ev (fun n => K n (x.set i ⟨a0, ⟨a1, b, a3, a4, a5, a6, a7, a8⟩, ⟨a9, a10, a11, a12, a13, a14, a15⟩⟩)) r) : Ev (fun n => (some (y.set i (⟨(rd_T126 y i).f0, ⟨(rd_T126 y i).f1.f0, b, (rd_T126 y i).f1.f2, (rd_T126 y i).f1.f3, (rd_T126 y i).f1.f4, (rd_T126 y i).f1.f5, (rd_T126 y i).f1.f6, (rd_T126 y i).f1.f7⟩, ⟨(rd_T126 y i).f2.f0, (rd_T126 y i).f2.f1, (rd_T126 y i).f2.f2, (rd_T126 y i).f2.f3, (rd_T126 y i).f2.f4, (rd_T126 y i).f2.f5, (rd_T126 y i).f2.f6⟩⟩ : S126))).bind (K n)) r := by
  subst hy; have rs : ∀ v, rd_T126 (x.set i v) i = v := fun v => getD_set x i v hi
  simp only [rs, List.set_set]; exact ev_bind1 rfl h
theorem st_Item_3 {R : Type} {a0 a1 a2 a3 a4 a5 a6 a7 a8 a9 a10 a11 a12 a13 a14 a15 b : _} {x y : List S126} {i : Nat} {K : Nat → List S126 → Option R} {r : R} (hy : y = x.set i ⟨a0, ⟨a1, a2, a3, a4, a5, a6, a7, a8⟩, ⟨a9, a10, a11, a12, a13, a14, a15⟩⟩) (hi : i < x.length) (h : Ev (fun n => K n (x.set i ⟨a0, ⟨a1, a2, b, a4, a5, a6, a7, a8⟩, ⟨a9, a10, a11, a12, a13, a14, a15⟩⟩)) r) : Ev (fun n => (some (y.set i (⟨(rd_T126 y i).f0, ⟨(rd_T126 y i).f1.f0, (rd_T126 y i).f1.f1, b, (rd_T126 y i).f1.f3, (rd_T126 y i).f1.f4, (rd_T126 y i).f1.f5, (rd_T126 y i).f1.f6, (rd_T126 y i).f1.f7⟩, ⟨(rd_T126 y i).f2.f0, (rd_T126 y i).f2.f1, (rd_T126 y i).f2.f2, (rd_T126 y i).f2.f3, (rd_T126 y i).f2.f4, (rd_T126 y i).f2.f5, (rd_T126 y i).f2.f6⟩⟩ : S126))).bind (K n)) r := by
  subst hy; have rs : ∀ v, rd_T126 (x.set i v) i = v := fun v => getD_set x i v hi
  simp only [rs, List.set_set]; exact ev_bind1 rfl h
theorem st_Item_4 {R : Type} {a0 a1 a2 a3 a4 a5 a6 a7 a8 a9 a10 a11 a12 a13 a14 a15 b : _} {x y : List S126} {i : Nat} {K : Nat → List S126 → Option R} {r : R} (hy : y = x.set i ⟨a0, ⟨a1, a2, a3, a4, a5, a6, a7, a8⟩, ⟨a9, a10, a11, a12, a13, a14, a15⟩⟩) (hi : i < x.length) (h : Ev (fun n => K n (x.set i ⟨a0, ⟨a1, a2, a3, b, a5, a6, a7, a8⟩, ⟨a9, a10, a11, a12, a13, a14, a15⟩⟩)) r) : Ev (fun n => (some (y.set i (⟨(rd_T126 y i).f0, ⟨(rd_T126 y i).f1.f0, (rd_T126 y i).f1.f1, (rd_T126 y i).f1.f2, b, (rd_T126 y i).f1.f4, (rd_T126 y i).f1.f5, (rd_T126 y i).f1.f6, (rd_T126 y i).f1.f7⟩, ⟨(rd_T126 y i).f2.f0, (rd_T126 y i).f2.f1, (rd_T126 y i).f2.f2, (rd_T126 y i).f2.f3, (rd_T126 y i).f2.f4, (rd_T126 y i).f2.f5, (rd_T126 y i).f2.f6⟩⟩ : S126))).bind (K n)) r := by
  subst hy; have rs : ∀ v, rd_T126 (x.set i v) i = v := fun v => getD_set x i v hi
  simp only [rs, List.set_set]; exact ev_bind1 rfl h
theorem st_Item_5 {R : Type} {a0 a1 a2 a3 a4 a5 a6 a7 a8 a9 a10 a11 a12 a13 a14 a15 b : _} {x y : List S126} {i : Nat} {K : Nat → List S126 → Option R} {r : R} (hy : y = x.set i ⟨a0, ⟨a1, a2, a3, a4, a5, a6, a7, a8⟩, ⟨a9, a10, a11, a12, a13, a14, a15⟩⟩) (hi : i < x.length) (h : Ev (fun n => K n (x.set i ⟨a0, ⟨a1, a2, a3, a4, b, a6, a7, a8⟩, ⟨a9, a10, a11, a12, a13, a14, a15⟩⟩)) r) : Ev (fun n => (some (y.set i (⟨(rd_T126 y i).f0, ⟨(rd_T126 y i).f1.f0, (rd_T126 y i).f1.f1, (rd_T126 y i).f1.f2, (rd_T126 y i).f1.f3, b, (rd_T126 y i).f1.f5, (rd_T126 y i).f1.f6, (rd_T126 y i).f1.f7⟩, ⟨(rd_T126 y i).f2.f0, (rd_T126 y i).f2.f1, (rd_T126 y i).f2.f2, (rd_T126 y i).f2.f3, (rd_T126 y i).f2.f4, (rd_T126 y i).f2.f5, (rd_T126 y i).f2.f6⟩⟩ : S126))).bind (K n)) r := by
  subst hy; have rs : ∀ v, rd_T126 (x.set i v) i = v := fun v => getD_set x i v hi
  simp only [rs, List.set_set]; exact ev_bind1 rfl h
theorem st_Item_6 {R : Type} {a0 a1 a2 a3 a4 a5 a6 a7 a8 a9 a10 a11 a12 a13 a14 a15 b : _} {x y : List S126} {i : Nat} {K : Nat → List S126 → Option R} {r : R} (hy : y = x.set i ⟨a0, ⟨a1, a2, a3, a4, a5, a6, a7, a8⟩, ⟨a9, a10, a11, a12, a13, a14, a15⟩⟩) (hi : i < x.length) (h : Ev (fun n => K n (x.set i ⟨a0, ⟨a1, a2, a3, a4, a5, b, a7, a8⟩, ⟨a9, a10, a11, a12, a13, a14, a15⟩⟩)) r) : Ev (fun n => (some (y.set i (⟨(rd_T126 y i).f0, ⟨(rd_T126 y i).f1.f0, (rd_T126 y i).f1.f1, (rd_T126 y i).f1.f2, (rd_T126 y i).f1.f3, (rd_T126 y i).f1.f4, b, (rd_T126 y i).f1.f6, (rd_T126 y i).f1.f7⟩, ⟨(rd_T126 y i).f2.f0, (rd_T126 y i).f2.f1, (rd_T126 y i).f2.f2, (rd_T126 y i).f2.f3, (rd_T126 y i).f2.f4, (rd_T126 y i).f2.f5, (rd_T126 y i).f2.f6⟩⟩ : S126))).bind (K n)) r := by
  subst hy; have rs : ∀ v, rd_T126 (x.set i v) i = v := fun v => getD_set x i v hi
  simp only [rs, List.set_set]; exact ev_bind1 rfl h
theorem st_Item_7 {R : Type} {a0 a1 a2 a3 a4 a5 a6 a7 a8 a9 a10 a11 a12 a13 a14 a15 b : _} {x y : List S126} {i : Nat} {K : Nat → List S126 → Option R} {r : R} (hy : y = x.set i ⟨a0, ⟨a1, a2, a3, a4, a5, a6, a7, a8⟩, ⟨a9, a10, a11, a12, a13, a14, a15⟩⟩) (hi : i < x.length) (h : Ev (fun n => K n (x.set i ⟨a0, ⟨a1, a2, a3, a4, a5, a6, b, a8⟩, ⟨a9, a10, a11, a12, a13, a14, a15⟩⟩)) r) : Ev (fun n => (some (y.set i (⟨(rd_T126 y i).f0, ⟨(rd_T126 y i).f1.f0, (rd_T126 y i).f1.f1, (rd_T126 y i).f1.f2, (rd_T126 y i).f1.f3, (rd_T126 y i).f1.f4, (rd_T126 y i).f1.f5, b, (rd_T126 y i).f1.f7⟩, ⟨(rd_T126 y i).f2.f0, (rd_T126 y i).f2.f1, (rd_T126 y i).f2.f2, (rd_T126 y i).f2.f3, (rd_T126 y i).f2.f4, (rd_T126 y i).f2.f5, (rd_T126 y i).f2.f6⟩⟩ : S126))).bind (K n)) r := by
  subst hy; have rs : ∀ v, rd_T126 (x.set i v) i = v := fun v => getD_set x i v hi
  simp only [rs, List.set_set]; exact ev_bind1 rfl h
theorem st_Item_8 {R : Type} {a0 a1 a2 a3 a4 a5 a6 a7 a8 a9 a10 a11 a12 a13 a14 a15 b : _} {x y : List S126} {i : Nat} {K : Nat → List S126 → Option R} {r : R} (hy : y = x.set i ⟨a0, ⟨a1, a2, a3, a4, a5, a6, a7, a8⟩, ⟨a9, a10, a11, a12, a13, a14, a15⟩⟩) (hi : i < x.length) (h : Ev (fun n => K n (x.set i ⟨a0, ⟨a1, a2, a3, a4, a5, a6, a7, b⟩, ⟨a9, a10, a11, a12, a13, a14, a15⟩⟩)) r) : Ev (fun n => (some (y.set i (⟨(rd_T126 y i).f0, ⟨(rd_T126 y i).f1.f0, (rd_T126 y i).f1.f1, (rd_T126 y i).f1.f2, (rd_T126 y i).f1.f3, (rd_T126 y i).f1.f4, (rd_T126 y i).f1.f5, (rd_T126 y i).f1.f6, b⟩, ⟨(rd_T126 y i).f2.f0, (rd_T126 y i).f2.f1, (rd_T126 y i).f2.f2, (rd_T126 y i).f2.f3, (rd_T126 y i).f2.f4, (rd_T126 y i).f2.f5, (rd_T126 y i).f2.f6⟩⟩ : S126))).bind (K n)) r := by
  subst hy; have rs : ∀ v, rd_T126 (x.set i v) i = v := fun v => getD_set x i v hi
  simp only [rs, List.set_set]; exact ev_bind1 rfl h
theorem st_Item_9 {R : Type} {a0 a1 a2 a3 a4 a5 a6 a7 a8 a9 a10 a11 a12 a13 a14 a15 b : _} {x y : List S126} {i : Nat} {K : Nat → List S126 → Option R} {r : R} (hy : y = x.set i ⟨a0, ⟨a1, a2, a3, a4, a5, a6, a7, a8⟩, ⟨a9, a10, a11, a12, a13, a14, a15⟩⟩) (hi : i < x.length) (h : Ev (fun n => K n (x.set i ⟨a0, ⟨a1, a2, a3, a4, a5, a6, a7, a8⟩, ⟨b, a10, a11, a12, a13, a14, a15⟩⟩)) r) : Ev (fun n => (some (y.set i (⟨(rd_T126 y i).f0, ⟨(rd_T126 y i).f1.f0, (rd_T126 y i).f1.f1, (rd_T126 y i).f1.f2, (rd_T126 y i).f1.f3, (rd_T126 y i).f1.f4, (rd_T126 y i).f1.f5, (rd_T126 y i).f1.f6, (rd_T126 y i).f1.f7⟩, ⟨b, (rd_T126 y i).f2.f1, (rd_T126 y i).f2.f2, (rd_T126 y i).f2.f3, (rd_T126 y i).f2.f4, (rd_T126 y i).f2.f5, (rd_T126 y i).f2.f6⟩⟩ : S126))).bind (K n)) r := by
  subst hy; have rs : ∀ v, rd_T126 (x.set i v) i = v := fun v => getD_set x i v hi
  simp only [rs, List.set_set]; exact ev_bind1 rfl h
theorem st_Item_10 {R : Type} {a0 a1 a2 a3 a4 a5 a6 a7 a8 a9 a10 a11 a12 a13 a14 a15 b : _} {x y : List S126} {i : Nat} {K : Nat → List S126 → Option R} {r : R} (hy : y = x.set i ⟨a0, ⟨a1, a2, a3, a4, a5, a6, a7, a8⟩, ⟨a9, a10, a11, a12, a13, a14, a15⟩⟩) (hi : i < x.length) (h : Ev (fun n => K n (x.set i ⟨a0, ⟨a1, a2, a3, a4, a5, a6, a7, a8⟩, ⟨a9, b, a11, a12, a13, a14, a15⟩⟩)) r) : Ev (fun n => (some (y.set i (⟨(rd_T126 y i).f0, ⟨(rd_T126 y i).f1.f0, (rd_T126 y i).f1.f1, (rd_T126 y i).f1.f2, (rd_T126 y i).f1.f3, (rd_T126 y i).f1.f4, (rd_T126 y i).f1.f5, (rd_T126 y i).f1.f6, (rd_T126 y i).f1.f7⟩, ⟨(rd_T126 y i).f2.f0, b, (rd_T126 y i).f2.f2, (rd_T126 y i).f2.f3, (rd_T126 y i).f2.f4, (rd_T126 y i).f2.f5, (rd_T126 y i).f2.f6⟩⟩ : S126))).bind (K n)) r := by
  subst hy; have rs : ∀ v, rd_T126 (x.set i v) i = v := fun v => getD_set x i v hi
  simp only [rs, List.set_set]; exact ev_bind1 rfl h
theorem st_Item_11 {R : Type} {a0 a1 a2 a3 a4 a5 a6 a7 a8 a9 a10 a11 a12 a13 a14 a15 b : _} {x y : List S126} {i : Nat} {K : Nat → List S126 → Option R} {r : R} (hy : y = x.set i ⟨a0, ⟨a1, a2, a3, a4, a5, a6, a7, a8⟩, ⟨a9, a10, a11, a12, a13, a14, a15⟩⟩) (hi : i < x.length) (h : Ev (fun n => K n (x.set i ⟨a0, ⟨a1, a2, a3, a4, a5, a6, a7, a8⟩, ⟨a9, a10, b, a12, a13, a14, a15⟩⟩)) r) : Ev (fun n => (some (y.set i (⟨(rd_T126 y i).f0, ⟨(rd_T126 y i).f1.f0, (rd_T126 y i).f1.f1, (rd_T126 y i).f1.f2, (rd_T126 y i).f1.f3, (rd_T126 y i).f1.f4, (rd_T126 y i).f1.f5, (rd_T126 y i).f1.f6, (rd_T126 y i).f1.f7⟩, ⟨(rd_T126 y i).f2.f0, (rd_T126 y i).f2.f1, b, (rd_T126 y i).f2.f3, (rd_T126 y i).f2.f4, (rd_T126 y i).f2.f5, (rd_T126 y i).f2.f6⟩⟩ : S126))).bind (K n)) r := by
  subst hy; have rs : ∀ v, rd_T126 (x.set i v) i = v := fun v => getD_set x i v hi
  simp only [rs, List.set_set]; exact ev_bind1 rfl h
theorem st_Item_12 {R : Type} {a0 a1 a2 a3 a4 a5 a6 a7 a8 a9 a10 a11 a12 a13 a14 a15 b : _} {x y : List S126} {i : Nat} {K : Nat → List S126 → Option R} {r : R} (hy : y = x.set i ⟨a0, ⟨a1, a2, a3, a4, a5, a6, a7, a8⟩, ⟨a9, a10, a11, a12, a13, a14, a15⟩⟩) (hi : i < x.length) (h : Ev (fun n => K n (x.set i ⟨a0, ⟨a1, a2, a3, a4, a5, a6, a7, a8⟩, ⟨a9, a10, a11, b, a13, a14, a15⟩⟩)) r) : Ev (fun n => (some (y.set i (⟨(rd_T126 y i).f0, ⟨(rd_T126 y i).f1.f0, (rd_T126 y i).f1.f1, (rd_T126 y i).f1.f2, (rd_T126 y i).f1.f3, (rd_T126 y i).f1.f4, (rd_T126 y i).f1.f5, (rd_T126 y i).f1.f6, (rd_T126 y i).f1.f7⟩, ⟨(rd_T126 y i).f2.f0, (rd_T126 y i).f2.f1, (rd_T126 y i).f2.f2, b, (rd_T126 y i).f2.f4, (rd_T126 y i).f2.f5, (rd_T126 y i).f2.f6⟩⟩ : S126))).bind (K n)) r := by
  subst hy; have rs : ∀ v, rd_T126 (x.set i v) i = v := fun v => getD_set x i v hi
  simp only [rs, List.set_set]; exact ev_bind1 rfl h
theorem st_Item_13 {R : Type} {a0 a1 a2 a3 a4 a5 a6 a7 a8 a9 a10 a11 a12 a13 a14 a15 b : _} {x y : List S126} {i : Nat} {K : Nat → List S126 → Option R} {r : R} (hy : y = x.set i ⟨a0, ⟨a1, a2, a3, a4, a5, a6, a7, a8⟩, ⟨a9, a10, a11, a12, a13, a14, a15⟩⟩) (hi : i < x.length) (h : Ev (fun n => K n (x.set i ⟨a0, ⟨a1, a2, a3, a4, a5, a6, a7, a8⟩, ⟨a9, a10, a11, a12, b, a14, a15⟩⟩)) r) : Ev (fun n => (some (y.set i (⟨(rd_T126 y i).f0, ⟨(rd_T126 y i).f1.f0, (rd_T126 y i).f1.f1, (rd_T126 y i).f1.f2, (rd_T126 y i).f1.f3, (rd_T126 y i).f1.f4, (rd_T126 y i).f1.f5, (rd_T126 y i).f1.f6, (rd_T126 y i).f1.f7⟩, ⟨(rd_T126 y i).f2.f0, (rd_T126 y i).f2.f1, (rd_T126 y i).f2.f2, (rd_T126 y i).f2.f3, b, (rd_T126 y i).f2.f5, (rd_T126 y i).f2.f6⟩⟩ : S126))).bind (K n)) r := by
  subst hy; have rs : ∀ v, rd_T126 (x.set i v) i = v := fun v => getD_set x i v hi
  simp only [rs, List.set_set]; exact ev_bind1 rfl h
theorem st_Item_14 {R : Type} {a0 a1 a2 a3 a4 a5 a6 a7 a8 a9 a10 a11 a12 a13 a14 a15 b : _} {x y : List S126} {i : Nat} {K : Nat → List S126 → Option R} {r : R} (hy : y = x.set i ⟨a0, ⟨a1, a2, a3, a4, a5, a6, a7, a8⟩, ⟨a9, a10, a11, a12, a13, a14, a15⟩⟩) (hi : i < x.length) (h : Ev (fun n => K n (x.set i ⟨a0, ⟨a1, a2, a3, a4, a5, a6, a7, a8⟩, ⟨a9, a10, a11, a12, a13, b, a15⟩⟩)) r) : Ev (fun n => (some (y.set i (⟨(rd_T126 y i).f0, ⟨(rd_T126 y i).f1.f0, (rd_T126 y i).f1.f1, (rd_T126 y i).f1.f2, (rd_T126 y i).f1.f3, (rd_T126 y i).f1.f4, (rd_T126 y i).f1.f5, (rd_T126 y i).f1.f6, (rd_T126 y i).f1.f7⟩, ⟨(rd_T126 y i).f2.f0, (rd_T126 y i).f2.f1, (rd_T126 y i).f2.f2, (rd_T126 y i).f2.f3, (rd_T126 y i).f2.f4, b, (rd_T126 y i).f2.f6⟩⟩ : S126))).bind (K n)) r := by
  subst hy; have rs : ∀ v, rd_T126 (x.set i v) i = v := fun v => getD_set x i v hi
  simp only [rs, List.set_set]; exact ev_bind1 rfl h
set_option maxHeartbeats 8000000 in
theorem mark_ItemS (l : List S126) (hl : l.length ≤ 4611686018427387904) (k : Int) (h0 : 0 ≤ k) (h1 : k + 16 * (l.length : Int) ≤ 4611686018427387904) : Ev (fun n => laws_markItemS.f n l k) (k + 16 * (l.length : Int), mkl mk_Item 16 k l.length) := by
  refine mark_loop (g := fun n x k i => laws_markItemS.l0 n x k i) (by omega) (fun x k i hi => ev_step (fun n => laws_markItemS.l0.eq_2 ..) (ev_neg (by omega) (ev_now _))) (fun x k i r hi hx h0 h1 hn => ?_) l hl k h0 h1
  refine ev_step (fun n => laws_markItemS.l0.eq_2 ..) (ev_pos (by omega) (ev_pos (by omega) ?_))
  rw [show k + 16 = k + 1 + 1 + 1 + 1 + 1 + 1 + 1 + 1 + 1 + 1 + 1 + 1 + 1 + 1 + 1 + 1 by omega] at hn
  have ws : wrap64 ((i : Int) + 1) = (i : Int) + 1 ∧ wrap64 (k + 1) = k + 1 ∧ wrap64 (k + 1 + 1) = k + 1 + 1 ∧ wrap64 (k + 1 + 1 + 1) = k + 1 + 1 + 1 ∧ wrap64 (k + 1 + 1 + 1 + 1) = k + 1 + 1 + 1 + 1 ∧ wrap64 (k + 1 + 1 + 1 + 1 + 1) = k + 1 + 1 + 1 + 1 + 1 ∧ wrap64 (k + 1 + 1 + 1 + 1 + 1 + 1) = k + 1 + 1 + 1 + 1 + 1 + 1 ∧ wrap64 (k + 1 + 1 + 1 + 1 + 1 + 1 + 1) = k + 1 + 1 + 1 + 1 + 1 + 1 + 1 ∧ wrap64 (k + 1 + 1 + 1 + 1 + 1 + 1 + 1 + 1) = k + 1 + 1 + 1 + 1 + 1 + 1 + 1 + 1 ∧ wrap64 (k + 1 + 1 + 1 + 1 + 1 + 1 + 1 + 1 + 1) = k + 1 + 1 + 1 + 1 + 1 + 1 + 1 + 1 + 1 ∧ wrap64 (k + 1 + 1 + 1 + 1 + 1 + 1 + 1 + 1 + 1 + 1) = k + 1 + 1 + 1 + 1 + 1 + 1 + 1 + 1 + 1 + 1 ∧ wrap64 (k + 1 + 1 + 1 + 1 + 1 + 1 + 1 + 1 + 1 + 1 + 1) = k + 1 + 1 + 1 + 1 + 1 + 1 + 1 + 1 + 1 + 1 + 1 ∧ wrap64 (k + 1 + 1 + 1 + 1 + 1 + 1 + 1 + 1 + 1 + 1 + 1 + 1) = k + 1 + 1 + 1 + 1 + 1 + 1 + 1 + 1 + 1 + 1 + 1 + 1 ∧ wrap64 (k + 1 + 1 + 1 + 1 + 1 + 1 + 1 + 1 + 1 + 1 + 1 + 1 + 1) = k + 1 + 1 + 1 + 1 + 1 + 1 + 1 + 1 + 1 + 1 + 1 + 1 + 1 ∧ wrap64 (k + 1 + 1 + 1 + 1 + 1 + 1 + 1 + 1 + 1 + 1 + 1 + 1 + 1 + 1) = k + 1 + 1 + 1 + 1 + 1 + 1 + 1 + 1 + 1 + 1 + 1 + 1 + 1 + 1 ∧ wrap64 (k + 1 + 1 + 1 + 1 + 1 + 1 + 1 + 1 + 1 + 1 + 1 + 1 + 1 + 1 + 1) = k + 1 + 1 + 1 + 1 + 1 + 1 + 1 + 1 + 1 + 1 + 1 + 1 + 1 + 1 + 1 ∧ wrap64 (k + 1 + 1 + 1 + 1 + 1 + 1 + 1 + 1 + 1 + 1 + 1 + 1 + 1 + 1 + 1 + 1) = k + 1 + 1 + 1 + 1 + 1 + 1 + 1 + 1 + 1 + 1 + 1 + 1 + 1 + 1 + 1 + 1 := ⟨w64 (by omega) (by omega), w64 (by omega) (by omega), w64 (by omega) (by omega), w64 (by omega) (by omega), w64 (by omega) (by omega), w64 (by omega) (by omega), w64 (by omega) (by omega), w64 (by omega) (by omega), w64 (by omega) (by omega), w64 (by omega) (by omega), w64 (by omega) (by omega), w64 (by omega) (by omega), w64 (by omega) (by omega), w64 (by omega) (by omega), w64 (by omega) (by omega), w64 (by omega) (by omega), w64 (by omega) (by omega)⟩
  obtain ⟨wi, w1, w2, w3, w4, w5, w6, w7, w8, w9, w10, w11, w12, w13, w14, w15, w16⟩ := ws
  simp only [w1, w2, w3, w4, w5, w6, w7, w8, w9, w10, w11, w12, w13, w14, w15, w16, wi, Int.toNat_natCast]
  clear wi w1 w2 w3 w4 w5 w6 w7 w8 w9 w10 w11 w12 w13 w14 w15 w16
  refine ev_bind1 rfl ?_
  refine st_Item_1 rfl hi ?_
  refine ev_bind (markText_ev (k + 1 + 1) (by omega) (by omega)) ?_
  refine st_Item_2 rfl hi ?_
  refine st_Item_3 rfl hi ?_
  refine st_Item_4 rfl hi ?_
  refine st_Item_5 rfl hi ?_
  refine ev_bind (markText_ev (k + 1 + 1 + 1 + 1 + 1 + 1) (by omega) (by omega)) ?_
  refine st_Item_6 rfl hi ?_
  refine st_Item_7 rfl hi ?_
  refine st_Item_8 rfl hi ?_
  refine st_Item_9 rfl hi ?_
  refine ev_bind (markText_ev (k + 1 + 1 + 1 + 1 + 1 + 1 + 1 + 1 + 1 + 1) (by omega) (by omega)) ?_
  refine st_Item_10 rfl hi ?_
  refine st_Item_11 rfl hi ?_
  refine st_Item_12 rfl hi ?_
  refine st_Item_13 rfl hi ?_
  refine st_Item_14 rfl hi ?_
  have rs : ∀ v, rd_T126 (x.set i v) (i : Int) = v := fun v => getD_set x i v hi
  simp only [rs, List.set_set]
  exact hn

/-! ### laws_markCtl -/
theorem mark_Ctl (x0 x1 x2 x3 x4 : Int) (x5 : Bool) (x6 : Int) (l : List S126) (hl : l.length ≤ 4611686018427387904) (k : Int) (h0 : 0 ≤ k) (h1 : k + 16 * (l.length : Int) ≤ 4611686018427387904) : Ev (fun n => laws_markCtl.f n x0 x1 x2 x3 x4 x5 x6 l k) (k + 16 * (l.length : Int), mkl mk_Item 16 k l.length) := by
  unfold laws_markCtl.f
  exact ev_bind (mark_ItemS l hl k h0 h1) (ev_now _)

/-! ### laws_heldByteS -/
theorem held_ByteS (m : Nat) (hm : m ≤ 4611686018427387904) (k : Int) (h0 : 0 ≤ k) (h1 : k + 1 * (m : Int) ≤ 4611686018427387904) : Ev (fun n => laws_heldByteS.f n (mkl mk_Byte 1 k m) k) (k + 1 * (m : Int)) := by
  refine held_loop (g := fun n x k i => laws_heldByteS.l0 n x k i) (by omega) (fun x k i hi => ev_step (fun n => laws_heldByteS.l0.eq_2 ..) (ev_neg (by omega) (ev_now _))) (fun x k i r hi he hx h0 h1 hn => ?_) m hm k h0 h1
  have hr : rd x (i : Int) = mk_Byte k := (rd_nth x i hi).trans he
  refine ev_step (fun n => laws_heldByteS.l0.eq_2 ..) (ev_pos (by omega) (ev_pos (by omega) ?_))
  have wi : wrap64 ((i : Int) + 1) = (i : Int) + 1 := w64 (by omega) (by omega)
  have w1 : wrap64 (k + 1) = k + 1 := w64 (by omega) (by omega)
  rw [show k + 1 = k + 1 by omega] at hn
  simp only [hr, w1, wi]
  exact ev_pos rfl (hn)

/-! ### laws_heldPackS -/
theorem held_PackS_l0 (xs : List S113) (hl : xs.length ≤ 1000000000000) : ∀ (l : List S113) (k : Int) (i : Nat), xs.drop i = mkPl l k → 0 ≤ k → k + (szp l : Int) ≤ 1000000000000 → Ev (fun n => laws_heldPackS.l0 n xs k (i : Int)) (k + (szp l : Int))
  | [], k, i, hd, h0, h1 => by
    have hi : xs.length ≤ i := List.drop_eq_nil_iff.1 hd
    refine ev_step (fun n => laws_heldPackS.l0.eq_2 ..) (ev_neg (by omega) (ev_as (ev_now _) ?_))
    simp [szp]
  | x :: l, k, i, hd, h0, h1 => by
    have e : szp (x :: l) = 1 + x.f1.length + szp l := rfl
    rw [e] at h1 ⊢
    have hlt : i < xs.length := by
      refine Nat.lt_of_not_le fun hi => ?_
      rw [List.drop_eq_nil_iff.2 hi] at hd
      cases hd
    rw [List.drop_eq_getElem_cons hlt] at hd
    obtain ⟨hx, hd⟩ := List.cons.inj hd
    have hr : rd_T113 xs (i : Int) = ⟨k, mkl mk_Byte 1 (k + 1) x.f1.length⟩ := (getD_nth _ xs i hlt).trans hx
    have w1 : wrap64 (k + 1) = k + 1 := w64 (by omega) (by omega)
    have wi : wrap64 ((i : Int) + 1) = (i : Int) + 1 := w64 (by omega) (by omega)
    refine ev_step (fun n => laws_heldPackS.l0.eq_2 ..) (ev_pos (by omega) (ev_pos (by omega) ?_))
    simp only [hr, w1, wi, if_true]
    refine ev_bind (held_ByteS x.f1.length (by omega) (k + 1) (by omega) (by omega)) (ev_neg (by omega) ?_)
    refine ev_as (held_PackS_l0 xs hl l (k + 1 + 1 * (x.f1.length : Int)) (i + 1) hd (by omega) (by omega)) ?_
    omega
theorem mkPl_len : ∀ (l : List S113) (k : Int), (mkPl l k).length = l.length
  | [], k => rfl
  | x :: l, k => congrArg Nat.succ (mkPl_len l _)
theorem held_PackS (l : List S113) (k : Int) (h0 : 0 ≤ k) (h1 : k + (szp l : Int) ≤ 1000000000000) : Ev (fun n => laws_heldPackS.f n (mkPl l k) k) (k + (szp l : Int)) := by
  unfold laws_heldPackS.f
  have := szp_len l
  exact held_PackS_l0 _ (by rw [mkPl_len]; omega) l k 0 rfl h0 h1

theorem szp_map (l : List S107) : szp (l.map cv_Pack) = szl_PackS l := by
  unfold szl_PackS
  induction l with
  | nil => rfl
  | cons x l ih =>
    simp only [List.map_cons, szp, ih, List.length_cons, List.sum_cons]
    simp only [cv_Pack, szv_Pack, szl_ByteS]
    omega
theorem FnExactSend : VFnExactSend.Pure := by
  intro l x hl hG hGx
  refine ev_rounds ?_
  unfold laws_FnExactSend.f
  obtain ⟨t, et, ct⟩ := sz_PackS l hl hG 1048576 (by omega) (by omega)
  rcases ct with ct | ⟨ct, dt⟩
  · exact ev_bind et (ev_pos ct (ev_now _))
  obtain ⟨t2, et2, ct2⟩ := sz_Ctl x hGx t (by omega) (by omega)
  rcases ct2 with ct2 | ⟨ct2, dt2⟩
  · exact ev_bind et (ev_neg (by omega) (ev_bind et2 (ev_pos ct2 (ev_now _))))
  have hs : szl_PackS l ≤ 1048576 := by omega
  have hto := to_PackS l hs
  have hz := szp_map l
  generalize l.map cv_Pack = xs at hto hz
  have hlen := szp_len xs
  have hxs : ∀ x ∈ xs, x.f1.length ≤ 1000000000000 := fun x hx => by have := szp_mem xs x hx; omega
  have hsx : szv_Ctl x ≤ 1048576 := by omega
  have htc := to_Ctl x hsx
  have hli : (cv_Ctl x).f7.length ≤ 1048576 := by
    show (x.f7.map cv_Item).length ≤ _
    rw [List.length_map]
    unfold szv_Ctl szl_ItemS at hsx
    omega
  have hzi : ∀ y ∈ (cv_Ctl x).f7, y.f1.f1.size ≤ 1000000000 ∧ y.f1.f5.size ≤ 1000000000 ∧ y.f2.f1.size ≤ 1000000000 := by
    intro y hy
    obtain ⟨z, hz, rfl⟩ := List.mem_map.1 (show y ∈ x.f7.map cv_Item from hy)
    have hm := mem_sum szv_Item x.f7 z hz
    unfold szv_Ctl szl_ItemS at hsx
    have : szv_Item z ≤ 1048576 := by omega
    unfold szv_Item szv_Asker szv_Line at this
    exact ⟨show z.f1.f1.size ≤ _ by omega, show z.f1.f5.size ≤ _ by omega, show z.f2.f1.size ≤ _ by omega⟩
  have hqc := eq_Ctl (cv_Ctl x) (show (cv_Ctl x).f7.length ≤ _ by omega)
  generalize cv_Ctl x = c at htc hli hzi hqc
  obtain ⟨x0, x1, x2, x3, x4, x5, x6, xl⟩ := c
  simp only at htc hli hzi hqc
  have hsp := spec_Send_ev xs (by omega) hxs x0 x1 x2 x3 x4 x5 x6 xl (by omega) hzi
  have him := impl_Send_ev xs (by omega) hxs x0 x1 x2 x3 x4 x5 x6 xl (by omega) hzi
  have hctl := ctlV_len x0 x1 x2 x3 x4 x5 x6 xl
  have hg : szp (sendV xs x0 x1 x2 x3 x4 x5 x6 xl) ≤ 400000000 := by
    unfold sendV
    split
    · split
      · split
        · omega
        · rw [szp_append]
          simp only [szp]
          omega
      · omega
    · omega
  generalize sendV xs x0 x1 x2 x3 x4 x5 x6 xl = gs at hsp him hg
  have hgl := szp_len gs
  have hq : ∀ z : List S113, szp z ≤ 400000000 → eqcl_PackS z := fun z hz => ⟨by have := szp_len z; omega, fun y hy => by
    have := szp_mem z y hy
    show y.f1.length ≤ _
    omega⟩
  have mX := mark_Ctl x0 x1 x2 x3 x4 x5 x6 xl (by omega) (1 + (szp xs : Int)) (by omega) (by omega)
  refine ev_bind et (ev_neg (by omega) (ev_bind et2 (ev_neg (by omega) (ev_bind hto (ev_bind htc (ev_bind hsp (ev_bind him ?_)))))))
  refine ev_bind (eq_PackS gs (hq gs hg)) (ev_bind (eq_PackS xs (hq xs (by omega))) (ev_bind hqc (ev_bind (mark_PackS xs 1 (by omega) (by omega)) (ev_bind mX (ev_bind (mark_PackS gs 1 (by omega) (by omega)) (ev_bind (held_PackS gs 1 (by omega) (by omega)) (ev_pos ⟨rfl, rfl, rfl, ?_, ?_, rfl⟩ (ev_now _))))))))
  · show 0 ≤ (_ : Int); omega
  · omega
end Go.Proofs.Ytiffahfpfgnjnab.Pure
