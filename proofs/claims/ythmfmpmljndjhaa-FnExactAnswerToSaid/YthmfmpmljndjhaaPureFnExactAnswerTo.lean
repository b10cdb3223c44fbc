/- The program's AnswerTo answers as the reference's, whatever the status and the query; the answer is a list of its own. -/
import Derived.Test.YthmfmpmljndjhaaPFnExactAnswerTox6
import Derived.Test.YthmfmpmljndjhaaVBase
import Derived.Test.YthmfmpmljndjhaaVExt
import Derived.Test.YthmfmpmljndjhaaVMark
namespace Go.Proofs.Ythmfmpmljndjhaa.Pure
open Go.RowKit Go.Proofs.Ythmfmpmljndjhaa.PFnExactAnswerTo Go.Proofs.YthmfmpmljndjhaaW.PrintWords Go.Proofs.YthmfmpmljndjhaaW.PrintLast Go.Proofs.YthmfmpmljndjhaaV
set_option linter.unusedVariables false
set_option linter.unusedSimpArgs false
set_option maxRecDepth 20000

/-! ### spec_NextSt -/
/-- The status that a word leads to. -/
def nextV (st w : Int) : Int := if st = 0 then (if w = 1 then 1 else 0) else if st = 1 then (if w = 4 then 2 else if w = 2 ∨ w = 3 then 0 else 1) else if st = 2 then (if w = 2 ∨ w = 3 then 0 else 2) else 0
theorem spec_NextSt_ev (st w : Int) : Ev (fun k => spec_NextSt.f k st w) (nextV st w) := by
  have key : ∀ b : Bool, b = decide (w = 2 ∨ w = 3) → Ev (fun k => spec_NextSt.j0 k st w b) (nextV st w) := by
    intro b hb
    refine ev_step (fun k => spec_NextSt.j0.eq_2 ..) ?_
    refine ev_as (ev_eq (r := nextV st w) ?_) rfl
    unfold nextV
    by_cases s0 : st = 0
    · simp only [s0, if_true]
      split <;> rfl
    · simp only [s0, if_false]
      by_cases s1 : st = 1
      · simp only [s1, if_true]
        by_cases h4 : w = 4
        · simp [h4]
        · by_cases h2 : w = 2 ∨ w = 3 <;> simp [h4, h2, hb]
      · simp only [s1, if_false]
        by_cases s2 : st = 2
        · by_cases h2 : w = 2 ∨ w = 3 <;> simp [s2, h2, hb]
        · simp [s2]
  unfold spec_NextSt.f
  refine ev_ite (fun c => ?_) (fun c => ?_)
  · exact key true (by simp [c])
  · exact key _ (by simp [c]; rfl)

/-! ### spec_WordOf -/
/-- A query's word. -/
def wordV (q : ByteArray) : Int := if q.toList = ([98, 101, 103, 105, 110] : List UInt8) then 1 else if q.toList = ([99, 111, 109, 109, 105, 116] : List UInt8) then 2 else if q.toList = ([114, 111, 108, 108, 98, 97, 99, 107] : List UInt8) then 3 else if q.toList = ([102, 97, 105, 108] : List UInt8) then 4 else 0
theorem spec_WordOf_eq (q : ByteArray) : spec_WordOf.f q = some (wordV q) := by
  unfold spec_WordOf.f wordV
  repeat' split
  all_goals rfl

/-! ### spec_l1In -/
theorem spec_l1In_eq (a b c : Int) : spec_l1In.f a b c = some (inB a b c) := by
  unfold spec_l1In.f inB
  by_cases h : b ≤ a <;> simp [h]

/-! ### spec_TextOk -/
theorem spec_TextOk_l0 (s : ByteArray) (hs : s.size ≤ 4611686018427387904) (d : Nat) : ∀ i : Int, 0 ≤ i → i + d = s.size → i ≤ 101 → Ev (fun k => spec_TextOk.l0 k s i) (allF (byteIn s 32 126) i d && decide ((s.size : Int) ≤ 100)) := by
  induction d with
  | zero =>
    intro i h0 h1 h2
    refine ev_step (fun k => spec_TextOk.l0.eq_2 ..) ?_
    refine ev_neg (by omega) ?_
    refine ev_step (fun k => spec_TextOk.j1.eq_2 ..) ?_
    refine ev_neg (by decide) ?_
    exact ev_now _
  | succ d ih =>
    intro i h0 h1 h2
    refine ev_step (fun k => spec_TextOk.l0.eq_2 ..) ?_
    refine ev_pos (by omega) ?_
    refine ev_step (fun k => spec_TextOk.j1.eq_2 ..) ?_
    refine ev_ite (fun c0 => ?_) (fun c0 => ?_)
    · have c0' := of_decide_eq_true c0
      refine ev_pos (by omega) (ev_pos (by omega) ?_)
      refine ev_ite (fun c1 => ?_) (fun c1 => ev_ite (fun c2 => ?_) (fun c2 => ?_))
      · refine ev_as (ev_now _) ?_
        have : byteIn s 32 126 i = false := by rw [byteIn_false]; omega
        simp [allF, this]
      · refine ev_as (ev_now _) ?_
        have : byteIn s 32 126 i = false := by rw [byteIn_false]; omega
        simp [allF, this]
      · have : byteIn s 32 126 i = true := by rw [byteIn_iff]; omega
        rw [w64 (by omega) (by omega), allF, this, Bool.true_and]
        exact ih (i + 1) (by omega) (by omega) (by omega)
    · have c0' : ¬ i ≤ 100 := fun h => c0 (decide_eq_true h)
      refine ev_as (ev_now _) ?_
      have : decide ((s.size : Int) ≤ 100) = false := decide_eq_false (by omega)
      rw [this, Bool.and_false]
theorem spec_TextOk_ev (s : ByteArray) (hs : s.size ≤ 4611686018427387904) : Ev (fun k => spec_TextOk.f k s) (textB s) := spec_TextOk_l0 s hs s.size 0 (by omega) (by omega) (by omega)

/-! ### spec_AnswerTo -/
/-- The two frames that answer a query, or none. -/
def answV (st : Int) (q : ByteArray) : List S91 :=
  if (inB st 0 2 && textB q) = false then []
  else [if st = 2 ∧ ¬ (wordV q = 2 ∨ wordV q = 3) then ⟨6, ⟨#[97, 98, 111, 114, 116, 101, 100]⟩, 0⟩ else if wordV q = 4 then ⟨6, ⟨#[102, 97, 105, 108, 101, 100]⟩, 0⟩ else if st = 2 ∧ wordV q = 2 then ⟨4, ⟨#[114, 111, 108, 108, 98, 97, 99, 107]⟩, 0⟩ else ⟨4, q, 0⟩, ⟨5, ⟨#[]⟩, nextV st (wordV q)⟩]
theorem spec_AnswerTo_ev (st : Int) (q : ByteArray) (hq : q.size ≤ 4611686018427387904) : Ev (fun k => spec_AnswerTo.f k st q) (answV st q) := by
  have k2 : ∀ b : Bool, b = decide (st = 2 ∧ ¬ (wordV q = 2 ∨ wordV q = 3)) → (inB st 0 2 && textB q) = true → Ev (fun k => spec_AnswerTo.j2 k st (wordV q) b 4 q 0) (answV st q) := by
    intro b hb hok
    have ho : ¬ (inB st 0 2 && textB q) = false := by simp [hok]
    unfold answV
    rw [if_neg ho]
    refine ev_step (fun k => spec_AnswerTo.j2.eq_2 ..) (ev_ite (fun c => ?_) (fun c => ev_ite (fun c4 => ?_) (fun c4 => ev_ite (fun cs => ev_ite (fun c2 => ?_) (fun c2 => ?_)) (fun cs => ?_))))
    all_goals refine ev_bind (spec_NextSt_ev _ _) (ev_as (ev_now _) ?_)
    · rw [hb] at c
      rw [if_pos (of_decide_eq_true c)]
    all_goals (rw [hb] at c; rw [if_neg (fun h => c (decide_eq_true h))])
    · rw [if_pos c4]
    · rw [if_neg c4, if_pos ⟨cs, c2⟩]
    · rw [if_neg c4, if_neg (fun h => c2 h.2)]
    · rw [if_neg c4, if_neg (fun h => cs h.1)]
  have k1 : ∀ b : Bool, b = decide (wordV q = 2 ∨ wordV q = 3) → (inB st 0 2 && textB q) = true → Ev (fun k => spec_AnswerTo.j1 k st q (wordV q) b) (answV st q) := by
    intro b hb hok
    refine ev_step (fun k => spec_AnswerTo.j1.eq_2 ..) (ev_ite (fun c => ?_) (fun c => ?_))
    · exact k2 _ (by rw [hb]; by_cases h : wordV q = 2 ∨ wordV q = 3 <;> simp [c, h]) hok
    · exact k2 _ (by simp [c]) hok
  have k0 : ∀ b : Bool, b = !(inB st 0 2 && textB q) → Ev (fun k => spec_AnswerTo.j0 k st q b) (answV st q) := by
    intro b hb
    refine ev_step (fun k => spec_AnswerTo.j0.eq_2 ..) (ev_ite (fun c => ?_) (fun c => ?_))
    · rw [hb] at c
      exact ev_as (ev_now _) (by unfold answV; rw [if_pos (by revert c; generalize (inB st 0 2 && textB q) = z; cases z <;> simp)])
    · rw [hb] at c
      have hok : (inB st 0 2 && textB q) = true := by revert c; generalize (inB st 0 2 && textB q) = z; cases z <;> simp
      refine ev_bind1 (spec_WordOf_eq _) (ev_ite (fun c2 => ?_) (fun c2 => ?_))
      · exact k1 _ (by simp [c2]) hok
      · exact k1 _ (by simp [c2]; rfl) hok
  unfold spec_AnswerTo.f
  refine ev_bind1 (spec_l1In_eq _ _ _) (ev_ite (fun c => ?_) (fun c => ?_))
  · exact ev_bind (spec_TextOk_ev q hq) (k0 _ (by simp [c]))
  · exact k0 _ (by simp [c])

/-! ### impl_NextSt -/
theorem impl_NextSt_ev (st w : Int) : Ev (fun k => impl_NextSt.f k st w) (nextV st w) := by
  have k2 : ∀ b c : Bool, Ev (fun k => impl_NextSt.j2 k st b c) (if c = true then 2 else if st = 1 ∨ st = 2 then (if b = true then 0 else st) else 0) := by
    intro b c
    refine ev_step (fun k => impl_NextSt.j2.eq_2 ..) ?_
    refine ev_as (ev_eq (r := (if c = true then 2 else if st = 1 ∨ st = 2 then (if b = true then 0 else st) else 0)) ?_) rfl
    by_cases hc : c = true
    · simp [hc]
    · by_cases s1 : st = 1
      · by_cases hb : b = true <;> simp [hc, s1, hb]
      · by_cases s2 : st = 2
        · by_cases hb : b = true <;> simp [hc, s2, hb]
        · simp [hc, s1, s2]
  have k1 : ∀ b c : Bool, Ev (fun k => impl_NextSt.j1 k st w b c) (if c = true then 1 else if st = 1 ∧ w = 4 then 2 else if st = 1 ∨ st = 2 then (if b = true then 0 else st) else 0) := by
    intro b c
    refine ev_step (fun k => impl_NextSt.j1.eq_2 ..) ?_
    refine ev_ite (fun hc => ?_) (fun hc => ev_ite (fun s1 => ?_) (fun s1 => ?_))
    · exact ev_as (ev_now _) (by simp [hc])
    · refine ev_as (k2 _ _) ?_
      by_cases h4 : w = 4 <;> simp [hc, s1, h4]
    · refine ev_as (k2 _ _) ?_
      simp [hc, s1]
  have key : ∀ b : Bool, b = decide (w = 2 ∨ w = 3) → Ev (fun k => impl_NextSt.j0 k st w b) (nextV st w) := by
    intro b hb
    refine ev_step (fun k => impl_NextSt.j0.eq_2 ..) ?_
    refine ev_ite (fun s0 => ?_) (fun s0 => ?_)
    · refine ev_as (k1 _ _) ?_
      by_cases h1 : w = 1 <;> simp [nextV, s0, h1]
    · refine ev_as (k1 _ _) ?_
      unfold nextV
      by_cases s1 : st = 1
      · by_cases h4 : w = 4
        · simp [s1, h4]
        · by_cases h2 : w = 2 ∨ w = 3 <;> simp [s1, h4, h2, hb]
      · by_cases s2 : st = 2
        · by_cases h2 : w = 2 ∨ w = 3 <;> simp [s2, h2, hb]
        · simp [s0, s1, s2]
  unfold impl_NextSt.f
  refine ev_ite (fun c => ?_) (fun c => ?_)
  · exact key true (by simp [c])
  · exact key _ (by simp [c]; rfl)

/-! ### impl_WordOf -/
theorem impl_WordOf_eq (q : ByteArray) : impl_WordOf.f q = some (wordV q) := by
  unfold impl_WordOf.f wordV
  repeat' split
  all_goals rfl

/-! ### impl_TextOk -/
theorem impl_TextOk_l0 (s : ByteArray) (hs : s.size ≤ 4611686018427387904) (d : Nat) : ∀ i : Int, 0 ≤ i → i + d = s.size → Ev (fun k => impl_TextOk.l0 k s (s.size : Int) i) (allF (byteIn s 32 126) i d && decide ((s.size : Int) ≤ 100)) := by
  induction d with
  | zero =>
    intro i h0 h1
    refine ev_step (fun k => impl_TextOk.l0.eq_2 ..) ?_
    refine ev_neg (by omega) ?_
    exact ev_now _
  | succ d ih =>
    intro i h0 h1
    refine ev_step (fun k => impl_TextOk.l0.eq_2 ..) ?_
    refine ev_pos (by omega) (ev_pos (by omega) (ev_pos (by omega) ?_))
    refine ev_ite (fun c1 => ?_) (fun c1 => ev_ite (fun c2 => ?_) (fun c2 => ?_))
    · refine ev_as (ev_now _) ?_
      have : byteIn s 32 126 i = false := by rw [byteIn_false]; omega
      simp [allF, this]
    · refine ev_as (ev_now _) ?_
      have : byteIn s 32 126 i = false := by rw [byteIn_false]; omega
      simp [allF, this]
    · have : byteIn s 32 126 i = true := by rw [byteIn_iff]; omega
      rw [w64 (by omega) (by omega), allF, this, Bool.true_and]
      exact ih (i + 1) (by omega) (by omega)
theorem impl_TextOk_ev (s : ByteArray) (hs : s.size ≤ 4611686018427387904) : Ev (fun k => impl_TextOk.f k s) (textB s) := impl_TextOk_l0 s hs s.size 0 (by omega) (by omega)

/-! ### impl_isIn -/
theorem impl_isIn_eq (a b c : Int) : impl_isIn.f a b c = some (inB a b c) := by
  unfold impl_isIn.f inB
  by_cases h : b ≤ a <;> simp [h]

/-! ### impl_AnswerTo -/
theorem impl_AnswerTo_ev (st : Int) (q : ByteArray) (hq : q.size ≤ 4611686018427387904) : Ev (fun k => impl_AnswerTo.f k st q) (answV st q) := by
  have k2 : ∀ b : Bool, b = decide (st = 2 ∧ ¬ (wordV q = 2 ∨ wordV q = 3)) → (inB st 0 2 && textB q) = true → Ev (fun k => impl_AnswerTo.j1 k st (wordV q) b 4 q 0) (answV st q) := by
    intro b hb hok
    have ho : ¬ (inB st 0 2 && textB q) = false := by simp [hok]
    unfold answV
    rw [if_neg ho]
    refine ev_step (fun k => impl_AnswerTo.j1.eq_2 ..) (ev_ite (fun c => ?_) (fun c => ev_ite (fun c4 => ?_) (fun c4 => ev_ite (fun cs => ev_ite (fun c2 => ?_) (fun c2 => ?_)) (fun cs => ?_))))
    all_goals refine ev_bind (impl_NextSt_ev _ _) (ev_as (ev_now _) ?_)
    · rw [hb] at c
      rw [if_pos (of_decide_eq_true c)]
    all_goals (rw [hb] at c; rw [if_neg (fun h => c (decide_eq_true h))])
    · rw [if_pos c4]
    · rw [if_neg c4, if_pos ⟨cs, c2⟩]
    · rw [if_neg c4, if_neg (fun h => c2 h.2)]
    · rw [if_neg c4, if_neg (fun h => cs h.1)]
  have k0 : ∀ b : Bool, b = !(inB st 0 2 && textB q) → Ev (fun k => impl_AnswerTo.j0 k st q b) (answV st q) := by
    intro b hb
    refine ev_step (fun k => impl_AnswerTo.j0.eq_2 ..) (ev_ite (fun c => ?_) (fun c => ?_))
    · rw [hb] at c
      exact ev_as (ev_now _) (by unfold answV; rw [if_pos (by revert c; generalize (inB st 0 2 && textB q) = z; cases z <;> simp)])
    · rw [hb] at c
      have hok : (inB st 0 2 && textB q) = true := by revert c; generalize (inB st 0 2 && textB q) = z; cases z <;> simp
      refine ev_bind1 (impl_WordOf_eq _) (ev_ite (fun cs => ev_ite (fun c2 => ?_) (fun c2 => ?_)) (fun cs => ?_))
      · exact k2 _ (by simp [c2]) hok
      · exact k2 _ (by by_cases h3 : wordV q = 3 <;> simp [cs, c2, h3, bne]) hok
      · exact k2 _ (by simp [cs]) hok
  unfold impl_AnswerTo.f
  refine ev_bind1 (impl_isIn_eq _ _ _) (ev_ite (fun c => ?_) (fun c => ?_))
  · exact ev_bind (impl_TextOk_ev q hq) (k0 _ (by simp [c]))
  · exact k0 _ (by simp [c])

/-! ### laws_eqFrame -/
theorem eq_Frame (x : S91) : Ev (fun k => laws_eqFrame.f x.f0 x.f1 x.f2 x.f0 x.f1 x.f2) true := by
  unfold laws_eqFrame.f
  exact ev_pos rfl (ev_pos rfl (ev_pos rfl (ev_now _)))

/-! ### laws_eqFrameS -/
def eqcl_FrameS (l : List S91) : Prop := l.length ≤ 4611686018427387904
theorem eq_FrameS_l0 (l : List S91) (hq : eqcl_FrameS l) (d : Nat) : ∀ i : Nat, i + d = l.length → Ev (fun k => laws_eqFrameS.l0 k l l (i : Int)) true := by
  have hl : l.length ≤ 4611686018427387904 := hq
  induction d with
  | zero =>
    intro i hi
    exact ev_step (fun k => laws_eqFrameS.l0.eq_2 ..) (ev_neg (by omega) (ev_now _))
  | succ d ih =>
    intro i hi
    have hn := ih (i + 1) (by omega)
    have hlt : i < l.length := by omega
    refine ev_step (fun k => laws_eqFrameS.l0.eq_2 ..) (ev_pos (by omega) (ev_pos (by omega) (ev_pos (by omega) ?_)))
    rw [w64 (by omega) (by omega)]
    exact ev_bind (eq_Frame _) (ev_pos rfl hn)
theorem eq_FrameS (l : List S91) (hq : eqcl_FrameS l) : Ev (fun k => laws_eqFrameS.f k l l) true := by
  unfold laws_eqFrameS.f
  exact ev_pos rfl (eq_FrameS_l0 l hq l.length 0 (by omega))

/-! ### laws_markText -/
theorem markText_l0 (m : Nat) : ∀ (k : Int) (x : ByteArray), k.toNat ≤ m → x.size + m ≤ 4611686018427387905 → ∃ s, Ev (fun n => laws_markText.l0 n k x) s := by
  induction m with
  | zero =>
    intro k x hk hx
    exact ⟨_, ev_step (fun n => laws_markText.l0.eq_2 ..) (ev_neg (by omega) (ev_pos (by omega) (ev_now _)))⟩
  | succ m ih =>
    intro k x hk hx
    by_cases hc : k > 0
    · have e : Int.tdiv k 10 = k / 10 := Int.tdiv_eq_ediv_of_nonneg (by omega)
      have e2 : wrap64 (Int.tdiv k 10) = k / 10 := by rw [e]; exact w64 (by omega) (by omega)
      obtain ⟨s, hs⟩ := ih (k / 10) (strOfNums [(wrap64 (48 + (Int.tmod k 10))) % 256] ++ x) (by omega) (by rw [ByteArray.size_append, strOfNums_size]; simp; omega)
      refine ⟨s, ev_step (fun n => laws_markText.l0.eq_2 ..) (ev_pos hc (ev_bind1 rfl (ev_pos (by rw [strOfNums_size]; simp; omega) ?_)))⟩
      rw [e2]
      exact hs
    · exact ⟨_, ev_step (fun n => laws_markText.l0.eq_2 ..) (ev_neg hc (ev_pos (by omega) (ev_now _)))⟩
theorem markText_some (k : Int) (h0 : 0 ≤ k) (h1 : k ≤ 4611686018427387904) : ∃ s, Ev (fun n => laws_markText.f n k) s := by
  unfold laws_markText.f
  by_cases hc : k ≤ 0
  · exact ⟨_, ev_pos hc (ev_now _)⟩
  · obtain ⟨s, hs⟩ := markText_l0 k.toNat k ⟨#[]⟩ (Nat.le_refl _) (by show 0 + _ ≤ _; omega)
    exact ⟨s, ev_neg hc hs⟩
/-- The mark's text. -/
noncomputable def mtV (k : Int) : ByteArray := open Classical in if h : ∃ s, Ev (fun n => laws_markText.f n k) s then Classical.choose h else ByteArray.empty
theorem markText_ev (k : Int) (h0 : 0 ≤ k) (h1 : k ≤ 4611686018427387904) : Ev (fun n => laws_markText.f n k) (mtV k) := by
  unfold mtV
  rw [dif_pos (markText_some k h0 h1)]
  exact Classical.choose_spec (markText_some k h0 h1)

/-! ### laws_markFrameS -/
noncomputable def mk_Frame (k : Int) : S91 := ⟨k, mtV (k + 1), k + 1 + 1⟩
theorem mark_FrameS (l : List S91) (hl : l.length ≤ 4611686018427387904) (k : Int) (h0 : 0 ≤ k) (h1 : k + 3 * (l.length : Int) ≤ 4611686018427387904) : Ev (fun n => laws_markFrameS.f n l k) (k + 3 * (l.length : Int), mkl mk_Frame 3 k l.length) := by
  refine mark_loop (g := fun n x k i => laws_markFrameS.l0 n x k i) (by omega) (fun x k i hi => ev_step (fun n => laws_markFrameS.l0.eq_2 ..) (ev_neg (by omega) (ev_now _))) (fun x k i r hi hx h0 h1 hn => ?_) l hl k h0 h1
  refine ev_step (fun n => laws_markFrameS.l0.eq_2 ..) (ev_pos (by omega) (ev_pos (by omega) ?_))
  have wi : wrap64 ((i : Int) + 1) = (i : Int) + 1 := w64 (by omega) (by omega)
  have w1 : wrap64 (k + 1) = k + 1 := w64 (by omega) (by omega)
  have w2 : wrap64 (k + 1 + 1) = k + 1 + 1 := w64 (by omega) (by omega)
  have w3 : wrap64 (k + 1 + 1 + 1) = k + 1 + 1 + 1 := w64 (by omega) (by omega)
  rw [show k + 3 = k + 1 + 1 + 1 by omega] at hn
  have rs : ∀ v, rd_T91 (x.set i v) (i : Int) = v := fun v => getD_set x i v hi
  simp only [w1, w2, w3, wi, rs, List.set_set, Int.toNat_natCast]
  refine ev_bind1 rfl ?_
  simp only [rs, List.set_set, Int.toNat_natCast]
  refine ev_bind (markText_ev (k + 1) (by omega) (by omega)) ?_
  refine ev_bind1 rfl ?_
  simp only [rs, List.set_set, Int.toNat_natCast]
  exact hn

/-! ### laws_heldFrameS -/
theorem held_FrameS (m : Nat) (hm : m ≤ 4611686018427387904) (k : Int) (h0 : 0 ≤ k) (h1 : k + 3 * (m : Int) ≤ 4611686018427387904) : Ev (fun n => laws_heldFrameS.f n (mkl mk_Frame 3 k m) k) (k + 3 * (m : Int)) := by
  refine held_loop (g := fun n x k i => laws_heldFrameS.l0 n x k i) (by omega) (fun x k i hi => ev_step (fun n => laws_heldFrameS.l0.eq_2 ..) (ev_neg (by omega) (ev_now _))) (fun x k i r hi he hx h0 h1 hn => ?_) m hm k h0 h1
  have hr : rd_T91 x (i : Int) = mk_Frame k := (getD_nth _ x i hi).trans he
  refine ev_step (fun n => laws_heldFrameS.l0.eq_2 ..) (ev_pos (by omega) (ev_pos (by omega) ?_))
  have wi : wrap64 ((i : Int) + 1) = (i : Int) + 1 := w64 (by omega) (by omega)
  have w1 : wrap64 (k + 1) = k + 1 := w64 (by omega) (by omega)
  have w2 : wrap64 (k + 1 + 1) = k + 1 + 1 := w64 (by omega) (by omega)
  have w3 : wrap64 (k + 1 + 1 + 1) = k + 1 + 1 + 1 := w64 (by omega) (by omega)
  rw [show k + 3 = k + 1 + 1 + 1 by omega] at hn
  simp only [hr, w1, w2, w3, wi]
  exact ev_pos rfl (ev_bind (markText_ev (k + 1) (by omega) (by omega)) (ev_pos rfl (ev_pos rfl (hn))))

theorem FnExactAnswerTo : laws_FnExactAnswerTo.Pure := by
  intro st q _ _
  refine ev_rounds ?_
  unfold laws_FnExactAnswerTo.f
  refine ev_ite (fun c => ev_now _) (fun c => ?_)
  have e1 := spec_AnswerTo_ev st q (by omega)
  have e2 := impl_AnswerTo_ev st q (by omega)
  have hR2 : (answV st q).length ≤ 2 := by unfold answV; split <;> simp
  generalize answV st q = R at *
  have hqR := eq_FrameS R (by show R.length ≤ _; omega)
  have mR := mark_FrameS R (by omega) 1 (by omega) (by omega)
  have hh := held_FrameS R.length (by omega) 1 (by omega) (by omega)
  exact ev_bind e1 (ev_bind e2 (ev_bind hqR (ev_pos rfl (ev_bind mR (ev_bind hh (ev_neg (by omega) (ev_pos rfl (ev_bind e2 (ev_bind hqR (ev_pos rfl (ev_bind hh (ev_neg (by omega) (ev_pos rfl (ev_now _))))))))))))))
end Go.Proofs.Ythmfmpmljndjhaa.Pure
