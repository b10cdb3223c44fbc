/- The walks' law: the transaction status goes on from where it was; a query is answered by one frame and the status that it leads to. -/
import Derived.Test.YthmfmpmljndjhaaPFnWalksx8
import Derived.Test.YthmfmpmljndjhaaVBase
import Derived.Test.YthmfmpmljndjhaaVExt
namespace Go.Proofs.Ythmfmpmljndjhaa.Pure
open Go.RowKit Go.Proofs.Ythmfmpmljndjhaa.PFnWalks Go.Proofs.YthmfmpmljndjhaaW.PrintWords Go.Proofs.YthmfmpmljndjhaaW.PrintLast Go.Proofs.YthmfmpmljndjhaaV
set_option linter.unusedVariables false
set_option linter.unusedSimpArgs false
set_option maxRecDepth 20000

/-! ### laws_big -/
theorem laws_big_eq (l : List Int) : laws_big.f l = some (decide ((l.length : Int) > 1048576)) := rfl

/-! ### laws_at -/
theorem laws_at_some (b : List Int) (i : Int) (h0 : 0 ≤ i) : ∃ v, laws_at.f b i = some v := by
  unfold laws_at.f
  by_cases c : i < (b.length : Int)
  · rw [if_pos c, if_pos h0]
    exact ⟨_, rfl⟩
  · rw [if_neg c]
    exact ⟨_, rfl⟩

/-! ### spec_NextSt -/
/-- The status that a word leads to. -/
def nextV (st w : Int) : Int := if st = 0 then (if w = 1 then 1 else 0) else if st = 1 then (if w = 4 then 2 else if w = 2 ∨ w = 3 then 0 else 1) else if st = 2 then (if w = 2 ∨ w = 3 then 0 else 2) else 0
theorem spec_NextSt_ev (st w : Int) : Ev (fun k => spec_NextSt.f k st w) (nextV st w) := by
  have key : ∀ b : Bool, b = decide (w = 2 ∨ w = 3) → Ev (fun k => spec_NextSt.j0 k st w b) (nextV st w) := by
    intro b hb
    refine ev_step (fun k => spec_NextSt.j0.eq_2 ..) ?_
    refine ev_as (ev_eq (r := nextV st w) ?_) rfl
    unfold nextV
    by_cases s0 : st = 0
    · simp only [s0, if_true]
      split <;> rfl
    · simp only [s0, if_false]
      by_cases s1 : st = 1
      · simp only [s1, if_true]
        by_cases h4 : w = 4
        · simp [h4]
        · by_cases h2 : w = 2 ∨ w = 3 <;> simp [h4, h2, hb]
      · simp only [s1, if_false]
        by_cases s2 : st = 2
        · by_cases h2 : w = 2 ∨ w = 3 <;> simp [s2, h2, hb]
        · simp [s2]
  unfold spec_NextSt.f
  refine ev_ite (fun c => ?_) (fun c => ?_)
  · exact key true (by simp [c])
  · exact key _ (by simp [c]; rfl)

/-! ### spec_WordOf -/
/-- A query's word. -/
def wordV (q : ByteArray) : Int := if q.toList = ([98, 101, 103, 105, 110] : List UInt8) then 1 else if q.toList = ([99, 111, 109, 109, 105, 116] : List UInt8) then 2 else if q.toList = ([114, 111, 108, 108, 98, 97, 99, 107] : List UInt8) then 3 else if q.toList = ([102, 97, 105, 108] : List UInt8) then 4 else 0
theorem spec_WordOf_eq (q : ByteArray) : spec_WordOf.f q = some (wordV q) := by
  unfold spec_WordOf.f wordV
  repeat' split
  all_goals rfl

/-! ### spec_l1In -/
theorem spec_l1In_eq (a b c : Int) : spec_l1In.f a b c = some (inB a b c) := by
  unfold spec_l1In.f inB
  by_cases h : b ≤ a <;> simp [h]

/-! ### spec_TextOk -/
theorem spec_TextOk_l0 (s : ByteArray) (hs : s.size ≤ 4611686018427387904) (d : Nat) : ∀ i : Int, 0 ≤ i → i + d = s.size → i ≤ 101 → Ev (fun k => spec_TextOk.l0 k s i) (allF (byteIn s 32 126) i d && decide ((s.size : Int) ≤ 100)) := by
  induction d with
  | zero =>
    intro i h0 h1 h2
    refine ev_step (fun k => spec_TextOk.l0.eq_2 ..) ?_
    refine ev_neg (by omega) ?_
    refine ev_step (fun k => spec_TextOk.j1.eq_2 ..) ?_
    refine ev_neg (by decide) ?_
    exact ev_now _
  | succ d ih =>
    intro i h0 h1 h2
    refine ev_step (fun k => spec_TextOk.l0.eq_2 ..) ?_
    refine ev_pos (by omega) ?_
    refine ev_step (fun k => spec_TextOk.j1.eq_2 ..) ?_
    refine ev_ite (fun c0 => ?_) (fun c0 => ?_)
    · have c0' := of_decide_eq_true c0
      refine ev_pos (by omega) (ev_pos (by omega) ?_)
      refine ev_ite (fun c1 => ?_) (fun c1 => ev_ite (fun c2 => ?_) (fun c2 => ?_))
      · refine ev_as (ev_now _) ?_
        have : byteIn s 32 126 i = false := by rw [byteIn_false]; omega
        simp [allF, this]
      · refine ev_as (ev_now _) ?_
        have : byteIn s 32 126 i = false := by rw [byteIn_false]; omega
        simp [allF, this]
      · have : byteIn s 32 126 i = true := by rw [byteIn_iff]; omega
        rw [w64 (by omega) (by omega), allF, this, Bool.true_and]
        exact ih (i + 1) (by omega) (by omega) (by omega)
    · have c0' : ¬ i ≤ 100 := fun h => c0 (decide_eq_true h)
      refine ev_as (ev_now _) ?_
      have : decide ((s.size : Int) ≤ 100) = false := decide_eq_false (by omega)
      rw [this, Bool.and_false]
theorem spec_TextOk_ev (s : ByteArray) (hs : s.size ≤ 4611686018427387904) : Ev (fun k => spec_TextOk.f k s) (textB s) := spec_TextOk_l0 s hs s.size 0 (by omega) (by omega) (by omega)

/-! ### spec_AnswerTo -/
/-- The two frames that answer a query, or none. -/
def answV (st : Int) (q : ByteArray) : List S91 :=
  if (inB st 0 2 && textB q) = false then []
  else [if st = 2 ∧ ¬ (wordV q = 2 ∨ wordV q = 3) then ⟨6, ⟨#[97, 98, 111, 114, 116, 101, 100]⟩, 0⟩ else if wordV q = 4 then ⟨6, ⟨#[102, 97, 105, 108, 101, 100]⟩, 0⟩ else if st = 2 ∧ wordV q = 2 then ⟨4, ⟨#[114, 111, 108, 108, 98, 97, 99, 107]⟩, 0⟩ else ⟨4, q, 0⟩, ⟨5, ⟨#[]⟩, nextV st (wordV q)⟩]
theorem spec_AnswerTo_ev (st : Int) (q : ByteArray) (hq : q.size ≤ 4611686018427387904) : Ev (fun k => spec_AnswerTo.f k st q) (answV st q) := by
  have k2 : ∀ b : Bool, b = decide (st = 2 ∧ ¬ (wordV q = 2 ∨ wordV q = 3)) → (inB st 0 2 && textB q) = true → Ev (fun k => spec_AnswerTo.j2 k st (wordV q) b 4 q 0) (answV st q) := by
    intro b hb hok
    have ho : ¬ (inB st 0 2 && textB q) = false := by simp [hok]
    unfold answV
    rw [if_neg ho]
    refine ev_step (fun k => spec_AnswerTo.j2.eq_2 ..) (ev_ite (fun c => ?_) (fun c => ev_ite (fun c4 => ?_) (fun c4 => ev_ite (fun cs => ev_ite (fun c2 => ?_) (fun c2 => ?_)) (fun cs => ?_))))
    all_goals refine ev_bind (spec_NextSt_ev _ _) (ev_as (ev_now _) ?_)
    · rw [hb] at c
      rw [if_pos (of_decide_eq_true c)]
    all_goals (rw [hb] at c; rw [if_neg (fun h => c (decide_eq_true h))])
    · rw [if_pos c4]
    · rw [if_neg c4, if_pos ⟨cs, c2⟩]
    · rw [if_neg c4, if_neg (fun h => c2 h.2)]
    · rw [if_neg c4, if_neg (fun h => cs h.1)]
  have k1 : ∀ b : Bool, b = decide (wordV q = 2 ∨ wordV q = 3) → (inB st 0 2 && textB q) = true → Ev (fun k => spec_AnswerTo.j1 k st q (wordV q) b) (answV st q) := by
    intro b hb hok
    refine ev_step (fun k => spec_AnswerTo.j1.eq_2 ..) (ev_ite (fun c => ?_) (fun c => ?_))
    · exact k2 _ (by rw [hb]; by_cases h : wordV q = 2 ∨ wordV q = 3 <;> simp [c, h]) hok
    · exact k2 _ (by simp [c]) hok
  have k0 : ∀ b : Bool, b = !(inB st 0 2 && textB q) → Ev (fun k => spec_AnswerTo.j0 k st q b) (answV st q) := by
    intro b hb
    refine ev_step (fun k => spec_AnswerTo.j0.eq_2 ..) (ev_ite (fun c => ?_) (fun c => ?_))
    · rw [hb] at c
      exact ev_as (ev_now _) (by unfold answV; rw [if_pos (by revert c; generalize (inB st 0 2 && textB q) = z; cases z <;> simp)])
    · rw [hb] at c
      have hok : (inB st 0 2 && textB q) = true := by revert c; generalize (inB st 0 2 && textB q) = z; cases z <;> simp
      refine ev_bind1 (spec_WordOf_eq _) (ev_ite (fun c2 => ?_) (fun c2 => ?_))
      · exact k1 _ (by simp [c2]) hok
      · exact k1 _ (by simp [c2]; rfl) hok
  unfold spec_AnswerTo.f
  refine ev_bind1 (spec_l1In_eq _ _ _) (ev_ite (fun c => ?_) (fun c => ?_))
  · exact ev_bind (spec_TextOk_ev q hq) (k0 _ (by simp [c]))
  · exact k0 _ (by simp [c])

/-! ### impl_NextSt -/
theorem impl_NextSt_ev (st w : Int) : Ev (fun k => impl_NextSt.f k st w) (nextV st w) := by
  have k2 : ∀ b c : Bool, Ev (fun k => impl_NextSt.j2 k st b c) (if c = true then 2 else if st = 1 ∨ st = 2 then (if b = true then 0 else st) else 0) := by
    intro b c
    refine ev_step (fun k => impl_NextSt.j2.eq_2 ..) ?_
    refine ev_as (ev_eq (r := (if c = true then 2 else if st = 1 ∨ st = 2 then (if b = true then 0 else st) else 0)) ?_) rfl
    by_cases hc : c = true
    · simp [hc]
    · by_cases s1 : st = 1
      · by_cases hb : b = true <;> simp [hc, s1, hb]
      · by_cases s2 : st = 2
        · by_cases hb : b = true <;> simp [hc, s2, hb]
        · simp [hc, s1, s2]
  have k1 : ∀ b c : Bool, Ev (fun k => impl_NextSt.j1 k st w b c) (if c = true then 1 else if st = 1 ∧ w = 4 then 2 else if st = 1 ∨ st = 2 then (if b = true then 0 else st) else 0) := by
    intro b c
    refine ev_step (fun k => impl_NextSt.j1.eq_2 ..) ?_
    refine ev_ite (fun hc => ?_) (fun hc => ev_ite (fun s1 => ?_) (fun s1 => ?_))
    · exact ev_as (ev_now _) (by simp [hc])
    · refine ev_as (k2 _ _) ?_
      by_cases h4 : w = 4 <;> simp [hc, s1, h4]
    · refine ev_as (k2 _ _) ?_
      simp [hc, s1]
  have key : ∀ b : Bool, b = decide (w = 2 ∨ w = 3) → Ev (fun k => impl_NextSt.j0 k st w b) (nextV st w) := by
    intro b hb
    refine ev_step (fun k => impl_NextSt.j0.eq_2 ..) ?_
    refine ev_ite (fun s0 => ?_) (fun s0 => ?_)
    · refine ev_as (k1 _ _) ?_
      by_cases h1 : w = 1 <;> simp [nextV, s0, h1]
    · refine ev_as (k1 _ _) ?_
      unfold nextV
      by_cases s1 : st = 1
      · by_cases h4 : w = 4
        · simp [s1, h4]
        · by_cases h2 : w = 2 ∨ w = 3 <;> simp [s1, h4, h2, hb]
      · by_cases s2 : st = 2
        · by_cases h2 : w = 2 ∨ w = 3 <;> simp [s2, h2, hb]
        · simp [s0, s1, s2]
  unfold impl_NextSt.f
  refine ev_ite (fun c => ?_) (fun c => ?_)
  · exact key true (by simp [c])
  · exact key _ (by simp [c]; rfl)

/-! ### impl_WordOf -/
theorem impl_WordOf_eq (q : ByteArray) : impl_WordOf.f q = some (wordV q) := by
  unfold impl_WordOf.f wordV
  repeat' split
  all_goals rfl

/-! ### impl_TextOk -/
theorem impl_TextOk_l0 (s : ByteArray) (hs : s.size ≤ 4611686018427387904) (d : Nat) : ∀ i : Int, 0 ≤ i → i + d = s.size → Ev (fun k => impl_TextOk.l0 k s (s.size : Int) i) (allF (byteIn s 32 126) i d && decide ((s.size : Int) ≤ 100)) := by
  induction d with
  | zero =>
    intro i h0 h1
    refine ev_step (fun k => impl_TextOk.l0.eq_2 ..) ?_
    refine ev_neg (by omega) ?_
    exact ev_now _
  | succ d ih =>
    intro i h0 h1
    refine ev_step (fun k => impl_TextOk.l0.eq_2 ..) ?_
    refine ev_pos (by omega) (ev_pos (by omega) (ev_pos (by omega) ?_))
    refine ev_ite (fun c1 => ?_) (fun c1 => ev_ite (fun c2 => ?_) (fun c2 => ?_))
    · refine ev_as (ev_now _) ?_
      have : byteIn s 32 126 i = false := by rw [byteIn_false]; omega
      simp [allF, this]
    · refine ev_as (ev_now _) ?_
      have : byteIn s 32 126 i = false := by rw [byteIn_false]; omega
      simp [allF, this]
    · have : byteIn s 32 126 i = true := by rw [byteIn_iff]; omega
      rw [w64 (by omega) (by omega), allF, this, Bool.true_and]
      exact ih (i + 1) (by omega) (by omega)
theorem impl_TextOk_ev (s : ByteArray) (hs : s.size ≤ 4611686018427387904) : Ev (fun k => impl_TextOk.f k s) (textB s) := impl_TextOk_l0 s hs s.size 0 (by omega) (by omega)

/-! ### impl_isIn -/
theorem impl_isIn_eq (a b c : Int) : impl_isIn.f a b c = some (inB a b c) := by
  unfold impl_isIn.f inB
  by_cases h : b ≤ a <;> simp [h]

/-! ### impl_AnswerTo -/
theorem impl_AnswerTo_ev (st : Int) (q : ByteArray) (hq : q.size ≤ 4611686018427387904) : Ev (fun k => impl_AnswerTo.f k st q) (answV st q) := by
  have k2 : ∀ b : Bool, b = decide (st = 2 ∧ ¬ (wordV q = 2 ∨ wordV q = 3)) → (inB st 0 2 && textB q) = true → Ev (fun k => impl_AnswerTo.j1 k st (wordV q) b 4 q 0) (answV st q) := by
    intro b hb hok
    have ho : ¬ (inB st 0 2 && textB q) = false := by simp [hok]
    unfold answV
    rw [if_neg ho]
    refine ev_step (fun k => impl_AnswerTo.j1.eq_2 ..) (ev_ite (fun c => ?_) (fun c => ev_ite (fun c4 => ?_) (fun c4 => ev_ite (fun cs => ev_ite (fun c2 => ?_) (fun c2 => ?_)) (fun cs => ?_))))
    all_goals refine ev_bind (impl_NextSt_ev _ _) (ev_as (ev_now _) ?_)
    · rw [hb] at c
      rw [if_pos (of_decide_eq_true c)]
    all_goals (rw [hb] at c; rw [if_neg (fun h => c (decide_eq_true h))])
    · rw [if_pos c4]
    · rw [if_neg c4, if_pos ⟨cs, c2⟩]
    · rw [if_neg c4, if_neg (fun h => c2 h.2)]
    · rw [if_neg c4, if_neg (fun h => cs h.1)]
  have k0 : ∀ b : Bool, b = !(inB st 0 2 && textB q) → Ev (fun k => impl_AnswerTo.j0 k st q b) (answV st q) := by
    intro b hb
    refine ev_step (fun k => impl_AnswerTo.j0.eq_2 ..) (ev_ite (fun c => ?_) (fun c => ?_))
    · rw [hb] at c
      exact ev_as (ev_now _) (by unfold answV; rw [if_pos (by revert c; generalize (inB st 0 2 && textB q) = z; cases z <;> simp)])
    · rw [hb] at c
      have hok : (inB st 0 2 && textB q) = true := by revert c; generalize (inB st 0 2 && textB q) = z; cases z <;> simp
      refine ev_bind1 (impl_WordOf_eq _) (ev_ite (fun cs => ev_ite (fun c2 => ?_) (fun c2 => ?_)) (fun cs => ?_))
      · exact k2 _ (by simp [c2]) hok
      · exact k2 _ (by by_cases h3 : wordV q = 3 <;> simp [cs, c2, h3, bne]) hok
      · exact k2 _ (by simp [cs]) hok
  unfold impl_AnswerTo.f
  refine ev_bind1 (impl_isIn_eq _ _ _) (ev_ite (fun c => ?_) (fun c => ?_))
  · exact ev_bind (impl_TextOk_ev q hq) (k0 _ (by simp [c]))
  · exact k0 _ (by simp [c])

/-! ### spec_l1New -/
/-- A cursor's place over its bytes. -/
def curB (b : List Int) (i : Int) : Prop := 0 ≤ i ∧ i ≤ b.length
theorem spec_l1New_l0 (b : List Int) (hb : b.length ≤ 4611686018427387904) (d : Nat) : ∀ (x : Int) (i : Int), 0 ≤ i → i + d = b.length → ∃ h, Ev (fun k => spec_l1New.l0 k b x i) (b, 0, h) := by
  induction d with
  | zero =>
    intro x i h0 h1
    exact ⟨x, ev_step (fun k => spec_l1New.l0.eq_2 ..) (ev_neg (by omega) (ev_now _))⟩
  | succ d ih =>
    intro x i h0 h1
    by_cases c : i < 4000
    · obtain ⟨h, e⟩ := ih (Go.bits .and .i64 (wrap64 ((wrap64 ((wrap64 (x * 137)) + (wrap64 (rd b i)))) + 11)) 1073741823) (i + 1) (by omega) (by omega)
      refine ⟨h, ev_step (fun k => spec_l1New.l0.eq_2 ..) (ev_pos (by omega) (ev_pos c (ev_pos h0 ?_)))⟩
      rw [w64 (x := i + 1) (by omega) (by omega)]
      exact e
    · exact ⟨x, ev_step (fun k => spec_l1New.l0.eq_2 ..) (ev_pos (by omega) (ev_neg c (ev_now _)))⟩
theorem spec_l1New_some (b : List Int) (hb : b.length ≤ 4611686018427387904) : ∃ h, Ev (fun k => spec_l1New.f k b) (b, 0, h) := spec_l1New_l0 b hb b.length _ 0 (by omega) (by omega)

/-! ### spec_l1Byte -/
theorem i64_and255 (n : Int) : Go.bits .and .i64 n 255 = n % 256 := by
  have h255 : (BitVec.ofInt 64 255).toNat = 2 ^ 8 - 1 := by decide
  have key : (BitVec.ofInt 64 n &&& BitVec.ofInt 64 255).toNat = (n % ((2 ^ 64 : Nat) : Int)).toNat % 2 ^ 8 := by
    rw [BitVec.toNat_and, BitVec.toNat_ofInt, h255, Nat.and_two_pow_sub_one_eq_mod]
  show IntKind.i64.wrap ((BitVec.ofInt 64 n &&& BitVec.ofInt 64 255).toNat : Nat) = n % 256
  rw [key, IntKind.wrap_i64]
  omega
theorem spec_l1Byte_some (b : List Int) (i h : Int) (hc : curB b i) (hb : b.length ≤ 4611686018427387904) : ∃ v i' h', spec_l1Byte.f b i h = some (v, i', h') ∧ 0 ≤ v ∧ v < 256 ∧ curB b i' := by
  unfold curB at *
  unfold spec_l1Byte.f
  by_cases c : i < (b.length : Int)
  · rw [if_pos c, if_pos hc.1]
    refine ⟨_, _, _, rfl, ?_, ?_, ?_⟩
    · rw [i64_and255]; omega
    · rw [i64_and255]; omega
    · rw [w64 (by omega) (by omega)]; omega
  · rw [if_neg c]
    refine ⟨_, _, _, rfl, ?_, ?_, hc⟩
    · rw [i64_and255]; omega
    · rw [i64_and255]; omega

/-! ### spec_l1Below -/
theorem tmod_in {v n : Int} (h0 : 0 ≤ v) (hn : 0 < n) : 0 ≤ Int.tmod v n ∧ Int.tmod v n < n := by
  rw [Int.tmod_eq_emod_of_nonneg h0]
  exact ⟨Int.emod_nonneg _ (by omega), Int.emod_lt_of_pos _ hn⟩
theorem spec_l1Below_some (b : List Int) (i h n : Int) (hc : curB b i) (hb : b.length ≤ 4611686018427387904) : ∃ v i' h', spec_l1Below.f b i h n = some (v, i', h') ∧ (0 < n → 0 ≤ v ∧ v < n) ∧ (n ≤ 0 → v = 0) ∧ curB b i' := by
  unfold spec_l1Below.f
  by_cases c0 : n ≤ 0
  · rw [if_pos c0]
    exact ⟨0, i, h, rfl, fun h => by omega, fun _ => rfl, hc⟩
  rw [if_neg c0]
  obtain ⟨v, i1, h1, e1, l1, u1, c1⟩ := spec_l1Byte_some b i h hc hb
  by_cases c1' : n ≤ 256
  · rw [if_pos c1', e1, Option.bind_some, if_neg (by omega)]
    exact ⟨_, _, _, rfl, fun hn => tmod_in l1 hn, fun hn => by omega, c1⟩
  · obtain ⟨v2, i2, h2, e2, l2, u2, c2⟩ := spec_l1Byte_some b i1 h1 c1 hb
    obtain ⟨v3, i3, h3, e3, l3, u3, c3⟩ := spec_l1Byte_some b i2 h2 c2 hb
    rw [if_neg c1', e1, Option.bind_some]
    dsimp only
    rw [e2, Option.bind_some]
    dsimp only
    rw [e3, Option.bind_some, if_neg (by omega)]
    refine ⟨_, _, _, rfl, fun hn => tmod_in ?_ hn, fun hn => by omega, c3⟩
    dsimp only
    rw [w64 (x := v * 65536) (by omega) (by omega), w64 (x := v2 * 256) (by omega) (by omega), w64 (x := v * 65536 + v2 * 256) (by omega) (by omega), w64 (by omega) (by omega)]
    omega

/-! ### spec_l1Int -/
theorem spec_l1Int_some (b : List Int) (i h : Int) (l : List Int) (hl : 0 < l.length) (hc : curB b i) (hb : b.length ≤ 4611686018427387904) : ∃ v i' h', spec_l1Int.f b i h l = some (v, i', h') ∧ v ∈ l ∧ curB b i' := by
  obtain ⟨v, i1, h1, e1, r1, _, c1⟩ := spec_l1Below_some b i h (l.length : Int) hc hb
  have r := r1 (by omega)
  unfold spec_l1Int.f
  rw [e1, Option.bind_some]
  dsimp only
  rw [if_pos r.1, if_pos r.2]
  refine ⟨_, _, _, rfl, ?_, c1⟩
  obtain ⟨m, rfl⟩ := Int.eq_ofNat_of_zero_le r.1
  rw [rd_nth l m (by omega)]
  exact List.getElem_mem _

/-! ### spec_l1Size -/
theorem spec_l1Size_some (b : List Int) (m : Int) (hb : b.length ≤ 4611686018427387904) : ∃ v, spec_l1Size.f b m = some v ∧ v ≤ m := by
  unfold spec_l1Size.f
  by_cases c : (wrap64 (3 + (wrap64 ((b.length : Int) / 12)))) > m
  · rw [if_pos c]
    exact ⟨_, rfl, Int.le_refl _⟩
  · rw [if_neg c]
    exact ⟨_, rfl, by omega⟩

/-! ### spec_l1Str -/
theorem spec_l1Str_some (b : List Int) (i h : Int) (l : List ByteArray) (hl : 0 < l.length) (hc : curB b i) (hb : b.length ≤ 4611686018427387904) : ∃ v i' h', spec_l1Str.f b i h l = some (v, i', h') ∧ v ∈ l ∧ curB b i' := by
  obtain ⟨v, i1, h1, e1, r1, _, c1⟩ := spec_l1Below_some b i h (l.length : Int) hc hb
  have r := r1 (by omega)
  unfold spec_l1Str.f
  rw [e1, Option.bind_some]
  dsimp only
  rw [if_pos r.1, if_pos r.2]
  refine ⟨_, _, _, rfl, ?_, c1⟩
  obtain ⟨m, rfl⟩ := Int.eq_ofNat_of_zero_le r.1
  rw [rdOf_nth ByteArray.empty l m (by omega)]
  exact List.getElem_mem _

/-! ### spec_l7Query -/
theorem spec_l7Query_some (b : List Int) (i h : Int) (hc : curB b i) (hb : b.length ≤ 4611686018427387904) : ∃ v i' h', spec_l7Query.f b i h = some (v, i', h') ∧ v.size ≤ 10 ∧ curB b i' := by
  unfold spec_l7Query.f
  obtain ⟨v, i1, h1, e1, m1, c1⟩ := spec_l1Str_some b i h [(⟨#[98, 101, 103, 105, 110]⟩ : ByteArray), (⟨#[98, 101, 103, 105, 110]⟩ : ByteArray), (⟨#[99, 111, 109, 109, 105, 116]⟩ : ByteArray), (⟨#[99, 111, 109, 109, 105, 116]⟩ : ByteArray), (⟨#[114, 111, 108, 108, 98, 97, 99, 107]⟩ : ByteArray), (⟨#[102, 97, 105, 108]⟩ : ByteArray), (⟨#[111, 110, 101]⟩ : ByteArray), (⟨#[116, 119, 111]⟩ : ByteArray), (⟨#[116, 104, 114, 101, 101]⟩ : ByteArray)] (by simp) hc hb
  rw [e1, Option.bind_some]
  refine ⟨_, _, _, rfl, ?_, c1⟩
  have all : ∀ x ∈ [(⟨#[98, 101, 103, 105, 110]⟩ : ByteArray), (⟨#[98, 101, 103, 105, 110]⟩ : ByteArray), (⟨#[99, 111, 109, 109, 105, 116]⟩ : ByteArray), (⟨#[99, 111, 109, 109, 105, 116]⟩ : ByteArray), (⟨#[114, 111, 108, 108, 98, 97, 99, 107]⟩ : ByteArray), (⟨#[102, 97, 105, 108]⟩ : ByteArray), (⟨#[111, 110, 101]⟩ : ByteArray), (⟨#[116, 119, 111]⟩ : ByteArray), (⟨#[116, 104, 114, 101, 101]⟩ : ByteArray)], x.size ≤ 10 := by decide
  exact all v m1

/-! ### spec_DrawWalk -/
theorem spec_DrawWalk_l0 (b : List Int) (hb : b.length ≤ 4611686018427387904) (st : Int) (d : Nat) : ∀ (l : List ByteArray) (i h : Int), l.length + d ≤ 1000000 → curB b i → ∃ l' : List ByteArray, Ev (fun k => spec_DrawWalk.l0 k l st (d : Int) b i h) (st, l') ∧ l'.length ≤ 1000000 := by
  induction d with
  | zero =>
    intro l i h hl hc
    exact ⟨l, ev_step (fun k => spec_DrawWalk.l0.eq_2 ..) (ev_neg (by omega) (ev_now _)), by omega⟩
  | succ d ih =>
    intro l i h hl hc
    obtain ⟨v, i1, h1, e1, s1, c1⟩ := spec_l7Query_some b i h hc hb
    obtain ⟨l', e2, s2⟩ := ih (l ++ [v]) i1 h1 (by rw [List.length_append, List.length_cons, List.length_nil]; omega) c1
    refine ⟨l', ev_step (fun k => spec_DrawWalk.l0.eq_2 ..) (ev_pos (by omega) (ev_bind1 e1 (ev_pos (by omega) ?_))), s2⟩
    rw [show wrap64 (((d + 1 : Nat) : Int) - 1) = (d : Int) by rw [w64 (by omega) (by omega)]; omega]
    exact e2
theorem spec_DrawWalk_some (b : List Int) (hb : b.length ≤ 4611686018427387904) : ∃ (st : Int) (l : List ByteArray), Ev (fun k => spec_DrawWalk.f k b) (st, l) ∧ l.length ≤ 1000000 := by
  obtain ⟨h0, e0⟩ := spec_l1New_some b hb
  obtain ⟨st, i1, h1, e1, m1, c1⟩ := spec_l1Int_some b 0 h0 [0, 0, 1, 2, 3] (by simp) ⟨by omega, by omega⟩ hb
  obtain ⟨z, ez, hz⟩ := spec_l1Size_some b 14 hb
  obtain ⟨n, i2, h2, e2, r2, r3, c2⟩ := spec_l1Below_some b i1 h1 z c1 hb
  have hn : 0 ≤ n ∧ n ≤ 14 := by
    by_cases c : 0 < z
    · have := r2 c
      omega
    · have := r3 (by omega)
      omega
  obtain ⟨m, rfl⟩ := Int.eq_ofNat_of_zero_le hn.1
  obtain ⟨l, e3, s3⟩ := spec_DrawWalk_l0 b hb st m [] i2 h2 (by simp; omega) c2
  exact ⟨st, l, ev_bind e0 (ev_bind1 e1 (ev_bind1 ez (ev_bind1 e2 e3))), s3⟩

/-! ### spec_Walk -/
def walkV (st : Int) (l : List ByteArray) : Int := l.foldl (fun s q => nextV s (wordV q)) st
theorem spec_Walk_l0 (l : List ByteArray) (hl : l.length ≤ 4611686018427387904) (d : Nat) : ∀ (i : Nat) (st : Int), i + d = l.length → Ev (fun k => spec_Walk.l0 k l st (i : Int)) (walkV st (l.drop i)) := by
  induction d with
  | zero =>
    intro i st hi
    refine ev_step (fun k => spec_Walk.l0.eq_2 ..) (ev_neg (by omega) ?_)
    rw [List.drop_of_length_le (by omega)]
    exact ev_now _
  | succ d ih =>
    intro i st hi
    have hlt : i < l.length := by omega
    have hr : rdOf ByteArray.empty l (i : Int) = l[i] := rdOf_nth _ l i hlt
    have hd : l.drop i = l[i] :: l.drop (i + 1) := List.drop_eq_getElem_cons hlt
    refine ev_step (fun k => spec_Walk.l0.eq_2 ..) (ev_pos (by omega) (ev_pos (by omega) ?_))
    rw [hr, w64 (by omega) (by omega), hd]
    exact ev_bind1 (spec_WordOf_eq _) (ev_bind (spec_NextSt_ev _ _) (ih (i + 1) _ (by omega)))
theorem spec_Walk_ev (st : Int) (l : List ByteArray) (hl : l.length ≤ 4611686018427387904) : Ev (fun k => spec_Walk.f k st l) (walkV st l) := spec_Walk_l0 l hl l.length 0 st (by omega)

/-! ### impl_Walk -/
theorem impl_Walk_l0 (l : List ByteArray) (hl : l.length ≤ 4611686018427387904) (d : Nat) : ∀ (i : Nat) (st : Int), i + d = l.length → Ev (fun k => impl_Walk.l0 k st l (l.length : Int) (i : Int)) (walkV st (l.drop i)) := by
  induction d with
  | zero =>
    intro i st hi
    refine ev_step (fun k => impl_Walk.l0.eq_2 ..) (ev_neg (by omega) ?_)
    rw [List.drop_of_length_le (by omega)]
    exact ev_now _
  | succ d ih =>
    intro i st hi
    have hlt : i < l.length := by omega
    have hr : rdOf ByteArray.empty l (i : Int) = l[i] := rdOf_nth _ l i hlt
    have hd : l.drop i = l[i] :: l.drop (i + 1) := List.drop_eq_getElem_cons hlt
    refine ev_step (fun k => impl_Walk.l0.eq_2 ..) (ev_pos (by omega) (ev_pos (by omega) (ev_pos (by omega) ?_)))
    rw [hr, w64 (by omega) (by omega), hd]
    exact ev_bind1 (impl_WordOf_eq _) (ev_bind (impl_NextSt_ev _ _) (ih (i + 1) _ (by omega)))
theorem impl_Walk_ev (st : Int) (l : List ByteArray) (hl : l.length ≤ 4611686018427387904) : Ev (fun k => impl_Walk.f k st l) (walkV st l) := impl_Walk_l0 l hl l.length 0 st (by omega)

/-! ### spec_l1Once -/
theorem spec_l1Once_some (b : List Int) (i h n : Int) (hc : curB b i) (hb : b.length ≤ 4611686018427387904) : ∃ v i' h', spec_l1Once.f b i h n = some (v, i', h') ∧ curB b i' := by
  obtain ⟨v, i1, h1, e1, _, _, c1⟩ := spec_l1Below_some b i h n hc hb
  unfold spec_l1Once.f
  rw [e1, Option.bind_some]
  exact ⟨_, _, _, rfl, c1⟩

/-! ### spec_l1Text -/
theorem spec_l1Text_l0 (b : List Int) (hb : b.length ≤ 4611686018427387904) (d : Nat) : ∀ (s : ByteArray) (i h : Int), s.size + d = 101 → curB b i → ∃ v i' h', Ev (fun k => spec_l1Text.l0 k s b i h) (v, i', h') ∧ v.size ≤ 101 ∧ curB b i' := by
  induction d with
  | zero =>
    intro s i h hs hc
    obtain ⟨v, i1, h1, e1, m1, c1⟩ := spec_l1Int_some b i h [100, 101, 60] (by simp) hc hb
    have hv : v ≤ 101 := by
      have all : ∀ x ∈ ([100, 101, 60] : List Int), x ≤ 101 := by decide
      exact all v m1
    exact ⟨_, _, _, ev_step (fun k => spec_l1Text.l0.eq_2 ..) (ev_bind1 e1 (ev_neg (by omega) (ev_now _))), by omega, c1⟩
  | succ d ih =>
    intro s i h hs hc
    obtain ⟨v, i1, h1, e1, m1, c1⟩ := spec_l1Int_some b i h [100, 101, 60] (by simp) hc hb
    have hz : (s ++ (⟨#[120]⟩ : ByteArray)).size = s.size + 1 := by
      rw [ByteArray.size_append]
      rfl
    by_cases c : (s.size : Int) < v
    · obtain ⟨v2, i2, h2, e2, s2, c2⟩ := ih (s ++ (⟨#[120]⟩ : ByteArray)) i1 h1 (by omega) c1
      exact ⟨_, _, _, ev_step (fun k => spec_l1Text.l0.eq_2 ..) (ev_bind1 e1 (ev_pos c (ev_pos (by omega) e2))), s2, c2⟩
    · exact ⟨_, _, _, ev_step (fun k => spec_l1Text.l0.eq_2 ..) (ev_bind1 e1 (ev_neg c (ev_now _))), by omega, c1⟩
theorem spec_l1Text_some (b : List Int) (i h : Int) (hc : curB b i) (hb : b.length ≤ 4611686018427387904) : ∃ v i' h', Ev (fun k => spec_l1Text.f k b i h) (v, i', h') ∧ v.size ≤ 101 ∧ curB b i' := by
  unfold spec_l1Text.f
  obtain ⟨v, i1, h1, e1, c1⟩ := spec_l1Once_some b i h 8 hc hb
  by_cases c : v = true
  · obtain ⟨v2, i2, h2, e2, s2, c2⟩ := spec_l1Text_l0 b hb 101 (⟨#[]⟩ : ByteArray) i1 h1 rfl c1
    exact ⟨_, _, _, ev_bind1 e1 (ev_pos c e2), s2, c2⟩
  · obtain ⟨v2, i2, h2, e2, m2, c2⟩ := spec_l1Str_some b i1 h1 [(⟨#[]⟩ : ByteArray), (⟨#[97]⟩ : ByteArray), (⟨#[104, 101, 108, 108, 111]⟩ : ByteArray), (⟨#[98, 101, 103, 105, 110]⟩ : ByteArray), (⟨#[97, 32, 98]⟩ : ByteArray), (⟨#[127]⟩ : ByteArray), (⟨#[31]⟩ : ByteArray), (⟨#[126]⟩ : ByteArray)] (by simp) c1 hb
    have all : ∀ x ∈ [(⟨#[]⟩ : ByteArray), (⟨#[97]⟩ : ByteArray), (⟨#[104, 101, 108, 108, 111]⟩ : ByteArray), (⟨#[98, 101, 103, 105, 110]⟩ : ByteArray), (⟨#[97, 32, 98]⟩ : ByteArray), (⟨#[127]⟩ : ByteArray), (⟨#[31]⟩ : ByteArray), (⟨#[126]⟩ : ByteArray)], x.size ≤ 101 := by decide
    exact ⟨_, _, _, ev_bind1 e1 (ev_neg c (ev_bind1 e2 (ev_now _))), all v2 m2, c2⟩

/-! ### spec_DrawAnswerTo -/
theorem spec_DrawAnswerTo_some (b : List Int) (hb : b.length ≤ 4611686018427387904) : ∃ (st : Int) (q : ByteArray), Ev (fun k => spec_DrawAnswerTo.f k b) (st, q) ∧ q.size ≤ 101 := by
  obtain ⟨h0, e0⟩ := spec_l1New_some b hb
  obtain ⟨st, i1, h1, e1, m1, c1⟩ := spec_l1Int_some b 0 h0 [0, 1, 2, 0, 1, 2, 3, (-1)] (by simp) ⟨by omega, by omega⟩ hb
  obtain ⟨o, i2, h2, e2, c2⟩ := spec_l1Once_some b i1 h1 8 c1 hb
  by_cases c : o = true
  · obtain ⟨q, i3, h3, e3, s3, c3⟩ := spec_l1Text_some b i2 h2 c2 hb
    exact ⟨st, q, ev_bind e0 (ev_bind1 e1 (ev_bind1 e2 (ev_pos c (ev_bind e3 (ev_now _))))), s3⟩
  · obtain ⟨q, i3, h3, e3, s3, c3⟩ := spec_l7Query_some b i2 h2 c2 hb
    exact ⟨st, q, ev_bind e0 (ev_bind1 e1 (ev_bind1 e2 (ev_neg c (ev_bind1 e3 (ev_now _))))), by omega⟩

/-! ### spec_DrawNextSt -/
theorem spec_DrawNextSt_some (b : List Int) (hb : b.length ≤ 4611686018427387904) : ∃ (st w : Int), Ev (fun k => spec_DrawNextSt.f k b) (st, w) := by
  obtain ⟨h0, e0⟩ := spec_l1New_some b hb
  obtain ⟨v, i1, h1, e1, r1, _, c1⟩ := spec_l1Below_some b 0 h0 5 ⟨by omega, by omega⟩ hb
  obtain ⟨w, i2, h2, e2, r2, _, c2⟩ := spec_l1Below_some b i1 h1 7 c1 hb
  exact ⟨_, _, ev_bind e0 (ev_bind1 e1 (ev_bind1 e2 (ev_now _)))⟩

/-! ### laws_sameFrames -/
theorem laws_sameFrames_l0 (l : List S91) (hl : l.length ≤ 4611686018427387904) (d : Nat) : ∀ i : Nat, i + d = l.length → Ev (fun k => laws_sameFrames.l0 k l l (i : Int)) true := by
  induction d with
  | zero =>
    intro i hi
    exact ev_step (fun k => laws_sameFrames.l0.eq_2 ..) (ev_neg (by omega) (ev_now _))
  | succ d ih =>
    intro i hi
    have hn := ih (i + 1) (by omega)
    refine ev_step (fun k => laws_sameFrames.l0.eq_2 ..) (ev_pos (by omega) (ev_pos (by omega) (ev_pos (by omega) (ev_neg (by simp) ?_))))
    rw [w64 (by omega) (by omega)]
    exact hn
theorem laws_sameFrames_ev (l : List S91) (hl : l.length ≤ 4611686018427387904) : Ev (fun k => laws_sameFrames.f k l l) true := ev_pos rfl (laws_sameFrames_l0 l hl l.length 0 (by omega))

theorem at_nonneg (b : List Int) (hm : ∀ x ∈ b, (Lit.int .u8 x).wf = true) (hb : b.length ≤ 1048576) (i : Int) (h0 : 0 ≤ i) (h1 : i ≤ 1000) : ∃ v, laws_at.f b i = some v ∧ 0 ≤ v := by
  unfold laws_at.f
  by_cases c : i < (b.length : Int)
  · rw [if_pos c, if_pos h0]
    refine ⟨_, rfl, ?_⟩
    obtain ⟨m, rfl⟩ := Int.eq_ofNat_of_zero_le h0
    have hv := hm b[m] (List.getElem_mem (by omega))
    rw [rd_nth b m (by omega)]
    simp [Lit.wf, IntKind.min, IntKind.max, IntKind.bits, IntKind.signed] at hv
    rw [w64 (by omega) (by omega)]
    omega
  · rw [if_neg c]
    refine ⟨_, rfl, ?_⟩
    rw [w64 (x := i * 31) (by omega) (by omega), w64 (x := (b.length : Int) * 7) (by omega) (by omega), w64 (by omega) (by omega), Int.tmod_eq_emod_of_nonneg (by omega)]
    omega
theorem walkV_cut (st : Int) (l : List ByteArray) (n : Nat) : walkV (walkV st (l.take n)) (l.drop n) = walkV st l := by
  unfold walkV
  rw [← List.foldl_append, List.take_append_drop]
theorem nextV_back (s : Int) : nextV s 3 = 0 := by
  unfold nextV
  repeat' split
  all_goals first | rfl | omega | simp_all
theorem walks_j1 (a : Int) (q : ByteArray) (hq : q.size ≤ 101) : Ev (fun k => laws_FnWalks.j1 k a q (answV a q) false) true := by
  refine ev_step (fun k => laws_FnWalks.j1.eq_2 ..) (ev_neg (by simp) ?_)
  by_cases c : (inB a 0 2 && textB q) = false
  · have e : answV a q = [] := by unfold answV; rw [if_pos c]
    rw [e]
    refine ev_pos rfl (ev_ite (fun _ => ev_now _) (fun c1 => ev_ite (fun _ => ev_now _) (fun c2 => ?_)))
    refine ev_bind (impl_TextOk_ev q (by omega)) (ev_as (ev_now _) ?_)
    rw [(inB_iff _ _ _).2 ⟨by omega, by omega⟩] at c
    simpa using c
  · obtain ⟨f, hf, e⟩ : ∃ f : S91, (f.f0 = 4 ∨ f.f0 = 6) ∧ answV a q = [f, ⟨5, ⟨#[]⟩, nextV a (wordV q)⟩] := by
      unfold answV
      rw [if_neg c]
      refine ⟨_, ?_, rfl⟩
      split
      · exact .inr rfl
      · split
        · exact .inr rfl
        · split
          · exact .inl rfl
          · exact .inl rfl
    have hw : Ev (fun k => impl_Walk.f k a [q, (⟨#[114, 111, 108, 108, 98, 97, 99, 107]⟩ : ByteArray)]) 0 := by
      refine ev_as (impl_Walk_ev a _ (by simp)) ?_
      have h3 : wordV (⟨#[114, 111, 108, 108, 98, 97, 99, 107]⟩ : ByteArray) = 3 := by simp [wordV, ByteArray.toList_eq]
      show nextV (nextV a (wordV q)) (wordV _) = 0
      rw [h3]
      exact nextV_back _
    rw [e]
    refine ev_neg (by simp) (ev_pos rfl (ev_pos (by simp) (ev_pos rfl (ev_bind1 (impl_WordOf_eq q) (ev_bind (impl_NextSt_ev a _) (ev_pos rfl (ev_pos (by simp) (ev_ite (fun c4 => ?_) (fun c4 => ?_)))))))))
    · exact ev_bind hw (ev_now _)
    · refine ev_pos ?_ (ev_bind hw (ev_now _))
      rcases hf with h | h
      · exact absurd h c4
      · exact h
theorem FnWalks : laws_FnWalks.Pure := by
  intro b _ hm hw
  refine ev_rounds ?_
  have hb : b.length ≤ 4611686018427387904 := by omega
  unfold laws_FnWalks.f
  refine ev_bind1 (laws_big_eq b) (ev_ite (fun _ => ev_now _) (fun cb => ?_))
  have hb2 : b.length ≤ 1048576 := by
    have : ¬ ((b.length : Int) > 1048576) := fun h => cb (decide_eq_true h)
    omega
  obtain ⟨st, l, e1, s1⟩ := spec_DrawWalk_some b hb
  obtain ⟨a, q, e2, s2⟩ := spec_DrawAnswerTo_some b hb
  obtain ⟨n, w, e3⟩ := spec_DrawNextSt_some b hb
  have main : ∀ m : Nat, m ≤ l.length → Ev (fun k => laws_FnWalks.j0 k b st l (m : Int)) true := by
    intro m hml
    have la : (answV a q).length ≤ 2 := by
      unfold answV
      split
      · simp
      · simp
    refine ev_step (fun k => laws_FnWalks.j0.eq_2 ..) (ev_bind (impl_Walk_ev st l (by omega)) (ev_bind e2 (ev_bind (impl_AnswerTo_ev a q (by omega)) (ev_bind e3 (ev_bind (spec_Walk_ev st l (by omega)) (ev_pos rfl (ev_pos (by omega) (ev_pos (by omega) ?_))))))))
    refine ev_bind (impl_Walk_ev st _ (by rw [List.length_take]; omega)) (ev_bind (impl_Walk_ev _ _ (by rw [List.length_drop]; omega)) (ev_pos (walkV_cut st l _).symm (ev_bind (spec_AnswerTo_ev a q (by omega)) (ev_bind (laws_sameFrames_ev _ (by omega)) (ev_pos rfl (ev_bind (impl_NextSt_ev n w) (ev_bind (spec_NextSt_ev n w) (ev_pos rfl (ev_bind1 (impl_WordOf_eq q) (ev_bind1 (spec_WordOf_eq q) ?_))))))))))
    simp only [bne_self_eq_false]
    exact walks_j1 a q s2
  refine ev_bind e1 (ev_ite (fun c => ?_) (fun c => main 0 (by omega)))
  obtain ⟨v, ev, hv⟩ := at_nonneg b hw hb2 2 (by omega) (by omega)
  have hl : wrap64 ((l.length : Int) + 1) = (l.length : Int) + 1 := w64 (by omega) (by omega)
  simp only [hl]
  refine ev_bind1 ev (ev_neg (by omega) ?_)
  have ht := tmod_in hv (show 0 < (l.length : Int) + 1 by omega)
  obtain ⟨m, hm2⟩ := Int.eq_ofNat_of_zero_le ht.1
  rw [hm2]
  exact main m (by omega)
end Go.Proofs.Ythmfmpmljndjhaa.Pure
