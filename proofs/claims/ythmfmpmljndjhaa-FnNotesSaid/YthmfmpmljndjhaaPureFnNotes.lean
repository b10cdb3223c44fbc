/- The notes' law: what is picked is what the list has, in order; the same for a line's; NoteOk and NoteName as the reference's. -/
import Derived.Test.YthmfmpmljndjhaaPFnNotesx6
import Derived.Test.YthmfmpmljndjhaaVBase
import Derived.Test.YthmfmpmljndjhaaVExt
namespace Go.Proofs.Ythmfmpmljndjhaa.Pure
open Go.RowKit Go.Proofs.Ythmfmpmljndjhaa.PFnNotes Go.Proofs.YthmfmpmljndjhaaW.PrintWords Go.Proofs.YthmfmpmljndjhaaW.PrintLast Go.Proofs.YthmfmpmljndjhaaV
set_option linter.unusedVariables false
set_option linter.unusedSimpArgs false
set_option maxRecDepth 20000

/-! ### laws_big -/
theorem laws_big_eq (l : List Int) : laws_big.f l = some (decide ((l.length : Int) > 1048576)) := rfl

/-! ### spec_l1New -/
/-- A cursor's place over its bytes. -/
def curB (b : List Int) (i : Int) : Prop := 0 ≤ i ∧ i ≤ b.length
theorem spec_l1New_l0 (b : List Int) (hb : b.length ≤ 4611686018427387904) (d : Nat) : ∀ (x : Int) (i : Int), 0 ≤ i → i + d = b.length → ∃ h, Ev (fun k => spec_l1New.l0 k b x i) (b, 0, h) := by
  induction d with
  | zero =>
    intro x i h0 h1
    exact ⟨x, ev_step (fun k => spec_l1New.l0.eq_2 ..) (ev_neg (by omega) (ev_now _))⟩
  | succ d ih =>
    intro x i h0 h1
    by_cases c : i < 4000
    · obtain ⟨h, e⟩ := ih (Go.bits .and .i64 (wrap64 ((wrap64 ((wrap64 (x * 137)) + (wrap64 (rd b i)))) + 11)) 1073741823) (i + 1) (by omega) (by omega)
      refine ⟨h, ev_step (fun k => spec_l1New.l0.eq_2 ..) (ev_pos (by omega) (ev_pos c (ev_pos h0 ?_)))⟩
      rw [w64 (x := i + 1) (by omega) (by omega)]
      exact e
    · exact ⟨x, ev_step (fun k => spec_l1New.l0.eq_2 ..) (ev_pos (by omega) (ev_neg c (ev_now _)))⟩
theorem spec_l1New_some (b : List Int) (hb : b.length ≤ 4611686018427387904) : ∃ h, Ev (fun k => spec_l1New.f k b) (b, 0, h) := spec_l1New_l0 b hb b.length _ 0 (by omega) (by omega)

/-! ### spec_l1Byte -/
theorem i64_and255 (n : Int) : Go.bits .and .i64 n 255 = n % 256 := by
  have h255 : (BitVec.ofInt 64 255).toNat = 2 ^ 8 - 1 := by decide
  have key : (BitVec.ofInt 64 n &&& BitVec.ofInt 64 255).toNat = (n % ((2 ^ 64 : Nat) : Int)).toNat % 2 ^ 8 := by
    rw [BitVec.toNat_and, BitVec.toNat_ofInt, h255, Nat.and_two_pow_sub_one_eq_mod]
  show IntKind.i64.wrap ((BitVec.ofInt 64 n &&& BitVec.ofInt 64 255).toNat : Nat) = n % 256
  rw [key, IntKind.wrap_i64]
  omega
theorem spec_l1Byte_some (b : List Int) (i h : Int) (hc : curB b i) (hb : b.length ≤ 4611686018427387904) : ∃ v i' h', spec_l1Byte.f b i h = some (v, i', h') ∧ 0 ≤ v ∧ v < 256 ∧ curB b i' := by
  unfold curB at *
  unfold spec_l1Byte.f
  by_cases c : i < (b.length : Int)
  · rw [if_pos c, if_pos hc.1]
    refine ⟨_, _, _, rfl, ?_, ?_, ?_⟩
    · rw [i64_and255]; omega
    · rw [i64_and255]; omega
    · rw [w64 (by omega) (by omega)]; omega
  · rw [if_neg c]
    refine ⟨_, _, _, rfl, ?_, ?_, hc⟩
    · rw [i64_and255]; omega
    · rw [i64_and255]; omega

/-! ### spec_l1Below -/
theorem tmod_in {v n : Int} (h0 : 0 ≤ v) (hn : 0 < n) : 0 ≤ Int.tmod v n ∧ Int.tmod v n < n := by
  rw [Int.tmod_eq_emod_of_nonneg h0]
  exact ⟨Int.emod_nonneg _ (by omega), Int.emod_lt_of_pos _ hn⟩
theorem spec_l1Below_some (b : List Int) (i h n : Int) (hc : curB b i) (hb : b.length ≤ 4611686018427387904) : ∃ v i' h', spec_l1Below.f b i h n = some (v, i', h') ∧ (0 < n → 0 ≤ v ∧ v < n) ∧ (n ≤ 0 → v = 0) ∧ curB b i' := by
  unfold spec_l1Below.f
  by_cases c0 : n ≤ 0
  · rw [if_pos c0]
    exact ⟨0, i, h, rfl, fun h => by omega, fun _ => rfl, hc⟩
  rw [if_neg c0]
  obtain ⟨v, i1, h1, e1, l1, u1, c1⟩ := spec_l1Byte_some b i h hc hb
  by_cases c1' : n ≤ 256
  · rw [if_pos c1', e1, Option.bind_some, if_neg (by omega)]
    exact ⟨_, _, _, rfl, fun hn => tmod_in l1 hn, fun hn => by omega, c1⟩
  · obtain ⟨v2, i2, h2, e2, l2, u2, c2⟩ := spec_l1Byte_some b i1 h1 c1 hb
    obtain ⟨v3, i3, h3, e3, l3, u3, c3⟩ := spec_l1Byte_some b i2 h2 c2 hb
    rw [if_neg c1', e1, Option.bind_some]
    dsimp only
    rw [e2, Option.bind_some]
    dsimp only
    rw [e3, Option.bind_some, if_neg (by omega)]
    refine ⟨_, _, _, rfl, fun hn => tmod_in ?_ hn, fun hn => by omega, c3⟩
    dsimp only
    rw [w64 (x := v * 65536) (by omega) (by omega), w64 (x := v2 * 256) (by omega) (by omega), w64 (x := v * 65536 + v2 * 256) (by omega) (by omega), w64 (by omega) (by omega)]
    omega

/-! ### spec_l1Int -/
theorem spec_l1Int_some (b : List Int) (i h : Int) (l : List Int) (hl : 0 < l.length) (hc : curB b i) (hb : b.length ≤ 4611686018427387904) : ∃ v i' h', spec_l1Int.f b i h l = some (v, i', h') ∧ v ∈ l ∧ curB b i' := by
  obtain ⟨v, i1, h1, e1, r1, _, c1⟩ := spec_l1Below_some b i h (l.length : Int) hc hb
  have r := r1 (by omega)
  unfold spec_l1Int.f
  rw [e1, Option.bind_some]
  dsimp only
  rw [if_pos r.1, if_pos r.2]
  refine ⟨_, _, _, rfl, ?_, c1⟩
  obtain ⟨m, rfl⟩ := Int.eq_ofNat_of_zero_le r.1
  rw [rd_nth l m (by omega)]
  exact List.getElem_mem _

/-! ### spec_l13Draw -/
theorem spec_l13Draw_some (b : List Int) (i h : Int) (hc : curB b i) (hb : b.length ≤ 4611686018427387904) : ∃ (n : S29) (i' h' : Int), spec_l13Draw.f b i h = some (n.f0, n.f1, n.f2, n.f3, n.f4, n.f5, n.f6, n.f7, n.f8, i', h') ∧ curB b i' := by
  obtain ⟨v1, i1, h1, e1, _, _, c1⟩ := spec_l1Below_some b i h 9 hc hb
  obtain ⟨v2, i2, h2, e2, _, _, c2⟩ := spec_l1Below_some b i1 h1 2 c1 hb
  obtain ⟨v3, i3, h3, e3, _, _, c3⟩ := spec_l1Below_some b i2 h2 3 c2 hb
  obtain ⟨v4, i4, h4, e4, _, _, c4⟩ := spec_l1Below_some b i3 h3 3 c3 hb
  obtain ⟨v5, i5, h5, e5, _, _, c5⟩ := spec_l1Below_some b i4 h4 2 c4 hb
  obtain ⟨v6, i6, h6, e6, _, _, c6⟩ := spec_l1Below_some b i5 h5 3 c5 hb
  obtain ⟨v7, i7, h7, e7, _, _, c7⟩ := spec_l1Below_some b i6 h6 4 c6 hb
  obtain ⟨v8, i8, h8, e8, _, _, c8⟩ := spec_l1Below_some b i7 h7 4 c7 hb
  obtain ⟨v9, i9, h9, e9, _, _, c9⟩ := spec_l1Below_some b i8 h8 6 c8 hb
  unfold spec_l13Draw.f
  simp only [e1, e2, e3, e4, e5, e6, e7, e8, e9, Option.bind_some]
  exact ⟨⟨_, _, _, _, _, _, _, _, _⟩, _, _, rfl, c9⟩

/-! ### spec_l13Any -/
theorem spec_l13Any_some (b : List Int) (i h : Int) (hc : curB b i) (hb : b.length ≤ 4611686018427387904) : ∃ (n : S29) (i' h' : Int), spec_l13Any.f b i h = some (n.f0, n.f1, n.f2, n.f3, n.f4, n.f5, n.f6, n.f7, n.f8, i', h') ∧ curB b i' := by
  obtain ⟨n, i1, h1, e1, c1⟩ := spec_l13Draw_some b i h hc hb
  obtain ⟨v, i2, h2, e2, _, _, c2⟩ := spec_l1Below_some b i1 h1 18 c1 hb
  unfold spec_l13Any.f
  simp only [e1, e2, Option.bind_some]
  obtain ⟨a1, j1, g1, f1, _, k1⟩ := spec_l1Int_some b i2 h2 [0, 10, (-1)] (by simp) c2 hb
  obtain ⟨a2, j2, g2, f2, _, k2⟩ := spec_l1Int_some b i2 h2 [(-1), 2] (by simp) c2 hb
  obtain ⟨a3, j3, g3, f3, _, k3⟩ := spec_l1Int_some b i2 h2 [(-1), 60001] (by simp) c2 hb
  obtain ⟨a4, j4, g4, f4, _, k4⟩ := spec_l1Int_some b i2 h2 [(-1), 10000] (by simp) c2 hb
  simp only [f1, f2, f3, f4, Option.bind_some]
  by_cases d0 : v = 0
  · rw [if_pos d0]
    exact ⟨⟨a1, n.f1, n.f2, n.f3, n.f4, n.f5, n.f6, n.f7, n.f8⟩, _, _, rfl, k1⟩
  rw [if_neg d0]
  by_cases d1 : v = 1
  · rw [if_pos d1]
    exact ⟨⟨n.f0, a2, n.f2, n.f3, n.f4, n.f5, n.f6, n.f7, n.f8⟩, _, _, rfl, k2⟩
  rw [if_neg d1]
  by_cases d2 : v = 2
  · rw [if_pos d2]
    exact ⟨⟨n.f0, n.f1, n.f2, n.f3, a2, n.f5, n.f6, n.f7, n.f8⟩, _, _, rfl, k2⟩
  rw [if_neg d2]
  by_cases d3 : v = 3
  · rw [if_pos d3]
    exact ⟨⟨n.f0, n.f1, a3, n.f3, n.f4, n.f5, n.f6, n.f7, n.f8⟩, _, _, rfl, k3⟩
  rw [if_neg d3]
  by_cases d4 : v = 4
  · rw [if_pos d4]
    exact ⟨⟨n.f0, n.f1, n.f2, a3, n.f4, n.f5, n.f6, n.f7, n.f8⟩, _, _, rfl, k3⟩
  rw [if_neg d4]
  by_cases d5 : v = 5
  · rw [if_pos d5]
    exact ⟨⟨n.f0, n.f1, n.f2, n.f3, n.f4, a4, n.f6, n.f7, n.f8⟩, _, _, rfl, k4⟩
  rw [if_neg d5]
  by_cases d6 : v = 6
  · rw [if_pos d6]
    exact ⟨⟨n.f0, n.f1, n.f2, n.f3, n.f4, n.f5, a4, n.f7, n.f8⟩, _, _, rfl, k4⟩
  rw [if_neg d6]
  by_cases d7 : v = 7
  · rw [if_pos d7]
    exact ⟨⟨n.f0, n.f1, n.f2, n.f3, n.f4, n.f5, n.f6, -1, n.f8⟩, _, _, rfl, c2⟩
  rw [if_neg d7]
  by_cases d8 : v = 8
  · rw [if_pos d8]
    exact ⟨⟨n.f0, n.f1, n.f2, n.f3, n.f4, n.f5, n.f6, n.f7, -1⟩, _, _, rfl, c2⟩
  rw [if_neg d8]
  exact ⟨n, _, _, rfl, c2⟩

/-! ### spec_l13List -/
theorem spec_l13List_l0 (b : List Int) (hb : b.length ≤ 4611686018427387904) (d : Nat) : ∀ (o : List S29) (i h : Int), o.length + d ≤ 1000000 → curB b i → ∃ (l : List S29) (i' h' : Int), Ev (fun k => spec_l13List.l0 k o (d : Int) b i h) (l, i', h') ∧ l.length ≤ o.length + d ∧ curB b i' := by
  induction d with
  | zero =>
    intro o i h ho hc
    exact ⟨o, i, h, ev_step (fun k => spec_l13List.l0.eq_2 ..) (ev_neg (by omega) (ev_now _)), by omega, hc⟩
  | succ d ih =>
    intro o i h ho hc
    obtain ⟨n, i1, h1, e1, c1⟩ := spec_l13Any_some b i h hc hb
    obtain ⟨l, i2, h2, e2, s2, c2⟩ := ih (o ++ [n]) i1 h1 (by simp; omega) c1
    refine ⟨l, i2, h2, ev_step (fun k => spec_l13List.l0.eq_2 ..) (ev_pos (by omega) (ev_bind1 e1 (ev_pos (by omega) ?_))), by simp at s2; omega, c2⟩
    have w : wrap64 (((d + 1 : Nat) : Int) - 1) = (d : Int) := by rw [w64 (by omega) (by omega)]; omega
    simp only [w]
    exact e2
theorem spec_l13List_some (b : List Int) (i h n : Int) (hn : 0 ≤ n) (hn2 : n ≤ 1000000) (hc : curB b i) (hb : b.length ≤ 4611686018427387904) : ∃ (l : List S29) (i' h' : Int), Ev (fun k => spec_l13List.f k b i h n) (l, i', h') ∧ l.length ≤ 1000000 ∧ curB b i' := by
  obtain ⟨v, i1, h1, e1, r1, _, c1⟩ := spec_l1Below_some b i h (wrap64 (n + 1)) hc hb
  rw [w64 (by omega) (by omega)] at r1 e1
  have r := r1 (by omega)
  obtain ⟨m, rfl⟩ := Int.eq_ofNat_of_zero_le r.1
  obtain ⟨l, i2, h2, e2, s2, c2⟩ := spec_l13List_l0 b hb m [] i1 h1 (by simp; omega) c1
  refine ⟨l, i2, h2, ?_, by simp at s2; omega, c2⟩
  unfold spec_l13List.f
  rw [w64 (by omega) (by omega)]
  exact ev_bind1 e1 e2

/-! ### spec_DrawPick -/
theorem spec_DrawPick_some (b : List Int) (hb : b.length ≤ 4611686018427387904) : ∃ (l : List S29) (n : Int), Ev (fun k => spec_DrawPick.f k b) (l, n) ∧ l.length ≤ 1000000 := by
  obtain ⟨h, e⟩ := spec_l1New_some b hb
  obtain ⟨l, i1, h1, e1, s1, c1⟩ := spec_l13List_some b 0 h 12 (by omega) (by omega) ⟨by omega, by omega⟩ hb
  obtain ⟨v, i2, h2, e2, r2, _, c2⟩ := spec_l1Below_some b i1 h1 11 c1 hb
  exact ⟨l, v, ev_bind e (ev_bind e1 (ev_bind1 e2 (ev_now _))), s1⟩

/-! ### impl_Pick -/
theorem impl_Pick_l0 (l : List S29) (a : Int) (hl : l.length ≤ 1000000000000) (d : Nat) : ∀ (i : Nat) (o : List S29), i + d = l.length → o.length ≤ i → Ev (fun k => impl_Pick.l0 k a o l (l.length : Int) (i : Int)) (o ++ (l.drop i).filter (fun x => x.f0 == a)) := by
  induction d with
  | zero =>
    intro i o hi ho
    refine ev_step (fun k => impl_Pick.l0.eq_2 ..) (ev_neg (by omega) ?_)
    rw [List.drop_of_length_le (by omega)]
    exact ev_as (ev_now _) (by simp)
  | succ d ih =>
    intro i o hi ho
    have hlt : i < l.length := by omega
    have hr : rd_T29 l (i : Int) = l[i] := getD_nth _ l i hlt
    have hd : l.drop i = l[i] :: l.drop (i + 1) := List.drop_eq_getElem_cons hlt
    refine ev_step (fun k => impl_Pick.l0.eq_2 ..) (ev_pos (by omega) (ev_pos (by omega) (ev_pos (by omega) ?_)))
    simp only [hr]
    rw [w64 (by omega) (by omega), hd, List.filter_cons]
    refine ev_ite (fun c => ev_pos (by omega) ?_) (fun c => ?_)
    · exact ev_as (ih (i + 1) (o ++ [l[i]]) (by omega) (by simp; omega)) (by simp [c])
    · exact ev_as (ih (i + 1) o (by omega) (by omega)) (by simp [c])
theorem impl_Pick_ev (l : List S29) (a : Int) (hl : l.length ≤ 1000000000000) : Ev (fun k => impl_Pick.f k l a) (l.filter (fun x => x.f0 == a)) := ev_as (impl_Pick_l0 l a hl l.length 0 [] (by omega) (by simp)) (by simp)

/-! ### spec_DrawOfLine -/
theorem spec_DrawOfLine_some (b : List Int) (hb : b.length ≤ 4611686018427387904) : ∃ (l : List S29) (n : Int), Ev (fun k => spec_DrawOfLine.f k b) (l, n) ∧ l.length ≤ 1000000 := by
  obtain ⟨h, e⟩ := spec_l1New_some b hb
  obtain ⟨l, i1, h1, e1, s1, c1⟩ := spec_l13List_some b 0 h 12 (by omega) (by omega) ⟨by omega, by omega⟩ hb
  obtain ⟨v, i2, h2, e2, r2, _, c2⟩ := spec_l1Below_some b i1 h1 6 c1 hb
  exact ⟨l, wrap64 (v - 1), ev_bind e (ev_bind e1 (ev_bind1 e2 (ev_now _))), s1⟩

/-! ### impl_OfLine -/
theorem impl_OfLine_l0 (l : List S29) (a : Int) (hl : l.length ≤ 1000000000000) (d : Nat) : ∀ (i : Nat) (o : List S29), i + d = l.length → o.length ≤ i → Ev (fun k => impl_OfLine.l0 k a o l (l.length : Int) (i : Int)) (o ++ (l.drop i).filter (fun x => decide (a ≥ 1) && x.f6 == a)) := by
  induction d with
  | zero =>
    intro i o hi ho
    refine ev_step (fun k => impl_OfLine.l0.eq_2 ..) (ev_neg (by omega) ?_)
    rw [List.drop_of_length_le (by omega)]
    exact ev_as (ev_now _) (by simp)
  | succ d ih =>
    intro i o hi ho
    have hlt : i < l.length := by omega
    have hr : rd_T29 l (i : Int) = l[i] := getD_nth _ l i hlt
    have hd : l.drop i = l[i] :: l.drop (i + 1) := List.drop_eq_getElem_cons hlt
    refine ev_step (fun k => impl_OfLine.l0.eq_2 ..) (ev_pos (by omega) (ev_pos (by omega) (ev_pos (by omega) ?_)))
    simp only [hr]
    rw [w64 (by omega) (by omega), hd, List.filter_cons]
    refine ev_ite (fun c2 => ev_ite (fun c => ev_pos (by omega) ?_) (fun c => ?_)) (fun c2 => ?_)
    · exact ev_as (ih (i + 1) (o ++ [l[i]]) (by omega) (by simp; omega)) (by simp [c, c2])
    · exact ev_as (ih (i + 1) o (by omega) (by omega)) (by simp [c])
    · exact ev_as (ih (i + 1) o (by omega) (by omega)) (by simp [c2])
theorem impl_OfLine_ev (l : List S29) (a : Int) (hl : l.length ≤ 1000000000000) : Ev (fun k => impl_OfLine.f k l a) (l.filter (fun x => decide (a ≥ 1) && x.f6 == a)) := ev_as (impl_OfLine_l0 l a hl l.length 0 [] (by omega) (by simp)) (by simp)

/-! ### spec_DrawNoteOk -/
theorem spec_DrawNoteOk_some (b : List Int) (hb : b.length ≤ 4611686018427387904) : ∃ (n : S29), Ev (fun k => spec_DrawNoteOk.f k b) (n.f0, n.f1, n.f2, n.f3, n.f4, n.f5, n.f6, n.f7, n.f8) := by
  obtain ⟨h, e⟩ := spec_l1New_some b hb
  obtain ⟨n, i1, h1, e1, c1⟩ := spec_l13Any_some b 0 h ⟨by omega, by omega⟩ hb
  exact ⟨n, ev_bind e (ev_bind1 e1 (ev_now _))⟩

/-! ### impl_isIn -/
theorem impl_isIn_eq (a b c : Int) : impl_isIn.f a b c = some (inB a b c) := by
  unfold impl_isIn.f inB
  by_cases h : b ≤ a <;> simp [h]

/-! ### spec_l1In -/
theorem spec_l1In_eq (a b c : Int) : spec_l1In.f a b c = some (inB a b c) := by
  unfold spec_l1In.f inB
  by_cases h : b ≤ a <;> simp [h]

/-! ### spec_NoteName -/
/-- A note's name. -/
def nameV (a0 : Int) : ByteArray := if a0 = 1 then (⟨#[108, 101, 110, 100]⟩ : ByteArray) else if a0 = 2 then (⟨#[102, 111, 114, 119, 97, 114, 100]⟩ : ByteArray) else if a0 = 3 then (⟨#[98, 97, 99, 107]⟩ : ByteArray) else if a0 = 4 then (⟨#[101, 110, 100]⟩ : ByteArray) else if a0 = 5 then (⟨#[99, 117, 116]⟩ : ByteArray) else if a0 = 6 then (⟨#[115, 97, 121]⟩ : ByteArray) else if a0 = 7 then (⟨#[100, 111, 110, 101]⟩ : ByteArray) else if a0 = 8 then (⟨#[111, 119, 110]⟩ : ByteArray) else if a0 = 9 then (⟨#[103, 111, 110, 101]⟩ : ByteArray) else (⟨#[]⟩ : ByteArray)
theorem spec_NoteName_eq (a0 : Int) : spec_NoteName.f a0 = some (nameV a0) := by
  by_cases c1 : a0 = 1
  · subst c1
    simp [spec_NoteName.f, spec_l1In.f, nameV, wrap64, rdOf]
  by_cases c2 : a0 = 2
  · subst c2
    simp [spec_NoteName.f, spec_l1In.f, nameV, wrap64, rdOf]
  by_cases c3 : a0 = 3
  · subst c3
    simp [spec_NoteName.f, spec_l1In.f, nameV, wrap64, rdOf]
  by_cases c4 : a0 = 4
  · subst c4
    simp [spec_NoteName.f, spec_l1In.f, nameV, wrap64, rdOf]
  by_cases c5 : a0 = 5
  · subst c5
    simp [spec_NoteName.f, spec_l1In.f, nameV, wrap64, rdOf]
  by_cases c6 : a0 = 6
  · subst c6
    simp [spec_NoteName.f, spec_l1In.f, nameV, wrap64, rdOf]
  by_cases c7 : a0 = 7
  · subst c7
    simp [spec_NoteName.f, spec_l1In.f, nameV, wrap64, rdOf]
  by_cases c8 : a0 = 8
  · subst c8
    simp [spec_NoteName.f, spec_l1In.f, nameV, wrap64, rdOf]
  by_cases c9 : a0 = 9
  · subst c9
    simp [spec_NoteName.f, spec_l1In.f, nameV, wrap64, rdOf]
  unfold spec_NoteName.f nameV
  rw [Option.bind_some, spec_l1In_eq, Option.bind_some]
  have e : inB a0 1 9 = false := by rw [inB_false]; omega
  simp only [c1, c2, c3, c4, c5, c6, c7, c8, c9, if_false, e]
  rfl

/-! ### impl_NoteName -/
theorem impl_NoteName_eq (a0 : Int) : impl_NoteName.f a0 = some (nameV a0) := rfl

/-! ### laws_at -/
theorem laws_at_some (b : List Int) (i : Int) (h0 : 0 ≤ i) : ∃ v, laws_at.f b i = some v := by
  unfold laws_at.f
  by_cases c : i < (b.length : Int)
  · rw [if_pos c, if_pos h0]
    exact ⟨_, rfl⟩
  · rw [if_neg c]
    exact ⟨_, rfl⟩

/-! ### laws_sameNotes -/
theorem laws_sameNotes_l0 (l : List S29) (hl : l.length ≤ 4611686018427387904) (d : Nat) : ∀ i : Nat, i + d = l.length → Ev (fun k => laws_sameNotes.l0 k l l (i : Int)) true := by
  induction d with
  | zero =>
    intro i hi
    exact ev_step (fun k => laws_sameNotes.l0.eq_2 ..) (ev_neg (by omega) (ev_now _))
  | succ d ih =>
    intro i hi
    have hn := ih (i + 1) (by omega)
    refine ev_step (fun k => laws_sameNotes.l0.eq_2 ..) (ev_pos (by omega) (ev_pos (by omega) (ev_pos (by omega) (ev_neg (by simp) ?_))))
    rw [w64 (by omega) (by omega)]
    exact hn
theorem laws_sameNotes_ev (l : List S29) (hl : l.length ≤ 4611686018427387904) : Ev (fun k => laws_sameNotes.f k l l) true := by
  unfold laws_sameNotes.f
  exact ev_pos rfl (laws_sameNotes_l0 l hl l.length 0 (by omega))

/-! ### spec_OfLine -/
theorem spec_OfLine_l0 (l : List S29) (a : Int) (hl : l.length ≤ 1000000000000) (d : Nat) : ∀ (i : Nat) (o : List S29), i + d = l.length → o.length ≤ i → Ev (fun k => spec_OfLine.l0 k l a o (i : Int)) (o ++ (l.drop i).filter (fun x => decide (a ≥ 1) && x.f6 == a)) := by
  induction d with
  | zero =>
    intro i o hi ho
    refine ev_step (fun k => spec_OfLine.l0.eq_2 ..) (ev_neg (by omega) ?_)
    rw [List.drop_of_length_le (by omega)]
    exact ev_as (ev_now _) (by simp)
  | succ d ih =>
    intro i o hi ho
    have hlt : i < l.length := by omega
    have hr : rd_T29 l (i : Int) = l[i] := getD_nth _ l i hlt
    have hd : l.drop i = l[i] :: l.drop (i + 1) := List.drop_eq_getElem_cons hlt
    refine ev_step (fun k => spec_OfLine.l0.eq_2 ..) (ev_pos (by omega) (ev_pos (by omega) ?_))
    simp only [hr]
    rw [w64 (by omega) (by omega), hd, List.filter_cons]
    refine ev_ite (fun c => ev_ite (fun c2 => ev_pos (by omega) ?_) (fun c2 => ?_)) (fun c => ?_)
    · exact ev_as (ih (i + 1) (o ++ [l[i]]) (by omega) (by simp; omega)) (by simp [c, c2])
    · exact ev_as (ih (i + 1) o (by omega) (by omega)) (by simp [c2])
    · exact ev_as (ih (i + 1) o (by omega) (by omega)) (by simp [c])
theorem spec_OfLine_ev (l : List S29) (a : Int) (hl : l.length ≤ 1000000000000) : Ev (fun k => spec_OfLine.f k l a) (l.filter (fun x => decide (a ≥ 1) && x.f6 == a)) := ev_as (spec_OfLine_l0 l a hl l.length 0 [] (by omega) (by simp)) (by simp)

/-! ### impl_NoteOk -/
theorem impl_NoteOk_some (x0 x1 x2 x3 x4 x5 x6 x7 x8 : Int) : ∃ r, impl_NoteOk.f x0 x1 x2 x3 x4 x5 x6 x7 x8 = some r := by
  unfold impl_NoteOk.f
  simp only [impl_isIn_eq, Option.bind_some]
  repeat' split
  all_goals exact ⟨_, rfl⟩

/-! ### spec_NoteOk -/
theorem spec_NoteOk_same (x0 x1 x2 x3 x4 x5 x6 x7 x8 : Int) : spec_NoteOk.f x0 x1 x2 x3 x4 x5 x6 x7 x8 = impl_NoteOk.f x0 x1 x2 x3 x4 x5 x6 x7 x8 := by
  unfold impl_NoteOk.f spec_NoteOk.f
  simp only [impl_isIn_eq, spec_l1In_eq]

/-- A name's number. -/
def nameKey (l : List UInt8) : Int := if l = ([108, 101, 110, 100] : List UInt8) then 1 else if l = ([102, 111, 114, 119, 97, 114, 100] : List UInt8) then 2 else if l = ([98, 97, 99, 107] : List UInt8) then 3 else if l = ([101, 110, 100] : List UInt8) then 4 else if l = ([99, 117, 116] : List UInt8) then 5 else if l = ([115, 97, 121] : List UInt8) then 6 else if l = ([100, 111, 110, 101] : List UInt8) then 7 else if l = ([111, 119, 110] : List UInt8) then 8 else if l = ([103, 111, 110, 101] : List UInt8) then 9 else 0
theorem name_key (a : Int) : (nameV a).toList = [] ∨ nameKey (nameV a).toList = a := by
  by_cases c1 : a = 1
  · subst c1
    exact .inr (by simp [nameV, ByteArray.toList_eq, nameKey])
  by_cases c2 : a = 2
  · subst c2
    exact .inr (by simp [nameV, ByteArray.toList_eq, nameKey])
  by_cases c3 : a = 3
  · subst c3
    exact .inr (by simp [nameV, ByteArray.toList_eq, nameKey])
  by_cases c4 : a = 4
  · subst c4
    exact .inr (by simp [nameV, ByteArray.toList_eq, nameKey])
  by_cases c5 : a = 5
  · subst c5
    exact .inr (by simp [nameV, ByteArray.toList_eq, nameKey])
  by_cases c6 : a = 6
  · subst c6
    exact .inr (by simp [nameV, ByteArray.toList_eq, nameKey])
  by_cases c7 : a = 7
  · subst c7
    exact .inr (by simp [nameV, ByteArray.toList_eq, nameKey])
  by_cases c8 : a = 8
  · subst c8
    exact .inr (by simp [nameV, ByteArray.toList_eq, nameKey])
  by_cases c9 : a = 9
  · subst c9
    exact .inr (by simp [nameV, ByteArray.toList_eq, nameKey])
  exact .inl (by simp [nameV, c1, c2, c3, c4, c5, c6, c7, c8, c9, ByteArray.toList_eq])
theorem name_inj (a b : Int) (h : ¬ (nameV a).toList = ([] : List UInt8)) (e : (nameV a).toList = (nameV b).toList) : a = b := by
  rcases name_key a with ha | ha
  · exact absurd ha h
  rcases name_key b with hb | hb
  · exact absurd (e.trans hb) h
  rw [← ha, ← hb, e]
theorem notes_l0 (b : List Int) (l d : List S29) (kd li : Int) (n : S29) (hl : l.length ≤ 1000000) (hd : d.length ≤ 1000000) (dd : Nat) : ∀ (i : Nat) (pre : List S29), i + dd = l.length → l.filter (fun x => x.f0 == kd) = pre ++ (l.drop i).filter (fun x => x.f0 == kd) →
    Ev (fun k => laws_FnNotes.l0 k b l kd (l.filter (fun x => x.f0 == kd)) d li (d.filter (fun x => decide (li ≥ 1) && x.f6 == li)) (pre.length : Int) (i : Int) n.f0 n.f1 n.f2 n.f3 n.f4 n.f5 n.f6 n.f7 n.f8) true := by
  induction dd with
  | zero =>
    intro i pre hi he
    rw [List.drop_of_length_le (by omega), List.filter_nil, List.append_nil] at he
    obtain ⟨v2, f2⟩ := laws_at_some b 2 (by omega)
    obtain ⟨v3, f3⟩ := laws_at_some b 3 (by omega)
    obtain ⟨r, hr⟩ := impl_NoteOk_some n.f0 n.f1 n.f2 n.f3 n.f4 n.f5 n.f6 n.f7 n.f8
    have hr' := (spec_NoteOk_same n.f0 n.f1 n.f2 n.f3 n.f4 n.f5 n.f6 n.f7 n.f8).trans hr
    have hq : (d.filter (fun x => decide (li ≥ 1) && x.f6 == li)).length ≤ 4611686018427387904 := Nat.le_trans (List.length_filter_le _ _) (by omega)
    have last : Ev (fun k => (laws_at.f b 2).bind fun t => (spec_NoteName.f (Int.tmod t 12)).bind fun t2 => some ((nameV (Int.tmod v2 12)).toList == t2.toList)) true := ev_bind1 f2 (ev_bind1 (spec_NoteName_eq _) (ev_as (ev_now _) (by simp)))
    refine ev_step (fun k => laws_FnNotes.l0.eq_2 ..) (ev_neg (by omega) ?_)
    refine ev_bind1 f2 (ev_bind1 (impl_NoteName_eq _) (ev_bind1 f3 (ev_bind1 (impl_NoteName_eq _) (ev_pos (by rw [he]) (ev_bind (spec_OfLine_ev d li (by omega)) (ev_bind (laws_sameNotes_ev _ hq) (ev_pos rfl (ev_bind1 hr (ev_bind1 hr' (ev_pos (by simp) ?_))))))))))
    refine ev_ite (fun c => last) (fun c => ev_ite (fun c2 => ev_bind1 f2 (ev_bind1 f3 (ev_pos (name_inj _ _ c c2) last))) (fun c2 => last))
  | succ dd ih =>
    intro i pre hi he
    have hlt : i < l.length := by omega
    have hr : rd_T29 l (i : Int) = l[i] := getD_nth _ l i hlt
    have hd2 : l.drop i = l[i] :: l.drop (i + 1) := List.drop_eq_getElem_cons hlt
    have hp : (pre.length : Int) ≤ 1000000 := by
      have := congrArg List.length he
      have h2 := List.length_filter_le (fun x : S29 => x.f0 == kd) l
      simp only [List.length_append] at this
      omega
    refine ev_step (fun k => laws_FnNotes.l0.eq_2 ..) (ev_pos (by omega) (ev_pos (by omega) ?_))
    rw [w64 (x := (i : Int) + 1) (by omega) (by omega)]
    by_cases c : l[i].f0 = kd
    · have hf : (l.drop i).filter (fun x => x.f0 == kd) = l[i] :: (l.drop (i + 1)).filter (fun x => x.f0 == kd) := by rw [hd2, List.filter_cons]; simp [c]
      rw [hf] at he
      have hlen : pre.length < (l.filter (fun x => x.f0 == kd)).length := by rw [he]; simp
      have hm : rd_T29 (l.filter (fun x => x.f0 == kd)) (pre.length : Int) = l[i] := by
        refine (getD_nth _ _ pre.length hlen).trans ?_
        simp [he]
      refine ev_pos (by rw [hr]; exact c) (ev_neg (by omega) (ev_pos (by omega) (ev_pos (by omega) (ev_neg (by rw [hr, hm]; simp) ?_))))
      rw [w64 (x := (pre.length : Int) + 1) (by omega) (by omega)]
      have h := ih (i + 1) (pre ++ [l[i]]) (by omega) (by rw [he]; simp)
      simpa using h
    · have hf : (l.drop i).filter (fun x => x.f0 == kd) = (l.drop (i + 1)).filter (fun x => x.f0 == kd) := by rw [hd2, List.filter_cons]; simp [c]
      rw [hf] at he
      exact ev_neg (by rw [hr]; exact c) (ih (i + 1) pre (by omega) he)
theorem FnNotes : laws_FnNotes.Pure := by
  intro b _ hm _
  refine ev_rounds ?_
  have hb : b.length ≤ 4611686018427387904 := by omega
  unfold laws_FnNotes.f
  refine ev_bind1 (laws_big_eq b) (ev_ite (fun _ => ev_now _) (fun _ => ?_))
  obtain ⟨l, kd, e1, s1⟩ := spec_DrawPick_some b hb
  obtain ⟨d, li, e2, s2⟩ := spec_DrawOfLine_some b hb
  obtain ⟨n, e3⟩ := spec_DrawNoteOk_some b hb
  exact ev_bind e1 (ev_bind (impl_Pick_ev l kd (by omega)) (ev_bind e2 (ev_bind (impl_OfLine_ev d li (by omega)) (ev_bind e3 (notes_l0 b l d kd li n s1 s2 l.length 0 [] (by omega) (by simp))))))
end Go.Proofs.Ythmfmpmljndjhaa.Pure
