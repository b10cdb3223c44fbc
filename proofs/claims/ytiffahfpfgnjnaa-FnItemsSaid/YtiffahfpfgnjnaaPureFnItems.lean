/- An item that is handed over is read again from its bytes, and bytes that are read are the bytes of what is read: whatever is drawn. -/
import Derived.Test.YtiffahfpfgnjnaaPFnItemsx21
import Derived.Test.YtiffahfpfgnjnaaVBase
import Derived.Test.YtiffahfpfgnjnaaVExt
namespace Go.Proofs.Ytiffahfpfgnjnaa.Pure
open Go.RowKit Go.Proofs.Ytiffahfpfgnjnaa.PFnItems Go.Proofs.YtiffahfpfgnjnaaW.PrintWords Go.Proofs.YtiffahfpfgnjnaaW.PrintLast Go.Proofs.YtiffahfpfgnjnaaV
set_option linter.unusedVariables false
set_option linter.unusedSimpArgs false
set_option maxRecDepth 20000

structure S25 where
  f0 : Int
  f1 : ByteArray
  f2 : Int
  f3 : Int
  f4 : Int
  f5 : ByteArray
  f6 : Int
  f7 : Int
structure S27 where
  f0 : Int
  f1 : ByteArray
  f2 : Int
  f3 : Int
  f4 : Int
  f5 : Int
  f6 : Int
def bytesL (l : List Int) : Prop := ∀ x ∈ l, 0 ≤ x ∧ x < 256
/-! ### laws_big -/
theorem laws_big_eq (l : List Int) : laws_big.f l = some (decide ((l.length : Int) > 1048576)) := rfl

/-! ### spec_l1New -/
/-- A cursor's place over its bytes. -/
def curB (b : List Int) (i : Int) : Prop := 0 ≤ i ∧ i ≤ b.length
theorem spec_l1New_l0 (b : List Int) (hb : b.length ≤ 4611686018427387904) (d : Nat) : ∀ (x : Int) (i : Int), 0 ≤ i → i + d = b.length → ∃ h, Ev (fun k => spec_l1New.l0 k b x i) (b, 0, h) := by
  induction d with
  | zero =>
    intro x i h0 h1
    exact ⟨x, ev_step (fun k => spec_l1New.l0.eq_2 ..) (ev_neg (by omega) (ev_now _))⟩
  | succ d ih =>
    intro x i h0 h1
    by_cases c : i < 4000
    · obtain ⟨h, e⟩ := ih (Go.bits .and .i64 (wrap64 ((wrap64 ((wrap64 (x * 137)) + (wrap64 (rd b i)))) + 11)) 1073741823) (i + 1) (by omega) (by omega)
      refine ⟨h, ev_step (fun k => spec_l1New.l0.eq_2 ..) (ev_pos (by omega) (ev_pos c (ev_pos h0 ?_)))⟩
      rw [w64 (x := i + 1) (by omega) (by omega)]
      exact e
    · exact ⟨x, ev_step (fun k => spec_l1New.l0.eq_2 ..) (ev_pos (by omega) (ev_neg c (ev_now _)))⟩
theorem spec_l1New_some (b : List Int) (hb : b.length ≤ 4611686018427387904) : ∃ h, Ev (fun k => spec_l1New.f k b) (b, 0, h) := spec_l1New_l0 b hb b.length _ 0 (by omega) (by omega)

/-! ### spec_l1Byte -/
theorem i64_and255 (n : Int) : Go.bits .and .i64 n 255 = n % 256 := by
  have h255 : (BitVec.ofInt 64 255).toNat = 2 ^ 8 - 1 := by decide
  have key : (BitVec.ofInt 64 n &&& BitVec.ofInt 64 255).toNat = (n % ((2 ^ 64 : Nat) : Int)).toNat % 2 ^ 8 := by
    rw [BitVec.toNat_and, BitVec.toNat_ofInt, h255, Nat.and_two_pow_sub_one_eq_mod]
  show IntKind.i64.wrap ((BitVec.ofInt 64 n &&& BitVec.ofInt 64 255).toNat : Nat) = n % 256
  rw [key, IntKind.wrap_i64]
  omega
theorem spec_l1Byte_some (b : List Int) (i h : Int) (hc : curB b i) (hb : b.length ≤ 4611686018427387904) : ∃ v i' h', spec_l1Byte.f b i h = some (v, i', h') ∧ 0 ≤ v ∧ v < 256 ∧ curB b i' := by
  unfold curB at *
  unfold spec_l1Byte.f
  by_cases c : i < (b.length : Int)
  · rw [if_pos c, if_pos hc.1]
    refine ⟨_, _, _, rfl, ?_, ?_, ?_⟩
    · rw [i64_and255]; omega
    · rw [i64_and255]; omega
    · rw [w64 (by omega) (by omega)]; omega
  · rw [if_neg c]
    refine ⟨_, _, _, rfl, ?_, ?_, hc⟩
    · rw [i64_and255]; omega
    · rw [i64_and255]; omega

/-! ### spec_l1Below -/
theorem tmod_in {v n : Int} (h0 : 0 ≤ v) (hn : 0 < n) : 0 ≤ Int.tmod v n ∧ Int.tmod v n < n := by
  rw [Int.tmod_eq_emod_of_nonneg h0]
  exact ⟨Int.emod_nonneg _ (by omega), Int.emod_lt_of_pos _ hn⟩
theorem spec_l1Below_some (b : List Int) (i h n : Int) (hc : curB b i) (hb : b.length ≤ 4611686018427387904) : ∃ v i' h', spec_l1Below.f b i h n = some (v, i', h') ∧ (0 < n → 0 ≤ v ∧ v < n) ∧ (n ≤ 0 → v = 0) ∧ curB b i' := by
  unfold spec_l1Below.f
  by_cases c0 : n ≤ 0
  · rw [if_pos c0]
    exact ⟨0, i, h, rfl, fun h => by omega, fun _ => rfl, hc⟩
  rw [if_neg c0]
  obtain ⟨v, i1, h1, e1, l1, u1, c1⟩ := spec_l1Byte_some b i h hc hb
  by_cases c1' : n ≤ 256
  · rw [if_pos c1', e1, Option.bind_some, if_neg (by omega)]
    exact ⟨_, _, _, rfl, fun hn => tmod_in l1 hn, fun hn => by omega, c1⟩
  · obtain ⟨v2, i2, h2, e2, l2, u2, c2⟩ := spec_l1Byte_some b i1 h1 c1 hb
    obtain ⟨v3, i3, h3, e3, l3, u3, c3⟩ := spec_l1Byte_some b i2 h2 c2 hb
    rw [if_neg c1', e1, Option.bind_some]
    dsimp only
    rw [e2, Option.bind_some]
    dsimp only
    rw [e3, Option.bind_some, if_neg (by omega)]
    refine ⟨_, _, _, rfl, fun hn => tmod_in ?_ hn, fun hn => by omega, c3⟩
    dsimp only
    rw [w64 (x := v * 65536) (by omega) (by omega), w64 (x := v2 * 256) (by omega) (by omega), w64 (x := v * 65536 + v2 * 256) (by omega) (by omega), w64 (by omega) (by omega)]
    omega

/-! ### spec_l1Once -/
theorem spec_l1Once_some (b : List Int) (i h n : Int) (hc : curB b i) (hb : b.length ≤ 4611686018427387904) : ∃ v i' h', spec_l1Once.f b i h n = some (v, i', h') ∧ curB b i' := by
  obtain ⟨v, i1, h1, e1, _, _, c1⟩ := spec_l1Below_some b i h n hc hb
  unfold spec_l1Once.f
  rw [e1, Option.bind_some]
  exact ⟨_, _, _, rfl, c1⟩

/-! ### spec_l1Int -/
theorem spec_l1Int_some (b : List Int) (i h : Int) (l : List Int) (hl : 0 < l.length) (hc : curB b i) (hb : b.length ≤ 4611686018427387904) : ∃ v i' h', spec_l1Int.f b i h l = some (v, i', h') ∧ v ∈ l ∧ curB b i' := by
  obtain ⟨v, i1, h1, e1, r1, _, c1⟩ := spec_l1Below_some b i h (l.length : Int) hc hb
  have r := r1 (by omega)
  unfold spec_l1Int.f
  rw [e1, Option.bind_some]
  dsimp only
  rw [if_pos r.1, if_pos r.2]
  refine ⟨_, _, _, rfl, ?_, c1⟩
  obtain ⟨m, rfl⟩ := Int.eq_ofNat_of_zero_le r.1
  rw [rd_nth l m (by omega)]
  exact List.getElem_mem _

/-! ### spec_l1Str -/
theorem spec_l1Str_some (b : List Int) (i h : Int) (l : List ByteArray) (hl : 0 < l.length) (hc : curB b i) (hb : b.length ≤ 4611686018427387904) : ∃ v i' h', spec_l1Str.f b i h l = some (v, i', h') ∧ v ∈ l ∧ curB b i' := by
  obtain ⟨v, i1, h1, e1, r1, _, c1⟩ := spec_l1Below_some b i h (l.length : Int) hc hb
  have r := r1 (by omega)
  unfold spec_l1Str.f
  rw [e1, Option.bind_some]
  dsimp only
  rw [if_pos r.1, if_pos r.2]
  refine ⟨_, _, _, rfl, ?_, c1⟩
  obtain ⟨m, rfl⟩ := Int.eq_ofNat_of_zero_le r.1
  rw [rdOf_nth ByteArray.empty l m (by omega)]
  exact List.getElem_mem _

/-! ### spec_l7Query -/
theorem spec_l7Query_some (b : List Int) (i h : Int) (hc : curB b i) (hb : b.length ≤ 4611686018427387904) : ∃ v i' h', spec_l7Query.f b i h = some (v, i', h') ∧ v.size ≤ 10 ∧ curB b i' := by
  unfold spec_l7Query.f
  obtain ⟨v, i1, h1, e1, m1, c1⟩ := spec_l1Str_some b i h [(⟨#[98, 101, 103, 105, 110]⟩ : ByteArray), (⟨#[98, 101, 103, 105, 110]⟩ : ByteArray), (⟨#[99, 111, 109, 109, 105, 116]⟩ : ByteArray), (⟨#[99, 111, 109, 109, 105, 116]⟩ : ByteArray), (⟨#[114, 111, 108, 108, 98, 97, 99, 107]⟩ : ByteArray), (⟨#[102, 97, 105, 108]⟩ : ByteArray), (⟨#[111, 110, 101]⟩ : ByteArray), (⟨#[116, 119, 111]⟩ : ByteArray), (⟨#[116, 104, 114, 101, 101]⟩ : ByteArray)] (by simp) hc hb
  rw [e1, Option.bind_some]
  refine ⟨_, _, _, rfl, ?_, c1⟩
  have all : ∀ x ∈ [(⟨#[98, 101, 103, 105, 110]⟩ : ByteArray), (⟨#[98, 101, 103, 105, 110]⟩ : ByteArray), (⟨#[99, 111, 109, 109, 105, 116]⟩ : ByteArray), (⟨#[99, 111, 109, 109, 105, 116]⟩ : ByteArray), (⟨#[114, 111, 108, 108, 98, 97, 99, 107]⟩ : ByteArray), (⟨#[102, 97, 105, 108]⟩ : ByteArray), (⟨#[111, 110, 101]⟩ : ByteArray), (⟨#[116, 119, 111]⟩ : ByteArray), (⟨#[116, 104, 114, 101, 101]⟩ : ByteArray)], x.size ≤ 10 := by decide
  exact all v m1

/-! ### spec_l9Asker -/
def okA (a : S25) : Prop := a.f1.size ≤ 101 ∧ a.f5.size ≤ 101
def okL (l : S27) : Prop := l.f1.size ≤ 101
theorem spec_l9Asker_j1 (b : List Int) (c : Bool) (i h : Int) (a : S25) (ha : okA a) (hc : curB b i) (hb : b.length ≤ 4611686018427387904) : ∃ (x : S25) (i' h' : Int), Ev (fun k => spec_l9Asker.j1 k c b i h a.f0 a.f1 a.f2 a.f3 a.f4 a.f5 a.f6 a.f7) (x.f0, x.f1, x.f2, x.f3, x.f4, x.f5, x.f6, x.f7, i', h') ∧ okA x ∧ curB b i' := by
  by_cases c1 : c = true
  · obtain ⟨v1, i1, h1, e1, _, _, k1⟩ := spec_l1Below_some b i h 9 hc hb
    obtain ⟨v2, i2, h2, e2, _, _, k2⟩ := spec_l1Below_some b i1 h1 900 k1 hb
    exact ⟨⟨a.f0, a.f1, a.f2, a.f3, a.f4, a.f5, wrap64 (1 + v1), wrap64 (1 + v2)⟩, _, _, ev_step (fun k => spec_l9Asker.j1.eq_2 ..) (ev_pos c1 (ev_bind1 e1 (ev_bind1 e2 (ev_now _)))), ha, k2⟩
  · exact ⟨a, _, _, ev_step (fun k => spec_l9Asker.j1.eq_2 ..) (ev_neg c1 (ev_now _)), ha, hc⟩
theorem spec_l9Asker_j0 (b : List Int) (i h : Int) (a : S25) (ha : okA a) (hc : curB b i) (hb : b.length ≤ 4611686018427387904) : ∃ (x : S25) (i' h' : Int), Ev (fun k => spec_l9Asker.j0 k b i h a.f0 a.f1 a.f2 a.f3 a.f4 a.f5 a.f6 a.f7) (x.f0, x.f1, x.f2, x.f3, x.f4, x.f5, x.f6, x.f7, i', h') ∧ okA x ∧ curB b i' := by
  by_cases c2 : a.f2 = 2
  · obtain ⟨v1, i1, h1, e1, _, _, k1⟩ := spec_l1Below_some b i h 9 hc hb
    obtain ⟨v2, i2, h2, e2, _, k2⟩ := spec_l1Int_some b i1 h1 [0, 7, 300, 100000] (by simp) k1 hb
    obtain ⟨q, i3, h3, e3, s3, k3⟩ := spec_l7Query_some b i2 h2 k2 hb
    exact ⟨⟨a.f0, a.f1, a.f2, v1, v2, q, a.f6, a.f7⟩, _, _, ev_step (fun k => spec_l9Asker.j0.eq_2 ..) (ev_pos c2 (ev_bind1 e1 (ev_bind1 e2 (ev_bind1 e3 (ev_now _))))), ⟨ha.1, by show q.size ≤ 101; omega⟩, k3⟩
  · by_cases c3 : a.f2 = 3
    · obtain ⟨x, i1, h1, e1, g1, k1⟩ := spec_l9Asker_j1 b (a.f2 == 3) i h a ha hc hb
      exact ⟨x, i1, h1, ev_step (fun k => spec_l9Asker.j0.eq_2 ..) (ev_neg c2 (ev_pos c3 e1)), g1, k1⟩
    · obtain ⟨x, i1, h1, e1, g1, k1⟩ := spec_l9Asker_j1 b (a.f2 == 4) i h a ha hc hb
      exact ⟨x, i1, h1, ev_step (fun k => spec_l9Asker.j0.eq_2 ..) (ev_neg c2 (ev_neg c3 e1)), g1, k1⟩
theorem spec_l9Asker_some (b : List Int) (i h : Int) (hc : curB b i) (hb : b.length ≤ 4611686018427387904) : ∃ (x : S25) (i' h' : Int), Ev (fun k => spec_l9Asker.f k b i h) (x.f0, x.f1, x.f2, x.f3, x.f4, x.f5, x.f6, x.f7, i', h') ∧ okA x ∧ curB b i' := by
  unfold spec_l9Asker.f
  obtain ⟨v1, i1, h1, e1, _, _, k1⟩ := spec_l1Below_some b i h 9 hc hb
  obtain ⟨v2, i2, h2, e2, _, _, k2⟩ := spec_l1Below_some b i1 h1 5 k1 hb
  by_cases c : v2 = 0
  · obtain ⟨x, i3, h3, e3, g3, k3⟩ := spec_l9Asker_j0 b i2 h2 ⟨wrap64 (1 + v1), ⟨#[]⟩, v2, 0, 0, ⟨#[]⟩, 0, 0⟩ ⟨by show (0 : Nat) ≤ 101; omega, by show (0 : Nat) ≤ 101; omega⟩ k2 hb
    exact ⟨x, i3, h3, ev_bind1 e1 (ev_bind1 e2 (ev_pos c e3)), g3, k3⟩
  · obtain ⟨q, i3, h3, e3, m3, k3⟩ := spec_l1Str_some b i2 h2 [(⟨#[109, 97, 105, 110]⟩ : ByteArray), (⟨#[108, 111, 103, 115]⟩ : ByteArray), (⟨#[97, 100, 109, 105, 110]⟩ : ByteArray)] (by simp) k2 hb
    have all : ∀ x ∈ [(⟨#[109, 97, 105, 110]⟩ : ByteArray), (⟨#[108, 111, 103, 115]⟩ : ByteArray), (⟨#[97, 100, 109, 105, 110]⟩ : ByteArray)], x.size ≤ 101 := by decide
    obtain ⟨x, i4, h4, e4, g4, k4⟩ := spec_l9Asker_j0 b i3 h3 ⟨wrap64 (1 + v1), q, v2, 0, 0, ⟨#[]⟩, 0, 0⟩ ⟨all q m3, by show (0 : Nat) ≤ 101; omega⟩ k3 hb
    exact ⟨x, i4, h4, ev_bind1 e1 (ev_bind1 e2 (ev_neg c (ev_bind1 e3 e4))), g4, k4⟩

/-! ### spec_l9Line -/
theorem spec_l9Line_some (b : List Int) (i h : Int) (hc : curB b i) (hb : b.length ≤ 4611686018427387904) : ∃ (x : S27) (i' h' : Int), spec_l9Line.f b i h = some (x.f0, x.f1, x.f2, x.f3, x.f4, x.f5, x.f6, i', h') ∧ okL x ∧ curB b i' := by
  unfold spec_l9Line.f
  obtain ⟨v1, i1, h1, e1, _, _, k1⟩ := spec_l1Below_some b i h 9 hc hb
  obtain ⟨q, i2, h2, e2, m2, k2⟩ := spec_l1Str_some b i1 h1 [(⟨#[109, 97, 105, 110]⟩ : ByteArray), (⟨#[108, 111, 103, 115]⟩ : ByteArray)] (by simp) k1 hb
  have all : ∀ x ∈ [(⟨#[109, 97, 105, 110]⟩ : ByteArray), (⟨#[108, 111, 103, 115]⟩ : ByteArray)], x.size ≤ 101 := by decide
  obtain ⟨v3, i3, h3, e3, _, _, k3⟩ := spec_l1Below_some b i2 h2 3 k2 hb
  obtain ⟨v4, i4, h4, e4, _, _, k4⟩ := spec_l1Below_some b i3 h3 3 k3 hb
  simp only [e1, e2, e3, e4, Option.bind_some]
  by_cases c : v4 = 0
  · obtain ⟨v5, i5, h5, e5, _, k5⟩ := spec_l1Int_some b i4 h4 [0, 7, 300, 100000] (by simp) k4 hb
    rw [if_pos c]
    exact ⟨⟨wrap64 (1 + v1), q, wrap64 (1 + v3), v4, v5, 0, 0⟩, i5, h5, by rw [e5]; rfl, all q m2, k5⟩
  · obtain ⟨v5, i5, h5, e5, _, _, k5⟩ := spec_l1Below_some b i4 h4 9 k4 hb
    obtain ⟨v6, i6, h6, e6, _, _, k6⟩ := spec_l1Below_some b i5 h5 900 k5 hb
    rw [if_neg c]
    exact ⟨⟨wrap64 (1 + v1), q, wrap64 (1 + v3), v4, 0, wrap64 (1 + v5), wrap64 (1 + v6)⟩, i6, h6, by simp only [e5, e6, Option.bind_some], all q m2, k6⟩

/-! ### spec_l9Item -/
theorem spec_l9Item_some (b : List Int) (i h : Int) (hc : curB b i) (hb : b.length ≤ 4611686018427387904) : ∃ (n : Int) (x : S25) (y : S27) (i' h' : Int), Ev (fun k => spec_l9Item.f k b i h) (n, x.f0, x.f1, x.f2, x.f3, x.f4, x.f5, x.f6, x.f7, y.f0, y.f1, y.f2, y.f3, y.f4, y.f5, y.f6, i', h') ∧ okA x ∧ okL y ∧ curB b i' := by
  unfold spec_l9Item.f
  obtain ⟨v, i1, h1, e1, k1⟩ := spec_l1Once_some b i h 2 hc hb
  by_cases c : v = true
  · obtain ⟨x, i2, h2, e2, g2, k2⟩ := spec_l9Asker_some b i1 h1 k1 hb
    exact ⟨1, x, ⟨0, ⟨#[]⟩, 0, 0, 0, 0, 0⟩, _, _, ev_bind1 e1 (ev_pos c (ev_bind e2 (ev_now _))), g2, by show (0 : Nat) ≤ 101; omega, k2⟩
  · obtain ⟨y, i2, h2, e2, g2, k2⟩ := spec_l9Line_some b i1 h1 k1 hb
    exact ⟨2, ⟨0, ⟨#[]⟩, 0, 0, 0, ⟨#[]⟩, 0, 0⟩, y, _, _, ev_bind1 e1 (ev_neg c (ev_bind1 e2 (ev_now _))), ⟨by show (0 : Nat) ≤ 101; omega, by show (0 : Nat) ≤ 101; omega⟩, g2, k2⟩

/-! ### spec_l1Text -/
theorem spec_l1Text_l0 (b : List Int) (hb : b.length ≤ 4611686018427387904) (d : Nat) : ∀ (s : ByteArray) (i h : Int), s.size + d = 101 → curB b i → ∃ v i' h', Ev (fun k => spec_l1Text.l0 k s b i h) (v, i', h') ∧ v.size ≤ 101 ∧ curB b i' := by
  induction d with
  | zero =>
    intro s i h hs hc
    obtain ⟨v, i1, h1, e1, m1, c1⟩ := spec_l1Int_some b i h [100, 101, 60] (by simp) hc hb
    have hv : v ≤ 101 := by
      have all : ∀ x ∈ ([100, 101, 60] : List Int), x ≤ 101 := by decide
      exact all v m1
    exact ⟨_, _, _, ev_step (fun k => spec_l1Text.l0.eq_2 ..) (ev_bind1 e1 (ev_neg (by omega) (ev_now _))), by omega, c1⟩
  | succ d ih =>
    intro s i h hs hc
    obtain ⟨v, i1, h1, e1, m1, c1⟩ := spec_l1Int_some b i h [100, 101, 60] (by simp) hc hb
    have hz : (s ++ (⟨#[120]⟩ : ByteArray)).size = s.size + 1 := by
      rw [ByteArray.size_append]
      rfl
    by_cases c : (s.size : Int) < v
    · obtain ⟨v2, i2, h2, e2, s2, c2⟩ := ih (s ++ (⟨#[120]⟩ : ByteArray)) i1 h1 (by omega) c1
      exact ⟨_, _, _, ev_step (fun k => spec_l1Text.l0.eq_2 ..) (ev_bind1 e1 (ev_pos c (ev_pos (by omega) e2))), s2, c2⟩
    · exact ⟨_, _, _, ev_step (fun k => spec_l1Text.l0.eq_2 ..) (ev_bind1 e1 (ev_neg c (ev_now _))), by omega, c1⟩
theorem spec_l1Text_some (b : List Int) (i h : Int) (hc : curB b i) (hb : b.length ≤ 4611686018427387904) : ∃ v i' h', Ev (fun k => spec_l1Text.f k b i h) (v, i', h') ∧ v.size ≤ 101 ∧ curB b i' := by
  unfold spec_l1Text.f
  obtain ⟨v, i1, h1, e1, c1⟩ := spec_l1Once_some b i h 8 hc hb
  by_cases c : v = true
  · obtain ⟨v2, i2, h2, e2, s2, c2⟩ := spec_l1Text_l0 b hb 101 (⟨#[]⟩ : ByteArray) i1 h1 rfl c1
    exact ⟨_, _, _, ev_bind1 e1 (ev_pos c e2), s2, c2⟩
  · obtain ⟨v2, i2, h2, e2, m2, c2⟩ := spec_l1Str_some b i1 h1 [(⟨#[]⟩ : ByteArray), (⟨#[97]⟩ : ByteArray), (⟨#[104, 101, 108, 108, 111]⟩ : ByteArray), (⟨#[98, 101, 103, 105, 110]⟩ : ByteArray), (⟨#[97, 32, 98]⟩ : ByteArray), (⟨#[127]⟩ : ByteArray), (⟨#[31]⟩ : ByteArray), (⟨#[126]⟩ : ByteArray)] (by simp) c1 hb
    have all : ∀ x ∈ [(⟨#[]⟩ : ByteArray), (⟨#[97]⟩ : ByteArray), (⟨#[104, 101, 108, 108, 111]⟩ : ByteArray), (⟨#[98, 101, 103, 105, 110]⟩ : ByteArray), (⟨#[97, 32, 98]⟩ : ByteArray), (⟨#[127]⟩ : ByteArray), (⟨#[31]⟩ : ByteArray), (⟨#[126]⟩ : ByteArray)], x.size ≤ 101 := by decide
    exact ⟨_, _, _, ev_bind1 e1 (ev_neg c (ev_bind1 e2 (ev_now _))), all v2 m2, c2⟩

/-! ### spec_l9AnyAsker -/
theorem spec_l9AnyAsker_some (b : List Int) (i h : Int) (hc : curB b i) (hb : b.length ≤ 4611686018427387904) : ∃ (x : S25) (i' h' : Int), Ev (fun k => spec_l9AnyAsker.f k b i h) (x.f0, x.f1, x.f2, x.f3, x.f4, x.f5, x.f6, x.f7, i', h') ∧ okA x ∧ curB b i' := by
  unfold spec_l9AnyAsker.f
  obtain ⟨x, i1, h1, e1, g1, c1⟩ := spec_l9Asker_some b i h hc hb
  obtain ⟨v, i2, h2, e2, _, _, c2⟩ := spec_l1Below_some b i1 h1 18 c1 hb
  by_cases d0 : v = 0
  · obtain ⟨a, i3, h3, e3, _, c3⟩ := spec_l1Int_some b i2 h2 [0, 9999, 10000] (by simp) c2 hb
    exact ⟨⟨a, x.f1, x.f2, x.f3, x.f4, x.f5, x.f6, x.f7⟩, _, _, ev_bind e1 (ev_bind1 e2 (ev_pos d0 (ev_bind1 e3 (ev_now _)))), g1, c3⟩
  by_cases d1 : v = 1
  · obtain ⟨a, i3, h3, e3, m3, c3⟩ := spec_l1Str_some b i2 h2 [(⟨#[]⟩ : ByteArray), (⟨#[77, 97, 105, 110]⟩ : ByteArray), (⟨#[120]⟩ : ByteArray)] (by simp) c2 hb
    have all : ∀ x ∈ [(⟨#[]⟩ : ByteArray), (⟨#[77, 97, 105, 110]⟩ : ByteArray), (⟨#[120]⟩ : ByteArray)], x.size ≤ 101 := by decide
    exact ⟨⟨x.f0, a, x.f2, x.f3, x.f4, x.f5, x.f6, x.f7⟩, _, _, ev_bind e1 (ev_bind1 e2 (ev_neg d0 (ev_pos d1 (ev_bind1 e3 (ev_now _))))), ⟨by show a.size ≤ 101; exact all a m3, g1.2⟩, c3⟩
  by_cases d2 : v = 2
  · obtain ⟨a, i3, h3, e3, _, c3⟩ := spec_l1Int_some b i2 h2 [(-1), 0, 1, 5] (by simp) c2 hb
    exact ⟨⟨x.f0, x.f1, a, x.f3, x.f4, x.f5, x.f6, x.f7⟩, _, _, ev_bind e1 (ev_bind1 e2 (ev_neg d0 (ev_neg d1 (ev_pos d2 (ev_bind1 e3 (ev_now _)))))), g1, c3⟩
  by_cases d3 : v = 3
  · obtain ⟨a, i3, h3, e3, _, c3⟩ := spec_l1Int_some b i2 h2 [(-1), 1, 65535, 65536] (by simp) c2 hb
    exact ⟨⟨x.f0, x.f1, x.f2, a, x.f4, x.f5, x.f6, x.f7⟩, _, _, ev_bind e1 (ev_bind1 e2 (ev_neg d0 (ev_neg d1 (ev_neg d2 (ev_pos d3 (ev_bind1 e3 (ev_now _))))))), g1, c3⟩
  by_cases d4 : v = 4
  · obtain ⟨a, i3, h3, e3, _, c3⟩ := spec_l1Int_some b i2 h2 [(-1), 1, 100001] (by simp) c2 hb
    exact ⟨⟨x.f0, x.f1, x.f2, x.f3, a, x.f5, x.f6, x.f7⟩, _, _, ev_bind e1 (ev_bind1 e2 (ev_neg d0 (ev_neg d1 (ev_neg d2 (ev_neg d3 (ev_pos d4 (ev_bind1 e3 (ev_now _)))))))), g1, c3⟩
  by_cases d5 : v = 5
  · obtain ⟨a, i3, h3, e3, s3, c3⟩ := spec_l1Text_some b i2 h2 c2 hb
    exact ⟨⟨x.f0, x.f1, x.f2, x.f3, x.f4, a, x.f6, x.f7⟩, _, _, ev_bind e1 (ev_bind1 e2 (ev_neg d0 (ev_neg d1 (ev_neg d2 (ev_neg d3 (ev_neg d4 (ev_pos d5 (ev_bind e3 (ev_now _))))))))), ⟨g1.1, by show a.size ≤ 101; exact s3⟩, c3⟩
  by_cases d6 : v = 6
  · obtain ⟨a, i3, h3, e3, _, c3⟩ := spec_l1Int_some b i2 h2 [0, 1, 10000] (by simp) c2 hb
    exact ⟨⟨x.f0, x.f1, x.f2, x.f3, x.f4, x.f5, a, x.f7⟩, _, _, ev_bind e1 (ev_bind1 e2 (ev_neg d0 (ev_neg d1 (ev_neg d2 (ev_neg d3 (ev_neg d4 (ev_neg d5 (ev_pos d6 (ev_bind1 e3 (ev_now _)))))))))), g1, c3⟩
  by_cases d7 : v = 7
  · obtain ⟨a, i3, h3, e3, _, c3⟩ := spec_l1Int_some b i2 h2 [0, 1, (-1), 65535, 65536] (by simp) c2 hb
    exact ⟨⟨x.f0, x.f1, x.f2, x.f3, x.f4, x.f5, x.f6, a⟩, _, _, ev_bind e1 (ev_bind1 e2 (ev_neg d0 (ev_neg d1 (ev_neg d2 (ev_neg d3 (ev_neg d4 (ev_neg d5 (ev_neg d6 (ev_pos d7 (ev_bind1 e3 (ev_now _))))))))))), g1, c3⟩
  exact ⟨x, _, _, ev_bind e1 (ev_bind1 e2 (ev_neg d0 (ev_neg d1 (ev_neg d2 (ev_neg d3 (ev_neg d4 (ev_neg d5 (ev_neg d6 (ev_neg d7 (ev_now _)))))))))), g1, c2⟩

/-! ### spec_l9AnyLine -/
theorem spec_l9AnyLine_some (b : List Int) (i h : Int) (hc : curB b i) (hb : b.length ≤ 4611686018427387904) : ∃ (x : S27) (i' h' : Int), spec_l9AnyLine.f b i h = some (x.f0, x.f1, x.f2, x.f3, x.f4, x.f5, x.f6, i', h') ∧ okL x ∧ curB b i' := by
  unfold spec_l9AnyLine.f
  obtain ⟨x, i1, h1, e1, g1, c1⟩ := spec_l9Line_some b i h hc hb
  obtain ⟨v, i2, h2, e2, _, _, c2⟩ := spec_l1Below_some b i1 h1 18 c1 hb
  rw [e1, Option.bind_some]
  dsimp only
  rw [e2, Option.bind_some]
  dsimp only
  by_cases d0 : v = 0
  · obtain ⟨a, i3, h3, e3, _, c3⟩ := spec_l1Int_some b i2 h2 [0, 9999, 10000] (by simp) c2 hb
    exact ⟨⟨a, x.f1, x.f2, x.f3, x.f4, x.f5, x.f6⟩, i3, h3, by rw [if_pos d0, e3]; rfl, g1, c3⟩
  by_cases d1 : v = 1
  · obtain ⟨a, i3, h3, e3, m3, c3⟩ := spec_l1Str_some b i2 h2 [(⟨#[]⟩ : ByteArray), (⟨#[77, 97, 105, 110]⟩ : ByteArray), (⟨#[120]⟩ : ByteArray)] (by simp) c2 hb
    have all : ∀ x ∈ [(⟨#[]⟩ : ByteArray), (⟨#[77, 97, 105, 110]⟩ : ByteArray), (⟨#[120]⟩ : ByteArray)], x.size ≤ 101 := by decide
    exact ⟨⟨x.f0, a, x.f2, x.f3, x.f4, x.f5, x.f6⟩, i3, h3, by rw [if_neg d0, if_pos d1, e3]; rfl, (by show a.size ≤ 101; exact all a m3), c3⟩
  by_cases d2 : v = 2
  · obtain ⟨a, i3, h3, e3, _, c3⟩ := spec_l1Int_some b i2 h2 [(-1), 0, 1, 3] (by simp) c2 hb
    exact ⟨⟨x.f0, x.f1, x.f2, a, x.f4, x.f5, x.f6⟩, i3, h3, by rw [if_neg d0, if_neg d1, if_pos d2, e3]; rfl, g1, c3⟩
  by_cases d3 : v = 3
  · obtain ⟨a, i3, h3, e3, _, c3⟩ := spec_l1Int_some b i2 h2 [0, 60000, 60001] (by simp) c2 hb
    exact ⟨⟨x.f0, x.f1, a, x.f3, x.f4, x.f5, x.f6⟩, i3, h3, by rw [if_neg d0, if_neg d1, if_neg d2, if_pos d3, e3]; rfl, g1, c3⟩
  by_cases d4 : v = 4
  · obtain ⟨a, i3, h3, e3, _, c3⟩ := spec_l1Int_some b i2 h2 [(-1), 1, 100001] (by simp) c2 hb
    exact ⟨⟨x.f0, x.f1, x.f2, x.f3, a, x.f5, x.f6⟩, i3, h3, by rw [if_neg d0, if_neg d1, if_neg d2, if_neg d3, if_pos d4, e3]; rfl, g1, c3⟩
  by_cases d5 : v = 5
  · obtain ⟨a, i3, h3, e3, _, c3⟩ := spec_l1Int_some b i2 h2 [0, 1, 10000] (by simp) c2 hb
    exact ⟨⟨x.f0, x.f1, x.f2, x.f3, x.f4, a, x.f6⟩, i3, h3, by rw [if_neg d0, if_neg d1, if_neg d2, if_neg d3, if_neg d4, if_pos d5, e3]; rfl, g1, c3⟩
  by_cases d6 : v = 6
  · obtain ⟨a, i3, h3, e3, _, c3⟩ := spec_l1Int_some b i2 h2 [0, 1, (-1), 65535, 65536] (by simp) c2 hb
    exact ⟨⟨x.f0, x.f1, x.f2, x.f3, x.f4, x.f5, a⟩, i3, h3, by rw [if_neg d0, if_neg d1, if_neg d2, if_neg d3, if_neg d4, if_neg d5, if_pos d6, e3]; rfl, g1, c3⟩
  exact ⟨x, i2, h2, by rw [if_neg d0, if_neg d1, if_neg d2, if_neg d3, if_neg d4, if_neg d5, if_neg d6], g1, c2⟩

/-! ### spec_DrawPutItem -/
theorem spec_DrawPutItem_some (b : List Int) (hb : b.length ≤ 4611686018427387904) : ∃ (n : Int) (x : S25) (y : S27), Ev (fun k => spec_DrawPutItem.f k b) (n, x.f0, x.f1, x.f2, x.f3, x.f4, x.f5, x.f6, x.f7, y.f0, y.f1, y.f2, y.f3, y.f4, y.f5, y.f6) ∧ okA x ∧ okL y := by
  unfold spec_DrawPutItem.f
  obtain ⟨h0, e0⟩ := spec_l1New_some b hb
  obtain ⟨n, x, y, i1, h1, e1, gx, gy, c1⟩ := spec_l9Item_some b 0 h0 ⟨by omega, by omega⟩ hb
  obtain ⟨v, i2, h2, e2, _, _, c2⟩ := spec_l1Below_some b i1 h1 8 c1 hb
  by_cases d0 : v = 0
  · obtain ⟨a, i3, h3, e3, _, c3⟩ := spec_l1Int_some b i2 h2 [0, 1, 2, 3] (by simp) c2 hb
    exact ⟨a, x, y, ev_bind e0 (ev_bind e1 (ev_bind1 e2 (ev_pos d0 (ev_bind1 e3 (ev_now _))))), gx, gy⟩
  by_cases d1 : v = 1
  · obtain ⟨a, i3, h3, e3, g3, c3⟩ := spec_l9AnyAsker_some b i2 h2 c2 hb
    exact ⟨n, a, y, ev_bind e0 (ev_bind e1 (ev_bind1 e2 (ev_neg d0 (ev_pos d1 (ev_bind e3 (ev_now _)))))), g3, gy⟩
  by_cases d2 : v = 2
  · obtain ⟨a, i3, h3, e3, g3, c3⟩ := spec_l9AnyLine_some b i2 h2 c2 hb
    exact ⟨n, x, a, ev_bind e0 (ev_bind e1 (ev_bind1 e2 (ev_neg d0 (ev_neg d1 (ev_pos d2 (ev_bind1 e3 (ev_now _))))))), gx, g3⟩
  exact ⟨n, x, y, ev_bind e0 (ev_bind e1 (ev_bind1 e2 (ev_neg d0 (ev_neg d1 (ev_neg d2 (ev_now _)))))), gx, gy⟩

/-! ### impl_isIn -/
theorem impl_isIn_eq (a b c : Int) : impl_isIn.f a b c = some (inB a b c) := by
  unfold impl_isIn.f inB
  by_cases h : b ≤ a <;> simp [h]

/-! ### impl_wordOk -/
theorem impl_wordOk_eq (a : Int) : impl_wordOk.f a = some (inB a 0 65535) := by
  unfold impl_wordOk.f
  rw [impl_isIn_eq]
  rfl

/-! ### impl_sockIdOk -/
theorem impl_sockIdOk_eq (a : Int) : impl_sockIdOk.f a = some (inB a 1 9999) := by
  unfold impl_sockIdOk.f
  rw [impl_isIn_eq]
  rfl

/-! ### impl_nameOk -/
theorem impl_nameOk_l0 (s : ByteArray) (hs : s.size ≤ 4611686018427387904) (d : Nat) : ∀ i : Int, 0 ≤ i → i + d = s.size → Ev (fun k => impl_nameOk.l0 k s (s.size : Int) i) (allF (byteIn s 97 122) i d && inB s.size 1 8) := by
  induction d with
  | zero =>
    intro i h0 h1
    refine ev_step (fun k => impl_nameOk.l0.eq_2 ..) ?_
    refine ev_neg (by omega) ?_
    rw [impl_isIn_eq]
    exact ev_now _
  | succ d ih =>
    intro i h0 h1
    refine ev_step (fun k => impl_nameOk.l0.eq_2 ..) ?_
    refine ev_pos (by omega) (ev_pos (by omega) (ev_pos (by omega) ?_))
    refine ev_ite (fun c1 => ?_) (fun c1 => ev_ite (fun c2 => ?_) (fun c2 => ?_))
    · refine ev_as (ev_now _) ?_
      have : byteIn s 97 122 i = false := by rw [byteIn_false]; omega
      simp [allF, this]
    · refine ev_as (ev_now _) ?_
      have : byteIn s 97 122 i = false := by rw [byteIn_false]; omega
      simp [allF, this]
    · have : byteIn s 97 122 i = true := by rw [byteIn_iff]; omega
      rw [w64 (by omega) (by omega), allF, this, Bool.true_and]
      exact ih (i + 1) (by omega) (by omega)
theorem impl_nameOk_ev (s : ByteArray) (hs : s.size ≤ 4611686018427387904) : Ev (fun k => impl_nameOk.f k s) (nameB s) := impl_nameOk_l0 s hs s.size 0 (by omega) (by omega)

/-! ### impl_sinceOk -/
theorem impl_sinceOk_eq (a : Int) : impl_sinceOk.f a = some (inB a 0 100000) := by
  unfold impl_sinceOk.f
  rw [impl_isIn_eq]
  rfl

/-! ### impl_TextOk -/
theorem impl_TextOk_l0 (s : ByteArray) (hs : s.size ≤ 4611686018427387904) (d : Nat) : ∀ i : Int, 0 ≤ i → i + d = s.size → Ev (fun k => impl_TextOk.l0 k s (s.size : Int) i) (allF (byteIn s 32 126) i d && decide ((s.size : Int) ≤ 100)) := by
  induction d with
  | zero =>
    intro i h0 h1
    refine ev_step (fun k => impl_TextOk.l0.eq_2 ..) ?_
    refine ev_neg (by omega) ?_
    exact ev_now _
  | succ d ih =>
    intro i h0 h1
    refine ev_step (fun k => impl_TextOk.l0.eq_2 ..) ?_
    refine ev_pos (by omega) (ev_pos (by omega) (ev_pos (by omega) ?_))
    refine ev_ite (fun c1 => ?_) (fun c1 => ev_ite (fun c2 => ?_) (fun c2 => ?_))
    · refine ev_as (ev_now _) ?_
      have : byteIn s 32 126 i = false := by rw [byteIn_false]; omega
      simp [allF, this]
    · refine ev_as (ev_now _) ?_
      have : byteIn s 32 126 i = false := by rw [byteIn_false]; omega
      simp [allF, this]
    · have : byteIn s 32 126 i = true := by rw [byteIn_iff]; omega
      rw [w64 (by omega) (by omega), allF, this, Bool.true_and]
      exact ih (i + 1) (by omega) (by omega)
theorem impl_TextOk_ev (s : ByteArray) (hs : s.size ≤ 4611686018427387904) : Ev (fun k => impl_TextOk.f k s) (textB s) := impl_TextOk_l0 s hs s.size 0 (by omega) (by omega)

/-! ### spec_l1In -/
theorem spec_l1In_eq (a b c : Int) : spec_l1In.f a b c = some (inB a b c) := by
  unfold spec_l1In.f inB
  by_cases h : b ≤ a <;> simp [h]

/-! ### spec_l1Name -/
theorem spec_l1Name_l0 (s : ByteArray) (hs : s.size ≤ 4611686018427387904) (d : Nat) : ∀ i : Int, 0 ≤ i → i + d = s.size → Ev (fun k => spec_l1Name.l0 k s i) (allF (byteIn s 97 122) i d && inB s.size 1 8) := by
  induction d with
  | zero =>
    intro i h0 h1
    refine ev_step (fun k => spec_l1Name.l0.eq_2 ..) ?_
    refine ev_neg (by omega) ?_
    rw [spec_l1In_eq]
    exact ev_now _
  | succ d ih =>
    intro i h0 h1
    refine ev_step (fun k => spec_l1Name.l0.eq_2 ..) ?_
    refine ev_pos (by omega) (ev_pos (by omega) ?_)
    refine ev_ite (fun c1 => ?_) (fun c1 => ev_ite (fun c2 => ?_) (fun c2 => ?_))
    · refine ev_as (ev_now _) ?_
      have : byteIn s 97 122 i = false := by rw [byteIn_false]; omega
      simp [allF, this]
    · refine ev_as (ev_now _) ?_
      have : byteIn s 97 122 i = false := by rw [byteIn_false]; omega
      simp [allF, this]
    · have : byteIn s 97 122 i = true := by rw [byteIn_iff]; omega
      rw [w64 (by omega) (by omega), allF, this, Bool.true_and]
      exact ih (i + 1) (by omega) (by omega)
theorem spec_l1Name_ev (s : ByteArray) (hs : s.size ≤ 4611686018427387904) : Ev (fun k => spec_l1Name.f k s) (nameB s) := spec_l1Name_l0 s hs s.size 0 (by omega) (by omega)

/-! ### spec_l9Time -/
theorem spec_l9Time_eq (a : Int) : spec_l9Time.f a = some (inB a 0 100000) := by
  unfold spec_l9Time.f
  rw [spec_l1In_eq]
  rfl

/-! ### spec_TextOk -/
theorem spec_TextOk_l0 (s : ByteArray) (hs : s.size ≤ 4611686018427387904) (d : Nat) : ∀ i : Int, 0 ≤ i → i + d = s.size → i ≤ 101 → Ev (fun k => spec_TextOk.l0 k s i) (allF (byteIn s 32 126) i d && decide ((s.size : Int) ≤ 100)) := by
  induction d with
  | zero =>
    intro i h0 h1 h2
    refine ev_step (fun k => spec_TextOk.l0.eq_2 ..) ?_
    refine ev_neg (by omega) ?_
    refine ev_step (fun k => spec_TextOk.j1.eq_2 ..) ?_
    refine ev_neg (by decide) ?_
    exact ev_now _
  | succ d ih =>
    intro i h0 h1 h2
    refine ev_step (fun k => spec_TextOk.l0.eq_2 ..) ?_
    refine ev_pos (by omega) ?_
    refine ev_step (fun k => spec_TextOk.j1.eq_2 ..) ?_
    refine ev_ite (fun c0 => ?_) (fun c0 => ?_)
    · have c0' := of_decide_eq_true c0
      refine ev_pos (by omega) (ev_pos (by omega) ?_)
      refine ev_ite (fun c1 => ?_) (fun c1 => ev_ite (fun c2 => ?_) (fun c2 => ?_))
      · refine ev_as (ev_now _) ?_
        have : byteIn s 32 126 i = false := by rw [byteIn_false]; omega
        simp [allF, this]
      · refine ev_as (ev_now _) ?_
        have : byteIn s 32 126 i = false := by rw [byteIn_false]; omega
        simp [allF, this]
      · have : byteIn s 32 126 i = true := by rw [byteIn_iff]; omega
        rw [w64 (by omega) (by omega), allF, this, Bool.true_and]
        exact ih (i + 1) (by omega) (by omega) (by omega)
    · have c0' : ¬ i ≤ 100 := fun h => c0 (decide_eq_true h)
      refine ev_as (ev_now _) ?_
      have : decide ((s.size : Int) ≤ 100) = false := decide_eq_false (by omega)
      rw [this, Bool.and_false]
theorem spec_TextOk_ev (s : ByteArray) (hs : s.size ≤ 4611686018427387904) : Ev (fun k => spec_TextOk.f k s) (textB s) := spec_TextOk_l0 s hs s.size 0 (by omega) (by omega) (by omega)

/-! ### spec_AskerOk -/
/-- A client as it has to be. -/
def askerB (so : Int) (db : ByteArray) (st ti si : Int) (q : ByteArray) (li le : Int) : Bool :=
  inB so 1 9999 &&
    (if st = 0 then db.toList == ([] : List UInt8) && (ti == 0 && (si == 0 && (q.toList == ([] : List UInt8) && (li == 0 && le == 0))))
    else nameB db &&
      (if st = 1 then ti == 0 && (si == 0 && (q.toList == ([] : List UInt8) && (li == 0 && le == 0)))
      else if st = 2 then (li == 0 && le == 0) && (inB ti 0 65535 && (inB si 0 100000 && textB q))
      else if st = 3 ∨ st = 4 then (ti == 0 && (si == 0 && q.toList == ([] : List UInt8))) && (inB li 1 9999 && decide (le ≥ 1))
      else false))
theorem spec_AskerOk_j2 (b : Bool) (x0 : Int) (x1 : ByteArray) (x2 x3 x4 : Int) (x5 : ByteArray) (x6 x7 : Int) (h1 : x1.size ≤ 4611686018427387904) :
    Ev (fun k => spec_AskerOk.j2 k b x0 x1 x2 x3 x4 x5 x6 x7) (b && (nameB x1 && (inB x6 1 9999 && decide (x7 ≥ 1)))) := by
  refine ev_step (fun k => spec_AskerOk.j2.eq_2 ..) ?_
  refine ev_ite (fun c => ?_) (fun c => ?_)
  · refine ev_bind (spec_l1Name_ev _ h1) ?_
    refine ev_ite (fun c2 => ?_) (fun c2 => ?_)
    · refine ev_bind1 (spec_l1In_eq _ _ _) ?_
      refine ev_ite (fun c3 => ?_) (fun c3 => ?_)
      all_goals exact ev_as (ev_now _) (by simp_all)
    · exact ev_as (ev_now _) (by simp_all)
  · exact ev_as (ev_now _) (by simp_all)
theorem spec_AskerOk_j1 (b : Bool) (x0 : Int) (x1 : ByteArray) (x2 x3 x4 : Int) (x5 : ByteArray) (x6 x7 : Int) (h1 : x1.size ≤ 4611686018427387904) (h5 : x5.size ≤ 4611686018427387904) :
    Ev (fun k => spec_AskerOk.j1 k b x0 x1 x2 x3 x4 x5 x6 x7)
      (!b && (if x2 = 0 then x1.toList == ([] : List UInt8) else nameB x1 && (if x2 = 1 then true else if x2 = 2 then inB x3 0 65535 && (inB x4 0 100000 && textB x5) else if x2 = 3 ∨ x2 = 4 then inB x6 1 9999 && decide (x7 ≥ 1) else false))) := by
  refine ev_step (fun k => spec_AskerOk.j1.eq_2 ..) ?_
  refine ev_ite (fun c => ?_) (fun c => ?_)
  · exact ev_as (ev_now _) (by simp [c])
  have hb : b = false := by simpa using c
  subst hb
  refine ev_ite (fun c0 => ?_) (fun c0 => ev_ite (fun c1 => ?_) (fun c1 => ev_ite (fun c2 => ?_) (fun c2 => ev_ite (fun c3 => ?_) (fun c3 => ?_))))
  · exact ev_as (ev_now _) (by simp [c0])
  · exact ev_bind (spec_l1Name_ev _ h1) (ev_as (ev_now _) (by simp [c1]))
  · refine ev_bind (spec_l1Name_ev _ h1) ?_
    refine ev_ite (fun c3 => ?_) (fun c3 => ?_)
    · refine ev_bind1 (spec_l1In_eq _ _ _) ?_
      refine ev_ite (fun c4 => ?_) (fun c4 => ?_)
      · refine ev_bind1 (spec_l9Time_eq _) ?_
        refine ev_ite (fun c5 => ?_) (fun c5 => ?_)
        · exact ev_bind (spec_TextOk_ev _ h5) (ev_as (ev_now _) (by simp [c2, c3, c4, c5]))
        · exact ev_as (ev_now _) (by simp [c2, c5])
      · exact ev_as (ev_now _) (by simp [c2, c4])
    · exact ev_as (ev_now _) (by simp [c2, c3])
  · exact ev_as (spec_AskerOk_j2 _ _ _ _ _ _ _ _ _ h1) (by simp [c3])
  · refine ev_as (spec_AskerOk_j2 _ _ _ _ _ _ _ _ _ h1) ?_
    by_cases c4 : x2 = 4
    · simp [c4]
    · simp [c0, c1, c2, c3, c4]
theorem spec_AskerOk_j0 (b : Bool) (x0 : Int) (x1 : ByteArray) (x2 x3 x4 : Int) (x5 : ByteArray) (x6 x7 : Int) (h1 : x1.size ≤ 4611686018427387904) (h5 : x5.size ≤ 4611686018427387904) :
    Ev (fun k => spec_AskerOk.j0 k b x0 x1 x2 x3 x4 x5 x6 x7)
      (!b && (!(decide (x2 < 3) && !(x6 == 0 && x7 == 0)) && (if x2 = 0 then x1.toList == ([] : List UInt8) else nameB x1 && (if x2 = 1 then true else if x2 = 2 then inB x3 0 65535 && (inB x4 0 100000 && textB x5) else if x2 = 3 ∨ x2 = 4 then inB x6 1 9999 && decide (x7 ≥ 1) else false)))) := by
  refine ev_step (fun k => spec_AskerOk.j0.eq_2 ..) ?_
  refine ev_ite (fun c => ?_) (fun c => ?_)
  · exact ev_as (ev_now _) (by simp [c])
  have hb : b = false := by simpa using c
  subst hb
  refine ev_ite (fun c0 => ev_ite (fun c1 => ?_) (fun c1 => ?_)) (fun c0 => ?_)
  · refine ev_as (spec_AskerOk_j1 _ _ _ _ _ _ _ _ _ h1 h5) ?_
    subst c1
    by_cases c2 : x7 = 0
    · simp [c2]
    · simp [c0, c2, bne]
  · refine ev_as (spec_AskerOk_j1 _ _ _ _ _ _ _ _ _ h1 h5) ?_
    simp [c0, c1]
  · refine ev_as (spec_AskerOk_j1 _ _ _ _ _ _ _ _ _ h1 h5) ?_
    simp [c0]
theorem spec_AskerOk_core (x0 : Int) (x1 : ByteArray) (x2 x3 x4 : Int) (x5 : ByteArray) (x6 x7 : Int) (h1 : x1.size ≤ 4611686018427387904) (h5 : x5.size ≤ 4611686018427387904) : Ev (fun k => spec_AskerOk.f k x0 x1 x2 x3 x4 x5 x6 x7) (askerB x0 x1 x2 x3 x4 x5 x6 x7) := by
  unfold spec_AskerOk.f askerB
  refine ev_bind1 (spec_l1In_eq _ _ _) ?_
  have key : ∀ b : Bool, (b = !(decide (x2 = 2) || (x3 == 0 && (x4 == 0 && x5.toList == ([] : List UInt8))))) → inB x0 1 9999 = true →
      Ev (fun k => spec_AskerOk.j0 k b x0 x1 x2 x3 x4 x5 x6 x7) (inB x0 1 9999 &&
    (if x2 = 0 then x1.toList == ([] : List UInt8) && (x3 == 0 && (x4 == 0 && (x5.toList == ([] : List UInt8) && (x6 == 0 && x7 == 0))))
    else nameB x1 &&
      (if x2 = 1 then x3 == 0 && (x4 == 0 && (x5.toList == ([] : List UInt8) && (x6 == 0 && x7 == 0)))
      else if x2 = 2 then (x6 == 0 && x7 == 0) && (inB x3 0 65535 && (inB x4 0 100000 && textB x5))
      else if x2 = 3 ∨ x2 = 4 then (x3 == 0 && (x4 == 0 && x5.toList == ([] : List UInt8))) && (inB x6 1 9999 && decide (x7 ≥ 1))
      else false))) := by
    intro b hb h0
    refine ev_as (spec_AskerOk_j0 _ _ _ _ _ _ _ _ _ h1 h5) ?_
    rw [hb, h0]
    generalize (x5.toList == ([] : List UInt8)) = e5
    generalize (x1.toList == ([] : List UInt8)) = e1
    generalize nameB x1 = n1
    generalize textB x5 = t5
    generalize inB x3 0 65535 = i3
    generalize inB x4 0 100000 = i4
    generalize inB x6 1 9999 = i6
    by_cases s0 : x2 = 0
    · subst s0
      cases (x3 == 0) <;> cases (x4 == 0) <;> cases e5 <;> cases (x6 == 0) <;> cases (x7 == 0) <;> cases e1 <;> rfl
    · by_cases s1 : x2 = 1
      · subst s1
        cases (x3 == 0) <;> cases (x4 == 0) <;> cases e5 <;> cases (x6 == 0) <;> cases (x7 == 0) <;> cases n1 <;> rfl
      · by_cases s2 : x2 = 2
        · subst s2
          cases (x6 == 0) <;> cases (x7 == 0) <;> cases n1 <;> cases i3 <;> cases i4 <;> cases t5 <;> rfl
        · by_cases s3 : x2 = 3 ∨ x2 = 4
          · have hn : ¬ x2 < 3 := by omega
            simp only [s0, s1, s2, s3, hn, decide_false, if_true, if_false]
            cases (x3 == 0) <;> cases (x4 == 0) <;> cases e5 <;> cases n1 <;> simp
          · simp only [s0, s1, s2, s3, if_false, Bool.and_false]
  refine ev_ite (fun c => ?_) (fun c => ?_)
  · refine ev_ite (fun c2 => ?_) (fun c2 => ev_ite (fun c3 => ev_ite (fun c4 => ?_) (fun c4 => ?_)) (fun c3 => ?_))
    · exact key _ (by simp [c2]) c
    · exact key _ (by simp only [c2, c3, c4, bne]; simp) c
    · exact key _ (by simp [c2, c3, c4]) c
    · exact key _ (by simp [c2, c3]) c
  · exact ev_as (ev_now _) (by simp [c])
theorem spec_AskerOk_ev (x : S25) (h1 : x.f1.size ≤ 4611686018427387904) (h5 : x.f5.size ≤ 4611686018427387904) : Ev (fun k => spec_AskerOk.f k x.f0 x.f1 x.f2 x.f3 x.f4 x.f5 x.f6 x.f7) (askerB x.f0 x.f1 x.f2 x.f3 x.f4 x.f5 x.f6 x.f7) := spec_AskerOk_core _ _ _ _ _ _ _ _ h1 h5

/-! ### impl_AskerOk -/
theorem impl_AskerOk_core (x0 : Int) (x1 : ByteArray) (x2 x3 x4 : Int) (x5 : ByteArray) (x6 x7 : Int) (h1 : x1.size ≤ 4611686018427387904) (h5 : x5.size ≤ 4611686018427387904) : Ev (fun k => impl_AskerOk.f k x0 x1 x2 x3 x4 x5 x6 x7) (askerB x0 x1 x2 x3 x4 x5 x6 x7) := by
  unfold impl_AskerOk.f askerB
  refine ev_step (fun k => impl_AskerOk.j0.eq_2 ..) ?_
  have e0 : (⟨#[]⟩ : ByteArray).toList = [] := by unfold ByteArray.toList; unfold ByteArray.toList.loop; rfl
  simp only [beq_self_eq_true, Bool.true_and, Bool.and_true, e0]
  refine ev_bind1 (impl_sockIdOk_eq _) ?_
  refine ev_ite (fun c => ?_) (fun c => ?_)
  · refine ev_ite (fun s0 => ?_) (fun s0 => ?_)
    · exact ev_as (ev_now _) (by simp [c, s0])
    · refine ev_bind (impl_nameOk_ev _ h1) ?_
      refine ev_ite (fun cn => ?_) (fun cn => ?_)
      · refine ev_ite (fun s1 => ?_) (fun s1 => ev_ite (fun s2 => ?_) (fun s2 => ev_ite (fun s3 => ?_) (fun s3 => ev_ite (fun s4 => ?_) (fun s4 => ?_))))
        · exact ev_as (ev_now _) (by simp [c, s1, cn])
        · refine ev_ite (fun c1 => ?_) (fun c1 => ?_)
          · refine ev_bind1 (impl_wordOk_eq _) ?_
            refine ev_ite (fun c3 => ?_) (fun c3 => ?_)
            · refine ev_bind1 (impl_sinceOk_eq _) ?_
              refine ev_ite (fun c4 => ?_) (fun c4 => ?_)
              · exact ev_bind (impl_TextOk_ev _ h5) (ev_as (ev_now _) (by rw [c, cn, c3, c4, c1]; simp [s2]))
              · exact ev_as (ev_now _) (by simp [s2, c4])
            · exact ev_as (ev_now _) (by simp [s2, c3])
          · have c1' := Bool.eq_false_iff.2 c1
            exact ev_as (ev_now _) (by rw [c1']; simp [s2])
        · refine ev_ite (fun c1 => ?_) (fun c1 => ?_)
          · refine ev_bind1 (impl_sockIdOk_eq _) ?_
            refine ev_ite (fun c3 => ?_) (fun c3 => ?_)
            · exact ev_as (ev_now _) (by rw [c, cn, c3, c1]; simp [s3])
            · exact ev_as (ev_now _) (by simp [s3, c3])
          · have c1' := Bool.eq_false_iff.2 c1
            exact ev_as (ev_now _) (by rw [c1']; simp [s3])
        · refine ev_ite (fun c1 => ?_) (fun c1 => ?_)
          · refine ev_bind1 (impl_sockIdOk_eq _) ?_
            refine ev_ite (fun c3 => ?_) (fun c3 => ?_)
            · exact ev_as (ev_now _) (by rw [c, cn, c3, c1]; simp [s4])
            · exact ev_as (ev_now _) (by simp [s4, c3])
          · have c1' := Bool.eq_false_iff.2 c1
            exact ev_as (ev_now _) (by rw [c1']; simp [s4])
        · exact ev_as (ev_now _) (by simp [s0, s1, s2, s3, s4])
      · exact ev_as (ev_now _) (by simp [s0, cn])
  · exact ev_as (ev_now _) (by simp [c])
theorem impl_AskerOk_ev (x : S25) (h1 : x.f1.size ≤ 4611686018427387904) (h5 : x.f5.size ≤ 4611686018427387904) : Ev (fun k => impl_AskerOk.f k x.f0 x.f1 x.f2 x.f3 x.f4 x.f5 x.f6 x.f7) (askerB x.f0 x.f1 x.f2 x.f3 x.f4 x.f5 x.f6 x.f7) := impl_AskerOk_core _ _ _ _ _ _ _ _ h1 h5

/-! ### spec_LineOk -/
def lineB (so : Int) (db : ByteArray) (ge st si asn le : Int) : Bool :=
  inB so 1 9999 && (nameB db && (inB ge 1 60000 &&
    (if st = 0 then inB si 0 100000 && (asn == 0 && le == 0)
    else if st = 1 ∨ st = 2 then si == 0 && (inB asn 1 9999 && decide (le ≥ 1))
    else false)))
theorem spec_LineOk_j0 (b : Bool) (x0 : Int) (x1 : ByteArray) (x2 x3 x4 x5 x6 : Int) : Ev (fun k => spec_LineOk.j0 k b x0 x1 x2 x3 x4 x5 x6)
    (!b && (if x3 = 0 then inB x4 0 100000 && (x5 == 0 && x6 == 0) else if x3 = 1 ∨ x3 = 2 then x4 == 0 && (inB x5 1 9999 && decide (x6 ≥ 1)) else false)) := by
  refine ev_step (fun k => spec_LineOk.j0.eq_2 ..) ?_
  refine ev_ite (fun c => ?_) (fun c => ?_)
  · exact ev_as (ev_now _) (by simp [c])
  · have hb : b = false := by simpa using c
    refine ev_ite (fun c1 => ?_) (fun c1 => ?_)
    · refine ev_bind1 (spec_l9Time_eq x4) ?_
      refine ev_ite (fun c2 => ev_ite (fun c3 => ?_) (fun c3 => ?_)) (fun c2 => ?_)
      all_goals exact ev_as (ev_now _) (by simp_all)
    · refine ev_bind1 (spec_l1In_eq x3 1 2) ?_
      refine ev_ite (fun c2 => ?_) (fun c2 => ?_)
      · have h3 : x3 = 1 ∨ x3 = 2 := by have := (inB_iff _ _ _).1 c2; omega
        refine ev_ite (fun c3 => ?_) (fun c3 => ?_)
        · refine ev_bind1 (spec_l1In_eq x5 1 9999) ?_
          refine ev_ite (fun c4 => ?_) (fun c4 => ?_)
          all_goals exact ev_as (ev_now _) (by simp_all)
        · exact ev_as (ev_now _) (by simp_all)
      · have h3 : ¬ (x3 = 1 ∨ x3 = 2) := by
          intro h
          exact c2 ((inB_iff _ _ _).2 (by omega))
        exact ev_as (ev_now _) (by simp [c1, h3])
theorem spec_LineOk_ev (x : S27) (hs : x.f1.size ≤ 4611686018427387904) : Ev (fun k => spec_LineOk.f k x.f0 x.f1 x.f2 x.f3 x.f4 x.f5 x.f6) (lineB x.f0 x.f1 x.f2 x.f3 x.f4 x.f5 x.f6) := by
  unfold spec_LineOk.f lineB
  refine ev_bind1 (spec_l1In_eq _ _ _) ?_
  refine ev_ite (fun c => ?_) (fun c => ?_)
  · refine ev_bind (spec_l1Name_ev _ hs) ?_
    refine ev_ite (fun c2 => ?_) (fun c2 => ?_)
    · refine ev_bind1 (spec_l1In_eq _ _ _) ?_
      exact ev_as (spec_LineOk_j0 ..) (by rw [c, c2]; simp)
    · exact ev_as (spec_LineOk_j0 ..) (by simp [c2])
  · exact ev_as (spec_LineOk_j0 ..) (by simp [c])

/-! ### impl_LineOk -/
theorem impl_LineOk_j0 (b : Bool) (x0 : Int) (x1 : ByteArray) (x2 x3 x4 x5 x6 : Int) : Ev (fun k => impl_LineOk.j0 k b x0 x1 x2 x3 x4 x5 x6)
    (!b && (if x3 = 0 then inB x4 0 100000 && (x5 == 0 && x6 == 0) else if x3 = 1 ∨ x3 = 2 then x4 == 0 && (inB x5 1 9999 && decide (x6 ≥ 1)) else false)) := by
  refine ev_step (fun k => impl_LineOk.j0.eq_2 ..) ?_
  refine ev_ite (fun c => ?_) (fun c => ?_)
  · exact ev_as (ev_now _) (by simp [c])
  · have hb : b = false := by simpa using c
    refine ev_ite (fun c1 => ?_) (fun c1 => ev_ite (fun c2 => ?_) (fun c2 => ev_ite (fun c3 => ?_) (fun c3 => ?_)))
    · refine ev_bind1 (impl_sinceOk_eq x4) ?_
      refine ev_ite (fun c2 => ev_ite (fun c3 => ?_) (fun c3 => ?_)) (fun c2 => ?_)
      all_goals exact ev_as (ev_now _) (by simp_all)
    · refine ev_ite (fun c3 => ?_) (fun c3 => ?_)
      · refine ev_bind1 (impl_sockIdOk_eq x5) ?_
        refine ev_ite (fun c4 => ?_) (fun c4 => ?_)
        all_goals exact ev_as (ev_now _) (by simp_all)
      · exact ev_as (ev_now _) (by simp_all)
    · refine ev_ite (fun c3 => ?_) (fun c3 => ?_)
      · refine ev_bind1 (impl_sockIdOk_eq x5) ?_
        refine ev_ite (fun c4 => ?_) (fun c4 => ?_)
        all_goals exact ev_as (ev_now _) (by simp_all)
      · exact ev_as (ev_now _) (by simp_all)
    · exact ev_as (ev_now _) (by simp [c1, c2, c3])
theorem impl_LineOk_ev (x : S27) (hs : x.f1.size ≤ 4611686018427387904) : Ev (fun k => impl_LineOk.f k x.f0 x.f1 x.f2 x.f3 x.f4 x.f5 x.f6) (lineB x.f0 x.f1 x.f2 x.f3 x.f4 x.f5 x.f6) := by
  unfold impl_LineOk.f lineB
  refine ev_bind1 (impl_sockIdOk_eq _) ?_
  refine ev_ite (fun c => ?_) (fun c => ?_)
  · refine ev_bind (impl_nameOk_ev _ hs) ?_
    refine ev_ite (fun c2 => ?_) (fun c2 => ?_)
    · refine ev_bind1 (impl_isIn_eq _ _ _) ?_
      exact ev_as (impl_LineOk_j0 ..) (by rw [c, c2]; simp)
    · exact ev_as (impl_LineOk_j0 ..) (by simp [c2])
  · exact ev_as (impl_LineOk_j0 ..) (by simp [c])

/-! ### slices_Clone_byte -/
theorem slices_Clone_byte_eq (l : List Int) (h : l.length ≤ 1000000000000) : slices_Clone_byte.f l = some l := by
  unfold slices_Clone_byte.f
  simp only [Option.bind_some, List.nil_append, List.length_nil]
  rw [if_pos (by omega)]

/-! ### spec_PutText -/
/-- Bytes with a text behind them, if it is one that may stand there. -/
def putTextV (l : List Int) (s : ByteArray) : List Int := if textB s = true then (l ++ [(s.size : Int) % 256]) ++ bytesOf s else l
theorem textB_size (s : ByteArray) (h : textB s = true) : s.size ≤ 100 := by
  unfold textB at h
  rw [Bool.and_eq_true] at h
  have := of_decide_eq_true h.2
  omega
theorem putTextV_len (l : List Int) (s : ByteArray) : (putTextV l s).length ≤ l.length + 101 := by
  unfold putTextV
  split
  · rename_i h
    have := textB_size s h
    rw [List.length_append, List.length_append, bytesOf_length]
    simp only [List.length_cons, List.length_nil]
    omega
  · omega
theorem putTextV_ge (l : List Int) (s : ByteArray) : l.length ≤ (putTextV l s).length := by
  unfold putTextV
  split
  · rw [List.length_append, List.length_append]
    omega
  · omega
theorem spec_PutText_ev (l : List Int) (s : ByteArray) (hl : l.length ≤ 1000000000000) (hs : s.size ≤ 1000000000000) : Ev (fun k => spec_PutText.f k l s) (putTextV l s) := by
  unfold spec_PutText.f putTextV
  simp only [Option.bind_some, List.nil_append, List.length_nil]
  refine ev_pos (by omega) (ev_bind (spec_TextOk_ev s (by omega)) (ev_ite (fun c => ?_) (fun c => ?_)))
  · exact ev_pos (by omega) (ev_pos (by rw [List.length_append]; simp only [List.length_cons, List.length_nil]; omega) (ev_as (ev_now _) (by rw [if_pos c])))
  · exact ev_as (ev_now _) (by rw [if_neg c])

/-! ### impl_PutText -/
theorem impl_PutText_ev (l : List Int) (s : ByteArray) (hl : l.length ≤ 1000000000000) (hs : s.size ≤ 1000000000000) : Ev (fun k => impl_PutText.f k l s) (putTextV l s) := by
  unfold impl_PutText.f putTextV
  simp only [Option.bind_some]
  refine ev_bind1 (slices_Clone_byte_eq l (by omega)) (ev_bind (impl_TextOk_ev s (by omega)) (ev_ite (fun c => ?_) (fun c => ?_)))
  · exact ev_pos (by omega) (ev_pos (by rw [List.length_append]; simp only [List.length_cons, List.length_nil]; omega) (ev_as (ev_now _) (by rw [if_pos c])))
  · exact ev_as (ev_now _) (by rw [if_neg c])

/-! ### spec_PutWord -/
theorem and255 (x : Int) : Go.bits .and .i64 x 255 = x % 256 := by
  have h : (BitVec.ofInt 64 x &&& BitVec.ofInt 64 255).toNat = (x % 256).toNat := by
    rw [BitVec.toNat_and, BitVec.toNat_ofInt, BitVec.toNat_ofInt]
    have e : ((255 : Int) % ((2 ^ 64 : Nat) : Int)).toNat = 2 ^ 8 - 1 := by decide
    rw [e, Nat.and_two_pow_sub_one_eq_mod]
    omega
  show IntKind.i64.wrap (((BitVec.ofInt 64 x &&& BitVec.ofInt 64 255).toNat : Nat) : Int) = x % 256
  rw [h]
  have h0 : 0 ≤ x % 256 := Int.emod_nonneg _ (by decide)
  have h1 : x % 256 < 256 := Int.emod_lt_of_pos _ (by decide)
  rw [Int.toNat_of_nonneg h0]
  have hw : ∀ n : Int, 0 ≤ n → n < 256 → IntKind.i64.wrap n = n := by
    intro n a b
    simp [IntKind.wrap, IntKind.bits, IntKind.signed]
    (try split) <;> omega
  exact hw _ h0 h1
/-- Bytes with a number of two bytes behind them. -/
def putWordV (l : List Int) (n : Int) : List Int := l ++ [(n / 256) % 256, n % 256]
theorem putWordV_len (l : List Int) (n : Int) : (putWordV l n).length = l.length + 2 := by simp [putWordV]
/-- Bytes with a time behind them. -/
def sinceV (l : List Int) (n : Int) : List Int := putWordV l (wrap64 (Int.tdiv n 256)) ++ [(Int.tmod n 256) % 256]
theorem sinceV_len (l : List Int) (n : Int) : (sinceV l n).length = l.length + 3 := by simp [sinceV, putWordV]
theorem spec_PutWord_eq (l : List Int) (n : Int) (hl : l.length ≤ 1000000000000) : spec_PutWord.f l n = some (putWordV l n) := by
  unfold spec_PutWord.f putWordV
  simp only [Option.bind_some, List.nil_append, List.length_nil, List.length_cons, and255]
  rw [if_pos (by omega), if_pos (by omega)]
  have e1 : n / 256 % 256 % 256 = n / 256 % 256 := by omega
  have e2 : n % 256 % 256 = n % 256 := by omega
  rw [e1, e2]

/-! ### impl_PutWord -/
theorem impl_PutWord_eq (l : List Int) (n : Int) (hl : l.length ≤ 1000000000000) : impl_PutWord.f l n = some (putWordV l n) := by
  unfold impl_PutWord.f putWordV
  rw [slices_Clone_byte_eq l hl]
  simp only [Option.bind_some, List.length_cons, List.length_nil]
  rw [if_pos (by omega)]

/-! ### impl_putSince -/
theorem impl_putSince_eq (l : List Int) (n : Int) (hl : l.length ≤ 1000000000) : impl_putSince.f l n = some (sinceV l n) := by
  unfold impl_putSince.f sinceV
  rw [impl_PutWord_eq l _ (by omega), Option.bind_some, if_pos (by rw [putWordV_len]; omega)]

/-! ### spec_PutItem -/
/-- The bytes of a client that is handed over. -/
def askV (a : S25) : List Int := putWordV (putWordV (putTextV (sinceV (putWordV (putTextV (putWordV [1] a.f0 ++ [a.f2 % 256]) a.f1) a.f3) a.f4) a.f5) a.f6) a.f7
/-- The bytes of a connection that is handed over. -/
def lineV (l : S27) : List Int := putWordV (putWordV (sinceV (putWordV (putTextV (putWordV [2] l.f0 ++ [l.f3 % 256]) l.f1) l.f2) l.f4) l.f5) l.f6
def zeroA (a : S25) : Bool := a.f0 == 0 && (a.f1.toList == ([] : List UInt8) && (a.f2 == 0 && (a.f3 == 0 && (a.f4 == 0 && (a.f5.toList == ([] : List UInt8) && (a.f6 == 0 && (a.f7 == 0)))))))
def zeroL (l : S27) : Bool := l.f0 == 0 && (l.f1.toList == ([] : List UInt8) && (l.f2 == 0 && (l.f3 == 0 && (l.f4 == 0 && (l.f5 == 0 && (l.f6 == 0))))))
/-- May this be handed over. -/
def itemB (k : Int) (a : S25) (l : S27) : Bool :=
  if k = 1 then askerB a.f0 a.f1 a.f2 a.f3 a.f4 a.f5 a.f6 a.f7 && (zeroL l && !(decide (a.f7 > 65535)))
  else if k = 2 then lineB l.f0 l.f1 l.f2 l.f3 l.f4 l.f5 l.f6 && (zeroA a && !(decide (l.f6 > 65535))) else false
def itemV (k : Int) (a : S25) (l : S27) : List Int := if itemB k a l = true then (if k = 1 then askV a else lineV l) else []
theorem askV_len (a : S25) : 13 ≤ (askV a).length ∧ (askV a).length ≤ 215 := by
  have t1 := putTextV_len (putWordV [1] a.f0 ++ [a.f2 % 256]) a.f1
  have t2 := putTextV_len (sinceV (putWordV (putTextV (putWordV [1] a.f0 ++ [a.f2 % 256]) a.f1) a.f3) a.f4) a.f5
  have g1 := putTextV_ge (putWordV [1] a.f0 ++ [a.f2 % 256]) a.f1
  have g2 := putTextV_ge (sinceV (putWordV (putTextV (putWordV [1] a.f0 ++ [a.f2 % 256]) a.f1) a.f3) a.f4) a.f5
  simp only [putWordV_len, sinceV_len, List.length_append, List.length_cons, List.length_nil] at t1 t2 g1 g2
  unfold askV
  simp only [putWordV_len]
  omega
theorem lineV_len (l : S27) : 13 ≤ (lineV l).length ∧ (lineV l).length ≤ 114 := by
  have t1 := putTextV_len (putWordV [2] l.f0 ++ [l.f3 % 256]) l.f1
  have g1 := putTextV_ge (putWordV [2] l.f0 ++ [l.f3 % 256]) l.f1
  simp only [putWordV_len, List.length_append, List.length_cons, List.length_nil] at t1 g1
  unfold lineV
  simp only [putWordV_len, sinceV_len]
  omega
theorem itemV_len (k : Int) (a : S25) (l : S27) : (itemV k a l).length ≤ 215 := by
  have := askV_len a
  have := lineV_len l
  unfold itemV
  split
  · split <;> omega
  · simp
theorem itemV_nil (k : Int) (a : S25) (l : S27) : (itemV k a l).length = 0 ↔ itemB k a l = false := by
  have := askV_len a
  have := lineV_len l
  unfold itemV
  by_cases c : itemB k a l = true
  · rw [if_pos c, c]
    constructor
    · intro h
      split at h <;> omega
    · intro h
      exact absurd h (by decide)
  · rw [if_neg c]
    simpa using c
theorem askerB_lease (so : Int) (db : ByteArray) (st ti si : Int) (q : ByteArray) (li le : Int) (h : askerB so db st ti si q li le = true) : 0 ≤ le := by
  unfold askerB at h
  rw [Bool.and_eq_true] at h
  have h := h.2
  split at h
  · simp only [Bool.and_eq_true, beq_iff_eq] at h
    omega
  · rw [Bool.and_eq_true] at h
    have h := h.2
    split at h
    · simp only [Bool.and_eq_true, beq_iff_eq] at h
      omega
    · split at h
      · simp only [Bool.and_eq_true, beq_iff_eq] at h
        omega
      · split at h
        · simp only [Bool.and_eq_true, decide_eq_true_eq] at h
          omega
        · exact absurd h (by decide)
theorem lineB_lease (so : Int) (db : ByteArray) (ge st si asn le : Int) (h : lineB so db ge st si asn le = true) : 0 ≤ le := by
  unfold lineB at h
  simp only [Bool.and_eq_true] at h
  have h := h.2.2.2
  split at h
  · simp only [Bool.and_eq_true, beq_iff_eq] at h
    omega
  · split at h
    · simp only [Bool.and_eq_true, decide_eq_true_eq] at h
      omega
    · exact absurd h (by decide)
theorem spec_PutItem_ev (k : Int) (a : S25) (l : S27) (h1 : a.f1.size ≤ 1000000000) (h5 : a.f5.size ≤ 1000000000) (hl : l.f1.size ≤ 1000000000) :
    Ev (fun n => spec_PutItem.f n k a.f0 a.f1 a.f2 a.f3 a.f4 a.f5 a.f6 a.f7 l.f0 l.f1 l.f2 l.f3 l.f4 l.f5 l.f6) (itemV k a l) := by
  have p1 : Ev (fun n => spec_PutItem.j0 n false a.f0 a.f1 a.f2 a.f3 a.f4 a.f5 a.f6 a.f7) (askV a) := by
    have t1 := putTextV_len (putWordV [1] a.f0 ++ [a.f2 % 256]) a.f1
    have t2 := putTextV_len (sinceV (putWordV (putTextV (putWordV [1] a.f0 ++ [a.f2 % 256]) a.f1) a.f3) a.f4) a.f5
    simp only [putWordV_len, sinceV_len, List.length_append, List.length_cons, List.length_nil] at t1 t2
    refine ev_step (fun n => spec_PutItem.j0.eq_2 ..) (ev_neg (by simp) ?_)
    refine ev_bind1 (spec_PutWord_eq _ _ (by simp)) (ev_bind1 rfl (ev_pos (by simp only [putWordV_len, List.length_cons, List.length_nil]; omega) ?_))
    refine ev_bind (spec_PutText_ev _ _ (by simp only [putWordV_len, List.length_append, List.length_cons, List.length_nil]; omega) (by omega)) ?_
    refine ev_bind1 (spec_PutWord_eq _ _ (by omega)) (ev_bind1 (spec_PutWord_eq _ _ (by rw [putWordV_len]; omega)) (ev_bind1 rfl (ev_pos (by simp only [putWordV_len, List.length_cons, List.length_nil]; omega) ?_)))
    refine ev_bind (spec_PutText_ev _ _ (by simp only [putWordV_len, List.length_append, List.length_cons, List.length_nil]; omega) (by omega)) ?_
    exact ev_bind1 (spec_PutWord_eq _ _ (by unfold sinceV at t2; omega)) (ev_bind1 (spec_PutWord_eq _ _ (by rw [putWordV_len]; unfold sinceV at t2; omega)) (ev_now _))
  have p2 : Ev (fun n => spec_PutItem.j1 n false l.f0 l.f1 l.f2 l.f3 l.f4 l.f5 l.f6) (lineV l) := by
    have t1 := putTextV_len (putWordV [2] l.f0 ++ [l.f3 % 256]) l.f1
    simp only [putWordV_len, List.length_append, List.length_cons, List.length_nil] at t1
    refine ev_step (fun n => spec_PutItem.j1.eq_2 ..) (ev_neg (by simp) ?_)
    refine ev_bind1 (spec_PutWord_eq _ _ (by simp)) (ev_bind1 rfl (ev_pos (by simp only [putWordV_len, List.length_cons, List.length_nil]; omega) ?_))
    refine ev_bind (spec_PutText_ev _ _ (by simp only [putWordV_len, List.length_append, List.length_cons, List.length_nil]; omega) (by omega)) ?_
    refine ev_bind1 (spec_PutWord_eq _ _ (by omega)) (ev_bind1 (spec_PutWord_eq _ _ (by rw [putWordV_len]; omega)) (ev_bind1 rfl (ev_pos (by simp only [putWordV_len, List.length_cons, List.length_nil]; omega) ?_)))
    exact ev_bind1 (spec_PutWord_eq _ _ (by simp only [putWordV_len, List.length_append, List.length_cons, List.length_nil]; omega)) (ev_bind1 (spec_PutWord_eq _ _ (by simp only [putWordV_len, List.length_append, List.length_cons, List.length_nil]; omega)) (ev_now _))
  have n1 : Ev (fun n => spec_PutItem.j0 n true a.f0 a.f1 a.f2 a.f3 a.f4 a.f5 a.f6 a.f7) [] := ev_step (fun n => spec_PutItem.j0.eq_2 ..) (ev_pos rfl (ev_now _))
  have n2 : Ev (fun n => spec_PutItem.j1 n true l.f0 l.f1 l.f2 l.f3 l.f4 l.f5 l.f6) [] := ev_step (fun n => spec_PutItem.j1.eq_2 ..) (ev_pos rfl (ev_now _))
  have z1 : (!(l.f0 == 0) || (!(l.f1.toList == ([] : List UInt8)) || (!(l.f2 == 0) || (!(l.f3 == 0) || (!(l.f4 == 0) || (!(l.f5 == 0) || (!(l.f6 == 0)))))))) = !zeroL l := by simp [zeroL, Bool.not_and]
  have z2 : (!(a.f0 == 0) || (!(a.f1.toList == ([] : List UInt8)) || (!(a.f2 == 0) || (!(a.f3 == 0) || (!(a.f4 == 0) || (!(a.f5.toList == ([] : List UInt8)) || (!(a.f6 == 0) || (!(a.f7 == 0))))))))) = !zeroA a := by simp [zeroA, Bool.not_and]
  unfold spec_PutItem.f itemV itemB
  rw [z1, z2]
  refine ev_ite (fun c => ?_) (fun c => ev_ite (fun c' => ?_) (fun c' => ?_))
  · refine ev_bind (spec_AskerOk_core _ _ _ _ _ _ _ _ (by omega) (by omega)) (ev_ite (fun d => ev_ite (fun e => ?_) (fun e => ?_)) (fun d => ?_))
    · exact ev_as n1 (by rw [if_neg]; rw [if_pos c, d]; simp at e; simp [e])
    · by_cases f : a.f7 > 65535
      · rw [decide_eq_true f]
        exact ev_as n1 (by rw [if_neg]; rw [if_pos c, d]; simp [f])
      · rw [decide_eq_false f]
        exact ev_as p1 (by rw [if_pos, if_pos c]; rw [if_pos c, d]; simp at e; simp [e, f])
    · exact ev_as n1 (by rw [if_neg]; rw [if_pos c]; simp [d])
  · refine ev_bind (spec_LineOk_ev l (by omega)) (ev_ite (fun d => ev_ite (fun e => ?_) (fun e => ?_)) (fun d => ?_))
    · exact ev_as n2 (by rw [if_neg]; rw [if_neg c, if_pos c', d]; simp at e; simp [e])
    · by_cases f : l.f6 > 65535
      · rw [decide_eq_true f]
        exact ev_as n2 (by rw [if_neg]; rw [if_neg c, if_pos c', d]; simp [f])
      · rw [decide_eq_false f]
        exact ev_as p2 (by rw [if_pos, if_neg c]; rw [if_neg c, if_pos c', d]; simp at e; simp [e, f])
    · exact ev_as n2 (by rw [if_neg]; rw [if_neg c, if_pos c']; simp [d])
  · exact ev_as n2 (by rw [if_neg]; rw [if_neg c, if_neg c']; simp)

/-! ### impl_PutItem -/
theorem impl_PutItem_ev (k : Int) (a : S25) (l : S27) (h1 : a.f1.size ≤ 1000000000) (h5 : a.f5.size ≤ 1000000000) (hl : l.f1.size ≤ 1000000000) :
    Ev (fun n => impl_PutItem.f n k a.f0 a.f1 a.f2 a.f3 a.f4 a.f5 a.f6 a.f7 l.f0 l.f1 l.f2 l.f3 l.f4 l.f5 l.f6) (itemV k a l) := by
  have n2 : ∀ y, Ev (fun n => impl_PutItem.j1 n y false k a.f0 a.f1 a.f2 a.f3 a.f4 a.f5 a.f6 a.f7 l.f0 l.f1 l.f2 l.f3 l.f4 l.f5 l.f6) [] := fun y => ev_step (fun n => impl_PutItem.j1.eq_2 ..) (ev_neg (by simp) (ev_now _))
  have p2 : Ev (fun n => impl_PutItem.j1 n [2] true k a.f0 a.f1 a.f2 a.f3 a.f4 a.f5 a.f6 a.f7 l.f0 l.f1 l.f2 l.f3 l.f4 l.f5 l.f6) (lineV l) := by
    have t1 := putTextV_len (putWordV [2] l.f0 ++ [l.f3 % 256]) l.f1
    simp only [putWordV_len, List.length_append, List.length_cons, List.length_nil] at t1
    refine ev_step (fun n => impl_PutItem.j1.eq_2 ..) (ev_pos rfl ?_)
    refine ev_bind1 (impl_PutWord_eq _ _ (by simp)) (ev_bind1 rfl (ev_pos (by simp only [putWordV_len, List.length_cons, List.length_nil]; omega) ?_))
    refine ev_bind (impl_PutText_ev _ _ (by simp only [putWordV_len, List.length_append, List.length_cons, List.length_nil]; omega) (by omega)) ?_
    refine ev_bind1 (impl_PutWord_eq _ _ (by omega)) (ev_bind1 (impl_putSince_eq _ _ (by rw [putWordV_len]; omega)) ?_)
    exact ev_bind1 (impl_PutWord_eq _ _ (by simp only [sinceV_len, putWordV_len]; omega)) (ev_bind1 (impl_PutWord_eq _ _ (by simp only [sinceV_len, putWordV_len]; omega)) (ev_now _))
  have p1 : Ev (fun n => impl_PutItem.j0 n [1] true k a.f0 a.f1 a.f2 a.f3 a.f4 a.f5 a.f6 a.f7 l.f0 l.f1 l.f2 l.f3 l.f4 l.f5 l.f6) (askV a) := by
    have t1 := putTextV_len (putWordV [1] a.f0 ++ [a.f2 % 256]) a.f1
    have t2 := putTextV_len (sinceV (putWordV (putTextV (putWordV [1] a.f0 ++ [a.f2 % 256]) a.f1) a.f3) a.f4) a.f5
    simp only [putWordV_len, sinceV_len, List.length_append, List.length_cons, List.length_nil] at t1 t2
    refine ev_step (fun n => impl_PutItem.j0.eq_2 ..) (ev_pos rfl ?_)
    refine ev_bind1 (impl_PutWord_eq _ _ (by simp)) (ev_bind1 rfl (ev_pos (by simp only [putWordV_len, List.length_cons, List.length_nil]; omega) ?_))
    refine ev_bind (impl_PutText_ev _ _ (by simp only [putWordV_len, List.length_append, List.length_cons, List.length_nil]; omega) (by omega)) ?_
    refine ev_bind1 (impl_PutWord_eq _ _ (by omega)) (ev_bind1 (impl_putSince_eq _ _ (by rw [putWordV_len]; omega)) ?_)
    refine ev_bind (impl_PutText_ev _ _ (by simp only [sinceV_len, putWordV_len]; omega) (by omega)) ?_
    exact ev_bind1 (impl_PutWord_eq _ _ (by omega)) (ev_bind1 (impl_PutWord_eq _ _ (by rw [putWordV_len]; omega)) (ev_now _))
  have z1 : (l.f0 == 0 && (l.f1.toList == ([] : List UInt8) && (l.f2 == 0 && (l.f3 == 0 && (l.f4 == 0 && (l.f5 == 0 && (l.f6 == 0))))))) = zeroL l := rfl
  have z2 : (a.f0 == 0 && (a.f1.toList == ([] : List UInt8) && (a.f2 == 0 && (a.f3 == 0 && (a.f4 == 0 && (a.f5.toList == ([] : List UInt8) && (a.f6 == 0 && (a.f7 == 0)))))))) = zeroA a := rfl
  have q : ∀ y, (k = 2 → y = [2]) → k ≠ 1 → Ev (fun n => impl_PutItem.j0 n y false k a.f0 a.f1 a.f2 a.f3 a.f4 a.f5 a.f6 a.f7 l.f0 l.f1 l.f2 l.f3 l.f4 l.f5 l.f6) (itemV k a l) := by
    intro y hy c
    refine ev_step (fun n => impl_PutItem.j0.eq_2 ..) (ev_neg (by simp) ?_)
    unfold itemV itemB
    rw [z2]
    refine ev_ite (fun c' => ?_) (fun c' => ?_)
    · obtain rfl := hy c'
      refine ev_bind (impl_LineOk_ev l (by omega)) (ev_ite (fun d => ev_ite (fun e => ?_) (fun e => ?_)) (fun d => ?_))
      · refine ev_bind1 (impl_wordOk_eq _) ?_
        have h0 := lineB_lease _ _ _ _ _ _ _ d
        by_cases f : l.f6 > 65535
        · rw [(inB_false _ _ _).2 (.inr (by omega))]
          exact ev_as (n2 _) (by rw [if_neg]; rw [if_neg c, if_pos c', d]; simp [f])
        · rw [(inB_iff _ _ _).2 ⟨h0, by omega⟩]
          exact ev_as p2 (by rw [if_pos, if_neg c]; rw [if_neg c, if_pos c', d, e]; simp; omega)
      · exact ev_as (n2 _) (by rw [if_neg]; rw [if_neg c, if_pos c', d]; simp at e; simp [e])
      · exact ev_as (n2 _) (by rw [if_neg]; rw [if_neg c, if_pos c']; simp [d])
    · exact ev_as (n2 _) (by rw [if_neg]; rw [if_neg c, if_neg c']; simp)
  have q1 : ∀ y, k = 1 → itemB k a l = false → Ev (fun n => impl_PutItem.j0 n y false k a.f0 a.f1 a.f2 a.f3 a.f4 a.f5 a.f6 a.f7 l.f0 l.f1 l.f2 l.f3 l.f4 l.f5 l.f6) (itemV k a l) := by
    intro y c hf
    unfold itemV
    rw [hf]
    exact ev_step (fun n => impl_PutItem.j0.eq_2 ..) (ev_neg (by simp) (ev_neg (by omega) (ev_as (n2 _) (by simp))))
  unfold impl_PutItem.f
  rw [z1]
  refine ev_bind1 rfl (ev_ite (fun c => ?_) (fun c => q _ (fun e => by rw [e]; rfl) c))
  have hy : ([k % 256] : List Int) = [1] := by rw [c]; rfl
  rw [hy]
  refine ev_bind (impl_AskerOk_core _ _ _ _ _ _ _ _ (by omega) (by omega)) (ev_ite (fun d => ev_ite (fun e => ?_) (fun e => ?_)) (fun d => ?_))
  · refine ev_bind1 (impl_wordOk_eq _) ?_
    have h0 := askerB_lease _ _ _ _ _ _ _ _ d
    by_cases f : a.f7 > 65535
    · rw [(inB_false _ _ _).2 (.inr (by omega))]
      exact q1 _ c (by unfold itemB; rw [if_pos c, d]; simp [f])
    · rw [(inB_iff _ _ _).2 ⟨h0, by omega⟩]
      exact ev_as p1 (by unfold itemV itemB; rw [if_pos, if_pos c]; rw [if_pos c, d, e]; simp; omega)
  · exact q1 _ c (by unfold itemB; rw [if_pos c, d]; simp at e; simp [e])
  · exact q1 _ c (by unfold itemB; rw [if_pos c]; simp [d])

/-! ### spec_l9Byte -/
/-- All of a list are bytes. -/
def bytesU (l : List Int) : Prop := ∀ x ∈ l, 0 ≤ x ∧ x < 256
theorem rdU {l : List Int} (hb : bytesU l) (i : Int) : 0 ≤ rd l i ∧ rd l i < 256 := by
  unfold rd
  rw [List.getD_eq_getElem?_getD]
  by_cases h : i.toNat < l.length
  · rw [List.getElem?_eq_getElem h]
    exact hb _ (List.getElem_mem h)
  · rw [List.getElem?_eq_none (by omega)]
    simp
theorem rd_mid (p : List Int) (x : Int) (s : List Int) : rd (p ++ x :: s) (p.length : Int) = x := by
  rw [rd_nth _ p.length (by simp)]
  simp
theorem rd_mid2 (p : List Int) (y x : Int) (s : List Int) : rd (p ++ y :: x :: s) ((p.length : Int) + 1) = x := by
  have h := rd_mid (p ++ [y]) x s
  simpa using h
theorem spec_l9Byte_at (p : List Int) (x : Int) (s : List Int) (h0 : 0 ≤ x) (h1 : x < 256) (hl : (p ++ x :: s).length ≤ 1000000000000) : spec_l9Byte.f (p ++ x :: s) (p.length : Int) false = some (x, (p.length : Int) + 1, false) := by
  unfold spec_l9Byte.f
  have hlen : (p ++ x :: s).length = p.length + s.length + 1 := by simp; omega
  have w1 : wrap64 ((p.length : Int) + 1) = (p.length : Int) + 1 := w64 (by omega) (by omega)
  have w2 : wrap64 ((p.length : Int) + 1 - 1) = (p.length : Int) := by rw [w64 (by omega) (by omega)]; omega
  have w3 : wrap64 x = x := w64 (by omega) (by omega)
  rw [if_neg (by simp), if_neg (by omega)]
  simp only [w1, w2]
  rw [if_pos (by omega), if_pos (by omega), rd_mid, w3]
theorem spec_l9Byte_some (b : List Int) (i : Int) (bad : Bool) (hl : b.length ≤ 1000000000000) (h0 : 0 ≤ i) (h1 : i ≤ b.length) : ∃ v i' bad', spec_l9Byte.f b i bad = some (v, i', bad') ∧ 0 ≤ i' ∧ i' ≤ b.length ∧ (bad = true → bad' = true) := by
  unfold spec_l9Byte.f
  by_cases c : bad = true
  · rw [if_pos c]; exact ⟨_, _, _, rfl, h0, h1, fun _ => rfl⟩
  rw [if_neg c]
  by_cases d : i ≥ (b.length : Int)
  · rw [if_pos d]; exact ⟨_, _, _, rfl, h0, h1, fun _ => rfl⟩
  rw [if_neg d]
  have w1 : wrap64 (i + 1) = i + 1 := w64 (by omega) (by omega)
  have w2 : wrap64 (i + 1 - 1) = i := by rw [w64 (by omega) (by omega)]; omega
  simp only [w1, w2]
  rw [if_pos (by omega), if_pos (by omega)]
  exact ⟨_, _, _, rfl, by omega, by omega, fun h => h⟩

/-! ### impl_reader_one -/
theorem impl_reader_one_at (p : List Int) (x : Int) (s : List Int) (h0 : 0 ≤ x) (h1 : x < 256) (hl : (p ++ x :: s).length ≤ 1000000000000) : impl_reader_one.f (p ++ x :: s) (p.length : Int) = some (x, (p.length : Int) + 1) := by
  unfold impl_reader_one.f
  have hlen : (p ++ x :: s).length = p.length + s.length + 1 := by simp; omega
  rw [if_pos (by omega), if_pos (by omega), rd_mid, w64 (by omega) (by omega), w64 (by omega) (by omega)]
theorem impl_reader_one_some (b : List Int) (i : Int) (hl : b.length ≤ 1000000000000) (h0 : 0 ≤ i) (h1 : i ≤ 2000000000000) : ∃ v, impl_reader_one.f b i = some (v, i + 1) := by
  unfold impl_reader_one.f
  rw [w64 (x := i + 1) (by omega) (by omega)]
  by_cases c : i < (b.length : Int)
  · rw [if_pos c, if_pos h0]; exact ⟨_, rfl⟩
  · rw [if_neg c]; exact ⟨_, rfl⟩

/-! ### impl_reader_word -/
theorem or_word (x y : Int) (hx : 0 ≤ x ∧ x < 256) (hy : 0 ≤ y ∧ y < 256) : Go.bits .or .i64 (x * 256) y = x * 256 + y := by
  obtain ⟨a, rfl⟩ := Int.eq_ofNat_of_zero_le hx.1
  obtain ⟨c, rfl⟩ := Int.eq_ofNat_of_zero_le hy.1
  have ha : a < 256 := by omega
  have hc : c < 2 ^ 8 := by omega
  have key : (BitVec.ofInt 64 ((a : Int) * 256) ||| BitVec.ofInt 64 (c : Int)).toNat = a * 256 + c := by
    rw [BitVec.toNat_or, BitVec.toNat_ofInt, BitVec.toNat_ofInt]
    have e1 : (((a : Int) * 256) % ((2 ^ 64 : Nat) : Int)).toNat = a <<< 8 := by rw [Nat.shiftLeft_eq]; omega
    have e2 : (((c : Int)) % ((2 ^ 64 : Nat) : Int)).toNat = c := by omega
    rw [e1, e2, ← Nat.shiftLeft_add_eq_or_of_lt hc, Nat.shiftLeft_eq]
  show IntKind.i64.wrap ((BitVec.ofInt 64 ((a : Int) * 256) ||| BitVec.ofInt 64 (c : Int)).toNat : Nat) = (a : Int) * 256 + c
  rw [key, IntKind.wrap_i64]
  omega
theorem impl_reader_word_at (p : List Int) (x y : Int) (s : List Int) (hx : 0 ≤ x ∧ x < 256) (hy : 0 ≤ y ∧ y < 256) (hl : (p ++ x :: y :: s).length ≤ 1000000000000) : impl_reader_word.f (p ++ x :: y :: s) (p.length : Int) = some (x * 256 + y, (p.length : Int) + 2) := by
  unfold impl_reader_word.f
  have h2 := impl_reader_one_at (p ++ [x]) y s hy.1 hy.2 (by simpa using hl)
  have e : ((p ++ [x]).length : Int) = (p.length : Int) + 1 := by simp
  rw [e, show (p ++ [x]) ++ y :: s = p ++ x :: y :: s by simp] at h2
  rw [impl_reader_one_at p x (y :: s) hx.1 hx.2 hl, Option.bind_some]
  dsimp only
  rw [h2, Option.bind_some, w64 (x := x * 256) (by omega) (by omega), or_word x y hx hy]
  dsimp only
  rw [show (p.length : Int) + 1 + 1 = (p.length : Int) + 2 by omega]
theorem impl_reader_word_some (b : List Int) (i : Int) (hl : b.length ≤ 1000000000000) (h0 : 0 ≤ i) (h1 : i ≤ 1000000000000) : ∃ v, impl_reader_word.f b i = some (v, i + 2) := by
  unfold impl_reader_word.f
  obtain ⟨v, e⟩ := impl_reader_one_some b i hl h0 (by omega)
  obtain ⟨v2, e2⟩ := impl_reader_one_some b (i + 1) hl (by omega) (by omega)
  rw [e, Option.bind_some]
  dsimp only
  rw [e2, Option.bind_some]
  dsimp only
  rw [show i + 1 + 1 = i + 2 by omega]
  exact ⟨_, rfl⟩

/-! ### spec_GetText -/
theorem strN_bytesU (s : ByteArray) : strOfNums (bytesOf s) = s := by
  have e : (bytesOf s).map (fun n => UInt8.ofNat n.toNat) = s.data.toList := by
    unfold bytesOf
    rw [List.map_map]
    conv => rhs; rw [← List.map_id s.data.toList]
    refine List.map_congr_left (fun b _ => ?_)
    simp
  unfold strOfNums
  rw [e]
theorem bytesOf_len (s : ByteArray) : (bytesOf s).length = s.size := by simp [bytesOf]
theorem bytesOf_U (s : ByteArray) : bytesU (bytesOf s) := by
  intro x hx
  unfold bytesOf at hx
  obtain ⟨c, _, rfl⟩ := List.mem_map.1 hx
  have := c.toNat_lt
  omega
theorem seg_mid (p m s : List Int) : ((p ++ (m ++ s)).take (p.length + m.length)).drop p.length = m := by
  rw [← List.append_assoc, List.take_append_of_le_length (by simp), List.take_of_length_le (by simp), List.drop_append_of_le_length (by simp), List.drop_length, List.nil_append]
theorem textSeg (p : List Int) (t : ByteArray) (s : List Int) : strOfNums (((p ++ (t.size : Int) :: (bytesOf t ++ s)).take ((p.length : Int) + 1 + (t.size : Int)).toNat).drop ((p.length : Int) + 1).toNat) = t := by
  have h := seg_mid (p ++ [(t.size : Int)]) (bytesOf t) s
  have e1 : ((p.length : Int) + 1 + (t.size : Int)).toNat = (p ++ [(t.size : Int)]).length + (bytesOf t).length := by rw [bytesOf_len]; simp; omega
  have e2 : ((p.length : Int) + 1).toNat = (p ++ [(t.size : Int)]).length := by rw [List.length_append, List.length_cons, List.length_nil]; omega
  rw [e1, e2, show p ++ (t.size : Int) :: (bytesOf t ++ s) = (p ++ [(t.size : Int)]) ++ (bytesOf t ++ s) by simp, h, strN_bytesU]
theorem textB_small (s : ByteArray) (h : textB s = true) : s.size ≤ 100 := by
  unfold textB at h
  rw [Bool.and_eq_true, decide_eq_true_eq] at h
  omega
theorem spec_GetText_at (p : List Int) (t : ByteArray) (s : List Int) (ht : textB t = true) (hl : (p ++ (t.size : Int) :: (bytesOf t ++ s)).length ≤ 1000000000000) : Ev (fun k => spec_GetText.f k (p ++ (t.size : Int) :: (bytesOf t ++ s)) (p.length : Int)) (t, (p.length : Int) + 1 + (t.size : Int), true) := by
  have hz := textB_small t ht
  have hlen : (p ++ (t.size : Int) :: (bytesOf t ++ s)).length = p.length + 1 + t.size + s.length := by simp [bytesOf_len]; omega
  unfold spec_GetText.f
  refine ev_neg (by omega) (ev_step (fun k => spec_GetText.j0.eq_2 ..) (ev_neg (by simp; omega) (ev_pos (by omega) (ev_pos (by omega) ?_))))
  have w0 : wrap64 ((t.size : Int)) = (t.size : Int) := w64 (by omega) (by omega)
  have w1 : wrap64 ((p.length : Int) + 1) = (p.length : Int) + 1 := w64 (by omega) (by omega)
  have w2 : wrap64 ((p.length : Int) + 1 + (t.size : Int)) = (p.length : Int) + 1 + (t.size : Int) := w64 (by omega) (by omega)
  have w3 : wrap64 (wrap64 (((p ++ (t.size : Int) :: (bytesOf t ++ s)).length : Int) - (p.length : Int)) - 1) = (t.size : Int) + s.length := by rw [w64 (x := ((p ++ (t.size : Int) :: (bytesOf t ++ s)).length : Int) - (p.length : Int)) (by omega) (by omega), w64 (by omega) (by omega)]; omega
  simp only [rd_mid, w0, w1, w2, w3, textSeg]
  exact ev_neg (by omega) (ev_pos (by omega) (ev_pos (by omega) (ev_pos (by omega) (ev_bind (spec_TextOk_ev t (by omega)) (ev_pos ht (ev_now _))))))
theorem strU_size (l : List Int) (n m : Nat) : (strOfNums ((l.take n).drop m)).size ≤ l.length := by
  rw [strOfNums_size]
  simp
  omega
theorem spec_GetText_some (b : List Int) (i : Int) (hb : bytesU b) (hl : b.length ≤ 1048576) (h0 : 0 ≤ i) (h1 : i ≤ b.length) : ∃ t i' ok, Ev (fun k => spec_GetText.f k b i) (t, i', ok) ∧ t.size ≤ 2000000 ∧ (ok = true → 0 ≤ i' ∧ i' ≤ b.length) := by
  unfold spec_GetText.f
  by_cases c : i ≥ (b.length : Int)
  · exact ⟨_, _, _, ev_neg (by omega) (ev_step (fun k => spec_GetText.j0.eq_2 ..) (ev_pos (by simpa using c) (ev_now _))), by decide, fun h => by cases h⟩
  have hr := rdU hb i
  have w0 : wrap64 (rd b i) = rd b i := w64 (by omega) (by omega)
  have w1 : wrap64 (i + 1) = i + 1 := w64 (by omega) (by omega)
  have w2 : wrap64 (i + 1 + rd b i) = i + 1 + rd b i := w64 (by omega) (by omega)
  have w3 : wrap64 (wrap64 ((b.length : Int) - i) - 1) = (b.length : Int) - i - 1 := by rw [w64 (x := (b.length : Int) - i) (by omega) (by omega), w64 (by omega) (by omega)]
  have go : ∀ (r : ByteArray × Int × Bool), Ev (fun k => if rd b i > (b.length : Int) - i - 1 then some ((⟨#[]⟩ : ByteArray), (0 : Int), false) else if 0 ≤ i + 1 then if i + 1 ≤ i + 1 + rd b i then if i + 1 + rd b i ≤ (b.length : Int) then (spec_TextOk.f k (strOfNums ((b.take (i + 1 + rd b i).toNat).drop (i + 1).toNat))).bind fun t => if t = true then some (strOfNums ((b.take (i + 1 + rd b i).toNat).drop (i + 1).toNat), i + 1 + rd b i, true) else some ((⟨#[]⟩ : ByteArray), (0 : Int), false) else none else none else none) r → Ev (fun k => if i < 0 then spec_GetText.j0 k b i true else spec_GetText.j0 k b i (decide (i ≥ (b.length : Int)))) r := by
    intro r hr
    refine ev_neg (by omega) (ev_step (fun k => spec_GetText.j0.eq_2 ..) (ev_neg (by simpa using c) (ev_pos (by omega) (ev_pos (by omega) ?_))))
    simp only [w0, w1, w2, w3]
    exact hr
  by_cases d : rd b i > (b.length : Int) - i - 1
  · exact ⟨_, _, _, go _ (ev_pos d (ev_now _)), by decide, fun h => by cases h⟩
  have hz := strU_size b (i + 1 + rd b i).toNat (i + 1).toNat
  by_cases e : textB (strOfNums ((b.take (i + 1 + rd b i).toNat).drop (i + 1).toNat)) = true
  · exact ⟨_, _, _, go _ (ev_neg d (ev_pos (by omega) (ev_pos (by omega) (ev_pos (by omega) (ev_bind (spec_TextOk_ev _ (by omega)) (ev_pos e (ev_now _))))))), by omega, fun _ => by omega⟩
  · exact ⟨_, _, _, go _ (ev_neg d (ev_pos (by omega) (ev_pos (by omega) (ev_pos (by omega) (ev_bind (spec_TextOk_ev _ (by omega)) (ev_neg e (ev_now _))))))), by decide, fun h => by cases h⟩

/-! ### impl_GetText -/
theorem impl_GetText_at (p : List Int) (t : ByteArray) (s : List Int) (ht : textB t = true) (hl : (p ++ (t.size : Int) :: (bytesOf t ++ s)).length ≤ 1000000000000) : Ev (fun k => impl_GetText.f k (p ++ (t.size : Int) :: (bytesOf t ++ s)) (p.length : Int)) (t, (p.length : Int) + 1 + (t.size : Int), true) := by
  have hz := textB_small t ht
  have hlen : (p ++ (t.size : Int) :: (bytesOf t ++ s)).length = p.length + 1 + t.size + s.length := by simp [bytesOf_len]; omega
  unfold impl_GetText.f
  have w0 : wrap64 ((t.size : Int)) = (t.size : Int) := w64 (by omega) (by omega)
  have w1 : wrap64 ((p.length : Int) + 1) = (p.length : Int) + 1 := w64 (by omega) (by omega)
  have w2 : wrap64 ((p.length : Int) + 1 + (t.size : Int)) = (p.length : Int) + 1 + (t.size : Int) := w64 (by omega) (by omega)
  have w3 : wrap64 (wrap64 (((p ++ (t.size : Int) :: (bytesOf t ++ s)).length : Int) - (p.length : Int)) - 1) = (t.size : Int) + s.length := by rw [w64 (x := ((p ++ (t.size : Int) :: (bytesOf t ++ s)).length : Int) - (p.length : Int)) (by omega) (by omega), w64 (by omega) (by omega)]; omega
  have w4 : wrap64 (((p ++ (t.size : Int) :: (bytesOf t ++ s)).length : Int) - 1) = ((p ++ (t.size : Int) :: (bytesOf t ++ s)).length : Int) - 1 := w64 (by omega) (by omega)
  simp only [w4, rd_mid, w0, w3]
  refine ev_bind1 (impl_isIn_eq _ _ _) (ev_pos ((inB_iff _ _ _).2 ⟨by omega, by omega⟩) (ev_pos (by omega) (ev_pos (by omega) (ev_step (fun k => impl_GetText.j0.eq_2 ..) (ev_neg (by simp; omega) (ev_pos (by omega) (ev_pos (by omega) ?_)))))))
  simp only [rd_mid, w0, w1, w2, textSeg]
  exact ev_pos (by omega) (ev_pos (by omega) (ev_pos (by omega) (ev_bind (impl_TextOk_ev t (by omega)) (ev_pos ht (ev_now _)))))
theorem impl_GetText_some (b : List Int) (i : Int) (hb : bytesU b) (hl : b.length ≤ 1048576) (h0 : 0 ≤ i) : ∃ t i' ok, Ev (fun k => impl_GetText.f k b i) (t, i', ok) ∧ t.size ≤ 2000000 ∧ (ok = true → 0 ≤ i' ∧ i' ≤ 2000000) := by
  unfold impl_GetText.f
  have w4 : wrap64 ((b.length : Int) - 1) = (b.length : Int) - 1 := w64 (by omega) (by omega)
  simp only [w4]
  by_cases c : inB i 0 ((b.length : Int) - 1) = true
  · have hi := (inB_iff _ _ _).1 c
    have hr := rdU hb i
    have w0 : wrap64 (rd b i) = rd b i := w64 (by omega) (by omega)
    have w1 : wrap64 (i + 1) = i + 1 := w64 (by omega) (by omega)
    have w2 : wrap64 (i + 1 + rd b i) = i + 1 + rd b i := w64 (by omega) (by omega)
    have w3 : wrap64 (wrap64 ((b.length : Int) - i) - 1) = (b.length : Int) - i - 1 := by rw [w64 (x := (b.length : Int) - i) (by omega) (by omega), w64 (by omega) (by omega)]
    simp only [w0, w3]
    by_cases d : rd b i > (b.length : Int) - i - 1
    · exact ⟨_, _, _, ev_bind1 (impl_isIn_eq _ _ _) (ev_pos c (ev_pos (by omega) (ev_pos (by omega) (ev_step (fun k => impl_GetText.j0.eq_2 ..) (ev_pos (by simpa using d) (ev_now _)))))), by decide, fun h => by cases h⟩
    have hz := strU_size b (i + 1 + rd b i).toNat (i + 1).toNat
    have go : ∀ (r : ByteArray × Int × Bool), Ev (fun k => (impl_TextOk.f k (strOfNums ((b.take (i + 1 + rd b i).toNat).drop (i + 1).toNat))).bind fun t => if t = true then some (strOfNums ((b.take (i + 1 + rd b i).toNat).drop (i + 1).toNat), i + 1 + rd b i, true) else some ((⟨#[]⟩ : ByteArray), (0 : Int), false)) r → Ev (fun k => impl_GetText.j0 k b i (decide (rd b i > (b.length : Int) - i - 1))) r := by
      intro r h
      refine ev_step (fun k => impl_GetText.j0.eq_2 ..) (ev_neg (by simpa using d) (ev_pos (by omega) (ev_pos (by omega) ?_)))
      simp only [w0, w1, w2]
      exact ev_pos (by omega) (ev_pos (by omega) (ev_pos (by omega) h))
    by_cases e : textB (strOfNums ((b.take (i + 1 + rd b i).toNat).drop (i + 1).toNat)) = true
    · exact ⟨_, _, _, ev_bind1 (impl_isIn_eq _ _ _) (ev_pos c (ev_pos (by omega) (ev_pos (by omega) (go _ (ev_bind (impl_TextOk_ev _ (by omega)) (ev_pos e (ev_now _))))))), by omega, fun _ => by omega⟩
    · exact ⟨_, _, _, ev_bind1 (impl_isIn_eq _ _ _) (ev_pos c (ev_pos (by omega) (ev_pos (by omega) (go _ (ev_bind (impl_TextOk_ev _ (by omega)) (ev_neg e (ev_now _))))))), by decide, fun h => by cases h⟩
  · exact ⟨_, _, _, ev_bind1 (impl_isIn_eq _ _ _) (ev_neg c (ev_step (fun k => impl_GetText.j0.eq_2 ..) (ev_pos rfl (ev_now _)))), by decide, fun h => by cases h⟩

/-! ### impl_reader_text -/
theorem impl_reader_text_at (p : List Int) (t : ByteArray) (s : List Int) (ht : textB t = true) (hl : (p ++ (t.size : Int) :: (bytesOf t ++ s)).length ≤ 1000000000000) : Ev (fun k => impl_reader_text.f k (p ++ (t.size : Int) :: (bytesOf t ++ s)) (p.length : Int)) (t, (p.length : Int) + 1 + (t.size : Int)) := by
  unfold impl_reader_text.f
  exact ev_bind (impl_GetText_at p t s ht hl) (ev_pos rfl (ev_now _))
theorem impl_reader_text_some (b : List Int) (i : Int) (hb : bytesU b) (hl : b.length ≤ 1048576) (h0 : 0 ≤ i) : ∃ t i', Ev (fun k => impl_reader_text.f k b i) (t, i') ∧ t.size ≤ 2000000 ∧ 0 ≤ i' ∧ (i' = i ∨ i' ≤ 2000000) := by
  unfold impl_reader_text.f
  obtain ⟨t, j, ok, e, hz, hj⟩ := impl_GetText_some b i hb hl h0
  by_cases d : ok = true
  · exact ⟨_, _, ev_bind e (ev_pos d (ev_now _)), hz, (hj d).1, .inr (hj d).2⟩
  · exact ⟨_, _, ev_bind e (ev_neg d (ev_now _)), hz, h0, .inl rfl⟩

/-! ### impl_reader_since -/
theorem impl_reader_since_at (p : List Int) (x y z : Int) (s : List Int) (hx : 0 ≤ x ∧ x < 256) (hy : 0 ≤ y ∧ y < 256) (hz : 0 ≤ z ∧ z < 256) (hl : (p ++ x :: y :: z :: s).length ≤ 1000000000000) : impl_reader_since.f (p ++ x :: y :: z :: s) (p.length : Int) = some ((x * 256 + y) * 256 + z, (p.length : Int) + 3) := by
  unfold impl_reader_since.f
  have h2 := impl_reader_one_at (p ++ [x, y]) z s hz.1 hz.2 (by simpa using hl)
  have e : ((p ++ [x, y]).length : Int) = (p.length : Int) + 2 := by simp
  rw [e, show (p ++ [x, y]) ++ z :: s = p ++ x :: y :: z :: s by simp] at h2
  rw [impl_reader_word_at p x y (z :: s) hx hy hl, Option.bind_some]
  dsimp only
  rw [h2, Option.bind_some]
  dsimp only
  rw [w64 (x := (x * 256 + y) * 256) (by omega) (by omega), w64 (by omega) (by omega), show (p.length : Int) + 2 + 1 = (p.length : Int) + 3 by omega]
theorem impl_reader_since_some (b : List Int) (i : Int) (hl : b.length ≤ 1000000000000) (h0 : 0 ≤ i) (h1 : i ≤ 1000000000000) : ∃ v, impl_reader_since.f b i = some (v, i + 3) := by
  unfold impl_reader_since.f
  obtain ⟨v, e⟩ := impl_reader_word_some b i hl h0 h1
  obtain ⟨v2, e2⟩ := impl_reader_one_some b (i + 2) hl (by omega) (by omega)
  rw [e, Option.bind_some]
  dsimp only
  rw [e2, Option.bind_some]
  dsimp only
  rw [show i + 2 + 1 = i + 3 by omega]
  exact ⟨_, rfl⟩

/-! ### spec_GetWord -/
theorem spec_GetWord_at (p : List Int) (x y : Int) (s : List Int) (hx : 0 ≤ x ∧ x < 256) (hy : 0 ≤ y ∧ y < 256) (hl : (p ++ x :: y :: s).length ≤ 1000000000000) : spec_GetWord.f (p ++ x :: y :: s) (p.length : Int) = some (x * 256 + y, (p.length : Int) + 2, true) := by
  unfold spec_GetWord.f
  have hlen : (p ++ x :: y :: s).length = p.length + s.length + 2 := by simp; omega
  have w0 : wrap64 (((p ++ x :: y :: s).length : Int) - 2) = (p.length : Int) + s.length := by rw [w64 (by omega) (by omega)]; omega
  have w1 : wrap64 ((p.length : Int) + 1) = (p.length : Int) + 1 := w64 (by omega) (by omega)
  have w2 : wrap64 ((p.length : Int) + 2) = (p.length : Int) + 2 := w64 (by omega) (by omega)
  simp only [w0, w1, w2, rd_mid, rd_mid2]
  rw [if_neg (by omega), if_neg (by omega), if_pos (by omega), if_pos (by omega), if_pos (by omega), if_pos (by omega)]
  rw [w64 (x := x) (by omega) (by omega), w64 (x := y) (by omega) (by omega), w64 (x := x * 256) (by omega) (by omega), w64 (by omega) (by omega)]
theorem spec_GetWord_some (b : List Int) (i : Int) (hl : b.length ≤ 1000000000000) (h0 : 0 ≤ i) (h1 : i ≤ b.length) : ∃ v i' ok, spec_GetWord.f b i = some (v, i', ok) ∧ (ok = true → 0 ≤ i' ∧ i' ≤ b.length) := by
  unfold spec_GetWord.f
  have w0 : wrap64 ((b.length : Int) - 2) = (b.length : Int) - 2 := w64 (by omega) (by omega)
  have w1 : wrap64 (i + 1) = i + 1 := w64 (by omega) (by omega)
  have w2 : wrap64 (i + 2) = i + 2 := w64 (by omega) (by omega)
  simp only [w0, w1, w2]
  rw [if_neg (by omega)]
  by_cases c : i > (b.length : Int) - 2
  · rw [if_pos c]; exact ⟨_, _, _, rfl, fun h => by cases h⟩
  rw [if_neg c, if_pos (by omega), if_pos (by omega), if_pos (by omega), if_pos (by omega)]
  exact ⟨_, _, _, rfl, fun _ => by omega⟩

/-! ### spec_l9Word -/
theorem spec_l9Word_at (p : List Int) (x y : Int) (s : List Int) (hx : 0 ≤ x ∧ x < 256) (hy : 0 ≤ y ∧ y < 256) (hl : (p ++ x :: y :: s).length ≤ 1000000000000) : spec_l9Word.f (p ++ x :: y :: s) (p.length : Int) false = some (x * 256 + y, (p.length : Int) + 2, false) := by
  unfold spec_l9Word.f
  rw [spec_GetWord_at p x y s hx hy hl]
  rfl
theorem spec_l9Word_some (b : List Int) (i : Int) (bad : Bool) (hl : b.length ≤ 1000000000000) (h0 : 0 ≤ i) (h1 : i ≤ b.length) : ∃ v i' bad', spec_l9Word.f b i bad = some (v, i', bad') ∧ 0 ≤ i' ∧ i' ≤ b.length ∧ (bad = true → bad' = true) := by
  unfold spec_l9Word.f
  obtain ⟨v, j, ok, e, hj⟩ := spec_GetWord_some b i hl h0 h1
  rw [e, Option.bind_some]
  dsimp only
  by_cases c : bad = true
  · rw [if_pos c]; exact ⟨_, _, _, rfl, h0, h1, fun _ => rfl⟩
  rw [if_neg c]
  by_cases d : ok = true
  · rw [if_pos d]; exact ⟨_, _, _, rfl, (hj d).1, (hj d).2, fun h => h⟩
  · rw [if_neg d]; exact ⟨_, _, _, rfl, h0, h1, fun _ => rfl⟩

/-! ### spec_l9Text -/
theorem spec_l9Text_at (p : List Int) (t : ByteArray) (s : List Int) (ht : textB t = true) (hl : (p ++ (t.size : Int) :: (bytesOf t ++ s)).length ≤ 1000000000000) : Ev (fun k => spec_l9Text.f k (p ++ (t.size : Int) :: (bytesOf t ++ s)) (p.length : Int) false) (t, (p.length : Int) + 1 + (t.size : Int), false) := by
  unfold spec_l9Text.f
  exact ev_bind (spec_GetText_at p t s ht hl) (ev_neg (by simp) (ev_pos rfl (ev_now _)))
theorem spec_l9Text_some (b : List Int) (i : Int) (bad : Bool) (hb : bytesU b) (hl : b.length ≤ 1048576) (h0 : 0 ≤ i) (h1 : i ≤ b.length) : ∃ t i' bad', Ev (fun k => spec_l9Text.f k b i bad) (t, i', bad') ∧ t.size ≤ 2000000 ∧ 0 ≤ i' ∧ i' ≤ b.length ∧ (bad = true → bad' = true) := by
  unfold spec_l9Text.f
  obtain ⟨t, j, ok, e, hz, hj⟩ := spec_GetText_some b i hb hl h0 h1
  by_cases c : bad = true
  · exact ⟨_, _, _, ev_bind e (ev_pos c (ev_now _)), by decide, h0, h1, fun _ => rfl⟩
  by_cases d : ok = true
  · exact ⟨_, _, _, ev_bind e (ev_neg c (ev_pos d (ev_now _))), hz, (hj d).1, (hj d).2, fun h => h⟩
  · exact ⟨_, _, _, ev_bind e (ev_neg c (ev_neg d (ev_now _))), by decide, h0, h1, fun _ => rfl⟩

/-! ### spec_GetItem -/
/-- An asker, a line, that may be handed over. -/
def askG (a : S25) : Prop := askerB a.f0 a.f1 a.f2 a.f3 a.f4 a.f5 a.f6 a.f7 = true ∧ a.f7 ≤ 65535
def lineG (l : S27) : Prop := lineB l.f0 l.f1 l.f2 l.f3 l.f4 l.f5 l.f6 = true ∧ l.f6 ≤ 65535
def goodB (b : List Int) : Prop := (∃ a, askG a ∧ b = askV a) ∨ ∃ l, lineG l ∧ b = lineV l
def zA : S25 := ⟨0, ⟨#[]⟩, 0, 0, 0, ⟨#[]⟩, 0, 0⟩
def zL : S27 := ⟨0, ⟨#[]⟩, 0, 0, 0, 0, 0⟩
theorem emptyL : (⟨#[]⟩ : ByteArray).toList = ([] : List UInt8) := by unfold ByteArray.toList; unfold ByteArray.toList.loop; rfl
theorem zeroA_zA : zeroA zA = true := by simp [zeroA, zA, emptyL]
theorem zeroL_zL : zeroL zL = true := by simp [zeroL, zL, emptyL]
theorem itemB_ask (a : S25) (h : askG a) : itemB 1 a zL = true := by
  unfold itemB
  rw [if_pos rfl, h.1, zeroL_zL, Bool.true_and, Bool.true_and, decide_eq_false (by have := h.2; omega)]
  rfl
theorem itemB_line (l : S27) (h : lineG l) : itemB 2 zA l = true := by
  unfold itemB
  rw [if_neg (by decide), if_pos rfl, h.1, zeroA_zA, Bool.true_and, Bool.true_and, decide_eq_false (by have := h.2; omega)]
  rfl
theorem itemV_ask (a : S25) (h : askG a) : itemV 1 a zL = askV a := by unfold itemV; rw [if_pos (itemB_ask a h), if_pos rfl]
theorem itemV_line (l : S27) (h : lineG l) : itemV 2 zA l = lineV l := by unfold itemV; rw [if_pos (itemB_line l h), if_neg (by decide)]
theorem itemV_good (k : Int) (a : S25) (l : S27) : itemV k a l = [] ∨ goodB (itemV k a l) := by
  by_cases h : itemB k a l = true
  · right
    unfold itemV
    rw [if_pos h]
    unfold itemB at h
    by_cases c : k = 1
    · rw [if_pos c] at h ⊢
      simp only [Bool.and_eq_true, Bool.not_eq_true', decide_eq_false_iff_not] at h
      exact .inl ⟨a, ⟨h.1, by omega⟩, rfl⟩
    · rw [if_neg c] at h ⊢
      by_cases d : k = 2
      · rw [if_pos d] at h
        simp only [Bool.and_eq_true, Bool.not_eq_true', decide_eq_false_iff_not] at h
        exact .inr ⟨l, ⟨h.1, by omega⟩, rfl⟩
      · rw [if_neg d] at h
        cases h
  · left
    unfold itemV
    rw [if_neg h]
theorem nameB_textU (s : ByteArray) (h : nameB s = true) : textB s = true := by
  unfold nameB at h
  rw [Bool.and_eq_true, allF_iff, inB_iff] at h
  unfold textB
  rw [Bool.and_eq_true, allF_iff]
  refine ⟨fun j h0 h1 => ?_, decide_eq_true (by omega)⟩
  have := (byteIn_iff _ _ _ _).1 (h.1 j h0 h1)
  exact (byteIn_iff _ _ _ _).2 (by omega)
theorem textB_empty (s : ByteArray) (h : s.toList = ([] : List UInt8)) : textB s = true := by
  have e : s.size = 0 := by
    have h2 : s.toList.length = s.size := by rw [ByteArray.toList_eq]; simp
    rw [h] at h2
    simpa using h2.symm
  unfold textB
  rw [e]
  rfl
theorem ask_ranges (a : S25) (h : askG a) : (0 ≤ a.f0 ∧ a.f0 ≤ 65535) ∧ (0 ≤ a.f2 ∧ a.f2 ≤ 255) ∧ (0 ≤ a.f3 ∧ a.f3 ≤ 65535) ∧ (0 ≤ a.f4 ∧ a.f4 ≤ 100000) ∧ (0 ≤ a.f6 ∧ a.f6 ≤ 65535) ∧ (0 ≤ a.f7 ∧ a.f7 ≤ 65535) ∧ textB a.f1 = true ∧ textB a.f5 = true := by
  obtain ⟨h, h7⟩ := h
  unfold askerB at h
  rw [Bool.and_eq_true, inB_iff] at h
  obtain ⟨h0, h⟩ := h
  by_cases c0 : a.f2 = 0
  · rw [if_pos c0] at h
    simp only [Bool.and_eq_true, beq_iff_eq] at h
    obtain ⟨e1, e3, e4, e5, e6, e7⟩ := h
    exact ⟨by omega, by omega, by omega, by omega, by omega, by omega, textB_empty _ e1, textB_empty _ e5⟩
  rw [if_neg c0, Bool.and_eq_true] at h
  obtain ⟨hn, h⟩ := h
  have ht := nameB_textU _ hn
  by_cases c1 : a.f2 = 1
  · rw [if_pos c1] at h
    simp only [Bool.and_eq_true, beq_iff_eq] at h
    obtain ⟨e3, e4, e5, e6, e7⟩ := h
    exact ⟨by omega, by omega, by omega, by omega, by omega, by omega, ht, textB_empty _ e5⟩
  rw [if_neg c1] at h
  by_cases c2 : a.f2 = 2
  · rw [if_pos c2] at h
    simp only [Bool.and_eq_true, beq_iff_eq, inB_iff] at h
    obtain ⟨⟨e6, e7⟩, e3, e4, e5⟩ := h
    exact ⟨by omega, by omega, by omega, by omega, by omega, by omega, ht, e5⟩
  rw [if_neg c2] at h
  by_cases c3 : a.f2 = 3 ∨ a.f2 = 4
  · rw [if_pos c3] at h
    simp only [Bool.and_eq_true, beq_iff_eq, inB_iff, decide_eq_true_eq] at h
    obtain ⟨⟨e3, e4, e5⟩, e6, e7⟩ := h
    exact ⟨by omega, by omega, by omega, by omega, by omega, by omega, ht, textB_empty _ e5⟩
  · rw [if_neg c3] at h
    cases h
theorem line_ranges (l : S27) (h : lineG l) : (0 ≤ l.f0 ∧ l.f0 ≤ 65535) ∧ (0 ≤ l.f2 ∧ l.f2 ≤ 65535) ∧ (0 ≤ l.f3 ∧ l.f3 ≤ 255) ∧ (0 ≤ l.f4 ∧ l.f4 ≤ 100000) ∧ (0 ≤ l.f5 ∧ l.f5 ≤ 65535) ∧ (0 ≤ l.f6 ∧ l.f6 ≤ 65535) ∧ textB l.f1 = true := by
  obtain ⟨h, h7⟩ := h
  unfold lineB at h
  rw [Bool.and_eq_true, inB_iff, Bool.and_eq_true, Bool.and_eq_true, inB_iff] at h
  obtain ⟨h0, hn, hg, h⟩ := h
  have ht := nameB_textU _ hn
  by_cases c0 : l.f3 = 0
  · rw [if_pos c0] at h
    simp only [Bool.and_eq_true, beq_iff_eq, inB_iff] at h
    obtain ⟨e4, e5, e6⟩ := h
    exact ⟨by omega, by omega, by omega, by omega, by omega, by omega, ht⟩
  rw [if_neg c0] at h
  by_cases c1 : l.f3 = 1 ∨ l.f3 = 2
  · rw [if_pos c1] at h
    simp only [Bool.and_eq_true, beq_iff_eq, inB_iff, decide_eq_true_eq] at h
    obtain ⟨e4, e5, e6⟩ := h
    exact ⟨by omega, by omega, by omega, by omega, by omega, by omega, ht⟩
  · rw [if_neg c1] at h
    cases h
/-- What is written, byte for byte. -/
theorem askV_flat (a : S25) (h1 : textB a.f1 = true) (h5 : textB a.f5 = true) (h4 : 0 ≤ a.f4 ∧ a.f4 ≤ 100000) (h2 : 0 ≤ a.f2 ∧ a.f2 ≤ 255) : askV a = 1 :: (a.f0 / 256 % 256) :: (a.f0 % 256) :: a.f2 :: (a.f1.size : Int) :: (bytesOf a.f1 ++ ((a.f3 / 256 % 256) :: (a.f3 % 256) :: (a.f4 / 256 / 256 % 256) :: (a.f4 / 256 % 256) :: (a.f4 % 256) :: (a.f5.size : Int) :: (bytesOf a.f5 ++ [a.f6 / 256 % 256, a.f6 % 256, a.f7 / 256 % 256, a.f7 % 256]))) := by
  have z1 := textB_small _ h1
  have z5 := textB_small _ h5
  have e1 : (a.f1.size : Int) % 256 = (a.f1.size : Int) := by omega
  have e5 : (a.f5.size : Int) % 256 = (a.f5.size : Int) := by omega
  have e2 : a.f2 % 256 = a.f2 := by omega
  have d : wrap64 (Int.tdiv a.f4 256) = a.f4 / 256 := by rw [Int.tdiv_eq_ediv_of_nonneg h4.1, w64 (by omega) (by omega)]
  have m : Int.tmod a.f4 256 % 256 = a.f4 % 256 := by rw [Int.tmod_eq_emod_of_nonneg h4.1]; omega
  simp only [askV, putWordV, putTextV, sinceV, if_pos h1, if_pos h5, e1, e5, e2, d, m, List.append_assoc, List.cons_append, List.nil_append]
theorem lineV_flat (l : S27) (h1 : textB l.f1 = true) (h4 : 0 ≤ l.f4 ∧ l.f4 ≤ 100000) (h3 : 0 ≤ l.f3 ∧ l.f3 ≤ 255) : lineV l = 2 :: (l.f0 / 256 % 256) :: (l.f0 % 256) :: l.f3 :: (l.f1.size : Int) :: (bytesOf l.f1 ++ [l.f2 / 256 % 256, l.f2 % 256, l.f4 / 256 / 256 % 256, l.f4 / 256 % 256, l.f4 % 256, l.f5 / 256 % 256, l.f5 % 256, l.f6 / 256 % 256, l.f6 % 256]) := by
  have z1 := textB_small _ h1
  have e1 : (l.f1.size : Int) % 256 = (l.f1.size : Int) := by omega
  have e3 : l.f3 % 256 = l.f3 := by omega
  have d : wrap64 (Int.tdiv l.f4 256) = l.f4 / 256 := by rw [Int.tdiv_eq_ediv_of_nonneg h4.1, w64 (by omega) (by omega)]
  have m : Int.tmod l.f4 256 % 256 = l.f4 % 256 := by rw [Int.tmod_eq_emod_of_nonneg h4.1]; omega
  simp only [lineV, putWordV, putTextV, sinceV, if_pos h1, e1, e3, d, m, List.append_assoc, List.cons_append, List.nil_append]
theorem putWordV_U (l : List Int) (n : Int) (h : bytesU l) : bytesU (putWordV l n) := by
  intro x hx
  unfold putWordV at hx
  rcases List.mem_append.1 hx with hx | hx
  · exact h x hx
  · simp only [List.mem_cons, List.not_mem_nil, or_false] at hx
    rcases hx with rfl | rfl <;> omega
theorem putTextV_U (l : List Int) (s : ByteArray) (h : bytesU l) : bytesU (putTextV l s) := by
  intro x hx
  unfold putTextV at hx
  split at hx
  · rcases List.mem_append.1 hx with hx | hx
    · rcases List.mem_append.1 hx with hx | hx
      · exact h x hx
      · rw [List.mem_singleton] at hx; omega
    · exact bytesOf_U s x hx
  · exact h x hx
theorem one_U (l : List Int) (n : Int) (h : bytesU l) : bytesU (l ++ [n % 256]) := by
  intro x hx
  rcases List.mem_append.1 hx with hx | hx
  · exact h x hx
  · rw [List.mem_singleton] at hx; omega
theorem itemV_U (k : Int) (a : S25) (l : S27) : bytesU (itemV k a l) := by
  have n1 : bytesU [1] := by intro x hx; rw [List.mem_singleton] at hx; omega
  have n2 : bytesU [2] := by intro x hx; rw [List.mem_singleton] at hx; omega
  unfold itemV
  split
  · split
    · exact putWordV_U _ _ (putWordV_U _ _ (putTextV_U _ _ (one_U _ _ (putWordV_U _ _ (putWordV_U _ _ (putTextV_U _ _ (one_U _ _ (putWordV_U _ _ n1))))))))
    · exact putWordV_U _ _ (putWordV_U _ _ (one_U _ _ (putWordV_U _ _ (putWordV_U _ _ (putTextV_U _ _ (one_U _ _ (putWordV_U _ _ n2)))))))
  · intro x hx; cases hx
theorem strU_inj (l m : List Int) (hl : bytesU l) (hm : bytesU m) (h : (strOfNums l).toList = (strOfNums m).toList) : l = m := by
  have back : ∀ z : List Int, bytesU z → ((strOfNums z).toList.map fun u => (u.toNat : Int)) = z := by
    intro z hz
    rw [ByteArray.toList_eq]
    simp only [strOfNums, List.map_map]
    conv => rhs; rw [← List.map_id z]
    refine List.map_congr_left (fun x hx => ?_)
    have := hz x hx
    simp only [Function.comp, id]
    rw [UInt8.toNat_ofNat']
    omega
  rw [← back l hl, ← back m hm, h]
theorem sB (b p s : List Int) (x i : Int) (hl : b.length ≤ 1000000000000) (hb : b = p ++ x :: s) (hi : i = p.length) (h0 : 0 ≤ x ∧ x < 256) : spec_l9Byte.f b i false = some (x, i + 1, false) := by
  subst hb hi
  exact spec_l9Byte_at p x s h0.1 h0.2 hl
theorem sW (b p s : List Int) (x y i : Int) (hl : b.length ≤ 1000000000000) (hb : b = p ++ x :: y :: s) (hi : i = p.length) (h0 : 0 ≤ x ∧ x < 256) (h1 : 0 ≤ y ∧ y < 256) : spec_l9Word.f b i false = some (x * 256 + y, i + 2, false) := by
  subst hb hi
  exact spec_l9Word_at p x y s h0 h1 hl
theorem sT (b p s : List Int) (t : ByteArray) (i : Int) (hl : b.length ≤ 1000000000000) (hb : b = p ++ (t.size : Int) :: (bytesOf t ++ s)) (hi : i = p.length) (h0 : textB t = true) : Ev (fun k => spec_l9Text.f k b i false) (t, i + 1 + (t.size : Int), false) := by
  subst hb hi
  exact spec_l9Text_at p t s h0 hl
theorem sameEq (b : List Int) : ((strOfNums b).toList == (strOfNums b).toList) = true := by simp
theorem spec_GetItem_ask (a : S25) (h : askG a) : Ev (fun k => spec_GetItem.f k (askV a)) (1, a.f0, a.f1, a.f2, a.f3, a.f4, a.f5, a.f6, a.f7, 0, ⟨#[]⟩, 0, 0, 0, 0, 0, true) := by
  obtain ⟨r0, r2, r3, r4, r6, r7, t1, t5⟩ := ask_ranges a h
  have hf := askV_flat a t1 t5 r4 r2
  have hl := (askV_len a).2
  have z1 := textB_small _ t1
  have z5 := textB_small _ t5
  have hp := spec_PutItem_ev 1 a zL (by omega) (by omega) (by decide)
  rw [itemV_ask a h] at hp
  generalize askV a = b at hf hl hp
  have hl' : b.length ≤ 1000000000000 := by omega
  have v0 : a.f0 / 256 % 256 * 256 + a.f0 % 256 = a.f0 := by omega
  have v3 : a.f3 / 256 % 256 * 256 + a.f3 % 256 = a.f3 := by omega
  have v6 : a.f6 / 256 % 256 * 256 + a.f6 % 256 = a.f6 := by omega
  have v7 : a.f7 / 256 % 256 * 256 + a.f7 % 256 = a.f7 := by omega
  have v4 : wrap64 (wrap64 (256 * (a.f4 / 256 / 256 % 256 * 256 + a.f4 / 256 % 256)) + a.f4 % 256) = a.f4 := by
    rw [w64 (x := 256 * (a.f4 / 256 / 256 % 256 * 256 + a.f4 / 256 % 256)) (by omega) (by omega), w64 (by omega) (by omega)]
    omega
  have e0 := sB b [] _ 1 0 hl' hf rfl (by omega)
  have e1 := sW b [1] _ _ _ (0 + 1) hl' hf rfl (by omega) (by omega)
  have e2 := sB b [1, a.f0 / 256 % 256, a.f0 % 256] _ _ (0 + 1 + 2) hl' hf rfl (by omega)
  have e3 := sT b [1, a.f0 / 256 % 256, a.f0 % 256, a.f2] _ a.f1 (0 + 1 + 2 + 1) hl' hf rfl t1
  have e4 := sW b (1 :: (a.f0 / 256 % 256) :: (a.f0 % 256) :: a.f2 :: (a.f1.size : Int) :: bytesOf a.f1) _ _ _ (0 + 1 + 2 + 1 + 1 + (a.f1.size : Int)) hl' hf (by simp [bytesOf_len]; omega) (by omega) (by omega)
  have e5 := sW b (1 :: (a.f0 / 256 % 256) :: (a.f0 % 256) :: a.f2 :: (a.f1.size : Int) :: (bytesOf a.f1 ++ [a.f3 / 256 % 256, a.f3 % 256])) _ _ _ (0 + 1 + 2 + 1 + 1 + (a.f1.size : Int) + 2) hl' (by rw [hf]; simp only [List.cons_append, List.append_assoc, List.nil_append] <;> rfl) (by simp [bytesOf_len]; omega) (by omega) (by omega)
  have e6 := sB b (1 :: (a.f0 / 256 % 256) :: (a.f0 % 256) :: a.f2 :: (a.f1.size : Int) :: (bytesOf a.f1 ++ [a.f3 / 256 % 256, a.f3 % 256, a.f4 / 256 / 256 % 256, a.f4 / 256 % 256])) _ _ (0 + 1 + 2 + 1 + 1 + (a.f1.size : Int) + 2 + 2) hl' (by rw [hf]; simp only [List.cons_append, List.append_assoc, List.nil_append] <;> rfl) (by simp [bytesOf_len]; omega) (by omega)
  have e7 := sT b (1 :: (a.f0 / 256 % 256) :: (a.f0 % 256) :: a.f2 :: (a.f1.size : Int) :: (bytesOf a.f1 ++ [a.f3 / 256 % 256, a.f3 % 256, a.f4 / 256 / 256 % 256, a.f4 / 256 % 256, a.f4 % 256])) _ a.f5 (0 + 1 + 2 + 1 + 1 + (a.f1.size : Int) + 2 + 2 + 1) hl' (by rw [hf]; simp only [List.cons_append, List.append_assoc, List.nil_append] <;> rfl) (by simp [bytesOf_len]; omega) t5
  have e8 := sW b (1 :: (a.f0 / 256 % 256) :: (a.f0 % 256) :: a.f2 :: (a.f1.size : Int) :: (bytesOf a.f1 ++ ((a.f3 / 256 % 256) :: (a.f3 % 256) :: (a.f4 / 256 / 256 % 256) :: (a.f4 / 256 % 256) :: (a.f4 % 256) :: (a.f5.size : Int) :: bytesOf a.f5))) _ _ _ (0 + 1 + 2 + 1 + 1 + (a.f1.size : Int) + 2 + 2 + 1 + 1 + (a.f5.size : Int)) hl' (by rw [hf]; simp only [List.cons_append, List.append_assoc, List.nil_append] <;> rfl) (by simp [bytesOf_len]; omega) (by omega) (by omega)
  have e9 := sW b (1 :: (a.f0 / 256 % 256) :: (a.f0 % 256) :: a.f2 :: (a.f1.size : Int) :: (bytesOf a.f1 ++ ((a.f3 / 256 % 256) :: (a.f3 % 256) :: (a.f4 / 256 / 256 % 256) :: (a.f4 / 256 % 256) :: (a.f4 % 256) :: (a.f5.size : Int) :: (bytesOf a.f5 ++ [a.f6 / 256 % 256, a.f6 % 256])))) _ _ _ (0 + 1 + 2 + 1 + 1 + (a.f1.size : Int) + 2 + 2 + 1 + 1 + (a.f5.size : Int) + 2) hl' (by rw [hf]; simp only [List.cons_append, List.append_assoc, List.nil_append] <;> rfl) (by simp [bytesOf_len]; omega) (by omega) (by omega)
  unfold spec_GetItem.f
  refine ev_bind1 e0 (ev_pos rfl (ev_bind1 e1 (ev_bind1 e2 (ev_bind e3 (ev_bind1 e4 (ev_bind1 e5 (ev_bind1 e6 (ev_bind e7 (ev_bind1 e8 (ev_bind1 e9 ?_))))))))))
  simp only [v0, v3, v4, v6, v7]
  exact ev_step (fun k => spec_GetItem.j0.eq_2 ..) (ev_neg (by simp) (ev_bind hp (ev_bind1 rfl (ev_pos (sameEq b) (ev_now _)))))
theorem spec_GetItem_line (l : S27) (h : lineG l) : Ev (fun k => spec_GetItem.f k (lineV l)) (2, 0, ⟨#[]⟩, 0, 0, 0, ⟨#[]⟩, 0, 0, l.f0, l.f1, l.f2, l.f3, l.f4, l.f5, l.f6, true) := by
  obtain ⟨r0, r2, r3, r4, r5, r6, t1⟩ := line_ranges l h
  have hf := lineV_flat l t1 r4 r3
  have hl := (lineV_len l).2
  have z1 := textB_small _ t1
  have hp := spec_PutItem_ev 2 zA l (by decide) (by decide) (by omega)
  rw [itemV_line l h] at hp
  generalize lineV l = b at hf hl hp
  have hl' : b.length ≤ 1000000000000 := by omega
  have v0 : l.f0 / 256 % 256 * 256 + l.f0 % 256 = l.f0 := by omega
  have v2 : l.f2 / 256 % 256 * 256 + l.f2 % 256 = l.f2 := by omega
  have v5 : l.f5 / 256 % 256 * 256 + l.f5 % 256 = l.f5 := by omega
  have v6 : l.f6 / 256 % 256 * 256 + l.f6 % 256 = l.f6 := by omega
  have v4 : wrap64 (wrap64 (256 * (l.f4 / 256 / 256 % 256 * 256 + l.f4 / 256 % 256)) + l.f4 % 256) = l.f4 := by
    rw [w64 (x := 256 * (l.f4 / 256 / 256 % 256 * 256 + l.f4 / 256 % 256)) (by omega) (by omega), w64 (by omega) (by omega)]
    omega
  have e0 := sB b [] _ 2 0 hl' hf rfl (by omega)
  have e1 := sW b [2] _ _ _ (0 + 1) hl' hf rfl (by omega) (by omega)
  have e2 := sB b [2, l.f0 / 256 % 256, l.f0 % 256] _ _ (0 + 1 + 2) hl' hf rfl (by omega)
  have e3 := sT b [2, l.f0 / 256 % 256, l.f0 % 256, l.f3] _ l.f1 (0 + 1 + 2 + 1) hl' hf rfl t1
  have e4 := sW b (2 :: (l.f0 / 256 % 256) :: (l.f0 % 256) :: l.f3 :: (l.f1.size : Int) :: bytesOf l.f1) _ _ _ (0 + 1 + 2 + 1 + 1 + (l.f1.size : Int)) hl' hf (by simp [bytesOf_len]; omega) (by omega) (by omega)
  have e5 := sW b (2 :: (l.f0 / 256 % 256) :: (l.f0 % 256) :: l.f3 :: (l.f1.size : Int) :: (bytesOf l.f1 ++ [l.f2 / 256 % 256, l.f2 % 256])) _ _ _ (0 + 1 + 2 + 1 + 1 + (l.f1.size : Int) + 2) hl' (by rw [hf]; simp only [List.cons_append, List.append_assoc, List.nil_append] <;> rfl) (by simp [bytesOf_len]; omega) (by omega) (by omega)
  have e6 := sB b (2 :: (l.f0 / 256 % 256) :: (l.f0 % 256) :: l.f3 :: (l.f1.size : Int) :: (bytesOf l.f1 ++ [l.f2 / 256 % 256, l.f2 % 256, l.f4 / 256 / 256 % 256, l.f4 / 256 % 256])) _ _ (0 + 1 + 2 + 1 + 1 + (l.f1.size : Int) + 2 + 2) hl' (by rw [hf]; simp only [List.cons_append, List.append_assoc, List.nil_append] <;> rfl) (by simp [bytesOf_len]; omega) (by omega)
  have e7 := sW b (2 :: (l.f0 / 256 % 256) :: (l.f0 % 256) :: l.f3 :: (l.f1.size : Int) :: (bytesOf l.f1 ++ [l.f2 / 256 % 256, l.f2 % 256, l.f4 / 256 / 256 % 256, l.f4 / 256 % 256, l.f4 % 256])) _ _ _ (0 + 1 + 2 + 1 + 1 + (l.f1.size : Int) + 2 + 2 + 1) hl' (by rw [hf]; simp only [List.cons_append, List.append_assoc, List.nil_append] <;> rfl) (by simp [bytesOf_len]; omega) (by omega) (by omega)
  have e8 := sW b (2 :: (l.f0 / 256 % 256) :: (l.f0 % 256) :: l.f3 :: (l.f1.size : Int) :: (bytesOf l.f1 ++ [l.f2 / 256 % 256, l.f2 % 256, l.f4 / 256 / 256 % 256, l.f4 / 256 % 256, l.f4 % 256, l.f5 / 256 % 256, l.f5 % 256])) _ _ _ (0 + 1 + 2 + 1 + 1 + (l.f1.size : Int) + 2 + 2 + 1 + 2) hl' (by rw [hf]; simp only [List.cons_append, List.append_assoc, List.nil_append] <;> rfl) (by simp [bytesOf_len]; omega) (by omega) (by omega)
  unfold spec_GetItem.f
  refine ev_bind1 e0 (ev_neg (by show ¬ (2 : Int) = 1; omega) (ev_bind1 e1 (ev_bind1 e2 (ev_bind e3 (ev_bind1 e4 (ev_bind1 e5 (ev_bind1 e6 (ev_bind1 e7 (ev_bind1 e8 ?_)))))))))
  simp only [v0, v2, v4, v5, v6]
  exact ev_step (fun k => spec_GetItem.j0.eq_2 ..) (ev_neg (by simp) (ev_bind hp (ev_bind1 rfl (ev_pos (sameEq b) (ev_now _)))))
theorem spec_GetItem_j0 (b : List Int) (hU : bytesU b) (hg : ¬ goodB b) (i : Int) (bad : Bool) (hbad : b = [] → bad = true) (k : Int) (a : S25) (l : S27) (h1 : a.f1.size ≤ 2000000) (h5 : a.f5.size ≤ 2000000) (hl : l.f1.size ≤ 2000000) :
    Ev (fun n => spec_GetItem.j0 n b b i bad k a.f0 a.f1 a.f2 a.f3 a.f4 a.f5 a.f6 a.f7 l.f0 l.f1 l.f2 l.f3 l.f4 l.f5 l.f6) (0, 0, ⟨#[]⟩, 0, 0, 0, ⟨#[]⟩, 0, 0, 0, ⟨#[]⟩, 0, 0, 0, 0, 0, false) := by
  by_cases c : bad = true
  · exact ev_step (fun k => spec_GetItem.j0.eq_2 ..) (ev_pos c (ev_now _))
  refine ev_step (fun k => spec_GetItem.j0.eq_2 ..) (ev_neg c (ev_bind (spec_PutItem_ev k a l (by omega) (by omega) (by omega)) (ev_bind1 rfl (ev_neg ?_ (ev_now _)))))
  intro e
  have e2 := strU_inj _ _ (itemV_U k a l) hU (by simpa using e)
  rcases itemV_good k a l with h | h
  · exact c (hbad (e2 ▸ h))
  · exact hg (e2 ▸ h)
theorem spec_GetItem_bad (b : List Int) (hU : bytesU b) (hl : b.length ≤ 1048576) (hg : ¬ goodB b) : Ev (fun k => spec_GetItem.f k b) (0, 0, ⟨#[]⟩, 0, 0, 0, ⟨#[]⟩, 0, 0, 0, ⟨#[]⟩, 0, 0, 0, 0, 0, false) := by
  unfold spec_GetItem.f
  have hl' : b.length ≤ 1000000000000 := by omega
  obtain ⟨v, i0, b0, e0, p0, q0, _⟩ := spec_l9Byte_some b 0 false hl' (by omega) (by omega)
  have hb0 : b = [] → b0 = true := by
    rintro rfl
    have e : spec_l9Byte.f [] 0 false = some (0, 0, true) := by unfold spec_l9Byte.f; rfl
    rw [e] at e0
    injection e0 with e0
    injection e0 with _ e0
    injection e0 with _ e0
    exact e0.symm
  obtain ⟨so, i1, b1, e1, p1, q1, m1⟩ := spec_l9Word_some b i0 b0 hl' p0 q0
  obtain ⟨st, i2, b2, e2, p2, q2, m2⟩ := spec_l9Byte_some b i1 b1 hl' p1 q1
  obtain ⟨db, i3, b3, e3, z3, p3, q3, m3⟩ := spec_l9Text_some b i2 b2 hU hl p2 q2
  obtain ⟨n4, i4, b4, e4, p4, q4, m4⟩ := spec_l9Word_some b i3 b3 hl' p3 q3
  obtain ⟨n5, i5, b5, e5, p5, q5, m5⟩ := spec_l9Word_some b i4 b4 hl' p4 q4
  obtain ⟨n6, i6, b6, e6, p6, q6, m6⟩ := spec_l9Byte_some b i5 b5 hl' p5 q5
  by_cases c : v = 1
  · obtain ⟨q, i7, b7, e7, z7, p7, q7, m7⟩ := spec_l9Text_some b i6 b6 hU hl p6 q6
    obtain ⟨n8, i8, b8, e8, p8, q8, m8⟩ := spec_l9Word_some b i7 b7 hl' p7 q7
    obtain ⟨n9, i9, b9, e9, p9, q9, m9⟩ := spec_l9Word_some b i8 b8 hl' p8 q8
    refine ev_bind1 e0 (ev_pos c (ev_bind1 e1 (ev_bind1 e2 (ev_bind e3 (ev_bind1 e4 (ev_bind1 e5 (ev_bind1 e6 (ev_bind e7 (ev_bind1 e8 (ev_bind1 e9 ?_))))))))))
    exact spec_GetItem_j0 b hU hg i9 b9 (fun h => m9 (m8 (m7 (m6 (m5 (m4 (m3 (m2 (m1 (hb0 h)))))))))) v ⟨so, db, st, n4, wrap64 (wrap64 (256 * n5) + n6), q, n8, n9⟩ zL z3 z7 (by decide)
  · obtain ⟨n7, i7, b7, e7, p7, q7, m7⟩ := spec_l9Word_some b i6 b6 hl' p6 q6
    obtain ⟨n8, i8, b8, e8, p8, q8, m8⟩ := spec_l9Word_some b i7 b7 hl' p7 q7
    refine ev_bind1 e0 (ev_neg c (ev_bind1 e1 (ev_bind1 e2 (ev_bind e3 (ev_bind1 e4 (ev_bind1 e5 (ev_bind1 e6 (ev_bind1 e7 (ev_bind1 e8 ?_)))))))))
    exact spec_GetItem_j0 b hU hg i8 b8 (fun h => m8 (m7 (m6 (m5 (m4 (m3 (m2 (m1 (hb0 h))))))))) v zA ⟨so, db, n4, st, wrap64 (wrap64 (256 * n5) + n6), n7, n8⟩ (by decide) (by decide) z3

/-! ### impl_GetItem -/
theorem iB (b p s : List Int) (x i : Int) (hl : b.length ≤ 1000000000000) (hb : b = p ++ x :: s) (hi : i = p.length) (h0 : 0 ≤ x ∧ x < 256) : impl_reader_one.f b i = some (x, i + 1) := by
  subst hb hi
  exact impl_reader_one_at p x s h0.1 h0.2 hl
theorem iW (b p s : List Int) (x y i : Int) (hl : b.length ≤ 1000000000000) (hb : b = p ++ x :: y :: s) (hi : i = p.length) (h0 : 0 ≤ x ∧ x < 256) (h1 : 0 ≤ y ∧ y < 256) : impl_reader_word.f b i = some (x * 256 + y, i + 2) := by
  subst hb hi
  exact impl_reader_word_at p x y s h0 h1 hl
theorem iS (b p s : List Int) (x y z i : Int) (hl : b.length ≤ 1000000000000) (hb : b = p ++ x :: y :: z :: s) (hi : i = p.length) (h0 : 0 ≤ x ∧ x < 256) (h1 : 0 ≤ y ∧ y < 256) (h2 : 0 ≤ z ∧ z < 256) : impl_reader_since.f b i = some ((x * 256 + y) * 256 + z, i + 3) := by
  subst hb hi
  exact impl_reader_since_at p x y z s h0 h1 h2 hl
theorem iT (b p s : List Int) (t : ByteArray) (i : Int) (hl : b.length ≤ 1000000000000) (hb : b = p ++ (t.size : Int) :: (bytesOf t ++ s)) (hi : i = p.length) (h0 : textB t = true) : Ev (fun k => impl_reader_text.f k b i) (t, i + 1 + (t.size : Int)) := by
  subst hb hi
  exact impl_reader_text_at p t s h0 hl
theorem impl_GetItem_ask (a : S25) (h : askG a) : Ev (fun k => impl_GetItem.f k (askV a)) (1, a.f0, a.f1, a.f2, a.f3, a.f4, a.f5, a.f6, a.f7, 0, ⟨#[]⟩, 0, 0, 0, 0, 0, true) := by
  obtain ⟨r0, r2, r3, r4, r6, r7, t1, t5⟩ := ask_ranges a h
  have hf := askV_flat a t1 t5 r4 r2
  have hl := askV_len a
  have z1 := textB_small _ t1
  have z5 := textB_small _ t5
  have hp := impl_PutItem_ev 1 a zL (by omega) (by omega) (by decide)
  rw [itemV_ask a h] at hp
  generalize askV a = b at hf hl hp
  have hl' : b.length ≤ 1000000000000 := by omega
  have v0 : a.f0 / 256 % 256 * 256 + a.f0 % 256 = a.f0 := by omega
  have v3 : a.f3 / 256 % 256 * 256 + a.f3 % 256 = a.f3 := by omega
  have v6 : a.f6 / 256 % 256 * 256 + a.f6 % 256 = a.f6 := by omega
  have v7 : a.f7 / 256 % 256 * 256 + a.f7 % 256 = a.f7 := by omega
  have v4 : (a.f4 / 256 / 256 % 256 * 256 + a.f4 / 256 % 256) * 256 + a.f4 % 256 = a.f4 := by omega
  have e0 := iB b [] _ 1 0 hl' hf rfl (by omega)
  have e1 := iW b [1] _ _ _ (0 + 1) hl' hf rfl (by omega) (by omega)
  have e2 := iB b [1, a.f0 / 256 % 256, a.f0 % 256] _ _ (0 + 1 + 2) hl' hf rfl (by omega)
  have e3 := iT b [1, a.f0 / 256 % 256, a.f0 % 256, a.f2] _ a.f1 (0 + 1 + 2 + 1) hl' hf rfl t1
  have e4 := iW b (1 :: (a.f0 / 256 % 256) :: (a.f0 % 256) :: a.f2 :: (a.f1.size : Int) :: bytesOf a.f1) _ _ _ (0 + 1 + 2 + 1 + 1 + (a.f1.size : Int)) hl' hf (by simp [bytesOf_len]; omega) (by omega) (by omega)
  have e5 := iS b (1 :: (a.f0 / 256 % 256) :: (a.f0 % 256) :: a.f2 :: (a.f1.size : Int) :: (bytesOf a.f1 ++ [a.f3 / 256 % 256, a.f3 % 256])) _ _ _ _ (0 + 1 + 2 + 1 + 1 + (a.f1.size : Int) + 2) hl' (by rw [hf]; simp only [List.cons_append, List.append_assoc, List.nil_append] <;> rfl) (by simp [bytesOf_len]; omega) (by omega) (by omega) (by omega)
  have e7 := iT b (1 :: (a.f0 / 256 % 256) :: (a.f0 % 256) :: a.f2 :: (a.f1.size : Int) :: (bytesOf a.f1 ++ [a.f3 / 256 % 256, a.f3 % 256, a.f4 / 256 / 256 % 256, a.f4 / 256 % 256, a.f4 % 256])) _ a.f5 (0 + 1 + 2 + 1 + 1 + (a.f1.size : Int) + 2 + 3) hl' (by rw [hf]; simp only [List.cons_append, List.append_assoc, List.nil_append] <;> rfl) (by simp [bytesOf_len]; omega) t5
  have e8 := iW b (1 :: (a.f0 / 256 % 256) :: (a.f0 % 256) :: a.f2 :: (a.f1.size : Int) :: (bytesOf a.f1 ++ ((a.f3 / 256 % 256) :: (a.f3 % 256) :: (a.f4 / 256 / 256 % 256) :: (a.f4 / 256 % 256) :: (a.f4 % 256) :: (a.f5.size : Int) :: bytesOf a.f5))) _ _ _ (0 + 1 + 2 + 1 + 1 + (a.f1.size : Int) + 2 + 3 + 1 + (a.f5.size : Int)) hl' (by rw [hf]; simp only [List.cons_append, List.append_assoc, List.nil_append] <;> rfl) (by simp [bytesOf_len]; omega) (by omega) (by omega)
  have e9 := iW b (1 :: (a.f0 / 256 % 256) :: (a.f0 % 256) :: a.f2 :: (a.f1.size : Int) :: (bytesOf a.f1 ++ ((a.f3 / 256 % 256) :: (a.f3 % 256) :: (a.f4 / 256 / 256 % 256) :: (a.f4 / 256 % 256) :: (a.f4 % 256) :: (a.f5.size : Int) :: (bytesOf a.f5 ++ [a.f6 / 256 % 256, a.f6 % 256])))) _ _ _ (0 + 1 + 2 + 1 + 1 + (a.f1.size : Int) + 2 + 3 + 1 + (a.f5.size : Int) + 2) hl' (by rw [hf]; simp only [List.cons_append, List.append_assoc, List.nil_append] <;> rfl) (by simp [bytesOf_len]; omega) (by omega) (by omega)
  unfold impl_GetItem.f
  refine ev_bind1 e0 (ev_bind1 e1 (ev_bind1 e2 (ev_bind e3 (ev_bind1 e4 (ev_bind1 e5 (ev_pos rfl (ev_bind e7 (ev_bind1 e8 (ev_bind1 e9 ?_)))))))))
  simp only [v0, v3, v4, v6, v7]
  exact ev_step (fun k => impl_GetItem.j0.eq_2 ..) (ev_neg (by omega) (ev_bind hp (ev_bind1 rfl (ev_pos (sameEq b) (ev_now _)))))
theorem impl_GetItem_line (l : S27) (h : lineG l) : Ev (fun k => impl_GetItem.f k (lineV l)) (2, 0, ⟨#[]⟩, 0, 0, 0, ⟨#[]⟩, 0, 0, l.f0, l.f1, l.f2, l.f3, l.f4, l.f5, l.f6, true) := by
  obtain ⟨r0, r2, r3, r4, r5, r6, t1⟩ := line_ranges l h
  have hf := lineV_flat l t1 r4 r3
  have hl := lineV_len l
  have z1 := textB_small _ t1
  have hp := impl_PutItem_ev 2 zA l (by decide) (by decide) (by omega)
  rw [itemV_line l h] at hp
  generalize lineV l = b at hf hl hp
  have hl' : b.length ≤ 1000000000000 := by omega
  have v0 : l.f0 / 256 % 256 * 256 + l.f0 % 256 = l.f0 := by omega
  have v2 : l.f2 / 256 % 256 * 256 + l.f2 % 256 = l.f2 := by omega
  have v5 : l.f5 / 256 % 256 * 256 + l.f5 % 256 = l.f5 := by omega
  have v6 : l.f6 / 256 % 256 * 256 + l.f6 % 256 = l.f6 := by omega
  have v4 : (l.f4 / 256 / 256 % 256 * 256 + l.f4 / 256 % 256) * 256 + l.f4 % 256 = l.f4 := by omega
  have e0 := iB b [] _ 2 0 hl' hf rfl (by omega)
  have e1 := iW b [2] _ _ _ (0 + 1) hl' hf rfl (by omega) (by omega)
  have e2 := iB b [2, l.f0 / 256 % 256, l.f0 % 256] _ _ (0 + 1 + 2) hl' hf rfl (by omega)
  have e3 := iT b [2, l.f0 / 256 % 256, l.f0 % 256, l.f3] _ l.f1 (0 + 1 + 2 + 1) hl' hf rfl t1
  have e4 := iW b (2 :: (l.f0 / 256 % 256) :: (l.f0 % 256) :: l.f3 :: (l.f1.size : Int) :: bytesOf l.f1) _ _ _ (0 + 1 + 2 + 1 + 1 + (l.f1.size : Int)) hl' hf (by simp [bytesOf_len]; omega) (by omega) (by omega)
  have e5 := iS b (2 :: (l.f0 / 256 % 256) :: (l.f0 % 256) :: l.f3 :: (l.f1.size : Int) :: (bytesOf l.f1 ++ [l.f2 / 256 % 256, l.f2 % 256])) _ _ _ _ (0 + 1 + 2 + 1 + 1 + (l.f1.size : Int) + 2) hl' (by rw [hf]; simp only [List.cons_append, List.append_assoc, List.nil_append] <;> rfl) (by simp [bytesOf_len]; omega) (by omega) (by omega) (by omega)
  have e7 := iW b (2 :: (l.f0 / 256 % 256) :: (l.f0 % 256) :: l.f3 :: (l.f1.size : Int) :: (bytesOf l.f1 ++ [l.f2 / 256 % 256, l.f2 % 256, l.f4 / 256 / 256 % 256, l.f4 / 256 % 256, l.f4 % 256])) _ _ _ (0 + 1 + 2 + 1 + 1 + (l.f1.size : Int) + 2 + 3) hl' (by rw [hf]; simp only [List.cons_append, List.append_assoc, List.nil_append] <;> rfl) (by simp [bytesOf_len]; omega) (by omega) (by omega)
  have e8 := iW b (2 :: (l.f0 / 256 % 256) :: (l.f0 % 256) :: l.f3 :: (l.f1.size : Int) :: (bytesOf l.f1 ++ [l.f2 / 256 % 256, l.f2 % 256, l.f4 / 256 / 256 % 256, l.f4 / 256 % 256, l.f4 % 256, l.f5 / 256 % 256, l.f5 % 256])) _ _ _ (0 + 1 + 2 + 1 + 1 + (l.f1.size : Int) + 2 + 3 + 2) hl' (by rw [hf]; simp only [List.cons_append, List.append_assoc, List.nil_append] <;> rfl) (by simp [bytesOf_len]; omega) (by omega) (by omega)
  unfold impl_GetItem.f
  refine ev_bind1 e0 (ev_bind1 e1 (ev_bind1 e2 (ev_bind e3 (ev_bind1 e4 (ev_bind1 e5 (ev_neg (by show ¬ (2 : Int) = 1; omega) (ev_bind1 e7 (ev_bind1 e8 ?_))))))))
  simp only [v0, v2, v4, v5, v6]
  exact ev_step (fun k => impl_GetItem.j0.eq_2 ..) (ev_neg (by omega) (ev_bind hp (ev_bind1 rfl (ev_pos (sameEq b) (ev_now _)))))
theorem impl_GetItem_j0 (b : List Int) (hU : bytesU b) (hg : ¬ goodB b) (k : Int) (a : S25) (l : S27) (h1 : a.f1.size ≤ 2000000) (h5 : a.f5.size ≤ 2000000) (hl : l.f1.size ≤ 2000000) :
    Ev (fun n => impl_GetItem.j0 n b k a.f0 a.f1 a.f2 a.f3 a.f4 a.f5 a.f6 a.f7 l.f0 l.f1 l.f2 l.f3 l.f4 l.f5 l.f6) (0, 0, ⟨#[]⟩, 0, 0, 0, ⟨#[]⟩, 0, 0, 0, ⟨#[]⟩, 0, 0, 0, 0, 0, false) := by
  by_cases c : (b.length : Int) = 0
  · exact ev_step (fun k => impl_GetItem.j0.eq_2 ..) (ev_pos c (ev_now _))
  refine ev_step (fun k => impl_GetItem.j0.eq_2 ..) (ev_neg c (ev_bind (impl_PutItem_ev k a l (by omega) (by omega) (by omega)) (ev_bind1 rfl (ev_neg ?_ (ev_now _)))))
  intro e
  have e2 := strU_inj _ _ (itemV_U k a l) hU (by simpa using e)
  rcases itemV_good k a l with h | h
  · rw [← e2, h] at c
    exact c rfl
  · exact hg (e2 ▸ h)
theorem impl_GetItem_bad (b : List Int) (hU : bytesU b) (hl : b.length ≤ 1048576) (hg : ¬ goodB b) : Ev (fun k => impl_GetItem.f k b) (0, 0, ⟨#[]⟩, 0, 0, 0, ⟨#[]⟩, 0, 0, 0, ⟨#[]⟩, 0, 0, 0, 0, 0, false) := by
  unfold impl_GetItem.f
  have hl' : b.length ≤ 1000000000000 := by omega
  obtain ⟨v, e0⟩ := impl_reader_one_some b 0 hl' (by omega) (by omega)
  obtain ⟨so, e1⟩ := impl_reader_word_some b (0 + 1) hl' (by omega) (by omega)
  obtain ⟨st, e2⟩ := impl_reader_one_some b (0 + 1 + 2) hl' (by omega) (by omega)
  obtain ⟨db, i3, e3, z3, p3, q3⟩ := impl_reader_text_some b (0 + 1 + 2 + 1) hU hl (by omega)
  obtain ⟨n4, e4⟩ := impl_reader_word_some b i3 hl' p3 (by omega)
  obtain ⟨n5, e5⟩ := impl_reader_since_some b (i3 + 2) hl' (by omega) (by omega)
  by_cases c : v = 1
  · obtain ⟨q, i7, e7, z7, p7, q7⟩ := impl_reader_text_some b (i3 + 2 + 3) hU hl (by omega)
    obtain ⟨n8, e8⟩ := impl_reader_word_some b i7 hl' p7 (by omega)
    obtain ⟨n9, e9⟩ := impl_reader_word_some b (i7 + 2) hl' (by omega) (by omega)
    refine ev_bind1 e0 (ev_bind1 e1 (ev_bind1 e2 (ev_bind e3 (ev_bind1 e4 (ev_bind1 e5 (ev_pos c (ev_bind e7 (ev_bind1 e8 (ev_bind1 e9 ?_)))))))))
    exact impl_GetItem_j0 b hU hg v ⟨so, db, st, n4, n5, q, n8, n9⟩ zL z3 z7 (by decide)
  · obtain ⟨n7, e7⟩ := impl_reader_word_some b (i3 + 2 + 3) hl' (by omega) (by omega)
    obtain ⟨n8, e8⟩ := impl_reader_word_some b (i3 + 2 + 3 + 2) hl' (by omega) (by omega)
    refine ev_bind1 e0 (ev_bind1 e1 (ev_bind1 e2 (ev_bind e3 (ev_bind1 e4 (ev_bind1 e5 (ev_neg c (ev_bind1 e7 (ev_bind1 e8 ?_))))))))
    exact impl_GetItem_j0 b hU hg v zA ⟨so, db, n4, st, n5, n7, n8⟩ (by decide) (by decide) z3
theorem getItem_both (b : List Int) (hU : bytesU b) (hl : b.length ≤ 1048576) : ∃ r, Ev (fun k => spec_GetItem.f k b) r ∧ Ev (fun k => impl_GetItem.f k b) r := by
  by_cases h : goodB b
  · rcases h with ⟨a, ha, rfl⟩ | ⟨l, hg2, rfl⟩
    · exact ⟨_, spec_GetItem_ask a ha, impl_GetItem_ask a ha⟩
    · exact ⟨_, spec_GetItem_line l hg2, impl_GetItem_line l hg2⟩
  · exact ⟨_, spec_GetItem_bad b hU hl h, impl_GetItem_bad b hU hl h⟩

/-! ### spec_l1Bend -/
theorem u8_xor_in (a c : Int) : 0 ≤ Go.bits .xor .u8 a c ∧ Go.bits .xor .u8 a c < 256 := by
  show 0 ≤ IntKind.u8.wrap _ ∧ IntKind.u8.wrap _ < 256
  rw [IntKind.wrap_u8]
  omega
theorem spec_l1Bend_some (b : List Int) (i h : Int) (l : List Int) (hl : l.length ≤ 1000) (hbl : bytesL l) (hc : curB b i) (hb : b.length ≤ 4611686018427387904) : ∃ l' i' h', spec_l1Bend.f b i h l = some (l', i', h') ∧ bytesL l' ∧ l'.length ≤ 1001 ∧ curB b i' := by
  unfold spec_l1Bend.f
  simp only [Option.bind_some, List.nil_append, List.length_nil]
  rw [if_pos (by omega)]
  obtain ⟨v, i1, h1, e1, _, _, c1⟩ := spec_l1Below_some b i h 8 hc hb
  rw [e1, Option.bind_some]
  dsimp only
  by_cases d0 : v = 0
  · rw [if_pos d0]
    by_cases z : (l.length : Int) > 0
    · rw [if_pos z]
      obtain ⟨j, i2, h2, e2, r2, _, c2⟩ := spec_l1Below_some b i1 h1 (l.length : Int) c1 hb
      have r := r2 (by omega)
      rw [e2, Option.bind_some]
      dsimp only
      rw [if_pos r.1, if_pos r.2]
      obtain ⟨x, i3, h3, e3, _, _, c3⟩ := spec_l1Below_some b i2 h2 255 c2 hb
      rw [e3, Option.bind_some]
      refine ⟨_, _, _, rfl, fun y hy => ?_, by rw [List.length_set]; omega, c3⟩
      rcases List.mem_or_eq_of_mem_set hy with hy | rfl
      · exact hbl y hy
      · exact u8_xor_in _ _
    · rw [if_neg z]
      exact ⟨_, _, _, rfl, hbl, by omega, c1⟩
  rw [if_neg d0]
  by_cases d1 : v = 1
  · rw [if_pos d1]
    by_cases z : (l.length : Int) > 0
    · rw [if_pos z]
      obtain ⟨j, i2, h2, e2, r2, _, c2⟩ := spec_l1Below_some b i1 h1 (l.length : Int) c1 hb
      have r := r2 (by omega)
      rw [e2, Option.bind_some]
      dsimp only
      rw [if_pos r.1, if_pos (by omega)]
      exact ⟨_, _, _, rfl, fun y hy => hbl y (List.mem_of_mem_take hy), by rw [List.length_take]; omega, c2⟩
    · rw [if_neg z]
      exact ⟨_, _, _, rfl, hbl, by omega, c1⟩
  rw [if_neg d1]
  by_cases d2 : v = 2
  · rw [if_pos d2]
    obtain ⟨x, i2, h2, e2, x0, x1, c2⟩ := spec_l1Byte_some b i1 h1 c1 hb
    rw [e2, Option.bind_some]
    dsimp only
    rw [if_pos (by omega)]
    refine ⟨_, _, _, rfl, fun y hy => ?_, by rw [List.length_append, List.length_cons, List.length_nil]; omega, c2⟩
    rcases List.mem_append.1 hy with hy | hy
    · exact hbl y hy
    · rw [List.mem_singleton] at hy; omega
  · rw [if_neg d2]
    exact ⟨_, _, _, rfl, hbl, by omega, c1⟩

/-! ### spec_DrawGetItem -/
theorem spec_DrawGetItem_some (b : List Int) (hb : b.length ≤ 4611686018427387904) : ∃ (l : List Int), Ev (fun k => spec_DrawGetItem.f k b) l ∧ bytesL l ∧ l.length ≤ 1001 := by
  unfold spec_DrawGetItem.f
  obtain ⟨h0, e0⟩ := spec_l1New_some b hb
  obtain ⟨n, x, y, i1, h1, e1, gx, gy, c1⟩ := spec_l9Item_some b 0 h0 ⟨by omega, by omega⟩ hb
  have hx1 : x.f1.size ≤ 101 := gx.1
  have hx5 : x.f5.size ≤ 101 := gx.2
  have hy1 : y.f1.size ≤ 101 := gy
  have hl := itemV_len n x y
  obtain ⟨l', i2, h2, e2, b2, s2, c2⟩ := spec_l1Bend_some b i1 h1 (itemV n x y) (by omega) (fun z hz => itemV_U n x y z hz) c1 hb
  exact ⟨l', ev_bind e0 (ev_bind e1 (ev_bind (spec_PutItem_ev n x y (by omega) (by omega) (by omega)) (ev_bind1 e2 (ev_now _)))), b2, s2⟩

/-! ### spec_DrawAskerOk -/
theorem spec_DrawAskerOk_some (b : List Int) (hb : b.length ≤ 4611686018427387904) : ∃ (x : S25), Ev (fun k => spec_DrawAskerOk.f k b) (x.f0, x.f1, x.f2, x.f3, x.f4, x.f5, x.f6, x.f7) ∧ okA x := by
  unfold spec_DrawAskerOk.f
  obtain ⟨h0, e0⟩ := spec_l1New_some b hb
  obtain ⟨x, i1, h1, e1, gx, c1⟩ := spec_l9AnyAsker_some b 0 h0 ⟨by omega, by omega⟩ hb
  exact ⟨x, ev_bind e0 (ev_bind e1 (ev_now _)), gx⟩

/-! ### spec_DrawLineOk -/
theorem spec_DrawLineOk_some (b : List Int) (hb : b.length ≤ 4611686018427387904) : ∃ (x : S27), Ev (fun k => spec_DrawLineOk.f k b) (x.f0, x.f1, x.f2, x.f3, x.f4, x.f5, x.f6) ∧ okL x := by
  unfold spec_DrawLineOk.f
  obtain ⟨h0, e0⟩ := spec_l1New_some b hb
  obtain ⟨x, i1, h1, e1, gx, c1⟩ := spec_l9AnyLine_some b 0 h0 ⟨by omega, by omega⟩ hb
  exact ⟨x, ev_bind e0 (ev_bind1 e1 (ev_now _)), gx⟩

/-! ### laws_same -/
theorem laws_same_eq (l : List Int) : laws_same.f l l = some true := by
  unfold laws_same.f
  rw [beq_self_eq_true]

theorem empty_size (s : ByteArray) (h : s.toList = ([] : List UInt8)) : s.size = 0 := by
  have h2 : s.toList.length = s.size := by rw [ByteArray.toList_eq]; simp
  rw [h] at h2
  simpa using h2.symm
theorem nameB_size (s : ByteArray) (h : nameB s = true) : s.size ≤ 8 := by
  unfold nameB at h
  rw [Bool.and_eq_true, inB_iff] at h
  omega
theorem ask_db (a : S25) (h : askG a) : a.f1.size ≤ 8 := by
  obtain ⟨h, _⟩ := h
  unfold askerB at h
  rw [Bool.and_eq_true] at h
  have h := h.2
  split at h
  · rw [Bool.and_eq_true, beq_iff_eq] at h
    have := empty_size _ h.1
    omega
  · rw [Bool.and_eq_true] at h
    exact nameB_size _ h.1
theorem line_db (l : S27) (h : lineG l) : l.f1.size ≤ 8 := by
  obtain ⟨h, _⟩ := h
  unfold lineB at h
  rw [Bool.and_eq_true, Bool.and_eq_true] at h
  exact nameB_size _ h.2.1
theorem ask_size (a : S25) (h : askG a) : 0 < (askV a).length ∧ (askV a).length < 140 := by
  obtain ⟨_, h2, _, h4, _, _, t1, t5⟩ := ask_ranges a h
  have s1 := ask_db a h
  have s5 := textB_small _ t5
  rw [askV_flat a t1 t5 h4 h2]
  simp only [List.length_cons, List.length_append, bytesOf_len, List.length_nil]
  omega
theorem line_size (l : S27) (h : lineG l) : 0 < (lineV l).length ∧ (lineV l).length < 140 := by
  obtain ⟨_, _, h3, h4, _, _, t1⟩ := line_ranges l h
  have s1 := line_db l h
  rw [lineV_flat l t1 h4 h3]
  simp only [List.length_cons, List.length_append, bytesOf_len, List.length_nil]
  omega
/-- What GetItem tells, field for field. -/
structure Got where
  k : Int
  a : S25
  l : S27
  ok : Bool
def gotV (g : Got) : Int × Int × ByteArray × Int × Int × Int × ByteArray × Int × Int × Int × ByteArray × Int × Int × Int × Int × Int × Bool :=
  (g.k, g.a.f0, g.a.f1, g.a.f2, g.a.f3, g.a.f4, g.a.f5, g.a.f6, g.a.f7, g.l.f0, g.l.f1, g.l.f2, g.l.f3, g.l.f4, g.l.f5, g.l.f6, g.ok)
theorem get_drawn (c : List Int) (bc : bytesU c) (sc : c.length ≤ 1048576) : ∃ g : Got, Ev (fun k => impl_GetItem.f k c) (gotV g) ∧ Ev (fun k => spec_GetItem.f k c) (gotV g) ∧ (g.ok = true → Ev (fun k => impl_PutItem.f k g.k g.a.f0 g.a.f1 g.a.f2 g.a.f3 g.a.f4 g.a.f5 g.a.f6 g.a.f7 g.l.f0 g.l.f1 g.l.f2 g.l.f3 g.l.f4 g.l.f5 g.l.f6) c) := by
  by_cases h : goodB c
  · rcases h with ⟨a, ha, rfl⟩ | ⟨l, hl, rfl⟩
    · obtain ⟨_, _, _, _, _, _, t1, t5⟩ := ask_ranges a ha
      have s1 := textB_small _ t1
      have s5 := textB_small _ t5
      refine ⟨⟨1, a, zL, true⟩, impl_GetItem_ask a ha, spec_GetItem_ask a ha, fun _ => ?_⟩
      exact ev_as (impl_PutItem_ev 1 a zL (by omega) (by omega) (by show (0 : Nat) ≤ _; omega)) (itemV_ask a ha)
    · obtain ⟨_, _, _, _, _, _, t1⟩ := line_ranges l hl
      have s1 := textB_small _ t1
      refine ⟨⟨2, zA, l, true⟩, impl_GetItem_line l hl, spec_GetItem_line l hl, fun _ => ?_⟩
      exact ev_as (impl_PutItem_ev 2 zA l (by show (0 : Nat) ≤ _; omega) (by show (0 : Nat) ≤ _; omega) (by omega)) (itemV_line l hl)
  · exact ⟨⟨0, zA, zL, false⟩, impl_GetItem_bad c bc sc h, spec_GetItem_bad c bc sc h, fun e => by cases e⟩
theorem zeroA_all (a : S25) (h : zeroA a = true) : a.f0 = 0 ∧ a.f1.toList = ([] : List UInt8) ∧ a.f2 = 0 ∧ a.f3 = 0 ∧ a.f4 = 0 ∧ a.f5.toList = ([] : List UInt8) ∧ a.f6 = 0 ∧ a.f7 = 0 := by
  unfold zeroA at h
  simpa only [Bool.and_eq_true, beq_iff_eq] using h
theorem zeroL_all (l : S27) (h : zeroL l = true) : l.f0 = 0 ∧ l.f1.toList = ([] : List UInt8) ∧ l.f2 = 0 ∧ l.f3 = 0 ∧ l.f4 = 0 ∧ l.f5 = 0 ∧ l.f6 = 0 := by
  unfold zeroL at h
  simpa only [Bool.and_eq_true, beq_iff_eq] using h
theorem not_good_nil : ¬ goodB [] := by
  rintro (⟨a, _, h⟩ | ⟨l, _, h⟩)
  · have := (askV_len a).1
    rw [← h] at this
    simp at this
  · have := (lineV_len l).1
    rw [← h] at this
    simp at this
theorem get_put_item (n : Int) (x : S25) (y : S27) : ∃ g : Got, Ev (fun k => impl_GetItem.f k (itemV n x y)) (gotV g) ∧ (((itemV n x y).length = 0 ∧ g.ok = false) ∨ (0 < (itemV n x y).length ∧ (itemV n x y).length < 140 ∧ g.ok = true ∧ g.k = n ∧ g.a.f0 = x.f0 ∧ g.a.f1.toList = x.f1.toList ∧ g.a.f2 = x.f2 ∧ g.a.f3 = x.f3 ∧ g.a.f4 = x.f4 ∧ g.a.f5.toList = x.f5.toList ∧ g.a.f6 = x.f6 ∧ g.a.f7 = x.f7 ∧ g.l.f0 = y.f0 ∧ g.l.f1.toList = y.f1.toList ∧ g.l.f2 = y.f2 ∧ g.l.f3 = y.f3 ∧ g.l.f4 = y.f4 ∧ g.l.f5 = y.f5 ∧ g.l.f6 = y.f6)) := by
  by_cases h : itemB n x y = true
  · have hv : itemV n x y = if n = 1 then askV x else lineV y := by unfold itemV; rw [if_pos h]
    rw [hv]
    unfold itemB at h
    by_cases c : n = 1
    · rw [if_pos c] at h ⊢
      simp only [Bool.and_eq_true, Bool.not_eq_true', decide_eq_false_iff_not] at h
      have hA : askG x := ⟨h.1, by omega⟩
      obtain ⟨z0, z1, z2, z3, z4, z5, z6⟩ := zeroL_all y h.2.1
      have hs := ask_size x hA
      exact ⟨⟨1, x, zL, true⟩, impl_GetItem_ask x hA, .inr ⟨hs.1, hs.2, rfl, c.symm, rfl, rfl, rfl, rfl, rfl, rfl, rfl, rfl, z0.symm, emptyL.trans z1.symm, z2.symm, z3.symm, z4.symm, z5.symm, z6.symm⟩⟩
    · rw [if_neg c] at h ⊢
      by_cases d : n = 2
      · rw [if_pos d] at h
        simp only [Bool.and_eq_true, Bool.not_eq_true', decide_eq_false_iff_not] at h
        have hL : lineG y := ⟨h.1, by omega⟩
        obtain ⟨z0, z1, z2, z3, z4, z5, z6, z7⟩ := zeroA_all x h.2.1
        have hs := line_size y hL
        exact ⟨⟨2, zA, y, true⟩, impl_GetItem_line y hL, .inr ⟨hs.1, hs.2, rfl, d.symm, z0.symm, emptyL.trans z1.symm, z2.symm, z3.symm, z4.symm, emptyL.trans z5.symm, z6.symm, z7.symm, rfl, rfl, rfl, rfl, rfl, rfl, rfl⟩⟩
      · rw [if_neg d] at h
        cases h
  · have hv : itemV n x y = [] := by unfold itemV; rw [if_neg h]
    rw [hv]
    exact ⟨⟨0, zA, zL, false⟩, impl_GetItem_bad [] (fun _ hx => by cases hx) (by simp) not_good_nil, .inl ⟨rfl, rfl⟩⟩
theorem FnItems : laws_FnItems.Pure := by
  intro b _ hm hw
  refine ev_rounds ?_
  have hb : b.length ≤ 4611686018427387904 := by omega
  unfold laws_FnItems.f
  refine ev_bind1 (laws_big_eq b) (ev_ite (fun _ => ev_now _) (fun cb => ?_))
  obtain ⟨n, x, y, e1, gx, gy⟩ := spec_DrawPutItem_some b hb
  obtain ⟨c, e2, bc, sc⟩ := spec_DrawGetItem_some b hb
  obtain ⟨a, e3, ga⟩ := spec_DrawAskerOk_some b hb
  obtain ⟨l, e4, gl⟩ := spec_DrawLineOk_some b hb
  have hx1 : x.f1.size ≤ 101 := gx.1
  have hx5 : x.f5.size ≤ 101 := gx.2
  have hy1 : y.f1.size ≤ 101 := gy
  have ha1 : a.f1.size ≤ 101 := ga.1
  have ha5 : a.f5.size ≤ 101 := ga.2
  have hl1 : l.f1.size ≤ 101 := gl
  have ep := impl_PutItem_ev n x y (by omega) (by omega) (by omega)
  have es := spec_PutItem_ev n x y (by omega) (by omega) (by omega)
  have a1 := impl_AskerOk_ev a (by omega) (by omega)
  have a2 := spec_AskerOk_ev a (by omega) (by omega)
  have l1 := impl_LineOk_ev l (by omega)
  have l2 := spec_LineOk_ev l (by omega)
  obtain ⟨g, eg, hg⟩ := get_put_item n x y
  obtain ⟨q, eqi, eqs, hq⟩ := get_drawn c (fun z hz => bc z hz) (by omega)
  generalize itemV n x y = v at *
  refine ev_bind e1 (ev_bind ep (ev_bind eg (ev_bind e2 (ev_bind eqi (ev_bind eqs (ev_bind e3 (ev_bind e4 (ev_neg (by simp) ?_))))))))
  simp only [gotV]
  have fin : ∀ {P : Nat → Option Bool}, Ev P true → Ev P true := fun h => h
  refine ev_ite (fun hok => ev_bind (hq hok) (ev_bind1 (laws_same_eq c) (ev_pos rfl (ev_bind a1 (ev_bind a2 (ev_neg (by simp) (ev_bind l1 (ev_bind l2 (ev_neg (by simp) (ev_bind es (ev_bind1 (laws_same_eq v) (ev_step (fun k => laws_FnItems.j0.eq_2 ..) (ev_neg (by simp) ?_))))))))))))) (fun hok => ev_bind a1 (ev_bind a2 (ev_neg (by simp) (ev_bind l1 (ev_bind l2 (ev_neg (by simp) (ev_bind es (ev_bind1 (laws_same_eq v) (ev_step (fun k => laws_FnItems.j0.eq_2 ..) (ev_neg (by simp) ?_))))))))))
  all_goals
    rcases hg with ⟨h0, h1⟩ | ⟨h0, h1, hk, q0, q1, q2, q3, q4, q5, q6, q7, q8, r0, r1, r2, r3, r4, r5, r6⟩
    · exact ev_pos (by omega) (ev_neg (by rw [h1]; decide) (ev_step (fun k => laws_FnItems.j1.eq_2 ..) (ev_now _)))
    · refine ev_neg (by omega) (ev_pos (by omega) (ev_pos hk (ev_pos ?_ (ev_step (fun k => laws_FnItems.j1.eq_2 ..) (ev_as (ev_now _) (decide_eq_true (by omega)))))))
      simp only [q0, q1, q2, q3, q4, q5, q6, q7, q8, r0, r1, r2, r3, r4, r5, r6, beq_self_eq_true, Bool.and_self]
end Go.Proofs.Ytiffahfpfgnjnaa.Pure
