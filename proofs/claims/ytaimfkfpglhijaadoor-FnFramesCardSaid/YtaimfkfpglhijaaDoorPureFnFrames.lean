/- FnFrames: the pure statement. -/
import Derived.Test.YtaimfkfpglhijaaDoorPFnFramesx8
import Derived.Test.YtaimfkfpglhijaaDoorVBase
import Derived.Test.YtaimfkfpglhijaaDoorVExt
namespace Go.Proofs.YtaimfkfpglhijaaDoor.Pure
open Go.RowKit Go.Proofs.YtaimfkfpglhijaaDoor.PFnFrames Go.Proofs.YtaimfkfpglhijaaDoorW.PrintWords Go.Proofs.YtaimfkfpglhijaaDoorW.PrintLast Go.Proofs.YtaimfkfpglhijaaDoorV
set_option linter.unusedVariables false
set_option linter.unusedSimpArgs false
set_option maxRecDepth 20000

/-! ### laws_big -/
theorem laws_big_eq (l : List Int) : laws_big.f l = some (decide ((l.length : Int) > 1048576)) := rfl

/-! ### spec_l1New -/
/-- A cursor's place over its bytes. -/
def curB (b : List Int) (i : Int) : Prop := 0 ≤ i ∧ i ≤ b.length
theorem spec_l1New_l0 (b : List Int) (hb : b.length ≤ 4611686018427387904) (d : Nat) : ∀ (x : Int) (i : Int), 0 ≤ i → i + d = b.length → ∃ h, Ev (fun k => spec_l1New.l0 k b x i) (b, 0, h) := by
  induction d with
  | zero =>
    intro x i h0 h1
    exact ⟨x, ev_step (fun k => spec_l1New.l0.eq_2 ..) (ev_neg (by omega) (ev_now _))⟩
  | succ d ih =>
    intro x i h0 h1
    by_cases c : i < 4000
    · obtain ⟨h, e⟩ := ih (Go.bits .and .i64 (wrap64 ((wrap64 ((wrap64 (x * 137)) + (wrap64 (rd b i)))) + 11)) 1073741823) (i + 1) (by omega) (by omega)
      refine ⟨h, ev_step (fun k => spec_l1New.l0.eq_2 ..) (ev_pos (by omega) (ev_pos c (ev_pos h0 ?_)))⟩
      rw [w64 (x := i + 1) (by omega) (by omega)]
      exact e
    · exact ⟨x, ev_step (fun k => spec_l1New.l0.eq_2 ..) (ev_pos (by omega) (ev_neg c (ev_now _)))⟩
theorem spec_l1New_some (b : List Int) (hb : b.length ≤ 4611686018427387904) : ∃ h, Ev (fun k => spec_l1New.f k b) (b, 0, h) := spec_l1New_l0 b hb b.length _ 0 (by omega) (by omega)

/-! ### spec_l1Byte -/
theorem i64_and255 (n : Int) : Go.bits .and .i64 n 255 = n % 256 := by
  have h255 : (BitVec.ofInt 64 255).toNat = 2 ^ 8 - 1 := by decide
  have key : (BitVec.ofInt 64 n &&& BitVec.ofInt 64 255).toNat = (n % ((2 ^ 64 : Nat) : Int)).toNat % 2 ^ 8 := by
    rw [BitVec.toNat_and, BitVec.toNat_ofInt, h255, Nat.and_two_pow_sub_one_eq_mod]
  show IntKind.i64.wrap ((BitVec.ofInt 64 n &&& BitVec.ofInt 64 255).toNat : Nat) = n % 256
  rw [key, IntKind.wrap_i64]
  omega
theorem spec_l1Byte_some (b : List Int) (i h : Int) (hc : curB b i) (hb : b.length ≤ 4611686018427387904) : ∃ v i' h', spec_l1Byte.f b i h = some (v, i', h') ∧ 0 ≤ v ∧ v < 256 ∧ curB b i' := by
  unfold curB at *
  unfold spec_l1Byte.f
  by_cases c : i < (b.length : Int)
  · rw [if_pos c, if_pos hc.1]
    refine ⟨_, _, _, rfl, ?_, ?_, ?_⟩
    · rw [i64_and255]; omega
    · rw [i64_and255]; omega
    · rw [w64 (by omega) (by omega)]; omega
  · rw [if_neg c]
    refine ⟨_, _, _, rfl, ?_, ?_, hc⟩
    · rw [i64_and255]; omega
    · rw [i64_and255]; omega

/-! ### spec_l1Below -/
theorem tmod_in {v n : Int} (h0 : 0 ≤ v) (hn : 0 < n) : 0 ≤ Int.tmod v n ∧ Int.tmod v n < n := by
  rw [Int.tmod_eq_emod_of_nonneg h0]
  exact ⟨Int.emod_nonneg _ (by omega), Int.emod_lt_of_pos _ hn⟩
theorem spec_l1Below_some (b : List Int) (i h n : Int) (hc : curB b i) (hb : b.length ≤ 4611686018427387904) : ∃ v i' h', spec_l1Below.f b i h n = some (v, i', h') ∧ (0 < n → 0 ≤ v ∧ v < n) ∧ (n ≤ 0 → v = 0) ∧ curB b i' := by
  unfold spec_l1Below.f
  by_cases c0 : n ≤ 0
  · rw [if_pos c0]
    exact ⟨0, i, h, rfl, fun h => by omega, fun _ => rfl, hc⟩
  rw [if_neg c0]
  obtain ⟨v, i1, h1, e1, l1, u1, c1⟩ := spec_l1Byte_some b i h hc hb
  by_cases c1' : n ≤ 256
  · rw [if_pos c1', e1, Option.bind_some, if_neg (by omega)]
    exact ⟨_, _, _, rfl, fun hn => tmod_in l1 hn, fun hn => by omega, c1⟩
  · obtain ⟨v2, i2, h2, e2, l2, u2, c2⟩ := spec_l1Byte_some b i1 h1 c1 hb
    obtain ⟨v3, i3, h3, e3, l3, u3, c3⟩ := spec_l1Byte_some b i2 h2 c2 hb
    rw [if_neg c1', e1, Option.bind_some]
    dsimp only
    rw [e2, Option.bind_some]
    dsimp only
    rw [e3, Option.bind_some, if_neg (by omega)]
    refine ⟨_, _, _, rfl, fun hn => tmod_in ?_ hn, fun hn => by omega, c3⟩
    dsimp only
    rw [w64 (x := v * 65536) (by omega) (by omega), w64 (x := v2 * 256) (by omega) (by omega), w64 (x := v * 65536 + v2 * 256) (by omega) (by omega), w64 (by omega) (by omega)]
    omega

/-! ### spec_l1Int -/
theorem spec_l1Int_some (b : List Int) (i h : Int) (l : List Int) (hl : 0 < l.length) (hc : curB b i) (hb : b.length ≤ 4611686018427387904) : ∃ v i' h', spec_l1Int.f b i h l = some (v, i', h') ∧ v ∈ l ∧ curB b i' := by
  obtain ⟨v, i1, h1, e1, r1, _, c1⟩ := spec_l1Below_some b i h (l.length : Int) hc hb
  have r := r1 (by omega)
  unfold spec_l1Int.f
  rw [e1, Option.bind_some]
  dsimp only
  rw [if_pos r.1, if_pos r.2]
  refine ⟨_, _, _, rfl, ?_, c1⟩
  obtain ⟨m, rfl⟩ := Int.eq_ofNat_of_zero_le r.1
  rw [rd_nth l m (by omega)]
  exact List.getElem_mem _

/-! ### spec_l1Str -/
theorem spec_l1Str_some (b : List Int) (i h : Int) (l : List ByteArray) (hl : 0 < l.length) (hc : curB b i) (hb : b.length ≤ 4611686018427387904) : ∃ v i' h', spec_l1Str.f b i h l = some (v, i', h') ∧ v ∈ l ∧ curB b i' := by
  obtain ⟨v, i1, h1, e1, r1, _, c1⟩ := spec_l1Below_some b i h (l.length : Int) hc hb
  have r := r1 (by omega)
  unfold spec_l1Str.f
  rw [e1, Option.bind_some]
  dsimp only
  rw [if_pos r.1, if_pos r.2]
  refine ⟨_, _, _, rfl, ?_, c1⟩
  obtain ⟨m, rfl⟩ := Int.eq_ofNat_of_zero_le r.1
  rw [rdOf_nth ByteArray.empty l m (by omega)]
  exact List.getElem_mem _

/-! ### spec_l6Draw -/
theorem spec_l6Draw_j0 (b : List Int) (x9 : Int) (c : Bool) (i h k : Int) (t : ByteArray) (s : Int) (ht : t.size ≤ 101) (hc : curB b i) (hb : b.length ≤ 4611686018427387904) : ∃ k' t' s' i' h', Ev (fun n => spec_l6Draw.j0 n x9 c b i h k t s) (k', t', s', i', h') ∧ t'.size ≤ 101 ∧ curB b i' := by
  by_cases c1 : c = true
  · obtain ⟨v, i1, h1, e1, m1, k1⟩ := spec_l1Str_some b i h [(⟨#[]⟩ : ByteArray), (⟨#[97]⟩ : ByteArray), (⟨#[102, 117, 108, 108]⟩ : ByteArray), (⟨#[111, 110, 101]⟩ : ByteArray)] (by simp) hc hb
    have all : ∀ x ∈ [(⟨#[]⟩ : ByteArray), (⟨#[97]⟩ : ByteArray), (⟨#[102, 117, 108, 108]⟩ : ByteArray), (⟨#[111, 110, 101]⟩ : ByteArray)], x.size ≤ 101 := by decide
    exact ⟨_, _, _, _, _, ev_step (fun n => spec_l6Draw.j0.eq_2 ..) (ev_pos c1 (ev_bind1 e1 (ev_now _))), all v m1, k1⟩
  · by_cases c2 : x9 = 5
    · obtain ⟨v, i1, h1, e1, _, _, k1⟩ := spec_l1Below_some b i h 3 hc hb
      exact ⟨_, _, _, _, _, ev_step (fun n => spec_l6Draw.j0.eq_2 ..) (ev_neg c1 (ev_pos c2 (ev_bind1 e1 (ev_now _)))), ht, k1⟩
    · exact ⟨_, _, _, _, _, ev_step (fun n => spec_l6Draw.j0.eq_2 ..) (ev_neg c1 (ev_neg c2 (ev_now _))), ht, hc⟩
theorem spec_l6Draw_some (b : List Int) (i h : Int) (hc : curB b i) (hb : b.length ≤ 4611686018427387904) : ∃ k t s i' h', Ev (fun n => spec_l6Draw.f n b i h) (k, t, s, i', h') ∧ t.size ≤ 101 ∧ curB b i' := by
  unfold spec_l6Draw.f
  obtain ⟨v, i1, h1, e1, _, _, c1⟩ := spec_l1Below_some b i h 6 hc hb
  by_cases d1 : wrap64 (1 + v) = 1
  · obtain ⟨t, i2, h2, e2, m2, c2⟩ := spec_l1Str_some b i1 h1 [(⟨#[109, 97, 105, 110]⟩ : ByteArray), (⟨#[108, 111, 103, 115]⟩ : ByteArray), (⟨#[120]⟩ : ByteArray), (⟨#[97, 100, 109, 105, 110]⟩ : ByteArray)] (by simp) c1 hb
    have all : ∀ x ∈ [(⟨#[109, 97, 105, 110]⟩ : ByteArray), (⟨#[108, 111, 103, 115]⟩ : ByteArray), (⟨#[120]⟩ : ByteArray), (⟨#[97, 100, 109, 105, 110]⟩ : ByteArray)], x.size ≤ 101 := by decide
    exact ⟨_, _, _, _, _, ev_bind1 e1 (ev_pos d1 (ev_bind1 e2 (ev_now _))), all t m2, c2⟩
  by_cases d2 : wrap64 (1 + v) = 2
  · obtain ⟨t, i2, h2, e2, m2, c2⟩ := spec_l1Str_some b i1 h1 [(⟨#[98, 101, 103, 105, 110]⟩ : ByteArray), (⟨#[99, 111, 109, 109, 105, 116]⟩ : ByteArray), (⟨#[114, 111, 108, 108, 98, 97, 99, 107]⟩ : ByteArray), (⟨#[102, 97, 105, 108]⟩ : ByteArray), (⟨#[111, 110, 101]⟩ : ByteArray), (⟨#[116, 119, 111]⟩ : ByteArray), (⟨#[]⟩ : ByteArray)] (by simp) c1 hb
    have all : ∀ x ∈ [(⟨#[98, 101, 103, 105, 110]⟩ : ByteArray), (⟨#[99, 111, 109, 109, 105, 116]⟩ : ByteArray), (⟨#[114, 111, 108, 108, 98, 97, 99, 107]⟩ : ByteArray), (⟨#[102, 97, 105, 108]⟩ : ByteArray), (⟨#[111, 110, 101]⟩ : ByteArray), (⟨#[116, 119, 111]⟩ : ByteArray), (⟨#[]⟩ : ByteArray)], x.size ≤ 101 := by decide
    exact ⟨_, _, _, _, _, ev_bind1 e1 (ev_neg d1 (ev_pos d2 (ev_bind1 e2 (ev_now _)))), all t m2, c2⟩
  by_cases d4 : wrap64 (1 + v) = 4
  · obtain ⟨k, t, s, i2, h2, e2, s2, c2⟩ := spec_l6Draw_j0 b (wrap64 (1 + v)) (wrap64 (1 + v) == 4) i1 h1 (wrap64 (1 + v)) (⟨#[]⟩ : ByteArray) 0 (by decide) c1 hb
    exact ⟨_, _, _, _, _, ev_bind1 e1 (ev_neg d1 (ev_neg d2 (ev_pos d4 e2))), s2, c2⟩
  · obtain ⟨k, t, s, i2, h2, e2, s2, c2⟩ := spec_l6Draw_j0 b (wrap64 (1 + v)) (wrap64 (1 + v) == 6) i1 h1 (wrap64 (1 + v)) (⟨#[]⟩ : ByteArray) 0 (by decide) c1 hb
    exact ⟨_, _, _, _, _, ev_bind1 e1 (ev_neg d1 (ev_neg d2 (ev_neg d4 e2))), s2, c2⟩

/-! ### spec_l1Once -/
theorem spec_l1Once_some (b : List Int) (i h n : Int) (hc : curB b i) (hb : b.length ≤ 4611686018427387904) : ∃ v i' h', spec_l1Once.f b i h n = some (v, i', h') ∧ curB b i' := by
  obtain ⟨v, i1, h1, e1, _, _, c1⟩ := spec_l1Below_some b i h n hc hb
  unfold spec_l1Once.f
  rw [e1, Option.bind_some]
  exact ⟨_, _, _, rfl, c1⟩

/-! ### spec_l1Text -/
theorem spec_l1Text_l0 (b : List Int) (hb : b.length ≤ 4611686018427387904) (d : Nat) : ∀ (s : ByteArray) (i h : Int), s.size + d = 101 → curB b i → ∃ v i' h', Ev (fun k => spec_l1Text.l0 k s b i h) (v, i', h') ∧ v.size ≤ 101 ∧ curB b i' := by
  induction d with
  | zero =>
    intro s i h hs hc
    obtain ⟨v, i1, h1, e1, m1, c1⟩ := spec_l1Int_some b i h [100, 101, 60] (by simp) hc hb
    have hv : v ≤ 101 := by
      have all : ∀ x ∈ ([100, 101, 60] : List Int), x ≤ 101 := by decide
      exact all v m1
    exact ⟨_, _, _, ev_step (fun k => spec_l1Text.l0.eq_2 ..) (ev_bind1 e1 (ev_neg (by omega) (ev_now _))), by omega, c1⟩
  | succ d ih =>
    intro s i h hs hc
    obtain ⟨v, i1, h1, e1, m1, c1⟩ := spec_l1Int_some b i h [100, 101, 60] (by simp) hc hb
    have hz : (s ++ (⟨#[120]⟩ : ByteArray)).size = s.size + 1 := by
      rw [ByteArray.size_append]
      rfl
    by_cases c : (s.size : Int) < v
    · obtain ⟨v2, i2, h2, e2, s2, c2⟩ := ih (s ++ (⟨#[120]⟩ : ByteArray)) i1 h1 (by omega) c1
      exact ⟨_, _, _, ev_step (fun k => spec_l1Text.l0.eq_2 ..) (ev_bind1 e1 (ev_pos c (ev_pos (by omega) e2))), s2, c2⟩
    · exact ⟨_, _, _, ev_step (fun k => spec_l1Text.l0.eq_2 ..) (ev_bind1 e1 (ev_neg c (ev_now _))), by omega, c1⟩
theorem spec_l1Text_some (b : List Int) (i h : Int) (hc : curB b i) (hb : b.length ≤ 4611686018427387904) : ∃ v i' h', Ev (fun k => spec_l1Text.f k b i h) (v, i', h') ∧ v.size ≤ 101 ∧ curB b i' := by
  unfold spec_l1Text.f
  obtain ⟨v, i1, h1, e1, c1⟩ := spec_l1Once_some b i h 8 hc hb
  by_cases c : v = true
  · obtain ⟨v2, i2, h2, e2, s2, c2⟩ := spec_l1Text_l0 b hb 101 (⟨#[]⟩ : ByteArray) i1 h1 rfl c1
    exact ⟨_, _, _, ev_bind1 e1 (ev_pos c e2), s2, c2⟩
  · obtain ⟨v2, i2, h2, e2, m2, c2⟩ := spec_l1Str_some b i1 h1 [(⟨#[]⟩ : ByteArray), (⟨#[97]⟩ : ByteArray), (⟨#[104, 101, 108, 108, 111]⟩ : ByteArray), (⟨#[98, 101, 103, 105, 110]⟩ : ByteArray), (⟨#[97, 32, 98]⟩ : ByteArray), (⟨#[127]⟩ : ByteArray), (⟨#[31]⟩ : ByteArray), (⟨#[126]⟩ : ByteArray)] (by simp) c1 hb
    have all : ∀ x ∈ [(⟨#[]⟩ : ByteArray), (⟨#[97]⟩ : ByteArray), (⟨#[104, 101, 108, 108, 111]⟩ : ByteArray), (⟨#[98, 101, 103, 105, 110]⟩ : ByteArray), (⟨#[97, 32, 98]⟩ : ByteArray), (⟨#[127]⟩ : ByteArray), (⟨#[31]⟩ : ByteArray), (⟨#[126]⟩ : ByteArray)], x.size ≤ 101 := by decide
    exact ⟨_, _, _, ev_bind1 e1 (ev_neg c (ev_bind1 e2 (ev_now _))), all v2 m2, c2⟩

/-! ### spec_l6Any -/
theorem spec_l6Any_some (b : List Int) (i h : Int) (hc : curB b i) (hb : b.length ≤ 4611686018427387904) : ∃ k t s i' h', Ev (fun n => spec_l6Any.f n b i h) (k, t, s, i', h') ∧ t.size ≤ 101 ∧ curB b i' := by
  unfold spec_l6Any.f
  obtain ⟨k, t, s, i1, h1, e1, s1, c1⟩ := spec_l6Draw_some b i h hc hb
  obtain ⟨v, i2, h2, e2, _, _, c2⟩ := spec_l1Below_some b i1 h1 10 c1 hb
  by_cases d0 : v = 0
  · obtain ⟨a, i3, h3, e3, _, c3⟩ := spec_l1Int_some b i2 h2 [0, 1, 2, 5, 7, (-1)] (by simp) c2 hb
    exact ⟨_, _, _, _, _, ev_bind e1 (ev_bind1 e2 (ev_pos d0 (ev_bind1 e3 (ev_now _)))), s1, c3⟩
  by_cases d1 : v = 1
  · obtain ⟨a, i3, h3, e3, s3, c3⟩ := spec_l1Text_some b i2 h2 c2 hb
    exact ⟨_, _, _, _, _, ev_bind e1 (ev_bind1 e2 (ev_neg d0 (ev_pos d1 (ev_bind e3 (ev_now _))))), s3, c3⟩
  by_cases d2 : v = 2
  · obtain ⟨a, i3, h3, e3, _, c3⟩ := spec_l1Int_some b i2 h2 [1, 2, 3, (-1)] (by simp) c2 hb
    exact ⟨_, _, _, _, _, ev_bind e1 (ev_bind1 e2 (ev_neg d0 (ev_neg d1 (ev_pos d2 (ev_bind1 e3 (ev_now _)))))), s1, c3⟩
  exact ⟨_, _, _, _, _, ev_bind e1 (ev_bind1 e2 (ev_neg d0 (ev_neg d1 (ev_neg d2 (ev_now _))))), s1, c2⟩

/-! ### spec_DrawPutFrame -/
theorem spec_DrawPutFrame_some (b : List Int) (hb : b.length ≤ 4611686018427387904) : ∃ k t s, Ev (fun n => spec_DrawPutFrame.f n b) (k, t, s) ∧ t.size ≤ 101 := by
  obtain ⟨h0, e0⟩ := spec_l1New_some b hb
  obtain ⟨k, t, s, i1, h1, e1, s1, c1⟩ := spec_l6Any_some b 0 h0 ⟨by omega, by omega⟩ hb
  exact ⟨_, _, _, ev_bind e0 (ev_bind e1 (ev_now _)), s1⟩

/-! ### impl_isIn -/
theorem impl_isIn_eq (a b c : Int) : impl_isIn.f a b c = some (inB a b c) := by
  unfold impl_isIn.f inB
  by_cases h : b ≤ a <;> simp [h]

/-! ### impl_nameOk -/
theorem impl_nameOk_l0 (s : ByteArray) (hs : s.size ≤ 4611686018427387904) (d : Nat) : ∀ i : Int, 0 ≤ i → i + d = s.size → Ev (fun k => impl_nameOk.l0 k s (s.size : Int) i) (allF (byteIn s 97 122) i d && inB s.size 1 8) := by
  induction d with
  | zero =>
    intro i h0 h1
    refine ev_step (fun k => impl_nameOk.l0.eq_2 ..) ?_
    refine ev_neg (by omega) ?_
    rw [impl_isIn_eq]
    exact ev_now _
  | succ d ih =>
    intro i h0 h1
    refine ev_step (fun k => impl_nameOk.l0.eq_2 ..) ?_
    refine ev_pos (by omega) (ev_pos (by omega) (ev_pos (by omega) ?_))
    refine ev_ite (fun c1 => ?_) (fun c1 => ev_ite (fun c2 => ?_) (fun c2 => ?_))
    · refine ev_as (ev_now _) ?_
      have : byteIn s 97 122 i = false := by rw [byteIn_false]; omega
      simp [allF, this]
    · refine ev_as (ev_now _) ?_
      have : byteIn s 97 122 i = false := by rw [byteIn_false]; omega
      simp [allF, this]
    · have : byteIn s 97 122 i = true := by rw [byteIn_iff]; omega
      rw [w64 (by omega) (by omega), allF, this, Bool.true_and]
      exact ih (i + 1) (by omega) (by omega)
theorem impl_nameOk_ev (s : ByteArray) (hs : s.size ≤ 4611686018427387904) : Ev (fun k => impl_nameOk.f k s) (nameB s) := impl_nameOk_l0 s hs s.size 0 (by omega) (by omega)

/-! ### impl_TextOk -/
theorem impl_TextOk_l0 (s : ByteArray) (hs : s.size ≤ 4611686018427387904) (d : Nat) : ∀ i : Int, 0 ≤ i → i + d = s.size → Ev (fun k => impl_TextOk.l0 k s (s.size : Int) i) (allF (byteIn s 32 126) i d && decide ((s.size : Int) ≤ 100)) := by
  induction d with
  | zero =>
    intro i h0 h1
    refine ev_step (fun k => impl_TextOk.l0.eq_2 ..) ?_
    refine ev_neg (by omega) ?_
    exact ev_now _
  | succ d ih =>
    intro i h0 h1
    refine ev_step (fun k => impl_TextOk.l0.eq_2 ..) ?_
    refine ev_pos (by omega) (ev_pos (by omega) (ev_pos (by omega) ?_))
    refine ev_ite (fun c1 => ?_) (fun c1 => ev_ite (fun c2 => ?_) (fun c2 => ?_))
    · refine ev_as (ev_now _) ?_
      have : byteIn s 32 126 i = false := by rw [byteIn_false]; omega
      simp [allF, this]
    · refine ev_as (ev_now _) ?_
      have : byteIn s 32 126 i = false := by rw [byteIn_false]; omega
      simp [allF, this]
    · have : byteIn s 32 126 i = true := by rw [byteIn_iff]; omega
      rw [w64 (by omega) (by omega), allF, this, Bool.true_and]
      exact ih (i + 1) (by omega) (by omega)
theorem impl_TextOk_ev (s : ByteArray) (hs : s.size ≤ 4611686018427387904) : Ev (fun k => impl_TextOk.f k s) (textB s) := impl_TextOk_l0 s hs s.size 0 (by omega) (by omega)

/-! ### spec_TextOk -/
theorem spec_TextOk_l0 (s : ByteArray) (hs : s.size ≤ 4611686018427387904) (d : Nat) : ∀ i : Int, 0 ≤ i → i + d = s.size → i ≤ 101 → Ev (fun k => spec_TextOk.l0 k s i) (allF (byteIn s 32 126) i d && decide ((s.size : Int) ≤ 100)) := by
  induction d with
  | zero =>
    intro i h0 h1 h2
    refine ev_step (fun k => spec_TextOk.l0.eq_2 ..) ?_
    refine ev_neg (by omega) ?_
    refine ev_step (fun k => spec_TextOk.j1.eq_2 ..) ?_
    refine ev_neg (by decide) ?_
    exact ev_now _
  | succ d ih =>
    intro i h0 h1 h2
    refine ev_step (fun k => spec_TextOk.l0.eq_2 ..) ?_
    refine ev_pos (by omega) ?_
    refine ev_step (fun k => spec_TextOk.j1.eq_2 ..) ?_
    refine ev_ite (fun c0 => ?_) (fun c0 => ?_)
    · have c0' := of_decide_eq_true c0
      refine ev_pos (by omega) (ev_pos (by omega) ?_)
      refine ev_ite (fun c1 => ?_) (fun c1 => ev_ite (fun c2 => ?_) (fun c2 => ?_))
      · refine ev_as (ev_now _) ?_
        have : byteIn s 32 126 i = false := by rw [byteIn_false]; omega
        simp [allF, this]
      · refine ev_as (ev_now _) ?_
        have : byteIn s 32 126 i = false := by rw [byteIn_false]; omega
        simp [allF, this]
      · have : byteIn s 32 126 i = true := by rw [byteIn_iff]; omega
        rw [w64 (by omega) (by omega), allF, this, Bool.true_and]
        exact ih (i + 1) (by omega) (by omega) (by omega)
    · have c0' : ¬ i ≤ 100 := fun h => c0 (decide_eq_true h)
      refine ev_as (ev_now _) ?_
      have : decide ((s.size : Int) ≤ 100) = false := decide_eq_false (by omega)
      rw [this, Bool.and_false]
theorem spec_TextOk_ev (s : ByteArray) (hs : s.size ≤ 4611686018427387904) : Ev (fun k => spec_TextOk.f k s) (textB s) := spec_TextOk_l0 s hs s.size 0 (by omega) (by omega) (by omega)

/-! ### spec_l1In -/
theorem spec_l1In_eq (a b c : Int) : spec_l1In.f a b c = some (inB a b c) := by
  unfold spec_l1In.f inB
  by_cases h : b ≤ a <;> simp [h]

/-! ### spec_l1Name -/
theorem spec_l1Name_l0 (s : ByteArray) (hs : s.size ≤ 4611686018427387904) (d : Nat) : ∀ i : Int, 0 ≤ i → i + d = s.size → Ev (fun k => spec_l1Name.l0 k s i) (allF (byteIn s 97 122) i d && inB s.size 1 8) := by
  induction d with
  | zero =>
    intro i h0 h1
    refine ev_step (fun k => spec_l1Name.l0.eq_2 ..) ?_
    refine ev_neg (by omega) ?_
    rw [spec_l1In_eq]
    exact ev_now _
  | succ d ih =>
    intro i h0 h1
    refine ev_step (fun k => spec_l1Name.l0.eq_2 ..) ?_
    refine ev_pos (by omega) (ev_pos (by omega) ?_)
    refine ev_ite (fun c1 => ?_) (fun c1 => ev_ite (fun c2 => ?_) (fun c2 => ?_))
    · refine ev_as (ev_now _) ?_
      have : byteIn s 97 122 i = false := by rw [byteIn_false]; omega
      simp [allF, this]
    · refine ev_as (ev_now _) ?_
      have : byteIn s 97 122 i = false := by rw [byteIn_false]; omega
      simp [allF, this]
    · have : byteIn s 97 122 i = true := by rw [byteIn_iff]; omega
      rw [w64 (by omega) (by omega), allF, this, Bool.true_and]
      exact ih (i + 1) (by omega) (by omega)
theorem spec_l1Name_ev (s : ByteArray) (hs : s.size ≤ 4611686018427387904) : Ev (fun k => spec_l1Name.f k s) (nameB s) := spec_l1Name_l0 s hs s.size 0 (by omega) (by omega)

/-! ### spec_FrameOk -/
/-- A frame as it has to be. -/
def frameB (k : Int) (t : ByteArray) (s : Int) : Bool :=
  if k = 1 then nameB t && s == 0 else if k = 2 ∨ k = 4 ∨ k = 6 then textB t && s == 0 else if k = 5 then (t.toList == ([] : List UInt8)) && inB s 0 2 else if k = 3 then (t.toList == ([] : List UInt8)) && s == 0 else false
theorem spec_FrameOk_j0 (k : Int) (b : Bool) (t : ByteArray) (s : Int) (ht : t.size ≤ 4611686018427387904) : Ev (fun n => spec_FrameOk.j0 n k b k t s) (if b = true then textB t && s == 0 else if k = 5 then (t.toList == ([] : List UInt8)) && inB s 0 2 else if k = 3 then (t.toList == ([] : List UInt8)) && s == 0 else false) := by
  refine ev_step (fun n => spec_FrameOk.j0.eq_2 ..) (ev_ite (fun c => ?_) (fun c => ev_ite (fun c5 => ev_ite (fun ce => ?_) (fun ce => ?_)) (fun c5 => ev_ite (fun c3 => ev_ite (fun ce => ?_) (fun ce => ?_)) (fun c3 => ?_))))
  · refine ev_bind (spec_TextOk_ev t ht) (ev_ite (fun c1 => ?_) (fun c1 => ?_))
    · exact ev_as (ev_now _) (by simp [c, c1])
    · exact ev_as (ev_now _) (by simp [c, c1])
  · exact ev_bind1 (spec_l1In_eq _ _ _) (ev_as (ev_now _) (by simp [c, c5, ce]))
  · exact ev_as (ev_now _) (by simp [c, c5, ce])
  · exact ev_as (ev_now _) (by simp [c, c3, ce])
  · exact ev_as (ev_now _) (by simp [c, c3, ce])
  · exact ev_as (ev_now _) (by simp [c, c5, c3])
theorem spec_FrameOk_ev (k : Int) (t : ByteArray) (s : Int) (ht : t.size ≤ 4611686018427387904) : Ev (fun n => spec_FrameOk.f n k t s) (frameB k t s) := by
  unfold spec_FrameOk.f
  refine ev_ite (fun c1 => ?_) (fun c1 => ev_ite (fun c2 => ?_) (fun c2 => ev_ite (fun c4 => ?_) (fun c4 => ?_)))
  · refine ev_bind (spec_l1Name_ev t ht) (ev_ite (fun c => ?_) (fun c => ?_))
    · exact ev_as (ev_now _) (by simp [frameB, c1, c])
    · exact ev_as (ev_now _) (by simp [frameB, c1, c])
  · exact ev_as (spec_FrameOk_j0 k _ t s ht) (by simp [frameB, c2])
  · exact ev_as (spec_FrameOk_j0 k _ t s ht) (by simp [frameB, c4])
  · exact ev_as (spec_FrameOk_j0 k _ t s ht) (by simp [frameB, c1, c2, c4])

/-! ### impl_FrameOk -/
theorem impl_FrameOk_j0 (k : Int) (b : Bool) (t : ByteArray) (s : Int) (ht : t.size ≤ 4611686018427387904) : Ev (fun n => impl_FrameOk.j0 n k b k t s) (if b = true then textB t && s == 0 else if k = 5 then (t.toList == ([] : List UInt8)) && inB s 0 2 else if k = 3 then (t.toList == ([] : List UInt8)) && s == 0 else false) := by
  refine ev_step (fun n => impl_FrameOk.j0.eq_2 ..) (ev_ite (fun c => ?_) (fun c => ev_ite (fun c5 => ev_ite (fun ce => ?_) (fun ce => ?_)) (fun c5 => ev_ite (fun c3 => ?_) (fun c3 => ?_))))
  · refine ev_bind (impl_TextOk_ev t ht) (ev_ite (fun c1 => ?_) (fun c1 => ?_))
    · exact ev_as (ev_now _) (by simp [c, c1])
    · exact ev_as (ev_now _) (by simp [c, c1])
  · exact ev_bind1 (impl_isIn_eq _ _ _) (ev_as (ev_now _) (by simp [c, c5, ce]))
  · exact ev_as (ev_now _) (by simp [c, c5, ce])
  · exact ev_as (ev_now _) (by simp [c, c3])
  · exact ev_as (ev_now _) (by simp [c, c5, c3])
theorem impl_FrameOk_ev (k : Int) (t : ByteArray) (s : Int) (ht : t.size ≤ 4611686018427387904) : Ev (fun n => impl_FrameOk.f n k t s) (frameB k t s) := by
  unfold impl_FrameOk.f
  refine ev_ite (fun c1 => ?_) (fun c1 => ev_ite (fun c2 => ?_) (fun c2 => ev_ite (fun c4 => ?_) (fun c4 => ?_)))
  · refine ev_bind (impl_nameOk_ev t ht) (ev_ite (fun c => ?_) (fun c => ?_))
    · exact ev_as (ev_now _) (by simp [frameB, c1, c])
    · exact ev_as (ev_now _) (by simp [frameB, c1, c])
  · exact ev_as (impl_FrameOk_j0 k _ t s ht) (by simp [frameB, c2])
  · exact ev_as (impl_FrameOk_j0 k _ t s ht) (by simp [frameB, c4])
  · exact ev_as (impl_FrameOk_j0 k _ t s ht) (by simp [frameB, c1, c2, c4])

/-! ### slices_Clone_byte -/
theorem slices_Clone_byte_eq (l : List Int) (h : l.length ≤ 1000000000000) : slices_Clone_byte.f l = some l := by
  unfold slices_Clone_byte.f
  simp only [Option.bind_some, List.nil_append, List.length_nil]
  rw [if_pos (by omega)]

/-! ### spec_PutText -/
/-- Bytes with a text behind them, if it is one that may stand there. -/
def putTextV (l : List Int) (s : ByteArray) : List Int := if textB s = true then (l ++ [(s.size : Int) % 256]) ++ bytesOf s else l
theorem textB_size (s : ByteArray) (h : textB s = true) : s.size ≤ 100 := by
  unfold textB at h
  rw [Bool.and_eq_true] at h
  have := of_decide_eq_true h.2
  omega
theorem putTextV_len (l : List Int) (s : ByteArray) : (putTextV l s).length ≤ l.length + 101 := by
  unfold putTextV
  split
  · rename_i h
    have := textB_size s h
    rw [List.length_append, List.length_append, bytesOf_length]
    simp only [List.length_cons, List.length_nil]
    omega
  · omega
theorem putTextV_ge (l : List Int) (s : ByteArray) : l.length ≤ (putTextV l s).length := by
  unfold putTextV
  split
  · rw [List.length_append, List.length_append]
    omega
  · omega
theorem spec_PutText_ev (l : List Int) (s : ByteArray) (hl : l.length ≤ 1000000000000) (hs : s.size ≤ 1000000000000) : Ev (fun k => spec_PutText.f k l s) (putTextV l s) := by
  unfold spec_PutText.f putTextV
  simp only [Option.bind_some, List.nil_append, List.length_nil]
  refine ev_pos (by omega) (ev_bind (spec_TextOk_ev s (by omega)) (ev_ite (fun c => ?_) (fun c => ?_)))
  · exact ev_pos (by omega) (ev_pos (by rw [List.length_append]; simp only [List.length_cons, List.length_nil]; omega) (ev_as (ev_now _) (by rw [if_pos c])))
  · exact ev_as (ev_now _) (by rw [if_neg c])

/-! ### impl_PutText -/
theorem impl_PutText_ev (l : List Int) (s : ByteArray) (hl : l.length ≤ 1000000000000) (hs : s.size ≤ 1000000000000) : Ev (fun k => impl_PutText.f k l s) (putTextV l s) := by
  unfold impl_PutText.f putTextV
  simp only [Option.bind_some]
  refine ev_bind1 (slices_Clone_byte_eq l (by omega)) (ev_bind (impl_TextOk_ev s (by omega)) (ev_ite (fun c => ?_) (fun c => ?_)))
  · exact ev_pos (by omega) (ev_pos (by rw [List.length_append]; simp only [List.length_cons, List.length_nil]; omega) (ev_as (ev_now _) (by rw [if_pos c])))
  · exact ev_as (ev_now _) (by rw [if_neg c])

/-! ### spec_PutFrame -/
/-- The bytes of a frame. -/
def putFrameV (k : Int) (t : ByteArray) (s : Int) : List Int := if frameB k t s = true then (if k = 5 then [k % 256] ++ [s % 256] else if k = 3 then [k % 256] else putTextV [k % 256] t) else []
theorem putFrameV_len (k : Int) (t : ByteArray) (s : Int) : (putFrameV k t s).length ≤ 102 := by
  have := putTextV_len [k % 256] t
  simp only [List.length_cons, List.length_nil] at this
  unfold putFrameV
  split
  · split
    · simp
    · split
      · simp
      · omega
  · simp
theorem spec_PutFrame_ev (k : Int) (t : ByteArray) (s : Int) (ht : t.size ≤ 1000000000000) : Ev (fun n => spec_PutFrame.f n k t s) (putFrameV k t s) := by
  unfold spec_PutFrame.f putFrameV
  simp only [Option.bind_some, List.length_cons, List.length_nil]
  refine ev_bind (spec_FrameOk_ev k t s (by omega)) (ev_ite (fun c => ?_) (fun c => ?_))
  · refine ev_ite (fun c1 => ev_pos (by omega) ?_) (fun c1 => ev_ite (fun c2 => ?_) (fun c2 => ?_))
    · exact ev_as (ev_now _) (by rw [if_pos c, if_pos c1])
    · exact ev_as (ev_now _) (by rw [if_pos c, if_neg c1, if_pos c2])
    · exact ev_bind (spec_PutText_ev [k % 256] t (by simp) ht) (ev_as (ev_now _) (by rw [if_pos c, if_neg c1, if_neg c2]))
  · exact ev_as (ev_now _) (by rw [if_neg c])

/-! ### impl_PutFrame -/
theorem impl_PutFrame_ev (k : Int) (t : ByteArray) (s : Int) (ht : t.size ≤ 1000000000000) : Ev (fun n => impl_PutFrame.f n k t s) (putFrameV k t s) := by
  unfold impl_PutFrame.f putFrameV
  simp only [Option.bind_some, List.length_cons, List.length_nil]
  refine ev_bind (impl_FrameOk_ev k t s (by omega)) (ev_ite (fun c => ?_) (fun c => ?_))
  · refine ev_ite (fun c1 => ev_pos (by omega) ?_) (fun c1 => ev_ite (fun c2 => ?_) (fun c2 => ?_))
    · exact ev_as (ev_now _) (by rw [if_pos c, if_pos c1])
    · exact ev_as (ev_now _) (by rw [if_pos c, if_neg c1, if_pos c2])
    · exact ev_bind (impl_PutText_ev [k % 256] t (by simp) ht) (ev_as (ev_now _) (by rw [if_pos c, if_neg c1, if_neg c2]))
  · exact ev_as (ev_now _) (by rw [if_neg c])

/-! ### spec_FrameText -/
theorem spec_Num1 : Ev (fun k => spec_NumText.f k 1) (⟨#[49]⟩ : ByteArray) := by
  have a : Int.tmod 1 10 = 1 := by decide
  have b : Int.tdiv 1 10 = 0 := by decide
  have w1 : wrap64 (48 + 1) = 49 := w64 (by omega) (by omega)
  have w0 : wrap64 0 = 0 := w64 (by omega) (by omega)
  refine ev_neg (by decide) (ev_step (fun k => spec_NumText.l0.eq_2 ..) ?_)
  simp only [a, b, w1, w0]
  refine ev_neg (by decide) (ev_neg (by decide) (ev_bind1 rfl (ev_pos (by decide) (ev_step (fun k => spec_NumText.l0.eq_2 ..) (ev_pos rfl (ev_neg (by decide) (ev_as (ev_now _) (by decide))))))))
theorem spec_Num2 : Ev (fun k => spec_NumText.f k 2) (⟨#[50]⟩ : ByteArray) := by
  have a : Int.tmod 2 10 = 2 := by decide
  have b : Int.tdiv 2 10 = 0 := by decide
  have w1 : wrap64 (48 + 2) = 50 := w64 (by omega) (by omega)
  have w0 : wrap64 0 = 0 := w64 (by omega) (by omega)
  refine ev_neg (by decide) (ev_step (fun k => spec_NumText.l0.eq_2 ..) ?_)
  simp only [a, b, w1, w0]
  refine ev_neg (by decide) (ev_neg (by decide) (ev_bind1 rfl (ev_pos (by decide) (ev_step (fun k => spec_NumText.l0.eq_2 ..) (ev_pos rfl (ev_neg (by decide) (ev_as (ev_now _) (by decide))))))))
theorem spec_Num012 (n : Int) (h0 : 0 ≤ n) (h1 : n ≤ 2) : ∃ v : ByteArray, impl_NumText.f n = some v ∧ Ev (fun k => spec_NumText.f k n) v ∧ v.size ≤ 1 := by
  have hn : n = 0 ∨ n = 1 ∨ n = 2 := by omega
  rcases hn with rfl | rfl | rfl
  · exact ⟨_, rfl, ev_pos rfl (ev_now _), by decide⟩
  · exact ⟨_, rfl, spec_Num1, by decide⟩
  · exact ⟨_, rfl, spec_Num2, by decide⟩
theorem spec_FrameText_name (k : Int) (t : ByteArray) (s : Int) (nm : ByteArray) (ht : t.size ≤ 101) (c : frameB k t s = true) (h5 : k ≠ 5) (h0 : 0 ≤ wrap64 (k - 1)) (h1 : wrap64 (k - 1) < 6) (hs : nm.size ≤ 10)
    (hn : rdOf ByteArray.empty [(⟨#[104, 101, 108, 108, 111]⟩ : ByteArray), (⟨#[113, 117, 101, 114, 121]⟩ : ByteArray), (⟨#[98, 121, 101]⟩ : ByteArray), (⟨#[114, 111, 119]⟩ : ByteArray), (⟨#[114, 101, 97, 100, 121]⟩ : ByteArray), (⟨#[101, 114, 114, 111, 114]⟩ : ByteArray)] (wrap64 (k - 1)) = nm) :
    Ev (fun n => spec_FrameText.f n k t s) (if t.toList = ([] : List UInt8) then nm else nm ++ ((⟨#[32]⟩ : ByteArray) ++ t)) := by
  unfold spec_FrameText.f
  refine ev_bind1 rfl (ev_bind (spec_FrameOk_ev k t s (by omega)) (ev_pos c (ev_pos h0 (ev_pos h1 (ev_neg h5 ?_)))))
  simp only [hn]
  by_cases d : t.toList = ([] : List UInt8)
  · simp only [if_pos d]
    exact ev_now _
  · simp only [if_neg d]
    refine ev_pos (by omega) (ev_pos ?_ (ev_as (ev_now _) ?_))
    · rw [ByteArray.size_append]
      show nm.size + 1 + _ ≤ _
      omega
    · rw [ByteArray.append_assoc]
theorem frameText_both (k : Int) (t : ByteArray) (s : Int) (ht : t.size ≤ 101) : ∃ v, Ev (fun n => impl_FrameText.f n k t s) v ∧ Ev (fun n => spec_FrameText.f n k t s) v := by
  by_cases c : frameB k t s = true
  · by_cases c5 : k = 5
    · subst c5
      have c' := c
      simp only [frameB, if_neg (show ¬ (5 : Int) = 1 by decide), if_neg (show ¬ ((5 : Int) = 2 ∨ (5 : Int) = 4 ∨ (5 : Int) = 6) by decide), if_true, Bool.and_eq_true, beq_iff_eq] at c'
      have hi := (inB_iff _ _ _).1 c'.2
      obtain ⟨v, e1, e2, sz⟩ := spec_Num012 s hi.1 hi.2
      refine ⟨(⟨#[114, 101, 97, 100, 121]⟩ : ByteArray) ++ ((⟨#[32]⟩ : ByteArray) ++ v), ?_, ?_⟩
      · unfold impl_FrameText.f
        exact ev_bind (impl_FrameOk_ev 5 t s (by omega)) (ev_pos c (ev_pos rfl (ev_bind1 e1 (ev_now _))))
      · unfold spec_FrameText.f
        have hw : wrap64 ((5 : Int) - 1) = 4 := w64 (by omega) (by omega)
        simp only [hw]
        refine ev_bind1 rfl (ev_bind (spec_FrameOk_ev 5 t s (by omega)) (ev_pos c (ev_pos (by decide) (ev_pos (by decide) (ev_pos trivial (ev_pos (by decide) (ev_bind e2 (ev_pos ?_ (ev_as (ev_now _) ?_)))))))))
        · rw [ByteArray.size_append]
          show 5 + 1 + _ ≤ _
          omega
        · rw [ByteArray.append_assoc]
          rfl
    · have hk : k = 1 ∨ k = 2 ∨ k = 3 ∨ k = 4 ∨ k = 6 := by
        unfold frameB at c
        split at c
        · omega
        · split at c
          · omega
          · split at c
            · omega
            · cases c
      have tl : ∀ nm : ByteArray, impl_FrameText.tail nm t = some (if t.toList = ([] : List UInt8) then nm else nm ++ ((⟨#[32]⟩ : ByteArray) ++ t)) := by
        intro nm
        unfold impl_FrameText.tail
        split
        · rfl
        · rw [if_pos (by omega)]
      have hw1 : wrap64 ((1 : Int) - 1) = 0 := w64 (by omega) (by omega)
      have hw2 : wrap64 ((2 : Int) - 1) = 1 := w64 (by omega) (by omega)
      have hw3 : wrap64 ((3 : Int) - 1) = 2 := w64 (by omega) (by omega)
      have hw4 : wrap64 ((4 : Int) - 1) = 3 := w64 (by omega) (by omega)
      have hw6 : wrap64 ((6 : Int) - 1) = 5 := w64 (by omega) (by omega)
      rcases hk with rfl | rfl | rfl | rfl | rfl
      · exact ⟨_, ev_bind (impl_FrameOk_ev 1 t s (by omega)) (ev_pos c (ev_neg (by decide) (ev_pos rfl (ev_eq (tl _))))), spec_FrameText_name 1 t s _ ht c (by decide) (by rw [hw1]; decide) (by rw [hw1]; decide) (by decide) (by rw [hw1]; rfl)⟩
      · exact ⟨_, ev_bind (impl_FrameOk_ev 2 t s (by omega)) (ev_pos c (ev_neg (by decide) (ev_neg (by decide) (ev_pos rfl (ev_eq (tl _)))))), spec_FrameText_name 2 t s _ ht c (by decide) (by rw [hw2]; decide) (by rw [hw2]; decide) (by decide) (by rw [hw2]; rfl)⟩
      · exact ⟨_, ev_bind (impl_FrameOk_ev 3 t s (by omega)) (ev_pos c (ev_neg (by decide) (ev_neg (by decide) (ev_neg (by decide) (ev_pos rfl (ev_eq (tl _))))))), spec_FrameText_name 3 t s _ ht c (by decide) (by rw [hw3]; decide) (by rw [hw3]; decide) (by decide) (by rw [hw3]; rfl)⟩
      · exact ⟨_, ev_bind (impl_FrameOk_ev 4 t s (by omega)) (ev_pos c (ev_neg (by decide) (ev_neg (by decide) (ev_neg (by decide) (ev_neg (by decide) (ev_pos rfl (ev_eq (tl _)))))))), spec_FrameText_name 4 t s _ ht c (by decide) (by rw [hw4]; decide) (by rw [hw4]; decide) (by decide) (by rw [hw4]; rfl)⟩
      · exact ⟨_, ev_bind (impl_FrameOk_ev 6 t s (by omega)) (ev_pos c (ev_neg (by decide) (ev_neg (by decide) (ev_neg (by decide) (ev_neg (by decide) (ev_neg (by decide) (ev_pos rfl (ev_eq (tl _))))))))), spec_FrameText_name 6 t s _ ht c (by decide) (by rw [hw6]; decide) (by rw [hw6]; decide) (by decide) (by rw [hw6]; rfl)⟩
  · refine ⟨(⟨#[]⟩ : ByteArray), ?_, ?_⟩
    · unfold impl_FrameText.f
      exact ev_bind (impl_FrameOk_ev k t s (by omega)) (ev_neg c (ev_now _))
    · unfold spec_FrameText.f
      exact ev_bind1 rfl (ev_bind (spec_FrameOk_ev k t s (by omega)) (ev_neg c (ev_now _)))

/-! ### impl_GetFrame -/
/-- All of a list are bytes. -/
def bytesL (l : List Int) : Prop := ∀ x ∈ l, 0 ≤ x ∧ x < 256
theorem rd_byte {l : List Int} (hb : bytesL l) (i : Int) : 0 ≤ rd l i ∧ rd l i < 256 := by
  unfold rd
  rw [List.getD_eq_getElem?_getD]
  by_cases h : i.toNat < l.length
  · rw [List.getElem?_eq_getElem h]
    exact hb _ (List.getElem_mem h)
  · rw [List.getElem?_eq_none (by omega)]
    simp
theorem strN_size (l : List Int) (n : Nat) : (strOfNums ((l.take n).drop 2)).size ≤ l.length := by
  rw [strOfNums_size]
  simp
  omega
/-- The first frame of some bytes: the frame, its length, the code. -/
def getV (l : List Int) : Int × ByteArray × Int × Int × Int :=
  if (l.length : Int) = 0 then (0, ⟨#[]⟩, 0, 0, 1)
  else if rd l 0 = 3 then (3, ⟨#[]⟩, 0, 1, 0)
  else if inB (rd l 0) 1 6 = false then (0, ⟨#[]⟩, 0, 0, 2)
  else if (l.length : Int) < 2 then (0, ⟨#[]⟩, 0, 0, 1)
  else if rd l 0 = 5 then (if inB (rd l 1) 0 2 = true then (5, ⟨#[]⟩, rd l 1, 2, 0) else (0, ⟨#[]⟩, 0, 0, 2))
  else if rd l 1 > 100 then (0, ⟨#[]⟩, 0, 0, 2)
  else if (l.length : Int) < 2 + rd l 1 then (0, ⟨#[]⟩, 0, 0, 1)
  else if frameB (rd l 0) (strOfNums ((l.take (2 + rd l 1).toNat).drop 2)) 0 = true then (rd l 0, strOfNums ((l.take (2 + rd l 1).toNat).drop 2), 0, 2 + rd l 1, 0)
  else (0, ⟨#[]⟩, 0, 0, 2)
theorem empty_toList : (⟨#[]⟩ : ByteArray).toList = [] := by unfold ByteArray.toList; unfold ByteArray.toList.loop; rfl
theorem impl_GetFrame_j0 (l : List Int) (c : Int) (b : Bool) (hl : l.length ≤ 4611686018427387904) (hb : bytesL l) : Ev (fun k => impl_GetFrame.j0 k l 1 b c ⟨#[]⟩ 0)
    (if b = true then (if (l.length : Int) < 2 then (0, ⟨#[]⟩, 0, 0, 1) else if rd l 1 > 100 then (0, ⟨#[]⟩, 0, 0, 2) else if (l.length : Int) < 2 + rd l 1 then (0, ⟨#[]⟩, 0, 0, 1)
      else if frameB c (strOfNums ((l.take (2 + rd l 1).toNat).drop 2)) 0 = true then (c, strOfNums ((l.take (2 + rd l 1).toNat).drop 2), 0, 2 + rd l 1, 0) else (0, ⟨#[]⟩, 0, 0, 2))
     else if frameB c ⟨#[]⟩ 0 = true then (c, ⟨#[]⟩, 0, 1, 0) else (0, ⟨#[]⟩, 0, 0, 2)) := by
  have h1 := rd_byte hb 1
  have w1 : wrap64 (rd l 1) = rd l 1 := w64 (by omega) (by omega)
  have w2 : wrap64 (2 + rd l 1) = 2 + rd l 1 := w64 (by omega) (by omega)
  refine ev_step (fun k => impl_GetFrame.j0.eq_2 ..) ?_
  simp only [w1, w2]
  refine ev_ite (fun c0 => ?_) (fun c0 => ?_)
  · rw [if_pos c0]
    refine ev_ite (fun ca => ?_) (fun ca => ev_pos (by omega) (ev_ite (fun cb => ?_) (fun cb => ev_ite (fun cc => ?_) (fun cc => ev_pos (by omega) (ev_pos (by omega) ?_)))))
    · exact ev_as (ev_now _) (by rw [if_pos ca])
    · exact ev_as (ev_now _) (by rw [if_neg ca, if_pos cb])
    · exact ev_as (ev_now _) (by rw [if_neg ca, if_neg cb, if_pos cc])
    · rw [if_neg ca, if_neg cb, if_neg cc]
      refine ev_bind (impl_FrameOk_ev _ _ _ (Nat.le_trans (strN_size l _) hl)) (ev_ite (fun ck => ?_) (fun ck => ?_))
      · exact ev_as (ev_now _) (by rw [if_pos ck])
      · exact ev_as (ev_now _) (by rw [if_neg ck])
  · rw [if_neg c0]
    refine ev_bind (impl_FrameOk_ev _ _ _ (Nat.zero_le _)) (ev_ite (fun ck => ?_) (fun ck => ?_))
    · exact ev_as (ev_now _) (by rw [if_pos ck])
    · exact ev_as (ev_now _) (by rw [if_neg ck])
theorem impl_GetFrame_ev (l : List Int) (hl : l.length ≤ 4611686018427387904) (hb : bytesL l) : Ev (fun k => impl_GetFrame.f k l) (getV l) := by
  have h0 := rd_byte hb 0
  have h1 := rd_byte hb 1
  have w0 : wrap64 (rd l 0) = rd l 0 := w64 (by omega) (by omega)
  have w1 : wrap64 (rd l 1) = rd l 1 := w64 (by omega) (by omega)
  unfold impl_GetFrame.f getV
  simp only [w0, w1]
  refine ev_ite (fun c => ?_) (fun c => ev_pos (by omega) ?_)
  · exact ev_as (ev_now _) (by rw [if_pos c])
  rw [if_neg c]
  refine ev_ite (fun c3 => ?_) (fun c3 => ?_)
  · rw [c3]
    exact ev_bind (impl_FrameOk_ev 3 ⟨#[]⟩ 0 (Nat.zero_le _)) (ev_pos (by simp [frameB, empty_toList]) (ev_as (ev_now _) (by simp)))
  rw [if_neg c3]
  refine ev_ite (fun c5 => ?_) (fun c5 => ?_)
  · have ci' : ¬ inB (rd l 0) 1 6 = false := by rw [c5]; decide
    rw [if_neg ci', if_pos c5]
    refine ev_ite (fun cl => ?_) (fun cl => ev_pos (by omega) ?_)
    · exact ev_as (ev_now _) (by rw [if_pos cl])
    · refine ev_bind (impl_FrameOk_ev _ ⟨#[]⟩ _ (Nat.zero_le _)) ?_
      have e : frameB (rd l 0) ⟨#[]⟩ (rd l 1) = inB (rd l 1) 0 2 := by simp [frameB, c5, empty_toList]
      rw [e, if_neg cl]
      refine ev_ite (fun ck => ?_) (fun ck => ?_)
      · exact ev_as (ev_now _) (by rw [if_pos ck, c5])
      · exact ev_as (ev_now _) (by rw [if_neg ck])
  rw [if_neg c5]
  have key : ∀ b : Bool, b = decide (rd l 0 = 1 ∨ rd l 0 = 2 ∨ rd l 0 = 4 ∨ rd l 0 = 6) → Ev (fun k => impl_GetFrame.j0 k l 1 b (rd l 0) ⟨#[]⟩ 0) (if inB (rd l 0) 1 6 = false then (0, ⟨#[]⟩, 0, 0, 2)
      else if (l.length : Int) < 2 then (0, ⟨#[]⟩, 0, 0, 1)
      else if rd l 1 > 100 then (0, ⟨#[]⟩, 0, 0, 2)
      else if (l.length : Int) < 2 + rd l 1 then (0, ⟨#[]⟩, 0, 0, 1)
      else if frameB (rd l 0) (strOfNums ((l.take (2 + rd l 1).toNat).drop 2)) 0 = true then (rd l 0, strOfNums ((l.take (2 + rd l 1).toNat).drop 2), 0, 2 + rd l 1, 0)
      else (0, ⟨#[]⟩, 0, 0, 2)) := by
    intro b hb2
    refine ev_as (impl_GetFrame_j0 l (rd l 0) b hl hb) ?_
    by_cases ci : inB (rd l 0) 1 6 = false
    · have hh := (inB_false _ _ _).1 ci
      have hbf : b = false := by rw [hb2]; exact decide_eq_false (by omega)
      have hf : frameB (rd l 0) ⟨#[]⟩ 0 = false := by
        unfold frameB
        rw [if_neg (by omega), if_neg (by omega), if_neg (by omega), if_neg (by omega)]
      simp [ci, hbf, hf]
    · have hh := (inB_iff (rd l 0) 1 6).1 (by simpa using ci)
      have hbt : b = true := by rw [hb2]; exact decide_eq_true (by omega)
      rw [if_pos hbt, if_neg ci]
  refine ev_ite (fun d1 => ?_) (fun d1 => ev_ite (fun d2 => ?_) (fun d2 => ev_ite (fun d4 => ?_) (fun d4 => ?_)))
  · exact key _ (by simp [d1])
  · exact key _ (by simp [d2])
  · exact key _ (by simp [d4])
  · exact key _ (by simp [d1, d2, d4]; rfl)

/-! ### spec_l1Bytes -/
theorem spec_l1Bytes_l0 (b : List Int) (hb : b.length ≤ 4611686018427387904) (n : Int) (hn : n ≤ 1000) (d : Nat) : ∀ (l : List Int) (j i h : Int), n ≤ j + d → 0 ≤ j → l.length + d ≤ 1000 → bytesL l → curB b i → ∃ l' i' h', Ev (fun k => spec_l1Bytes.l0 k n l j b i h) (l', i', h') ∧ bytesL l' ∧ l'.length ≤ 1000 ∧ curB b i' := by
  induction d with
  | zero =>
    intro l j i h hd h0 hl hbl hc
    exact ⟨_, _, _, ev_step (fun k => spec_l1Bytes.l0.eq_2 ..) (ev_neg (by omega) (ev_now _)), hbl, by omega, hc⟩
  | succ d ih =>
    intro l j i h hd h0 hl hbl hc
    by_cases c : j < n
    · obtain ⟨v, i1, h1, e1, v0, v1, c1⟩ := spec_l1Byte_some b i h hc hb
      obtain ⟨l', i2, h2, e2, b2, s2, c2⟩ := ih (l ++ [v % 256]) (j + 1) i1 h1 (by omega) (by omega) (by rw [List.length_append, List.length_cons, List.length_nil]; omega) (fun x hx => by
        rcases List.mem_append.1 hx with hx | hx
        · exact hbl x hx
        · rw [List.mem_singleton] at hx; omega) c1
      refine ⟨l', i2, h2, ev_step (fun k => spec_l1Bytes.l0.eq_2 ..) (ev_pos c (ev_bind1 e1 (ev_pos (by omega) ?_))), b2, s2, c2⟩
      rw [w64 (by omega) (by omega)]
      exact e2
    · exact ⟨_, _, _, ev_step (fun k => spec_l1Bytes.l0.eq_2 ..) (ev_neg c (ev_now _)), hbl, by omega, hc⟩
theorem spec_l1Bytes_some (b : List Int) (i h n : Int) (hn : n ≤ 1000) (hc : curB b i) (hb : b.length ≤ 4611686018427387904) : ∃ l i' h', Ev (fun k => spec_l1Bytes.f k b i h n) (l, i', h') ∧ bytesL l ∧ l.length ≤ 1000 ∧ curB b i' :=
  spec_l1Bytes_l0 b hb n hn n.toNat [] 0 i h (by omega) (by omega) (by simp; omega) (fun _ hx => by cases hx) hc

/-! ### spec_l1Bend -/
theorem u8_xor_in (a c : Int) : 0 ≤ Go.bits .xor .u8 a c ∧ Go.bits .xor .u8 a c < 256 := by
  show 0 ≤ IntKind.u8.wrap _ ∧ IntKind.u8.wrap _ < 256
  rw [IntKind.wrap_u8]
  omega
theorem spec_l1Bend_some (b : List Int) (i h : Int) (l : List Int) (hl : l.length ≤ 1000) (hbl : bytesL l) (hc : curB b i) (hb : b.length ≤ 4611686018427387904) : ∃ l' i' h', spec_l1Bend.f b i h l = some (l', i', h') ∧ bytesL l' ∧ l'.length ≤ 1001 ∧ curB b i' := by
  unfold spec_l1Bend.f
  simp only [Option.bind_some, List.nil_append, List.length_nil]
  rw [if_pos (by omega)]
  obtain ⟨v, i1, h1, e1, _, _, c1⟩ := spec_l1Below_some b i h 8 hc hb
  rw [e1, Option.bind_some]
  dsimp only
  by_cases d0 : v = 0
  · rw [if_pos d0]
    by_cases z : (l.length : Int) > 0
    · rw [if_pos z]
      obtain ⟨j, i2, h2, e2, r2, _, c2⟩ := spec_l1Below_some b i1 h1 (l.length : Int) c1 hb
      have r := r2 (by omega)
      rw [e2, Option.bind_some]
      dsimp only
      rw [if_pos r.1, if_pos r.2]
      obtain ⟨x, i3, h3, e3, _, _, c3⟩ := spec_l1Below_some b i2 h2 255 c2 hb
      rw [e3, Option.bind_some]
      refine ⟨_, _, _, rfl, fun y hy => ?_, by rw [List.length_set]; omega, c3⟩
      rcases List.mem_or_eq_of_mem_set hy with hy | rfl
      · exact hbl y hy
      · exact u8_xor_in _ _
    · rw [if_neg z]
      exact ⟨_, _, _, rfl, hbl, by omega, c1⟩
  rw [if_neg d0]
  by_cases d1 : v = 1
  · rw [if_pos d1]
    by_cases z : (l.length : Int) > 0
    · rw [if_pos z]
      obtain ⟨j, i2, h2, e2, r2, _, c2⟩ := spec_l1Below_some b i1 h1 (l.length : Int) c1 hb
      have r := r2 (by omega)
      rw [e2, Option.bind_some]
      dsimp only
      rw [if_pos r.1, if_pos (by omega)]
      exact ⟨_, _, _, rfl, fun y hy => hbl y (List.mem_of_mem_take hy), by rw [List.length_take]; omega, c2⟩
    · rw [if_neg z]
      exact ⟨_, _, _, rfl, hbl, by omega, c1⟩
  rw [if_neg d1]
  by_cases d2 : v = 2
  · rw [if_pos d2]
    obtain ⟨x, i2, h2, e2, x0, x1, c2⟩ := spec_l1Byte_some b i1 h1 c1 hb
    rw [e2, Option.bind_some]
    dsimp only
    rw [if_pos (by omega)]
    refine ⟨_, _, _, rfl, fun y hy => ?_, by rw [List.length_append, List.length_cons, List.length_nil]; omega, c2⟩
    rcases List.mem_append.1 hy with hy | hy
    · exact hbl y hy
    · rw [List.mem_singleton] at hy; omega
  · rw [if_neg d2]
    exact ⟨_, _, _, rfl, hbl, by omega, c1⟩

/-! ### spec_l6Bytes -/
theorem bytesOf_L (s : ByteArray) : bytesL (bytesOf s) := by
  intro x hx
  unfold bytesOf at hx
  obtain ⟨c, _, rfl⟩ := List.mem_map.1 hx
  have := c.toNat_lt
  omega
theorem putFrameV_L (k : Int) (t : ByteArray) (s : Int) : bytesL (putFrameV k t s) := by
  intro x hx
  unfold putFrameV at hx
  split at hx
  · split at hx
    · simp only [List.cons_append, List.nil_append, List.mem_cons, List.not_mem_nil, or_false] at hx
      rcases hx with rfl | rfl <;> omega
    · split at hx
      · rw [List.mem_singleton] at hx; omega
      · unfold putTextV at hx
        split at hx
        · rcases List.mem_append.1 hx with hx | hx
          · simp only [List.cons_append, List.nil_append, List.mem_cons, List.not_mem_nil, or_false] at hx
            rcases hx with rfl | rfl <;> omega
          · exact bytesOf_L t x hx
        · rw [List.mem_singleton] at hx; omega
  · cases hx
theorem spec_l6Bytes_some (b : List Int) (i h : Int) (hc : curB b i) (hb : b.length ≤ 4611686018427387904) : ∃ l i' h', Ev (fun k => spec_l6Bytes.f k b i h) (l, i', h') ∧ bytesL l ∧ l.length ≤ 1001 ∧ curB b i' := by
  unfold spec_l6Bytes.f
  obtain ⟨k, t, s, i1, h1, e1, s1, c1⟩ := spec_l6Draw_some b i h hc hb
  obtain ⟨o, i2, h2, e2, c2⟩ := spec_l1Once_some b i1 h1 6 c1 hb
  by_cases c : o = true
  · obtain ⟨n, i3, h3, e3, r3, z3, c3⟩ := spec_l1Below_some b i2 h2 4 c2 hb
    have r := r3 (by omega)
    obtain ⟨l, i4, h4, e4, b4, s4, c4⟩ := spec_l1Bytes_some b i3 h3 n (by omega) c3 hb
    exact ⟨_, _, _, ev_bind e1 (ev_bind (spec_PutFrame_ev k t s (by omega)) (ev_bind1 e2 (ev_pos c (ev_bind1 e3 (ev_bind e4 (ev_now _)))))), b4, (by show l.length ≤ _; omega), c4⟩
  · obtain ⟨l, i3, h3, e3, b3, s3, c3⟩ := spec_l1Bend_some b i2 h2 (putFrameV k t s) (by have := putFrameV_len k t s; omega) (putFrameV_L k t s) c2 hb
    exact ⟨_, _, _, ev_bind e1 (ev_bind (spec_PutFrame_ev k t s (by omega)) (ev_bind1 e2 (ev_neg c (ev_bind1 e3 (ev_now _))))), b3, s3, c3⟩

/-! ### spec_DrawGetFrame -/
theorem spec_DrawGetFrame_some (b : List Int) (hb : b.length ≤ 4611686018427387904) : ∃ l, Ev (fun k => spec_DrawGetFrame.f k b) l ∧ bytesL l ∧ l.length ≤ 3000 := by
  unfold spec_DrawGetFrame.f
  obtain ⟨h0, e0⟩ := spec_l1New_some b hb
  obtain ⟨l, i1, h1, e1, b1, s1, c1⟩ := spec_l6Bytes_some b 0 h0 ⟨by omega, by omega⟩ hb
  obtain ⟨o, i2, h2, e2, c2⟩ := spec_l1Once_some b i1 h1 3 c1 hb
  by_cases c : o = true
  · obtain ⟨m, i3, h3, e3, b3, s3, c3⟩ := spec_l6Bytes_some b i2 h2 c2 hb
    refine ⟨_, ev_bind e0 (ev_bind e1 (ev_bind1 e2 (ev_pos c (ev_bind e3 (ev_pos (by show l.length + m.length < _; omega) (ev_now _)))))), fun x hx => ?_, (by rw [List.length_append]; show l.length + m.length ≤ _; omega)⟩
    rcases List.mem_append.1 hx with hx | hx
    · exact b1 x hx
    · exact b3 x hx
  · obtain ⟨o2, i3, h3, e3, c3⟩ := spec_l1Once_some b i2 h2 8 c2 hb
    by_cases d : o2 = true
    · obtain ⟨v, i4, h4, e4, _, _, c4⟩ := spec_l1Below_some b i3 h3 8 c3 hb
      obtain ⟨x, i5, h5, e5, _, c5⟩ := spec_l1Int_some b i4 h4 [0, 1, 3, 100, 101, 255] (by simp) c4 hb
      refine ⟨_, ev_bind e0 (ev_bind e1 (ev_bind1 e2 (ev_neg c (ev_bind1 e3 (ev_pos d (ev_bind1 e4 (ev_bind1 e5 (ev_now _)))))))), fun y hy => ?_, by simp⟩
      simp only [List.mem_cons, List.not_mem_nil, or_false] at hy
      rcases hy with rfl | rfl <;> omega
    · exact ⟨_, ev_bind e0 (ev_bind e1 (ev_bind1 e2 (ev_neg c (ev_bind1 e3 (ev_neg d (ev_now _)))))), b1, (by show l.length ≤ _; omega)⟩

/-! ### laws_at -/
theorem laws_at_some (b : List Int) (i : Int) (h0 : 0 ≤ i) : ∃ v, laws_at.f b i = some v := by
  unfold laws_at.f
  by_cases c : i < (b.length : Int)
  · rw [if_pos c, if_pos h0]
    exact ⟨_, rfl⟩
  · rw [if_neg c]
    exact ⟨_, rfl⟩

theorem strN_bytes (s : ByteArray) : strOfNums (bytesOf s) = s := by
  have e : (bytesOf s).map (fun n => UInt8.ofNat n.toNat) = s.data.toList := by
    unfold bytesOf
    rw [List.map_map]
    conv => rhs; rw [← List.map_id s.data.toList]
    refine List.map_congr_left (fun b _ => ?_)
    simp
  unfold strOfNums
  rw [e]
theorem nameB_textB (s : ByteArray) (h : nameB s = true) : textB s = true := by
  unfold nameB at h
  rw [Bool.and_eq_true, allF_iff, inB_iff] at h
  unfold textB
  rw [Bool.and_eq_true, allF_iff]
  refine ⟨fun j h0 h1 => ?_, decide_eq_true (by omega)⟩
  have := (byteIn_iff _ _ _ _).1 (h.1 j h0 h1)
  exact (byteIn_iff _ _ _ _).2 (by omega)
theorem rd_zero (a : Int) (l : List Int) : rd (a :: l) 0 = a := rfl
theorem rd_one (a b : Int) (l : List Int) : rd (a :: b :: l) 1 = b := rfl
/-- What a text frame's bytes are. -/
theorem putTextV_eq (k : Int) (t : ByteArray) (h0 : 0 ≤ k) (h1 : k < 256) (h : textB t = true) : putTextV [k % 256] t = k :: (t.size : Int) :: bytesOf t := by
  have hs := textB_size t h
  unfold putTextV
  rw [if_pos h, Int.emod_eq_of_lt h0 h1, Int.emod_eq_of_lt (by omega) (by omega)]
  rfl
/-- What is written is read again, whatever stands behind it. -/
theorem get_put (k : Int) (t : ByteArray) (s : Int) (tl : List Int) (h : frameB k t s = true) : ∃ t', getV (putFrameV k t s ++ tl) = (k, t', s, ((putFrameV k t s).length : Int), 0) ∧ t'.toList = t.toList := by
  unfold putFrameV
  rw [if_pos h]
  by_cases c5 : k = 5
  · subst c5
    simp only [frameB, if_neg (show ¬ (5 : Int) = 1 by decide), if_neg (show ¬ ((5 : Int) = 2 ∨ (5 : Int) = 4 ∨ (5 : Int) = 6) by decide), if_true, Bool.and_eq_true, beq_iff_eq] at h
    have hi := (inB_iff _ _ _).1 h.2
    refine ⟨⟨#[]⟩, ?_, by rw [empty_toList, h.1]⟩
    rw [if_pos rfl, show (5 : Int) % 256 = 5 by decide, Int.emod_eq_of_lt hi.1 (by omega)]
    show getV (5 :: s :: tl) = _
    unfold getV
    rw [rd_zero, rd_one, if_neg (by simp only [List.length_cons]; omega), if_neg (by decide), if_neg (by decide), if_neg (by simp only [List.length_cons]; omega), if_pos rfl, if_pos h.2]
    rfl
  by_cases c3 : k = 3
  · subst c3
    simp only [frameB, if_neg (show ¬ (3 : Int) = 1 by decide), if_neg (show ¬ ((3 : Int) = 2 ∨ (3 : Int) = 4 ∨ (3 : Int) = 6) by decide), if_neg (show ¬ (3 : Int) = 5 by decide), if_true, Bool.and_eq_true, beq_iff_eq] at h
    refine ⟨⟨#[]⟩, ?_, by rw [empty_toList, h.1]⟩
    rw [if_neg c5, if_pos rfl, show (3 : Int) % 256 = 3 by decide, h.2]
    show getV (3 :: tl) = _
    unfold getV
    rw [rd_zero, if_neg (by simp only [List.length_cons]; omega), if_pos rfl]
    rfl
  have hk : (k = 1 ∨ k = 2 ∨ k = 4 ∨ k = 6) ∧ textB t = true ∧ s = 0 := by
    unfold frameB at h
    split at h
    · rw [Bool.and_eq_true, beq_iff_eq] at h
      exact ⟨by omega, nameB_textB t h.1, h.2⟩
    · split at h
      · rw [Bool.and_eq_true, beq_iff_eq] at h
        exact ⟨by omega, h⟩
      · exact absurd h (by first | decide | simp [c5, c3])
  obtain ⟨hk, ht, hs⟩ := hk
  subst hs
  have hz := textB_size t ht
  refine ⟨t, ?_, rfl⟩
  rw [if_neg c5, if_neg c3, putTextV_eq k t (by omega) (by omega) ht]
  show getV (k :: (t.size : Int) :: (bytesOf t ++ tl)) = _
  have hl := bytesOf_length t
  have e : (((k :: (t.size : Int) :: (bytesOf t ++ tl)).take (2 + (t.size : Int)).toNat).drop 2) = bytesOf t := by
    rw [show (2 + (t.size : Int)).toNat = t.size + 1 + 1 by omega, List.take_succ_cons, List.take_succ_cons, List.drop_succ_cons, List.drop_succ_cons, List.drop_zero, ← hl, List.take_left']
    rfl
  unfold getV
  rw [rd_zero, rd_one, e, strN_bytes]
  rw [if_neg (by simp only [List.length_cons]; omega), if_neg c3, if_neg (by rw [Bool.eq_false_iff]; exact fun c => c ((inB_iff _ _ _).2 (by omega))), if_neg (by simp only [List.length_cons]; omega), if_neg c5, if_neg (by omega), if_neg (by simp only [List.length_cons, List.length_append, hl]; omega), if_pos h]
  simp only [List.length_cons, hl, Prod.mk.injEq, true_and, and_true]
  omega
/-- A frame that is not whole waits. -/
theorem get_part (k : Int) (t : ByteArray) (s : Int) (j : Nat) (h : frameB k t s = true) (hj : j < (putFrameV k t s).length) : getV ((putFrameV k t s).take j) = (0, ⟨#[]⟩, 0, 0, 1) := by
  match j with
  | 0 => rfl
  | j + 1 =>
    unfold putFrameV at hj ⊢
    rw [if_pos h] at hj ⊢
    by_cases c5 : k = 5
    · subst c5
      rw [if_pos rfl] at hj ⊢
      have : j = 0 := by simp only [List.length_append, List.length_cons, List.length_nil] at hj; omega
      subst this
      rfl
    by_cases c3 : k = 3
    · rw [if_neg c5, if_pos c3] at hj
      simp only [List.length_cons, List.length_nil] at hj
      omega
    have hk : (k = 1 ∨ k = 2 ∨ k = 4 ∨ k = 6) ∧ textB t = true := by
      unfold frameB at h
      split at h
      · rw [Bool.and_eq_true] at h
        exact ⟨by omega, nameB_textB t h.1⟩
      · split at h
        · rw [Bool.and_eq_true] at h
          exact ⟨by omega, h.1⟩
        · exact absurd h (by first | decide | simp [c5, c3])
    have hz := textB_size t hk.2
    have hl := bytesOf_length t
    rw [if_neg c5, if_neg c3, putTextV_eq k t (by omega) (by omega) hk.2] at hj ⊢
    simp only [List.length_cons, hl] at hj
    have hi : ¬ inB k 1 6 = false := by rw [Bool.eq_false_iff]; exact fun c => c ((inB_iff _ _ _).2 (by omega))
    rw [List.take_succ_cons]
    match j with
    | 0 =>
      unfold getV
      rw [rd_zero, if_neg (by simp), if_neg c3, if_neg hi, if_pos (by simp)]
    | j + 1 =>
      rw [List.take_succ_cons]
      unfold getV
      rw [rd_zero, rd_one, if_neg (by simp only [List.length_cons]; omega), if_neg c3, if_neg hi, if_neg (by simp only [List.length_cons]; omega), if_neg c5, if_neg (by omega), if_pos (by simp only [List.length_cons, List.length_take, hl]; omega)]
theorem at_nonneg (b : List Int) (hm : ∀ x ∈ b, (Lit.int .u8 x).wf = true) (hb : b.length ≤ 1048576) (i : Int) (h0 : 0 ≤ i) (h1 : i ≤ 1000) : ∃ v, laws_at.f b i = some v ∧ 0 ≤ v := by
  unfold laws_at.f
  by_cases c : i < (b.length : Int)
  · rw [if_pos c, if_pos h0]
    refine ⟨_, rfl, ?_⟩
    obtain ⟨m, rfl⟩ := Int.eq_ofNat_of_zero_le h0
    have hv := hm b[m] (List.getElem_mem (by omega))
    rw [rd_nth b m (by omega)]
    simp [Lit.wf, IntKind.min, IntKind.max, IntKind.bits, IntKind.signed] at hv
    rw [w64 (by omega) (by omega)]
    omega
  · rw [if_neg c]
    refine ⟨_, rfl, ?_⟩
    rw [w64 (x := i * 31) (by omega) (by omega), w64 (x := (b.length : Int) * 7) (by omega) (by omega), w64 (by omega) (by omega), Int.tmod_eq_emod_of_nonneg (by omega)]
    omega
theorem frames_j0 (b : List Int) (hb : b.length ≤ 1048576) (hw : ∀ x ∈ b, (Lit.int .u8 x).wf = true) (k : Int) (t : ByteArray) (s : Int) (ht : t.size ≤ 101) : Ev (fun n => laws_FnFrames.j0 n b (putFrameV k t s) false k t s) true := by
  refine ev_step (fun n => laws_FnFrames.j0.eq_2 ..) (ev_neg (by simp) (ev_bind (impl_FrameOk_ev k t s (by omega)) ?_))
  by_cases c : frameB k t s = true
  · refine ev_pos c ?_
    obtain ⟨tl, e1, b1, s1⟩ := spec_DrawGetFrame_some b (by omega)
    have hp := putFrameV_len k t s
    have hpos : 0 < (putFrameV k t s).length := by
      unfold putFrameV
      rw [if_pos c]
      split
      · simp
      · split
        · simp
        · have := putTextV_ge [k % 256] t
          simp only [List.length_cons, List.length_nil] at this
          omega
    obtain ⟨t', e2, e3⟩ := get_put k t s tl c
    have hL : bytesL (putFrameV k t s ++ tl) := fun x hx => by
      rcases List.mem_append.1 hx with hx | hx
      · exact putFrameV_L k t s x hx
      · exact b1 x hx
    obtain ⟨v, ev, hv⟩ := at_nonneg b hw hb 3 (by omega) (by omega)
    have hm := tmod_in hv (show 0 < ((putFrameV k t s).length : Int) by omega)
    have hpart := get_part k t s (Int.tmod v ((putFrameV k t s).length : Int)).toNat c (by omega)
    have hLp : bytesL ((putFrameV k t s).take (Int.tmod v ((putFrameV k t s).length : Int)).toNat) := fun x hx => putFrameV_L k t s x (List.mem_of_mem_take hx)
    have g1 := ev_as (impl_GetFrame_ev (([] ++ putFrameV k t s) ++ tl) (by simp only [List.nil_append, List.length_append]; omega) (by simpa using hL)) e2
    have g2 := ev_as (impl_GetFrame_ev _ (by rw [List.length_take]; omega) hLp) hpart
    refine ev_bind e1 (ev_bind1 rfl (ev_pos (by simp only [List.length_nil]; omega) (ev_bind1 rfl (ev_pos (by simp only [List.nil_append]; omega) (ev_bind g1 (ev_bind1 ev (ev_neg (by omega) (ev_pos hm.1 (ev_pos (by omega) (ev_bind g2 ?_))))))))))
    simp only [e3]
    refine ev_pos trivial (ev_pos trivial (ev_pos (by simp) (ev_pos trivial (ev_as (ev_now _) (by simp)))))
  · refine ev_neg c (ev_as (ev_now _) ?_)
    unfold putFrameV
    rw [if_neg c]
    rfl
theorem FnFrames : laws_FnFrames.Pure := by
  intro b _ hm hw
  refine ev_rounds ?_
  have hb : b.length ≤ 4611686018427387904 := by omega
  unfold laws_FnFrames.f
  refine ev_bind1 (laws_big_eq b) (ev_ite (fun _ => ev_now _) (fun cb => ?_))
  have hb2 : b.length ≤ 1048576 := by
    have : ¬ ((b.length : Int) > 1048576) := fun h => cb (decide_eq_true h)
    omega
  obtain ⟨k, t, s, e1, s1⟩ := spec_DrawPutFrame_some b hb
  obtain ⟨v, e2, e3⟩ := frameText_both k t s s1
  refine ev_bind e1 (ev_bind (impl_PutFrame_ev k t s (by omega)) (ev_bind (impl_FrameOk_ev k t s (by omega)) (ev_bind (spec_FrameOk_ev k t s (by omega)) (ev_neg (by simp) (ev_bind e2 (ev_bind e3 ?_))))))
  simp only [bne_self_eq_false]
  exact frames_j0 b hb2 hw k t s s1
end Go.Proofs.YtaimfkfpglhijaaDoor.Pure
