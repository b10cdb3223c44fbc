-- Written by a program of this session: the law's row, with its own words and its plain law
import Derived.Test.YtiffahfpfgnjnaaPFnCtlsx27
import Derived.Test.YtiffahfpfgnjnaaVBase
import Derived.Test.YtiffahfpfgnjnaaVExt
import Derived.Test.YtiffahfpfgnjnaaRows
import Derived.WalkKit
import Derived.ProofKit
import Derived.OpenShut
import Derived.ShutString
import Derived.ChangeOld
import Derived.Below
import Derived.SizedLaws
import Derived.Test.YtiffahfpfgnjnaaWSized
namespace Go.Proofs.Ytiffahfpfgnjnaa.Pure
open Go.RowKit Go.Proofs.Ytiffahfpfgnjnaa.PFnCtls Go.Proofs.YtiffahfpfgnjnaaW.PrintWords Go.Proofs.YtiffahfpfgnjnaaW.PrintLast Go.Proofs.YtiffahfpfgnjnaaV
set_option linter.unusedVariables false
set_option linter.unusedSimpArgs false
set_option maxRecDepth 20000
def bytesL (l : List Int) : Prop := ∀ x ∈ l, 0 ≤ x ∧ x < 256
theorem laws_big_eq (l : List Int) : laws_big.f l = some (decide ((l.length : Int) > 1048576)) := rfl
theorem laws_same_eq (l : List Int) : laws_same.f l l = some true := by
  unfold laws_same.f
  rw [beq_self_eq_true]
def curB (b : List Int) (i : Int) : Prop := 0 ≤ i ∧ i ≤ b.length
theorem spec_l1New_l0 (b : List Int) (hb : b.length ≤ 4611686018427387904) (d : Nat) : ∀ (x : Int) (i : Int), 0 ≤ i → i + d = b.length → ∃ h, Ev (fun k => spec_l1New.l0 k b x i) (b, 0, h) := by
  induction d with
  | zero =>
    intro x i h0 h1
    exact ⟨x, ev_step (fun k => spec_l1New.l0.eq_2 ..) (ev_neg (by omega) (ev_now _))⟩
  | succ d ih =>
    intro x i h0 h1
    by_cases c : i < 4000
    · obtain ⟨h, e⟩ := ih (Go.bits .and .i64 (wrap64 ((wrap64 ((wrap64 (x * 137)) + (wrap64 (rd b i)))) + 11)) 1073741823) (i + 1) (by omega) (by omega)
      refine ⟨h, ev_step (fun k => spec_l1New.l0.eq_2 ..) (ev_pos (by omega) (ev_pos c (ev_pos h0 ?_)))⟩
      rw [w64 (x := i + 1) (by omega) (by omega)]
      exact e
    · exact ⟨x, ev_step (fun k => spec_l1New.l0.eq_2 ..) (ev_pos (by omega) (ev_neg c (ev_now _)))⟩
theorem spec_l1New_some (b : List Int) (hb : b.length ≤ 4611686018427387904) : ∃ h, Ev (fun k => spec_l1New.f k b) (b, 0, h) := spec_l1New_l0 b hb b.length _ 0 (by omega) (by omega)
theorem i64_and255 (n : Int) : Go.bits .and .i64 n 255 = n % 256 := by
  have h255 : (BitVec.ofInt 64 255).toNat = 2 ^ 8 - 1 := by decide
  have key : (BitVec.ofInt 64 n &&& BitVec.ofInt 64 255).toNat = (n % ((2 ^ 64 : Nat) : Int)).toNat % 2 ^ 8 := by
    rw [BitVec.toNat_and, BitVec.toNat_ofInt, h255, Nat.and_two_pow_sub_one_eq_mod]
  show IntKind.i64.wrap ((BitVec.ofInt 64 n &&& BitVec.ofInt 64 255).toNat : Nat) = n % 256
  rw [key, IntKind.wrap_i64]
  omega
theorem spec_l1Byte_some (b : List Int) (i h : Int) (hc : curB b i) (hb : b.length ≤ 4611686018427387904) : ∃ v i' h', spec_l1Byte.f b i h = some (v, i', h') ∧ 0 ≤ v ∧ v < 256 ∧ curB b i' := by
  unfold curB at *
  unfold spec_l1Byte.f
  by_cases c : i < (b.length : Int)
  · rw [if_pos c, if_pos hc.1]
    refine ⟨_, _, _, rfl, ?_, ?_, ?_⟩
    · rw [i64_and255]; omega
    · rw [i64_and255]; omega
    · rw [w64 (by omega) (by omega)]; omega
  · rw [if_neg c]
    refine ⟨_, _, _, rfl, ?_, ?_, hc⟩
    · rw [i64_and255]; omega
    · rw [i64_and255]; omega
theorem tmod_in {v n : Int} (h0 : 0 ≤ v) (hn : 0 < n) : 0 ≤ Int.tmod v n ∧ Int.tmod v n < n := by
  rw [Int.tmod_eq_emod_of_nonneg h0]
  exact ⟨Int.emod_nonneg _ (by omega), Int.emod_lt_of_pos _ hn⟩
theorem spec_l1Below_some (b : List Int) (i h n : Int) (hc : curB b i) (hb : b.length ≤ 4611686018427387904) : ∃ v i' h', spec_l1Below.f b i h n = some (v, i', h') ∧ (0 < n → 0 ≤ v ∧ v < n) ∧ (n ≤ 0 → v = 0) ∧ curB b i' := by
  unfold spec_l1Below.f
  by_cases c0 : n ≤ 0
  · rw [if_pos c0]
    exact ⟨0, i, h, rfl, fun h => by omega, fun _ => rfl, hc⟩
  rw [if_neg c0]
  obtain ⟨v, i1, h1, e1, l1, u1, c1⟩ := spec_l1Byte_some b i h hc hb
  by_cases c1' : n ≤ 256
  · rw [if_pos c1', e1, Option.bind_some, if_neg (by omega)]
    exact ⟨_, _, _, rfl, fun hn => tmod_in l1 hn, fun hn => by omega, c1⟩
  · obtain ⟨v2, i2, h2, e2, l2, u2, c2⟩ := spec_l1Byte_some b i1 h1 c1 hb
    obtain ⟨v3, i3, h3, e3, l3, u3, c3⟩ := spec_l1Byte_some b i2 h2 c2 hb
    rw [if_neg c1', e1, Option.bind_some]
    dsimp only
    rw [e2, Option.bind_some]
    dsimp only
    rw [e3, Option.bind_some, if_neg (by omega)]
    refine ⟨_, _, _, rfl, fun hn => tmod_in ?_ hn, fun hn => by omega, c3⟩
    dsimp only
    rw [w64 (x := v * 65536) (by omega) (by omega), w64 (x := v2 * 256) (by omega) (by omega), w64 (x := v * 65536 + v2 * 256) (by omega) (by omega), w64 (by omega) (by omega)]
    omega
theorem spec_l1Once_some (b : List Int) (i h n : Int) (hc : curB b i) (hb : b.length ≤ 4611686018427387904) : ∃ v i' h', spec_l1Once.f b i h n = some (v, i', h') ∧ curB b i' := by
  obtain ⟨v, i1, h1, e1, _, _, c1⟩ := spec_l1Below_some b i h n hc hb
  unfold spec_l1Once.f
  rw [e1, Option.bind_some]
  exact ⟨_, _, _, rfl, c1⟩
theorem spec_l1Int_some (b : List Int) (i h : Int) (l : List Int) (hl : 0 < l.length) (hc : curB b i) (hb : b.length ≤ 4611686018427387904) : ∃ v i' h', spec_l1Int.f b i h l = some (v, i', h') ∧ v ∈ l ∧ curB b i' := by
  obtain ⟨v, i1, h1, e1, r1, _, c1⟩ := spec_l1Below_some b i h (l.length : Int) hc hb
  have r := r1 (by omega)
  unfold spec_l1Int.f
  rw [e1, Option.bind_some]
  dsimp only
  rw [if_pos r.1, if_pos r.2]
  refine ⟨_, _, _, rfl, ?_, c1⟩
  obtain ⟨m, rfl⟩ := Int.eq_ofNat_of_zero_le r.1
  rw [rd_nth l m (by omega)]
  exact List.getElem_mem _
theorem spec_l1Str_some (b : List Int) (i h : Int) (l : List ByteArray) (hl : 0 < l.length) (hc : curB b i) (hb : b.length ≤ 4611686018427387904) : ∃ v i' h', spec_l1Str.f b i h l = some (v, i', h') ∧ v ∈ l ∧ curB b i' := by
  obtain ⟨v, i1, h1, e1, r1, _, c1⟩ := spec_l1Below_some b i h (l.length : Int) hc hb
  have r := r1 (by omega)
  unfold spec_l1Str.f
  rw [e1, Option.bind_some]
  dsimp only
  rw [if_pos r.1, if_pos r.2]
  refine ⟨_, _, _, rfl, ?_, c1⟩
  obtain ⟨m, rfl⟩ := Int.eq_ofNat_of_zero_le r.1
  rw [rdOf_nth ByteArray.empty l m (by omega)]
  exact List.getElem_mem _
theorem spec_l7Query_some (b : List Int) (i h : Int) (hc : curB b i) (hb : b.length ≤ 4611686018427387904) : ∃ v i' h', spec_l7Query.f b i h = some (v, i', h') ∧ textB v = true ∧ curB b i' := by
  unfold spec_l7Query.f
  obtain ⟨v, i1, h1, e1, m1, c1⟩ := spec_l1Str_some b i h [(⟨#[98, 101, 103, 105, 110]⟩ : ByteArray), (⟨#[98, 101, 103, 105, 110]⟩ : ByteArray), (⟨#[99, 111, 109, 109, 105, 116]⟩ : ByteArray), (⟨#[99, 111, 109, 109, 105, 116]⟩ : ByteArray), (⟨#[114, 111, 108, 108, 98, 97, 99, 107]⟩ : ByteArray), (⟨#[102, 97, 105, 108]⟩ : ByteArray), (⟨#[111, 110, 101]⟩ : ByteArray), (⟨#[116, 119, 111]⟩ : ByteArray), (⟨#[116, 104, 114, 101, 101]⟩ : ByteArray)] (by simp) hc hb
  rw [e1, Option.bind_some]
  refine ⟨_, _, _, rfl, ?_, c1⟩
  show textB v = true
  simp only [List.mem_cons, List.not_mem_nil, or_false] at m1
  rcases m1 with rfl | rfl | rfl | rfl | rfl | rfl | rfl | rfl | rfl <;> decide
theorem spec_l1In_eq (a b c : Int) : spec_l1In.f a b c = some (inB a b c) := by
  unfold spec_l1In.f inB
  by_cases h : b ≤ a <;> simp [h]
theorem spec_l1Name_l0 (s : ByteArray) (hs : s.size ≤ 4611686018427387904) (d : Nat) : ∀ i : Int, 0 ≤ i → i + d = s.size → Ev (fun k => spec_l1Name.l0 k s i) (allF (byteIn s 97 122) i d && inB s.size 1 8) := by
  induction d with
  | zero =>
    intro i h0 h1
    refine ev_step (fun k => spec_l1Name.l0.eq_2 ..) ?_
    refine ev_neg (by omega) ?_
    rw [spec_l1In_eq]
    exact ev_now _
  | succ d ih =>
    intro i h0 h1
    refine ev_step (fun k => spec_l1Name.l0.eq_2 ..) ?_
    refine ev_pos (by omega) (ev_pos (by omega) ?_)
    refine ev_ite (fun c1 => ?_) (fun c1 => ev_ite (fun c2 => ?_) (fun c2 => ?_))
    · refine ev_as (ev_now _) ?_
      have : byteIn s 97 122 i = false := by rw [byteIn_false]; omega
      simp [allF, this]
    · refine ev_as (ev_now _) ?_
      have : byteIn s 97 122 i = false := by rw [byteIn_false]; omega
      simp [allF, this]
    · have : byteIn s 97 122 i = true := by rw [byteIn_iff]; omega
      rw [w64 (by omega) (by omega), allF, this, Bool.true_and]
      exact ih (i + 1) (by omega) (by omega)
theorem spec_l1Name_ev (s : ByteArray) (hs : s.size ≤ 4611686018427387904) : Ev (fun k => spec_l1Name.f k s) (nameB s) := spec_l1Name_l0 s hs s.size 0 (by omega) (by omega)
theorem spec_l9Time_eq (a : Int) : spec_l9Time.f a = some (inB a 0 100000) := by
  unfold spec_l9Time.f
  rw [spec_l1In_eq]
  rfl
theorem spec_TextOk_l0 (s : ByteArray) (hs : s.size ≤ 4611686018427387904) (d : Nat) : ∀ i : Int, 0 ≤ i → i + d = s.size → i ≤ 101 → Ev (fun k => spec_TextOk.l0 k s i) (allF (byteIn s 32 126) i d && decide ((s.size : Int) ≤ 100)) := by
  induction d with
  | zero =>
    intro i h0 h1 h2
    refine ev_step (fun k => spec_TextOk.l0.eq_2 ..) ?_
    refine ev_neg (by omega) ?_
    refine ev_step (fun k => spec_TextOk.j1.eq_2 ..) ?_
    refine ev_neg (by decide) ?_
    exact ev_now _
  | succ d ih =>
    intro i h0 h1 h2
    refine ev_step (fun k => spec_TextOk.l0.eq_2 ..) ?_
    refine ev_pos (by omega) ?_
    refine ev_step (fun k => spec_TextOk.j1.eq_2 ..) ?_
    refine ev_ite (fun c0 => ?_) (fun c0 => ?_)
    · have c0' := of_decide_eq_true c0
      refine ev_pos (by omega) (ev_pos (by omega) ?_)
      refine ev_ite (fun c1 => ?_) (fun c1 => ev_ite (fun c2 => ?_) (fun c2 => ?_))
      · refine ev_as (ev_now _) ?_
        have : byteIn s 32 126 i = false := by rw [byteIn_false]; omega
        simp [allF, this]
      · refine ev_as (ev_now _) ?_
        have : byteIn s 32 126 i = false := by rw [byteIn_false]; omega
        simp [allF, this]
      · have : byteIn s 32 126 i = true := by rw [byteIn_iff]; omega
        rw [w64 (by omega) (by omega), allF, this, Bool.true_and]
        exact ih (i + 1) (by omega) (by omega) (by omega)
    · have c0' : ¬ i ≤ 100 := fun h => c0 (decide_eq_true h)
      refine ev_as (ev_now _) ?_
      have : decide ((s.size : Int) ≤ 100) = false := decide_eq_false (by omega)
      rw [this, Bool.and_false]
theorem spec_TextOk_ev (s : ByteArray) (hs : s.size ≤ 4611686018427387904) : Ev (fun k => spec_TextOk.f k s) (textB s) := spec_TextOk_l0 s hs s.size 0 (by omega) (by omega) (by omega)
def askerB (so : Int) (db : ByteArray) (st ti si : Int) (q : ByteArray) (li le : Int) : Bool :=
  inB so 1 9999 &&
    (if st = 0 then db.toList == ([] : List UInt8) && (ti == 0 && (si == 0 && (q.toList == ([] : List UInt8) && (li == 0 && le == 0))))
    else nameB db &&
      (if st = 1 then ti == 0 && (si == 0 && (q.toList == ([] : List UInt8) && (li == 0 && le == 0)))
      else if st = 2 then (li == 0 && le == 0) && (inB ti 0 65535 && (inB si 0 100000 && textB q))
      else if st = 3 ∨ st = 4 then (ti == 0 && (si == 0 && q.toList == ([] : List UInt8))) && (inB li 1 9999 && decide (le ≥ 1))
      else false))
theorem spec_AskerOk_j2 (b : Bool) (x0 : Int) (x1 : ByteArray) (x2 x3 x4 : Int) (x5 : ByteArray) (x6 x7 : Int) (h1 : x1.size ≤ 4611686018427387904) :
    Ev (fun k => spec_AskerOk.j2 k b x0 x1 x2 x3 x4 x5 x6 x7) (b && (nameB x1 && (inB x6 1 9999 && decide (x7 ≥ 1)))) := by
  refine ev_step (fun k => spec_AskerOk.j2.eq_2 ..) ?_
  refine ev_ite (fun c => ?_) (fun c => ?_)
  · refine ev_bind (spec_l1Name_ev _ h1) ?_
    refine ev_ite (fun c2 => ?_) (fun c2 => ?_)
    · refine ev_bind1 (spec_l1In_eq _ _ _) ?_
      refine ev_ite (fun c3 => ?_) (fun c3 => ?_)
      all_goals exact ev_as (ev_now _) (by simp_all)
    · exact ev_as (ev_now _) (by simp_all)
  · exact ev_as (ev_now _) (by simp_all)
theorem spec_AskerOk_j1 (b : Bool) (x0 : Int) (x1 : ByteArray) (x2 x3 x4 : Int) (x5 : ByteArray) (x6 x7 : Int) (h1 : x1.size ≤ 4611686018427387904) (h5 : x5.size ≤ 4611686018427387904) :
    Ev (fun k => spec_AskerOk.j1 k b x0 x1 x2 x3 x4 x5 x6 x7)
      (!b && (if x2 = 0 then x1.toList == ([] : List UInt8) else nameB x1 && (if x2 = 1 then true else if x2 = 2 then inB x3 0 65535 && (inB x4 0 100000 && textB x5) else if x2 = 3 ∨ x2 = 4 then inB x6 1 9999 && decide (x7 ≥ 1) else false))) := by
  refine ev_step (fun k => spec_AskerOk.j1.eq_2 ..) ?_
  refine ev_ite (fun c => ?_) (fun c => ?_)
  · exact ev_as (ev_now _) (by simp [c])
  have hb : b = false := by simpa using c
  subst hb
  refine ev_ite (fun c0 => ?_) (fun c0 => ev_ite (fun c1 => ?_) (fun c1 => ev_ite (fun c2 => ?_) (fun c2 => ev_ite (fun c3 => ?_) (fun c3 => ?_))))
  · exact ev_as (ev_now _) (by simp [c0])
  · exact ev_bind (spec_l1Name_ev _ h1) (ev_as (ev_now _) (by simp [c1]))
  · refine ev_bind (spec_l1Name_ev _ h1) ?_
    refine ev_ite (fun c3 => ?_) (fun c3 => ?_)
    · refine ev_bind1 (spec_l1In_eq _ _ _) ?_
      refine ev_ite (fun c4 => ?_) (fun c4 => ?_)
      · refine ev_bind1 (spec_l9Time_eq _) ?_
        refine ev_ite (fun c5 => ?_) (fun c5 => ?_)
        · exact ev_bind (spec_TextOk_ev _ h5) (ev_as (ev_now _) (by simp [c2, c3, c4, c5]))
        · exact ev_as (ev_now _) (by simp [c2, c5])
      · exact ev_as (ev_now _) (by simp [c2, c4])
    · exact ev_as (ev_now _) (by simp [c2, c3])
  · exact ev_as (spec_AskerOk_j2 _ _ _ _ _ _ _ _ _ h1) (by simp [c3])
  · refine ev_as (spec_AskerOk_j2 _ _ _ _ _ _ _ _ _ h1) ?_
    by_cases c4 : x2 = 4
    · simp [c4]
    · simp [c0, c1, c2, c3, c4]
theorem spec_AskerOk_j0 (b : Bool) (x0 : Int) (x1 : ByteArray) (x2 x3 x4 : Int) (x5 : ByteArray) (x6 x7 : Int) (h1 : x1.size ≤ 4611686018427387904) (h5 : x5.size ≤ 4611686018427387904) :
    Ev (fun k => spec_AskerOk.j0 k b x0 x1 x2 x3 x4 x5 x6 x7)
      (!b && (!(decide (x2 < 3) && !(x6 == 0 && x7 == 0)) && (if x2 = 0 then x1.toList == ([] : List UInt8) else nameB x1 && (if x2 = 1 then true else if x2 = 2 then inB x3 0 65535 && (inB x4 0 100000 && textB x5) else if x2 = 3 ∨ x2 = 4 then inB x6 1 9999 && decide (x7 ≥ 1) else false)))) := by
  refine ev_step (fun k => spec_AskerOk.j0.eq_2 ..) ?_
  refine ev_ite (fun c => ?_) (fun c => ?_)
  · exact ev_as (ev_now _) (by simp [c])
  have hb : b = false := by simpa using c
  subst hb
  refine ev_ite (fun c0 => ev_ite (fun c1 => ?_) (fun c1 => ?_)) (fun c0 => ?_)
  · refine ev_as (spec_AskerOk_j1 _ _ _ _ _ _ _ _ _ h1 h5) ?_
    subst c1
    by_cases c2 : x7 = 0
    · simp [c2]
    · simp [c0, c2, bne]
  · refine ev_as (spec_AskerOk_j1 _ _ _ _ _ _ _ _ _ h1 h5) ?_
    simp [c0, c1]
  · refine ev_as (spec_AskerOk_j1 _ _ _ _ _ _ _ _ _ h1 h5) ?_
    simp [c0]
theorem spec_AskerOk_core (x0 : Int) (x1 : ByteArray) (x2 x3 x4 : Int) (x5 : ByteArray) (x6 x7 : Int) (h1 : x1.size ≤ 4611686018427387904) (h5 : x5.size ≤ 4611686018427387904) : Ev (fun k => spec_AskerOk.f k x0 x1 x2 x3 x4 x5 x6 x7) (askerB x0 x1 x2 x3 x4 x5 x6 x7) := by
  unfold spec_AskerOk.f askerB
  refine ev_bind1 (spec_l1In_eq _ _ _) ?_
  have key : ∀ b : Bool, (b = !(decide (x2 = 2) || (x3 == 0 && (x4 == 0 && x5.toList == ([] : List UInt8))))) → inB x0 1 9999 = true →
      Ev (fun k => spec_AskerOk.j0 k b x0 x1 x2 x3 x4 x5 x6 x7) (inB x0 1 9999 &&
    (if x2 = 0 then x1.toList == ([] : List UInt8) && (x3 == 0 && (x4 == 0 && (x5.toList == ([] : List UInt8) && (x6 == 0 && x7 == 0))))
    else nameB x1 &&
      (if x2 = 1 then x3 == 0 && (x4 == 0 && (x5.toList == ([] : List UInt8) && (x6 == 0 && x7 == 0)))
      else if x2 = 2 then (x6 == 0 && x7 == 0) && (inB x3 0 65535 && (inB x4 0 100000 && textB x5))
      else if x2 = 3 ∨ x2 = 4 then (x3 == 0 && (x4 == 0 && x5.toList == ([] : List UInt8))) && (inB x6 1 9999 && decide (x7 ≥ 1))
      else false))) := by
    intro b hb h0
    refine ev_as (spec_AskerOk_j0 _ _ _ _ _ _ _ _ _ h1 h5) ?_
    rw [hb, h0]
    generalize (x5.toList == ([] : List UInt8)) = e5
    generalize (x1.toList == ([] : List UInt8)) = e1
    generalize nameB x1 = n1
    generalize textB x5 = t5
    generalize inB x3 0 65535 = i3
    generalize inB x4 0 100000 = i4
    generalize inB x6 1 9999 = i6
    by_cases s0 : x2 = 0
    · subst s0
      cases (x3 == 0) <;> cases (x4 == 0) <;> cases e5 <;> cases (x6 == 0) <;> cases (x7 == 0) <;> cases e1 <;> rfl
    · by_cases s1 : x2 = 1
      · subst s1
        cases (x3 == 0) <;> cases (x4 == 0) <;> cases e5 <;> cases (x6 == 0) <;> cases (x7 == 0) <;> cases n1 <;> rfl
      · by_cases s2 : x2 = 2
        · subst s2
          cases (x6 == 0) <;> cases (x7 == 0) <;> cases n1 <;> cases i3 <;> cases i4 <;> cases t5 <;> rfl
        · by_cases s3 : x2 = 3 ∨ x2 = 4
          · have hn : ¬ x2 < 3 := by omega
            simp only [s0, s1, s2, s3, hn, decide_false, if_true, if_false]
            cases (x3 == 0) <;> cases (x4 == 0) <;> cases e5 <;> cases n1 <;> simp
          · simp only [s0, s1, s2, s3, if_false, Bool.and_false]
  refine ev_ite (fun c => ?_) (fun c => ?_)
  · refine ev_ite (fun c2 => ?_) (fun c2 => ev_ite (fun c3 => ev_ite (fun c4 => ?_) (fun c4 => ?_)) (fun c3 => ?_))
    · exact key _ (by simp [c2]) c
    · exact key _ (by simp only [c2, c3, c4, bne]; simp) c
    · exact key _ (by simp [c2, c3, c4]) c
    · exact key _ (by simp [c2, c3]) c
  · exact ev_as (ev_now _) (by simp [c])
theorem spec_AskerOk_ev (x : S25) (h1 : x.f1.size ≤ 4611686018427387904) (h5 : x.f5.size ≤ 4611686018427387904) : Ev (fun k => spec_AskerOk.f k x.f0 x.f1 x.f2 x.f3 x.f4 x.f5 x.f6 x.f7) (askerB x.f0 x.f1 x.f2 x.f3 x.f4 x.f5 x.f6 x.f7) := spec_AskerOk_core _ _ _ _ _ _ _ _ h1 h5
def lineB (so : Int) (db : ByteArray) (ge st si asn le : Int) : Bool :=
  inB so 1 9999 && (nameB db && (inB ge 1 60000 &&
    (if st = 0 then inB si 0 100000 && (asn == 0 && le == 0)
    else if st = 1 ∨ st = 2 then si == 0 && (inB asn 1 9999 && decide (le ≥ 1))
    else false)))
theorem spec_LineOk_j0 (b : Bool) (x0 : Int) (x1 : ByteArray) (x2 x3 x4 x5 x6 : Int) : Ev (fun k => spec_LineOk.j0 k b x0 x1 x2 x3 x4 x5 x6)
    (!b && (if x3 = 0 then inB x4 0 100000 && (x5 == 0 && x6 == 0) else if x3 = 1 ∨ x3 = 2 then x4 == 0 && (inB x5 1 9999 && decide (x6 ≥ 1)) else false)) := by
  refine ev_step (fun k => spec_LineOk.j0.eq_2 ..) ?_
  refine ev_ite (fun c => ?_) (fun c => ?_)
  · exact ev_as (ev_now _) (by simp [c])
  · have hb : b = false := by simpa using c
    refine ev_ite (fun c1 => ?_) (fun c1 => ?_)
    · refine ev_bind1 (spec_l9Time_eq x4) ?_
      refine ev_ite (fun c2 => ev_ite (fun c3 => ?_) (fun c3 => ?_)) (fun c2 => ?_)
      all_goals exact ev_as (ev_now _) (by simp_all)
    · refine ev_bind1 (spec_l1In_eq x3 1 2) ?_
      refine ev_ite (fun c2 => ?_) (fun c2 => ?_)
      · have h3 : x3 = 1 ∨ x3 = 2 := by have := (inB_iff _ _ _).1 c2; omega
        refine ev_ite (fun c3 => ?_) (fun c3 => ?_)
        · refine ev_bind1 (spec_l1In_eq x5 1 9999) ?_
          refine ev_ite (fun c4 => ?_) (fun c4 => ?_)
          all_goals exact ev_as (ev_now _) (by simp_all)
        · exact ev_as (ev_now _) (by simp_all)
      · have h3 : ¬ (x3 = 1 ∨ x3 = 2) := by
          intro h
          exact c2 ((inB_iff _ _ _).2 (by omega))
        exact ev_as (ev_now _) (by simp [c1, h3])
theorem spec_LineOk_ev (x : S27) (hs : x.f1.size ≤ 4611686018427387904) : Ev (fun k => spec_LineOk.f k x.f0 x.f1 x.f2 x.f3 x.f4 x.f5 x.f6) (lineB x.f0 x.f1 x.f2 x.f3 x.f4 x.f5 x.f6) := by
  unfold spec_LineOk.f lineB
  refine ev_bind1 (spec_l1In_eq _ _ _) ?_
  refine ev_ite (fun c => ?_) (fun c => ?_)
  · refine ev_bind (spec_l1Name_ev _ hs) ?_
    refine ev_ite (fun c2 => ?_) (fun c2 => ?_)
    · refine ev_bind1 (spec_l1In_eq _ _ _) ?_
      exact ev_as (spec_LineOk_j0 ..) (by rw [c, c2]; simp)
    · exact ev_as (spec_LineOk_j0 ..) (by simp [c2])
  · exact ev_as (spec_LineOk_j0 ..) (by simp [c])
theorem and255 (x : Int) : Go.bits .and .i64 x 255 = x % 256 := by
  have h : (BitVec.ofInt 64 x &&& BitVec.ofInt 64 255).toNat = (x % 256).toNat := by
    rw [BitVec.toNat_and, BitVec.toNat_ofInt, BitVec.toNat_ofInt]
    have e : ((255 : Int) % ((2 ^ 64 : Nat) : Int)).toNat = 2 ^ 8 - 1 := by decide
    rw [e, Nat.and_two_pow_sub_one_eq_mod]
    omega
  show IntKind.i64.wrap (((BitVec.ofInt 64 x &&& BitVec.ofInt 64 255).toNat : Nat) : Int) = x % 256
  rw [h]
  have h0 : 0 ≤ x % 256 := Int.emod_nonneg _ (by decide)
  have h1 : x % 256 < 256 := Int.emod_lt_of_pos _ (by decide)
  rw [Int.toNat_of_nonneg h0]
  have hw : ∀ n : Int, 0 ≤ n → n < 256 → IntKind.i64.wrap n = n := by
    intro n a b
    simp [IntKind.wrap, IntKind.bits, IntKind.signed]
    (try split) <;> omega
  exact hw _ h0 h1
def putWordV (l : List Int) (n : Int) : List Int := l ++ [(n / 256) % 256, n % 256]
theorem putWordV_len (l : List Int) (n : Int) : (putWordV l n).length = l.length + 2 := by simp [putWordV]
def sinceV (l : List Int) (n : Int) : List Int := putWordV l (wrap64 (Int.tdiv n 256)) ++ [(Int.tmod n 256) % 256]
theorem sinceV_len (l : List Int) (n : Int) : (sinceV l n).length = l.length + 3 := by simp [sinceV, putWordV]
theorem spec_PutWord_eq (l : List Int) (n : Int) (hl : l.length ≤ 1000000000000) : spec_PutWord.f l n = some (putWordV l n) := by
  unfold spec_PutWord.f putWordV
  simp only [Option.bind_some, List.nil_append, List.length_nil, List.length_cons, and255]
  rw [if_pos (by omega), if_pos (by omega)]
  have e1 : n / 256 % 256 % 256 = n / 256 % 256 := by omega
  have e2 : n % 256 % 256 = n % 256 := by omega
  rw [e1, e2]
def putTextV (l : List Int) (s : ByteArray) : List Int := if textB s = true then (l ++ [(s.size : Int) % 256]) ++ bytesOf s else l
theorem textB_size (s : ByteArray) (h : textB s = true) : s.size ≤ 100 := by
  unfold textB at h
  rw [Bool.and_eq_true] at h
  have := of_decide_eq_true h.2
  omega
theorem putTextV_len (l : List Int) (s : ByteArray) : (putTextV l s).length ≤ l.length + 101 := by
  unfold putTextV
  split
  · rename_i h
    have := textB_size s h
    rw [List.length_append, List.length_append, bytesOf_length]
    simp only [List.length_cons, List.length_nil]
    omega
  · omega
theorem putTextV_ge (l : List Int) (s : ByteArray) : l.length ≤ (putTextV l s).length := by
  unfold putTextV
  split
  · rw [List.length_append, List.length_append]
    omega
  · omega
theorem spec_PutText_ev (l : List Int) (s : ByteArray) (hl : l.length ≤ 1000000000000) (hs : s.size ≤ 1000000000000) : Ev (fun k => spec_PutText.f k l s) (putTextV l s) := by
  unfold spec_PutText.f putTextV
  simp only [Option.bind_some, List.nil_append, List.length_nil]
  refine ev_pos (by omega) (ev_bind (spec_TextOk_ev s (by omega)) (ev_ite (fun c => ?_) (fun c => ?_)))
  · exact ev_pos (by omega) (ev_pos (by rw [List.length_append]; simp only [List.length_cons, List.length_nil]; omega) (ev_as (ev_now _) (by rw [if_pos c])))
  · exact ev_as (ev_now _) (by rw [if_neg c])
def askV (a : S25) : List Int := putWordV (putWordV (putTextV (sinceV (putWordV (putTextV (putWordV [1] a.f0 ++ [a.f2 % 256]) a.f1) a.f3) a.f4) a.f5) a.f6) a.f7
def lineV (l : S27) : List Int := putWordV (putWordV (sinceV (putWordV (putTextV (putWordV [2] l.f0 ++ [l.f3 % 256]) l.f1) l.f2) l.f4) l.f5) l.f6
def zeroA (a : S25) : Bool := a.f0 == 0 && (a.f1.toList == ([] : List UInt8) && (a.f2 == 0 && (a.f3 == 0 && (a.f4 == 0 && (a.f5.toList == ([] : List UInt8) && (a.f6 == 0 && (a.f7 == 0)))))))
def zeroL (l : S27) : Bool := l.f0 == 0 && (l.f1.toList == ([] : List UInt8) && (l.f2 == 0 && (l.f3 == 0 && (l.f4 == 0 && (l.f5 == 0 && (l.f6 == 0))))))
def itemB (k : Int) (a : S25) (l : S27) : Bool :=
  if k = 1 then askerB a.f0 a.f1 a.f2 a.f3 a.f4 a.f5 a.f6 a.f7 && (zeroL l && !(decide (a.f7 > 65535)))
  else if k = 2 then lineB l.f0 l.f1 l.f2 l.f3 l.f4 l.f5 l.f6 && (zeroA a && !(decide (l.f6 > 65535))) else false
def itemV (k : Int) (a : S25) (l : S27) : List Int := if itemB k a l = true then (if k = 1 then askV a else lineV l) else []
theorem askV_len (a : S25) : 13 ≤ (askV a).length ∧ (askV a).length ≤ 215 := by
  have t1 := putTextV_len (putWordV [1] a.f0 ++ [a.f2 % 256]) a.f1
  have t2 := putTextV_len (sinceV (putWordV (putTextV (putWordV [1] a.f0 ++ [a.f2 % 256]) a.f1) a.f3) a.f4) a.f5
  have g1 := putTextV_ge (putWordV [1] a.f0 ++ [a.f2 % 256]) a.f1
  have g2 := putTextV_ge (sinceV (putWordV (putTextV (putWordV [1] a.f0 ++ [a.f2 % 256]) a.f1) a.f3) a.f4) a.f5
  simp only [putWordV_len, sinceV_len, List.length_append, List.length_cons, List.length_nil] at t1 t2 g1 g2
  unfold askV
  simp only [putWordV_len]
  omega
theorem lineV_len (l : S27) : 13 ≤ (lineV l).length ∧ (lineV l).length ≤ 114 := by
  have t1 := putTextV_len (putWordV [2] l.f0 ++ [l.f3 % 256]) l.f1
  have g1 := putTextV_ge (putWordV [2] l.f0 ++ [l.f3 % 256]) l.f1
  simp only [putWordV_len, List.length_append, List.length_cons, List.length_nil] at t1 g1
  unfold lineV
  simp only [putWordV_len, sinceV_len]
  omega
theorem itemV_len (k : Int) (a : S25) (l : S27) : (itemV k a l).length ≤ 215 := by
  have := askV_len a
  have := lineV_len l
  unfold itemV
  split
  · split <;> omega
  · simp
theorem itemV_nil (k : Int) (a : S25) (l : S27) : (itemV k a l).length = 0 ↔ itemB k a l = false := by
  have := askV_len a
  have := lineV_len l
  unfold itemV
  by_cases c : itemB k a l = true
  · rw [if_pos c, c]
    constructor
    · intro h
      split at h <;> omega
    · intro h
      exact absurd h (by decide)
  · rw [if_neg c]
    simpa using c
theorem askerB_lease (so : Int) (db : ByteArray) (st ti si : Int) (q : ByteArray) (li le : Int) (h : askerB so db st ti si q li le = true) : 0 ≤ le := by
  unfold askerB at h
  rw [Bool.and_eq_true] at h
  have h := h.2
  split at h
  · simp only [Bool.and_eq_true, beq_iff_eq] at h
    omega
  · rw [Bool.and_eq_true] at h
    have h := h.2
    split at h
    · simp only [Bool.and_eq_true, beq_iff_eq] at h
      omega
    · split at h
      · simp only [Bool.and_eq_true, beq_iff_eq] at h
        omega
      · split at h
        · simp only [Bool.and_eq_true, decide_eq_true_eq] at h
          omega
        · exact absurd h (by decide)
theorem lineB_lease (so : Int) (db : ByteArray) (ge st si asn le : Int) (h : lineB so db ge st si asn le = true) : 0 ≤ le := by
  unfold lineB at h
  simp only [Bool.and_eq_true] at h
  have h := h.2.2.2
  split at h
  · simp only [Bool.and_eq_true, beq_iff_eq] at h
    omega
  · split at h
    · simp only [Bool.and_eq_true, decide_eq_true_eq] at h
      omega
    · exact absurd h (by decide)
theorem spec_PutItem_ev (k : Int) (a : S25) (l : S27) (h1 : a.f1.size ≤ 1000000000) (h5 : a.f5.size ≤ 1000000000) (hl : l.f1.size ≤ 1000000000) :
    Ev (fun n => spec_PutItem.f n k a.f0 a.f1 a.f2 a.f3 a.f4 a.f5 a.f6 a.f7 l.f0 l.f1 l.f2 l.f3 l.f4 l.f5 l.f6) (itemV k a l) := by
  have p1 : Ev (fun n => spec_PutItem.j0 n false a.f0 a.f1 a.f2 a.f3 a.f4 a.f5 a.f6 a.f7) (askV a) := by
    have t1 := putTextV_len (putWordV [1] a.f0 ++ [a.f2 % 256]) a.f1
    have t2 := putTextV_len (sinceV (putWordV (putTextV (putWordV [1] a.f0 ++ [a.f2 % 256]) a.f1) a.f3) a.f4) a.f5
    simp only [putWordV_len, sinceV_len, List.length_append, List.length_cons, List.length_nil] at t1 t2
    refine ev_step (fun n => spec_PutItem.j0.eq_2 ..) (ev_neg (by simp) ?_)
    refine ev_bind1 (spec_PutWord_eq _ _ (by simp)) (ev_bind1 rfl (ev_pos (by simp only [putWordV_len, List.length_cons, List.length_nil]; omega) ?_))
    refine ev_bind (spec_PutText_ev _ _ (by simp only [putWordV_len, List.length_append, List.length_cons, List.length_nil]; omega) (by omega)) ?_
    refine ev_bind1 (spec_PutWord_eq _ _ (by omega)) (ev_bind1 (spec_PutWord_eq _ _ (by rw [putWordV_len]; omega)) (ev_bind1 rfl (ev_pos (by simp only [putWordV_len, List.length_cons, List.length_nil]; omega) ?_)))
    refine ev_bind (spec_PutText_ev _ _ (by simp only [putWordV_len, List.length_append, List.length_cons, List.length_nil]; omega) (by omega)) ?_
    exact ev_bind1 (spec_PutWord_eq _ _ (by unfold sinceV at t2; omega)) (ev_bind1 (spec_PutWord_eq _ _ (by rw [putWordV_len]; unfold sinceV at t2; omega)) (ev_now _))
  have p2 : Ev (fun n => spec_PutItem.j1 n false l.f0 l.f1 l.f2 l.f3 l.f4 l.f5 l.f6) (lineV l) := by
    have t1 := putTextV_len (putWordV [2] l.f0 ++ [l.f3 % 256]) l.f1
    simp only [putWordV_len, List.length_append, List.length_cons, List.length_nil] at t1
    refine ev_step (fun n => spec_PutItem.j1.eq_2 ..) (ev_neg (by simp) ?_)
    refine ev_bind1 (spec_PutWord_eq _ _ (by simp)) (ev_bind1 rfl (ev_pos (by simp only [putWordV_len, List.length_cons, List.length_nil]; omega) ?_))
    refine ev_bind (spec_PutText_ev _ _ (by simp only [putWordV_len, List.length_append, List.length_cons, List.length_nil]; omega) (by omega)) ?_
    refine ev_bind1 (spec_PutWord_eq _ _ (by omega)) (ev_bind1 (spec_PutWord_eq _ _ (by rw [putWordV_len]; omega)) (ev_bind1 rfl (ev_pos (by simp only [putWordV_len, List.length_cons, List.length_nil]; omega) ?_)))
    exact ev_bind1 (spec_PutWord_eq _ _ (by simp only [putWordV_len, List.length_append, List.length_cons, List.length_nil]; omega)) (ev_bind1 (spec_PutWord_eq _ _ (by simp only [putWordV_len, List.length_append, List.length_cons, List.length_nil]; omega)) (ev_now _))
  have n1 : Ev (fun n => spec_PutItem.j0 n true a.f0 a.f1 a.f2 a.f3 a.f4 a.f5 a.f6 a.f7) [] := ev_step (fun n => spec_PutItem.j0.eq_2 ..) (ev_pos rfl (ev_now _))
  have n2 : Ev (fun n => spec_PutItem.j1 n true l.f0 l.f1 l.f2 l.f3 l.f4 l.f5 l.f6) [] := ev_step (fun n => spec_PutItem.j1.eq_2 ..) (ev_pos rfl (ev_now _))
  have z1 : (!(l.f0 == 0) || (!(l.f1.toList == ([] : List UInt8)) || (!(l.f2 == 0) || (!(l.f3 == 0) || (!(l.f4 == 0) || (!(l.f5 == 0) || (!(l.f6 == 0)))))))) = !zeroL l := by simp [zeroL, Bool.not_and]
  have z2 : (!(a.f0 == 0) || (!(a.f1.toList == ([] : List UInt8)) || (!(a.f2 == 0) || (!(a.f3 == 0) || (!(a.f4 == 0) || (!(a.f5.toList == ([] : List UInt8)) || (!(a.f6 == 0) || (!(a.f7 == 0))))))))) = !zeroA a := by simp [zeroA, Bool.not_and]
  unfold spec_PutItem.f itemV itemB
  rw [z1, z2]
  refine ev_ite (fun c => ?_) (fun c => ev_ite (fun c' => ?_) (fun c' => ?_))
  · refine ev_bind (spec_AskerOk_core _ _ _ _ _ _ _ _ (by omega) (by omega)) (ev_ite (fun d => ev_ite (fun e => ?_) (fun e => ?_)) (fun d => ?_))
    · exact ev_as n1 (by rw [if_neg]; rw [if_pos c, d]; simp at e; simp [e])
    · by_cases f : a.f7 > 65535
      · rw [decide_eq_true f]
        exact ev_as n1 (by rw [if_neg]; rw [if_pos c, d]; simp [f])
      · rw [decide_eq_false f]
        exact ev_as p1 (by rw [if_pos, if_pos c]; rw [if_pos c, d]; simp at e; simp [e, f])
    · exact ev_as n1 (by rw [if_neg]; rw [if_pos c]; simp [d])
  · refine ev_bind (spec_LineOk_ev l (by omega)) (ev_ite (fun d => ev_ite (fun e => ?_) (fun e => ?_)) (fun d => ?_))
    · exact ev_as n2 (by rw [if_neg]; rw [if_neg c, if_pos c', d]; simp at e; simp [e])
    · by_cases f : l.f6 > 65535
      · rw [decide_eq_true f]
        exact ev_as n2 (by rw [if_neg]; rw [if_neg c, if_pos c', d]; simp [f])
      · rw [decide_eq_false f]
        exact ev_as p2 (by rw [if_pos, if_neg c]; rw [if_neg c, if_pos c', d]; simp at e; simp [e, f])
    · exact ev_as n2 (by rw [if_neg]; rw [if_neg c, if_pos c']; simp [d])
  · exact ev_as n2 (by rw [if_neg]; rw [if_neg c, if_neg c']; simp)
def bytesU (l : List Int) : Prop := ∀ x ∈ l, 0 ≤ x ∧ x < 256
theorem rdU {l : List Int} (hb : bytesU l) (i : Int) : 0 ≤ rd l i ∧ rd l i < 256 := by
  unfold rd
  rw [List.getD_eq_getElem?_getD]
  by_cases h : i.toNat < l.length
  · rw [List.getElem?_eq_getElem h]
    exact hb _ (List.getElem_mem h)
  · rw [List.getElem?_eq_none (by omega)]
    simp
theorem rd_mid (p : List Int) (x : Int) (s : List Int) : rd (p ++ x :: s) (p.length : Int) = x := by
  rw [rd_nth _ p.length (by simp)]
  simp
theorem rd_mid2 (p : List Int) (y x : Int) (s : List Int) : rd (p ++ y :: x :: s) ((p.length : Int) + 1) = x := by
  have h := rd_mid (p ++ [y]) x s
  simpa using h
theorem spec_l9Byte_at (p : List Int) (x : Int) (s : List Int) (h0 : 0 ≤ x) (h1 : x < 256) (hl : (p ++ x :: s).length ≤ 1000000000000) : spec_l9Byte.f (p ++ x :: s) (p.length : Int) false = some (x, (p.length : Int) + 1, false) := by
  unfold spec_l9Byte.f
  have hlen : (p ++ x :: s).length = p.length + s.length + 1 := by simp; omega
  have w1 : wrap64 ((p.length : Int) + 1) = (p.length : Int) + 1 := w64 (by omega) (by omega)
  have w2 : wrap64 ((p.length : Int) + 1 - 1) = (p.length : Int) := by rw [w64 (by omega) (by omega)]; omega
  have w3 : wrap64 x = x := w64 (by omega) (by omega)
  rw [if_neg (by simp), if_neg (by omega)]
  simp only [w1, w2]
  rw [if_pos (by omega), if_pos (by omega), rd_mid, w3]
theorem spec_l9Byte_some (b : List Int) (i : Int) (bad : Bool) (hl : b.length ≤ 1000000000000) (h0 : 0 ≤ i) (h1 : i ≤ b.length) : ∃ v i' bad', spec_l9Byte.f b i bad = some (v, i', bad') ∧ 0 ≤ i' ∧ i' ≤ b.length ∧ (bad = true → bad' = true) := by
  unfold spec_l9Byte.f
  by_cases c : bad = true
  · rw [if_pos c]; exact ⟨_, _, _, rfl, h0, h1, fun _ => rfl⟩
  rw [if_neg c]
  by_cases d : i ≥ (b.length : Int)
  · rw [if_pos d]; exact ⟨_, _, _, rfl, h0, h1, fun _ => rfl⟩
  rw [if_neg d]
  have w1 : wrap64 (i + 1) = i + 1 := w64 (by omega) (by omega)
  have w2 : wrap64 (i + 1 - 1) = i := by rw [w64 (by omega) (by omega)]; omega
  simp only [w1, w2]
  rw [if_pos (by omega), if_pos (by omega)]
  exact ⟨_, _, _, rfl, by omega, by omega, fun h => h⟩
theorem strN_bytesU (s : ByteArray) : strOfNums (bytesOf s) = s := by
  have e : (bytesOf s).map (fun n => UInt8.ofNat n.toNat) = s.data.toList := by
    unfold bytesOf
    rw [List.map_map]
    conv => rhs; rw [← List.map_id s.data.toList]
    refine List.map_congr_left (fun b _ => ?_)
    simp
  unfold strOfNums
  rw [e]
theorem bytesOf_len (s : ByteArray) : (bytesOf s).length = s.size := by simp [bytesOf]
theorem bytesOf_U (s : ByteArray) : bytesU (bytesOf s) := by
  intro x hx
  unfold bytesOf at hx
  obtain ⟨c, _, rfl⟩ := List.mem_map.1 hx
  have := c.toNat_lt
  omega
theorem seg_mid (p m s : List Int) : ((p ++ (m ++ s)).take (p.length + m.length)).drop p.length = m := by
  rw [← List.append_assoc, List.take_append_of_le_length (by simp), List.take_of_length_le (by simp), List.drop_append_of_le_length (by simp), List.drop_length, List.nil_append]
theorem textSeg (p : List Int) (t : ByteArray) (s : List Int) : strOfNums (((p ++ (t.size : Int) :: (bytesOf t ++ s)).take ((p.length : Int) + 1 + (t.size : Int)).toNat).drop ((p.length : Int) + 1).toNat) = t := by
  have h := seg_mid (p ++ [(t.size : Int)]) (bytesOf t) s
  have e1 : ((p.length : Int) + 1 + (t.size : Int)).toNat = (p ++ [(t.size : Int)]).length + (bytesOf t).length := by rw [bytesOf_len]; simp; omega
  have e2 : ((p.length : Int) + 1).toNat = (p ++ [(t.size : Int)]).length := by rw [List.length_append, List.length_cons, List.length_nil]; omega
  rw [e1, e2, show p ++ (t.size : Int) :: (bytesOf t ++ s) = (p ++ [(t.size : Int)]) ++ (bytesOf t ++ s) by simp, h, strN_bytesU]
theorem textB_small (s : ByteArray) (h : textB s = true) : s.size ≤ 100 := by
  unfold textB at h
  rw [Bool.and_eq_true, decide_eq_true_eq] at h
  omega
theorem spec_GetText_at (p : List Int) (t : ByteArray) (s : List Int) (ht : textB t = true) (hl : (p ++ (t.size : Int) :: (bytesOf t ++ s)).length ≤ 1000000000000) : Ev (fun k => spec_GetText.f k (p ++ (t.size : Int) :: (bytesOf t ++ s)) (p.length : Int)) (t, (p.length : Int) + 1 + (t.size : Int), true) := by
  have hz := textB_small t ht
  have hlen : (p ++ (t.size : Int) :: (bytesOf t ++ s)).length = p.length + 1 + t.size + s.length := by simp [bytesOf_len]; omega
  unfold spec_GetText.f
  refine ev_neg (by omega) (ev_step (fun k => spec_GetText.j0.eq_2 ..) (ev_neg (by simp; omega) (ev_pos (by omega) (ev_pos (by omega) ?_))))
  have w0 : wrap64 ((t.size : Int)) = (t.size : Int) := w64 (by omega) (by omega)
  have w1 : wrap64 ((p.length : Int) + 1) = (p.length : Int) + 1 := w64 (by omega) (by omega)
  have w2 : wrap64 ((p.length : Int) + 1 + (t.size : Int)) = (p.length : Int) + 1 + (t.size : Int) := w64 (by omega) (by omega)
  have w3 : wrap64 (wrap64 (((p ++ (t.size : Int) :: (bytesOf t ++ s)).length : Int) - (p.length : Int)) - 1) = (t.size : Int) + s.length := by rw [w64 (x := ((p ++ (t.size : Int) :: (bytesOf t ++ s)).length : Int) - (p.length : Int)) (by omega) (by omega), w64 (by omega) (by omega)]; omega
  simp only [rd_mid, w0, w1, w2, w3, textSeg]
  exact ev_neg (by omega) (ev_pos (by omega) (ev_pos (by omega) (ev_pos (by omega) (ev_bind (spec_TextOk_ev t (by omega)) (ev_pos ht (ev_now _))))))
theorem strU_size (l : List Int) (n m : Nat) : (strOfNums ((l.take n).drop m)).size ≤ l.length := by
  rw [strOfNums_size]
  simp
  omega
theorem spec_GetText_some (b : List Int) (i : Int) (hb : bytesU b) (hl : b.length ≤ 1048576) (h0 : 0 ≤ i) (h1 : i ≤ b.length) : ∃ t i' ok, Ev (fun k => spec_GetText.f k b i) (t, i', ok) ∧ t.size ≤ 2000000 ∧ (ok = true → 0 ≤ i' ∧ i' ≤ b.length) := by
  unfold spec_GetText.f
  by_cases c : i ≥ (b.length : Int)
  · exact ⟨_, _, _, ev_neg (by omega) (ev_step (fun k => spec_GetText.j0.eq_2 ..) (ev_pos (by simpa using c) (ev_now _))), by decide, fun h => by cases h⟩
  have hr := rdU hb i
  have w0 : wrap64 (rd b i) = rd b i := w64 (by omega) (by omega)
  have w1 : wrap64 (i + 1) = i + 1 := w64 (by omega) (by omega)
  have w2 : wrap64 (i + 1 + rd b i) = i + 1 + rd b i := w64 (by omega) (by omega)
  have w3 : wrap64 (wrap64 ((b.length : Int) - i) - 1) = (b.length : Int) - i - 1 := by rw [w64 (x := (b.length : Int) - i) (by omega) (by omega), w64 (by omega) (by omega)]
  have go : ∀ (r : ByteArray × Int × Bool), Ev (fun k => if rd b i > (b.length : Int) - i - 1 then some ((⟨#[]⟩ : ByteArray), (0 : Int), false) else if 0 ≤ i + 1 then if i + 1 ≤ i + 1 + rd b i then if i + 1 + rd b i ≤ (b.length : Int) then (spec_TextOk.f k (strOfNums ((b.take (i + 1 + rd b i).toNat).drop (i + 1).toNat))).bind fun t => if t = true then some (strOfNums ((b.take (i + 1 + rd b i).toNat).drop (i + 1).toNat), i + 1 + rd b i, true) else some ((⟨#[]⟩ : ByteArray), (0 : Int), false) else none else none else none) r → Ev (fun k => if i < 0 then spec_GetText.j0 k b i true else spec_GetText.j0 k b i (decide (i ≥ (b.length : Int)))) r := by
    intro r hr
    refine ev_neg (by omega) (ev_step (fun k => spec_GetText.j0.eq_2 ..) (ev_neg (by simpa using c) (ev_pos (by omega) (ev_pos (by omega) ?_))))
    simp only [w0, w1, w2, w3]
    exact hr
  by_cases d : rd b i > (b.length : Int) - i - 1
  · exact ⟨_, _, _, go _ (ev_pos d (ev_now _)), by decide, fun h => by cases h⟩
  have hz := strU_size b (i + 1 + rd b i).toNat (i + 1).toNat
  by_cases e : textB (strOfNums ((b.take (i + 1 + rd b i).toNat).drop (i + 1).toNat)) = true
  · exact ⟨_, _, _, go _ (ev_neg d (ev_pos (by omega) (ev_pos (by omega) (ev_pos (by omega) (ev_bind (spec_TextOk_ev _ (by omega)) (ev_pos e (ev_now _))))))), by omega, fun _ => by omega⟩
  · exact ⟨_, _, _, go _ (ev_neg d (ev_pos (by omega) (ev_pos (by omega) (ev_pos (by omega) (ev_bind (spec_TextOk_ev _ (by omega)) (ev_neg e (ev_now _))))))), by decide, fun h => by cases h⟩
theorem spec_GetWord_at (p : List Int) (x y : Int) (s : List Int) (hx : 0 ≤ x ∧ x < 256) (hy : 0 ≤ y ∧ y < 256) (hl : (p ++ x :: y :: s).length ≤ 1000000000000) : spec_GetWord.f (p ++ x :: y :: s) (p.length : Int) = some (x * 256 + y, (p.length : Int) + 2, true) := by
  unfold spec_GetWord.f
  have hlen : (p ++ x :: y :: s).length = p.length + s.length + 2 := by simp; omega
  have w0 : wrap64 (((p ++ x :: y :: s).length : Int) - 2) = (p.length : Int) + s.length := by rw [w64 (by omega) (by omega)]; omega
  have w1 : wrap64 ((p.length : Int) + 1) = (p.length : Int) + 1 := w64 (by omega) (by omega)
  have w2 : wrap64 ((p.length : Int) + 2) = (p.length : Int) + 2 := w64 (by omega) (by omega)
  simp only [w0, w1, w2, rd_mid, rd_mid2]
  rw [if_neg (by omega), if_neg (by omega), if_pos (by omega), if_pos (by omega), if_pos (by omega), if_pos (by omega)]
  rw [w64 (x := x) (by omega) (by omega), w64 (x := y) (by omega) (by omega), w64 (x := x * 256) (by omega) (by omega), w64 (by omega) (by omega)]
theorem spec_GetWord_some (b : List Int) (i : Int) (hl : b.length ≤ 1000000000000) (h0 : 0 ≤ i) (h1 : i ≤ b.length) : ∃ v i' ok, spec_GetWord.f b i = some (v, i', ok) ∧ (ok = true → 0 ≤ i' ∧ i' ≤ b.length) := by
  unfold spec_GetWord.f
  have w0 : wrap64 ((b.length : Int) - 2) = (b.length : Int) - 2 := w64 (by omega) (by omega)
  have w1 : wrap64 (i + 1) = i + 1 := w64 (by omega) (by omega)
  have w2 : wrap64 (i + 2) = i + 2 := w64 (by omega) (by omega)
  simp only [w0, w1, w2]
  rw [if_neg (by omega)]
  by_cases c : i > (b.length : Int) - 2
  · rw [if_pos c]; exact ⟨_, _, _, rfl, fun h => by cases h⟩
  rw [if_neg c, if_pos (by omega), if_pos (by omega), if_pos (by omega), if_pos (by omega)]
  exact ⟨_, _, _, rfl, fun _ => by omega⟩
theorem spec_l9Word_at (p : List Int) (x y : Int) (s : List Int) (hx : 0 ≤ x ∧ x < 256) (hy : 0 ≤ y ∧ y < 256) (hl : (p ++ x :: y :: s).length ≤ 1000000000000) : spec_l9Word.f (p ++ x :: y :: s) (p.length : Int) false = some (x * 256 + y, (p.length : Int) + 2, false) := by
  unfold spec_l9Word.f
  rw [spec_GetWord_at p x y s hx hy hl]
  rfl
theorem spec_l9Word_some (b : List Int) (i : Int) (bad : Bool) (hl : b.length ≤ 1000000000000) (h0 : 0 ≤ i) (h1 : i ≤ b.length) : ∃ v i' bad', spec_l9Word.f b i bad = some (v, i', bad') ∧ 0 ≤ i' ∧ i' ≤ b.length ∧ (bad = true → bad' = true) := by
  unfold spec_l9Word.f
  obtain ⟨v, j, ok, e, hj⟩ := spec_GetWord_some b i hl h0 h1
  rw [e, Option.bind_some]
  dsimp only
  by_cases c : bad = true
  · rw [if_pos c]; exact ⟨_, _, _, rfl, h0, h1, fun _ => rfl⟩
  rw [if_neg c]
  by_cases d : ok = true
  · rw [if_pos d]; exact ⟨_, _, _, rfl, (hj d).1, (hj d).2, fun h => h⟩
  · rw [if_neg d]; exact ⟨_, _, _, rfl, h0, h1, fun _ => rfl⟩
theorem spec_l9Text_at (p : List Int) (t : ByteArray) (s : List Int) (ht : textB t = true) (hl : (p ++ (t.size : Int) :: (bytesOf t ++ s)).length ≤ 1000000000000) : Ev (fun k => spec_l9Text.f k (p ++ (t.size : Int) :: (bytesOf t ++ s)) (p.length : Int) false) (t, (p.length : Int) + 1 + (t.size : Int), false) := by
  unfold spec_l9Text.f
  exact ev_bind (spec_GetText_at p t s ht hl) (ev_neg (by simp) (ev_pos rfl (ev_now _)))
theorem spec_l9Text_some (b : List Int) (i : Int) (bad : Bool) (hb : bytesU b) (hl : b.length ≤ 1048576) (h0 : 0 ≤ i) (h1 : i ≤ b.length) : ∃ t i' bad', Ev (fun k => spec_l9Text.f k b i bad) (t, i', bad') ∧ t.size ≤ 2000000 ∧ 0 ≤ i' ∧ i' ≤ b.length ∧ (bad = true → bad' = true) := by
  unfold spec_l9Text.f
  obtain ⟨t, j, ok, e, hz, hj⟩ := spec_GetText_some b i hb hl h0 h1
  by_cases c : bad = true
  · exact ⟨_, _, _, ev_bind e (ev_pos c (ev_now _)), by decide, h0, h1, fun _ => rfl⟩
  by_cases d : ok = true
  · exact ⟨_, _, _, ev_bind e (ev_neg c (ev_pos d (ev_now _))), hz, (hj d).1, (hj d).2, fun h => h⟩
  · exact ⟨_, _, _, ev_bind e (ev_neg c (ev_neg d (ev_now _))), by decide, h0, h1, fun _ => rfl⟩
def askG (a : S25) : Prop := askerB a.f0 a.f1 a.f2 a.f3 a.f4 a.f5 a.f6 a.f7 = true ∧ a.f7 ≤ 65535
def lineG (l : S27) : Prop := lineB l.f0 l.f1 l.f2 l.f3 l.f4 l.f5 l.f6 = true ∧ l.f6 ≤ 65535
def goodB (b : List Int) : Prop := (∃ a, askG a ∧ b = askV a) ∨ ∃ l, lineG l ∧ b = lineV l
def zA : S25 := ⟨0, ⟨#[]⟩, 0, 0, 0, ⟨#[]⟩, 0, 0⟩
def zL : S27 := ⟨0, ⟨#[]⟩, 0, 0, 0, 0, 0⟩
theorem emptyL : (⟨#[]⟩ : ByteArray).toList = ([] : List UInt8) := by unfold ByteArray.toList; unfold ByteArray.toList.loop; rfl
theorem zeroA_zA : zeroA zA = true := by simp [zeroA, zA, emptyL]
theorem zeroL_zL : zeroL zL = true := by simp [zeroL, zL, emptyL]
theorem itemB_ask (a : S25) (h : askG a) : itemB 1 a zL = true := by
  unfold itemB
  rw [if_pos rfl, h.1, zeroL_zL, Bool.true_and, Bool.true_and, decide_eq_false (by have := h.2; omega)]
  rfl
theorem itemB_line (l : S27) (h : lineG l) : itemB 2 zA l = true := by
  unfold itemB
  rw [if_neg (by decide), if_pos rfl, h.1, zeroA_zA, Bool.true_and, Bool.true_and, decide_eq_false (by have := h.2; omega)]
  rfl
theorem itemV_ask (a : S25) (h : askG a) : itemV 1 a zL = askV a := by unfold itemV; rw [if_pos (itemB_ask a h), if_pos rfl]
theorem itemV_line (l : S27) (h : lineG l) : itemV 2 zA l = lineV l := by unfold itemV; rw [if_pos (itemB_line l h), if_neg (by decide)]
theorem itemV_good (k : Int) (a : S25) (l : S27) : itemV k a l = [] ∨ goodB (itemV k a l) := by
  by_cases h : itemB k a l = true
  · right
    unfold itemV
    rw [if_pos h]
    unfold itemB at h
    by_cases c : k = 1
    · rw [if_pos c] at h ⊢
      simp only [Bool.and_eq_true, Bool.not_eq_true', decide_eq_false_iff_not] at h
      exact .inl ⟨a, ⟨h.1, by omega⟩, rfl⟩
    · rw [if_neg c] at h ⊢
      by_cases d : k = 2
      · rw [if_pos d] at h
        simp only [Bool.and_eq_true, Bool.not_eq_true', decide_eq_false_iff_not] at h
        exact .inr ⟨l, ⟨h.1, by omega⟩, rfl⟩
      · rw [if_neg d] at h
        cases h
  · left
    unfold itemV
    rw [if_neg h]
theorem nameB_textU (s : ByteArray) (h : nameB s = true) : textB s = true := by
  unfold nameB at h
  rw [Bool.and_eq_true, allF_iff, inB_iff] at h
  unfold textB
  rw [Bool.and_eq_true, allF_iff]
  refine ⟨fun j h0 h1 => ?_, decide_eq_true (by omega)⟩
  have := (byteIn_iff _ _ _ _).1 (h.1 j h0 h1)
  exact (byteIn_iff _ _ _ _).2 (by omega)
theorem textB_empty (s : ByteArray) (h : s.toList = ([] : List UInt8)) : textB s = true := by
  have e : s.size = 0 := by
    have h2 : s.toList.length = s.size := by rw [ByteArray.toList_eq]; simp
    rw [h] at h2
    simpa using h2.symm
  unfold textB
  rw [e]
  rfl
theorem ask_ranges (a : S25) (h : askG a) : (0 ≤ a.f0 ∧ a.f0 ≤ 65535) ∧ (0 ≤ a.f2 ∧ a.f2 ≤ 255) ∧ (0 ≤ a.f3 ∧ a.f3 ≤ 65535) ∧ (0 ≤ a.f4 ∧ a.f4 ≤ 100000) ∧ (0 ≤ a.f6 ∧ a.f6 ≤ 65535) ∧ (0 ≤ a.f7 ∧ a.f7 ≤ 65535) ∧ textB a.f1 = true ∧ textB a.f5 = true := by
  obtain ⟨h, h7⟩ := h
  unfold askerB at h
  rw [Bool.and_eq_true, inB_iff] at h
  obtain ⟨h0, h⟩ := h
  by_cases c0 : a.f2 = 0
  · rw [if_pos c0] at h
    simp only [Bool.and_eq_true, beq_iff_eq] at h
    obtain ⟨e1, e3, e4, e5, e6, e7⟩ := h
    exact ⟨by omega, by omega, by omega, by omega, by omega, by omega, textB_empty _ e1, textB_empty _ e5⟩
  rw [if_neg c0, Bool.and_eq_true] at h
  obtain ⟨hn, h⟩ := h
  have ht := nameB_textU _ hn
  by_cases c1 : a.f2 = 1
  · rw [if_pos c1] at h
    simp only [Bool.and_eq_true, beq_iff_eq] at h
    obtain ⟨e3, e4, e5, e6, e7⟩ := h
    exact ⟨by omega, by omega, by omega, by omega, by omega, by omega, ht, textB_empty _ e5⟩
  rw [if_neg c1] at h
  by_cases c2 : a.f2 = 2
  · rw [if_pos c2] at h
    simp only [Bool.and_eq_true, beq_iff_eq, inB_iff] at h
    obtain ⟨⟨e6, e7⟩, e3, e4, e5⟩ := h
    exact ⟨by omega, by omega, by omega, by omega, by omega, by omega, ht, e5⟩
  rw [if_neg c2] at h
  by_cases c3 : a.f2 = 3 ∨ a.f2 = 4
  · rw [if_pos c3] at h
    simp only [Bool.and_eq_true, beq_iff_eq, inB_iff, decide_eq_true_eq] at h
    obtain ⟨⟨e3, e4, e5⟩, e6, e7⟩ := h
    exact ⟨by omega, by omega, by omega, by omega, by omega, by omega, ht, textB_empty _ e5⟩
  · rw [if_neg c3] at h
    cases h
theorem line_ranges (l : S27) (h : lineG l) : (0 ≤ l.f0 ∧ l.f0 ≤ 65535) ∧ (0 ≤ l.f2 ∧ l.f2 ≤ 65535) ∧ (0 ≤ l.f3 ∧ l.f3 ≤ 255) ∧ (0 ≤ l.f4 ∧ l.f4 ≤ 100000) ∧ (0 ≤ l.f5 ∧ l.f5 ≤ 65535) ∧ (0 ≤ l.f6 ∧ l.f6 ≤ 65535) ∧ textB l.f1 = true := by
  obtain ⟨h, h7⟩ := h
  unfold lineB at h
  rw [Bool.and_eq_true, inB_iff, Bool.and_eq_true, Bool.and_eq_true, inB_iff] at h
  obtain ⟨h0, hn, hg, h⟩ := h
  have ht := nameB_textU _ hn
  by_cases c0 : l.f3 = 0
  · rw [if_pos c0] at h
    simp only [Bool.and_eq_true, beq_iff_eq, inB_iff] at h
    obtain ⟨e4, e5, e6⟩ := h
    exact ⟨by omega, by omega, by omega, by omega, by omega, by omega, ht⟩
  rw [if_neg c0] at h
  by_cases c1 : l.f3 = 1 ∨ l.f3 = 2
  · rw [if_pos c1] at h
    simp only [Bool.and_eq_true, beq_iff_eq, inB_iff, decide_eq_true_eq] at h
    obtain ⟨e4, e5, e6⟩ := h
    exact ⟨by omega, by omega, by omega, by omega, by omega, by omega, ht⟩
  · rw [if_neg c1] at h
    cases h
theorem askV_flat (a : S25) (h1 : textB a.f1 = true) (h5 : textB a.f5 = true) (h4 : 0 ≤ a.f4 ∧ a.f4 ≤ 100000) (h2 : 0 ≤ a.f2 ∧ a.f2 ≤ 255) : askV a = 1 :: (a.f0 / 256 % 256) :: (a.f0 % 256) :: a.f2 :: (a.f1.size : Int) :: (bytesOf a.f1 ++ ((a.f3 / 256 % 256) :: (a.f3 % 256) :: (a.f4 / 256 / 256 % 256) :: (a.f4 / 256 % 256) :: (a.f4 % 256) :: (a.f5.size : Int) :: (bytesOf a.f5 ++ [a.f6 / 256 % 256, a.f6 % 256, a.f7 / 256 % 256, a.f7 % 256]))) := by
  have z1 := textB_small _ h1
  have z5 := textB_small _ h5
  have e1 : (a.f1.size : Int) % 256 = (a.f1.size : Int) := by omega
  have e5 : (a.f5.size : Int) % 256 = (a.f5.size : Int) := by omega
  have e2 : a.f2 % 256 = a.f2 := by omega
  have d : wrap64 (Int.tdiv a.f4 256) = a.f4 / 256 := by rw [Int.tdiv_eq_ediv_of_nonneg h4.1, w64 (by omega) (by omega)]
  have m : Int.tmod a.f4 256 % 256 = a.f4 % 256 := by rw [Int.tmod_eq_emod_of_nonneg h4.1]; omega
  simp only [askV, putWordV, putTextV, sinceV, if_pos h1, if_pos h5, e1, e5, e2, d, m, List.append_assoc, List.cons_append, List.nil_append]
theorem lineV_flat (l : S27) (h1 : textB l.f1 = true) (h4 : 0 ≤ l.f4 ∧ l.f4 ≤ 100000) (h3 : 0 ≤ l.f3 ∧ l.f3 ≤ 255) : lineV l = 2 :: (l.f0 / 256 % 256) :: (l.f0 % 256) :: l.f3 :: (l.f1.size : Int) :: (bytesOf l.f1 ++ [l.f2 / 256 % 256, l.f2 % 256, l.f4 / 256 / 256 % 256, l.f4 / 256 % 256, l.f4 % 256, l.f5 / 256 % 256, l.f5 % 256, l.f6 / 256 % 256, l.f6 % 256]) := by
  have z1 := textB_small _ h1
  have e1 : (l.f1.size : Int) % 256 = (l.f1.size : Int) := by omega
  have e3 : l.f3 % 256 = l.f3 := by omega
  have d : wrap64 (Int.tdiv l.f4 256) = l.f4 / 256 := by rw [Int.tdiv_eq_ediv_of_nonneg h4.1, w64 (by omega) (by omega)]
  have m : Int.tmod l.f4 256 % 256 = l.f4 % 256 := by rw [Int.tmod_eq_emod_of_nonneg h4.1]; omega
  simp only [lineV, putWordV, putTextV, sinceV, if_pos h1, e1, e3, d, m, List.append_assoc, List.cons_append, List.nil_append]
theorem putWordV_U (l : List Int) (n : Int) (h : bytesU l) : bytesU (putWordV l n) := by
  intro x hx
  unfold putWordV at hx
  rcases List.mem_append.1 hx with hx | hx
  · exact h x hx
  · simp only [List.mem_cons, List.not_mem_nil, or_false] at hx
    rcases hx with rfl | rfl <;> omega
theorem putTextV_U (l : List Int) (s : ByteArray) (h : bytesU l) : bytesU (putTextV l s) := by
  intro x hx
  unfold putTextV at hx
  split at hx
  · rcases List.mem_append.1 hx with hx | hx
    · rcases List.mem_append.1 hx with hx | hx
      · exact h x hx
      · rw [List.mem_singleton] at hx; omega
    · exact bytesOf_U s x hx
  · exact h x hx
theorem one_U (l : List Int) (n : Int) (h : bytesU l) : bytesU (l ++ [n % 256]) := by
  intro x hx
  rcases List.mem_append.1 hx with hx | hx
  · exact h x hx
  · rw [List.mem_singleton] at hx; omega
theorem itemV_U (k : Int) (a : S25) (l : S27) : bytesU (itemV k a l) := by
  have n1 : bytesU [1] := by intro x hx; rw [List.mem_singleton] at hx; omega
  have n2 : bytesU [2] := by intro x hx; rw [List.mem_singleton] at hx; omega
  unfold itemV
  split
  · split
    · exact putWordV_U _ _ (putWordV_U _ _ (putTextV_U _ _ (one_U _ _ (putWordV_U _ _ (putWordV_U _ _ (putTextV_U _ _ (one_U _ _ (putWordV_U _ _ n1))))))))
    · exact putWordV_U _ _ (putWordV_U _ _ (one_U _ _ (putWordV_U _ _ (putWordV_U _ _ (putTextV_U _ _ (one_U _ _ (putWordV_U _ _ n2)))))))
  · intro x hx; cases hx
theorem strU_inj (l m : List Int) (hl : bytesU l) (hm : bytesU m) (h : (strOfNums l).toList = (strOfNums m).toList) : l = m := by
  have back : ∀ z : List Int, bytesU z → ((strOfNums z).toList.map fun u => (u.toNat : Int)) = z := by
    intro z hz
    rw [ByteArray.toList_eq]
    simp only [strOfNums, List.map_map]
    conv => rhs; rw [← List.map_id z]
    refine List.map_congr_left (fun x hx => ?_)
    have := hz x hx
    simp only [Function.comp, id]
    rw [UInt8.toNat_ofNat']
    omega
  rw [← back l hl, ← back m hm, h]
theorem sB (b p s : List Int) (x i : Int) (hl : b.length ≤ 1000000000000) (hb : b = p ++ x :: s) (hi : i = p.length) (h0 : 0 ≤ x ∧ x < 256) : spec_l9Byte.f b i false = some (x, i + 1, false) := by
  subst hb hi
  exact spec_l9Byte_at p x s h0.1 h0.2 hl
theorem sW (b p s : List Int) (x y i : Int) (hl : b.length ≤ 1000000000000) (hb : b = p ++ x :: y :: s) (hi : i = p.length) (h0 : 0 ≤ x ∧ x < 256) (h1 : 0 ≤ y ∧ y < 256) : spec_l9Word.f b i false = some (x * 256 + y, i + 2, false) := by
  subst hb hi
  exact spec_l9Word_at p x y s h0 h1 hl
theorem sT (b p s : List Int) (t : ByteArray) (i : Int) (hl : b.length ≤ 1000000000000) (hb : b = p ++ (t.size : Int) :: (bytesOf t ++ s)) (hi : i = p.length) (h0 : textB t = true) : Ev (fun k => spec_l9Text.f k b i false) (t, i + 1 + (t.size : Int), false) := by
  subst hb hi
  exact spec_l9Text_at p t s h0 hl
theorem sameEq (b : List Int) : ((strOfNums b).toList == (strOfNums b).toList) = true := by simp
theorem spec_GetItem_ask (a : S25) (h : askG a) : Ev (fun k => spec_GetItem.f k (askV a)) (1, a.f0, a.f1, a.f2, a.f3, a.f4, a.f5, a.f6, a.f7, 0, ⟨#[]⟩, 0, 0, 0, 0, 0, true) := by
  obtain ⟨r0, r2, r3, r4, r6, r7, t1, t5⟩ := ask_ranges a h
  have hf := askV_flat a t1 t5 r4 r2
  have hl := (askV_len a).2
  have z1 := textB_small _ t1
  have z5 := textB_small _ t5
  have hp := spec_PutItem_ev 1 a zL (by omega) (by omega) (by decide)
  rw [itemV_ask a h] at hp
  generalize askV a = b at hf hl hp
  have hl' : b.length ≤ 1000000000000 := by omega
  have v0 : a.f0 / 256 % 256 * 256 + a.f0 % 256 = a.f0 := by omega
  have v3 : a.f3 / 256 % 256 * 256 + a.f3 % 256 = a.f3 := by omega
  have v6 : a.f6 / 256 % 256 * 256 + a.f6 % 256 = a.f6 := by omega
  have v7 : a.f7 / 256 % 256 * 256 + a.f7 % 256 = a.f7 := by omega
  have v4 : wrap64 (wrap64 (256 * (a.f4 / 256 / 256 % 256 * 256 + a.f4 / 256 % 256)) + a.f4 % 256) = a.f4 := by
    rw [w64 (x := 256 * (a.f4 / 256 / 256 % 256 * 256 + a.f4 / 256 % 256)) (by omega) (by omega), w64 (by omega) (by omega)]
    omega
  have e0 := sB b [] _ 1 0 hl' hf rfl (by omega)
  have e1 := sW b [1] _ _ _ (0 + 1) hl' hf rfl (by omega) (by omega)
  have e2 := sB b [1, a.f0 / 256 % 256, a.f0 % 256] _ _ (0 + 1 + 2) hl' hf rfl (by omega)
  have e3 := sT b [1, a.f0 / 256 % 256, a.f0 % 256, a.f2] _ a.f1 (0 + 1 + 2 + 1) hl' hf rfl t1
  have e4 := sW b (1 :: (a.f0 / 256 % 256) :: (a.f0 % 256) :: a.f2 :: (a.f1.size : Int) :: bytesOf a.f1) _ _ _ (0 + 1 + 2 + 1 + 1 + (a.f1.size : Int)) hl' hf (by simp [bytesOf_len]; omega) (by omega) (by omega)
  have e5 := sW b (1 :: (a.f0 / 256 % 256) :: (a.f0 % 256) :: a.f2 :: (a.f1.size : Int) :: (bytesOf a.f1 ++ [a.f3 / 256 % 256, a.f3 % 256])) _ _ _ (0 + 1 + 2 + 1 + 1 + (a.f1.size : Int) + 2) hl' (by rw [hf]; simp only [List.cons_append, List.append_assoc, List.nil_append] <;> rfl) (by simp [bytesOf_len]; omega) (by omega) (by omega)
  have e6 := sB b (1 :: (a.f0 / 256 % 256) :: (a.f0 % 256) :: a.f2 :: (a.f1.size : Int) :: (bytesOf a.f1 ++ [a.f3 / 256 % 256, a.f3 % 256, a.f4 / 256 / 256 % 256, a.f4 / 256 % 256])) _ _ (0 + 1 + 2 + 1 + 1 + (a.f1.size : Int) + 2 + 2) hl' (by rw [hf]; simp only [List.cons_append, List.append_assoc, List.nil_append] <;> rfl) (by simp [bytesOf_len]; omega) (by omega)
  have e7 := sT b (1 :: (a.f0 / 256 % 256) :: (a.f0 % 256) :: a.f2 :: (a.f1.size : Int) :: (bytesOf a.f1 ++ [a.f3 / 256 % 256, a.f3 % 256, a.f4 / 256 / 256 % 256, a.f4 / 256 % 256, a.f4 % 256])) _ a.f5 (0 + 1 + 2 + 1 + 1 + (a.f1.size : Int) + 2 + 2 + 1) hl' (by rw [hf]; simp only [List.cons_append, List.append_assoc, List.nil_append] <;> rfl) (by simp [bytesOf_len]; omega) t5
  have e8 := sW b (1 :: (a.f0 / 256 % 256) :: (a.f0 % 256) :: a.f2 :: (a.f1.size : Int) :: (bytesOf a.f1 ++ ((a.f3 / 256 % 256) :: (a.f3 % 256) :: (a.f4 / 256 / 256 % 256) :: (a.f4 / 256 % 256) :: (a.f4 % 256) :: (a.f5.size : Int) :: bytesOf a.f5))) _ _ _ (0 + 1 + 2 + 1 + 1 + (a.f1.size : Int) + 2 + 2 + 1 + 1 + (a.f5.size : Int)) hl' (by rw [hf]; simp only [List.cons_append, List.append_assoc, List.nil_append] <;> rfl) (by simp [bytesOf_len]; omega) (by omega) (by omega)
  have e9 := sW b (1 :: (a.f0 / 256 % 256) :: (a.f0 % 256) :: a.f2 :: (a.f1.size : Int) :: (bytesOf a.f1 ++ ((a.f3 / 256 % 256) :: (a.f3 % 256) :: (a.f4 / 256 / 256 % 256) :: (a.f4 / 256 % 256) :: (a.f4 % 256) :: (a.f5.size : Int) :: (bytesOf a.f5 ++ [a.f6 / 256 % 256, a.f6 % 256])))) _ _ _ (0 + 1 + 2 + 1 + 1 + (a.f1.size : Int) + 2 + 2 + 1 + 1 + (a.f5.size : Int) + 2) hl' (by rw [hf]; simp only [List.cons_append, List.append_assoc, List.nil_append] <;> rfl) (by simp [bytesOf_len]; omega) (by omega) (by omega)
  unfold spec_GetItem.f
  refine ev_bind1 e0 (ev_pos rfl (ev_bind1 e1 (ev_bind1 e2 (ev_bind e3 (ev_bind1 e4 (ev_bind1 e5 (ev_bind1 e6 (ev_bind e7 (ev_bind1 e8 (ev_bind1 e9 ?_))))))))))
  simp only [v0, v3, v4, v6, v7]
  exact ev_step (fun k => spec_GetItem.j0.eq_2 ..) (ev_neg (by simp) (ev_bind hp (ev_bind1 rfl (ev_pos (sameEq b) (ev_now _)))))
theorem spec_GetItem_line (l : S27) (h : lineG l) : Ev (fun k => spec_GetItem.f k (lineV l)) (2, 0, ⟨#[]⟩, 0, 0, 0, ⟨#[]⟩, 0, 0, l.f0, l.f1, l.f2, l.f3, l.f4, l.f5, l.f6, true) := by
  obtain ⟨r0, r2, r3, r4, r5, r6, t1⟩ := line_ranges l h
  have hf := lineV_flat l t1 r4 r3
  have hl := (lineV_len l).2
  have z1 := textB_small _ t1
  have hp := spec_PutItem_ev 2 zA l (by decide) (by decide) (by omega)
  rw [itemV_line l h] at hp
  generalize lineV l = b at hf hl hp
  have hl' : b.length ≤ 1000000000000 := by omega
  have v0 : l.f0 / 256 % 256 * 256 + l.f0 % 256 = l.f0 := by omega
  have v2 : l.f2 / 256 % 256 * 256 + l.f2 % 256 = l.f2 := by omega
  have v5 : l.f5 / 256 % 256 * 256 + l.f5 % 256 = l.f5 := by omega
  have v6 : l.f6 / 256 % 256 * 256 + l.f6 % 256 = l.f6 := by omega
  have v4 : wrap64 (wrap64 (256 * (l.f4 / 256 / 256 % 256 * 256 + l.f4 / 256 % 256)) + l.f4 % 256) = l.f4 := by
    rw [w64 (x := 256 * (l.f4 / 256 / 256 % 256 * 256 + l.f4 / 256 % 256)) (by omega) (by omega), w64 (by omega) (by omega)]
    omega
  have e0 := sB b [] _ 2 0 hl' hf rfl (by omega)
  have e1 := sW b [2] _ _ _ (0 + 1) hl' hf rfl (by omega) (by omega)
  have e2 := sB b [2, l.f0 / 256 % 256, l.f0 % 256] _ _ (0 + 1 + 2) hl' hf rfl (by omega)
  have e3 := sT b [2, l.f0 / 256 % 256, l.f0 % 256, l.f3] _ l.f1 (0 + 1 + 2 + 1) hl' hf rfl t1
  have e4 := sW b (2 :: (l.f0 / 256 % 256) :: (l.f0 % 256) :: l.f3 :: (l.f1.size : Int) :: bytesOf l.f1) _ _ _ (0 + 1 + 2 + 1 + 1 + (l.f1.size : Int)) hl' hf (by simp [bytesOf_len]; omega) (by omega) (by omega)
  have e5 := sW b (2 :: (l.f0 / 256 % 256) :: (l.f0 % 256) :: l.f3 :: (l.f1.size : Int) :: (bytesOf l.f1 ++ [l.f2 / 256 % 256, l.f2 % 256])) _ _ _ (0 + 1 + 2 + 1 + 1 + (l.f1.size : Int) + 2) hl' (by rw [hf]; simp only [List.cons_append, List.append_assoc, List.nil_append] <;> rfl) (by simp [bytesOf_len]; omega) (by omega) (by omega)
  have e6 := sB b (2 :: (l.f0 / 256 % 256) :: (l.f0 % 256) :: l.f3 :: (l.f1.size : Int) :: (bytesOf l.f1 ++ [l.f2 / 256 % 256, l.f2 % 256, l.f4 / 256 / 256 % 256, l.f4 / 256 % 256])) _ _ (0 + 1 + 2 + 1 + 1 + (l.f1.size : Int) + 2 + 2) hl' (by rw [hf]; simp only [List.cons_append, List.append_assoc, List.nil_append] <;> rfl) (by simp [bytesOf_len]; omega) (by omega)
  have e7 := sW b (2 :: (l.f0 / 256 % 256) :: (l.f0 % 256) :: l.f3 :: (l.f1.size : Int) :: (bytesOf l.f1 ++ [l.f2 / 256 % 256, l.f2 % 256, l.f4 / 256 / 256 % 256, l.f4 / 256 % 256, l.f4 % 256])) _ _ _ (0 + 1 + 2 + 1 + 1 + (l.f1.size : Int) + 2 + 2 + 1) hl' (by rw [hf]; simp only [List.cons_append, List.append_assoc, List.nil_append] <;> rfl) (by simp [bytesOf_len]; omega) (by omega) (by omega)
  have e8 := sW b (2 :: (l.f0 / 256 % 256) :: (l.f0 % 256) :: l.f3 :: (l.f1.size : Int) :: (bytesOf l.f1 ++ [l.f2 / 256 % 256, l.f2 % 256, l.f4 / 256 / 256 % 256, l.f4 / 256 % 256, l.f4 % 256, l.f5 / 256 % 256, l.f5 % 256])) _ _ _ (0 + 1 + 2 + 1 + 1 + (l.f1.size : Int) + 2 + 2 + 1 + 2) hl' (by rw [hf]; simp only [List.cons_append, List.append_assoc, List.nil_append] <;> rfl) (by simp [bytesOf_len]; omega) (by omega) (by omega)
  unfold spec_GetItem.f
  refine ev_bind1 e0 (ev_neg (by show ¬ (2 : Int) = 1; omega) (ev_bind1 e1 (ev_bind1 e2 (ev_bind e3 (ev_bind1 e4 (ev_bind1 e5 (ev_bind1 e6 (ev_bind1 e7 (ev_bind1 e8 ?_)))))))))
  simp only [v0, v2, v4, v5, v6]
  exact ev_step (fun k => spec_GetItem.j0.eq_2 ..) (ev_neg (by simp) (ev_bind hp (ev_bind1 rfl (ev_pos (sameEq b) (ev_now _)))))
theorem spec_GetItem_j0 (b : List Int) (hU : bytesU b) (hg : ¬ goodB b) (i : Int) (bad : Bool) (hbad : b = [] → bad = true) (k : Int) (a : S25) (l : S27) (h1 : a.f1.size ≤ 2000000) (h5 : a.f5.size ≤ 2000000) (hl : l.f1.size ≤ 2000000) :
    Ev (fun n => spec_GetItem.j0 n b b i bad k a.f0 a.f1 a.f2 a.f3 a.f4 a.f5 a.f6 a.f7 l.f0 l.f1 l.f2 l.f3 l.f4 l.f5 l.f6) (0, 0, ⟨#[]⟩, 0, 0, 0, ⟨#[]⟩, 0, 0, 0, ⟨#[]⟩, 0, 0, 0, 0, 0, false) := by
  by_cases c : bad = true
  · exact ev_step (fun k => spec_GetItem.j0.eq_2 ..) (ev_pos c (ev_now _))
  refine ev_step (fun k => spec_GetItem.j0.eq_2 ..) (ev_neg c (ev_bind (spec_PutItem_ev k a l (by omega) (by omega) (by omega)) (ev_bind1 rfl (ev_neg ?_ (ev_now _)))))
  intro e
  have e2 := strU_inj _ _ (itemV_U k a l) hU (by simpa using e)
  rcases itemV_good k a l with h | h
  · exact c (hbad (e2 ▸ h))
  · exact hg (e2 ▸ h)
theorem spec_GetItem_bad (b : List Int) (hU : bytesU b) (hl : b.length ≤ 1048576) (hg : ¬ goodB b) : Ev (fun k => spec_GetItem.f k b) (0, 0, ⟨#[]⟩, 0, 0, 0, ⟨#[]⟩, 0, 0, 0, ⟨#[]⟩, 0, 0, 0, 0, 0, false) := by
  unfold spec_GetItem.f
  have hl' : b.length ≤ 1000000000000 := by omega
  obtain ⟨v, i0, b0, e0, p0, q0, _⟩ := spec_l9Byte_some b 0 false hl' (by omega) (by omega)
  have hb0 : b = [] → b0 = true := by
    rintro rfl
    have e : spec_l9Byte.f [] 0 false = some (0, 0, true) := by unfold spec_l9Byte.f; rfl
    rw [e] at e0
    injection e0 with e0
    injection e0 with _ e0
    injection e0 with _ e0
    exact e0.symm
  obtain ⟨so, i1, b1, e1, p1, q1, m1⟩ := spec_l9Word_some b i0 b0 hl' p0 q0
  obtain ⟨st, i2, b2, e2, p2, q2, m2⟩ := spec_l9Byte_some b i1 b1 hl' p1 q1
  obtain ⟨db, i3, b3, e3, z3, p3, q3, m3⟩ := spec_l9Text_some b i2 b2 hU hl p2 q2
  obtain ⟨n4, i4, b4, e4, p4, q4, m4⟩ := spec_l9Word_some b i3 b3 hl' p3 q3
  obtain ⟨n5, i5, b5, e5, p5, q5, m5⟩ := spec_l9Word_some b i4 b4 hl' p4 q4
  obtain ⟨n6, i6, b6, e6, p6, q6, m6⟩ := spec_l9Byte_some b i5 b5 hl' p5 q5
  by_cases c : v = 1
  · obtain ⟨q, i7, b7, e7, z7, p7, q7, m7⟩ := spec_l9Text_some b i6 b6 hU hl p6 q6
    obtain ⟨n8, i8, b8, e8, p8, q8, m8⟩ := spec_l9Word_some b i7 b7 hl' p7 q7
    obtain ⟨n9, i9, b9, e9, p9, q9, m9⟩ := spec_l9Word_some b i8 b8 hl' p8 q8
    refine ev_bind1 e0 (ev_pos c (ev_bind1 e1 (ev_bind1 e2 (ev_bind e3 (ev_bind1 e4 (ev_bind1 e5 (ev_bind1 e6 (ev_bind e7 (ev_bind1 e8 (ev_bind1 e9 ?_))))))))))
    exact spec_GetItem_j0 b hU hg i9 b9 (fun h => m9 (m8 (m7 (m6 (m5 (m4 (m3 (m2 (m1 (hb0 h)))))))))) v ⟨so, db, st, n4, wrap64 (wrap64 (256 * n5) + n6), q, n8, n9⟩ zL z3 z7 (by decide)
  · obtain ⟨n7, i7, b7, e7, p7, q7, m7⟩ := spec_l9Word_some b i6 b6 hl' p6 q6
    obtain ⟨n8, i8, b8, e8, p8, q8, m8⟩ := spec_l9Word_some b i7 b7 hl' p7 q7
    refine ev_bind1 e0 (ev_neg c (ev_bind1 e1 (ev_bind1 e2 (ev_bind e3 (ev_bind1 e4 (ev_bind1 e5 (ev_bind1 e6 (ev_bind1 e7 (ev_bind1 e8 ?_)))))))))
    exact spec_GetItem_j0 b hU hg i8 b8 (fun h => m8 (m7 (m6 (m5 (m4 (m3 (m2 (m1 (hb0 h))))))))) v zA ⟨so, db, n4, st, wrap64 (wrap64 (256 * n5) + n6), n7, n8⟩ (by decide) (by decide) z3
def okA (a : S25) : Prop := a.f1.size ≤ 101 ∧ a.f5.size ≤ 101
def okL (l : S27) : Prop := l.f1.size ≤ 101
theorem askG_okA (a : S25) (h : askG a) : okA a := by
  obtain ⟨_, _, _, _, _, _, t1, t5⟩ := ask_ranges a h
  have := textB_small _ t1
  have := textB_small _ t5
  exact ⟨by omega, by omega⟩
theorem lineG_okL (l : S27) (h : lineG l) : okL l := by
  obtain ⟨_, _, _, _, _, _, t1⟩ := line_ranges l h
  have := textB_small _ t1
  show l.f1.size ≤ 101
  omega
theorem spec_l9Asker_good (b : List Int) (i h : Int) (hc : curB b i) (hb : b.length ≤ 4611686018427387904) : ∃ (x : S25) (i' h' : Int), Ev (fun k => spec_l9Asker.f k b i h) (x.f0, x.f1, x.f2, x.f3, x.f4, x.f5, x.f6, x.f7, i', h') ∧ askG x ∧ curB b i' := by
  unfold spec_l9Asker.f
  obtain ⟨v1, i1, h1, e1, g1, _, k1⟩ := spec_l1Below_some b i h 9 hc hb
  obtain ⟨v2, i2, h2, e2, g2, _, k2⟩ := spec_l1Below_some b i1 h1 5 k1 hb
  have r1 := g1 (by omega)
  have r2 := g2 (by omega)
  have w1 : wrap64 (1 + v1) = 1 + v1 := w64 (by omega) (by omega)
  have hs : inB (1 + v1) 1 9999 = true := (inB_iff _ _ _).2 (by omega)
  by_cases c : v2 = 0
  · subst c
    refine ⟨⟨1 + v1, ⟨#[]⟩, 0, 0, 0, ⟨#[]⟩, 0, 0⟩, i2, h2, ?_, ⟨?_, show (0 : Int) ≤ 65535 by omega⟩, k2⟩
    · refine ev_bind1 e1 (ev_bind1 e2 (ev_pos rfl ?_))
      simp only [w1]
      exact ev_step (fun k => spec_l9Asker.j0.eq_2 ..) (ev_neg (by omega) (ev_neg (by omega) (ev_step (fun k => spec_l9Asker.j1.eq_2 ..) (ev_neg (by simp) (ev_now _)))))
    · show askerB (1 + v1) ⟨#[]⟩ 0 0 0 ⟨#[]⟩ 0 0 = true
      simp [askerB, hs, emptyL]
  obtain ⟨q, i3, h3, e3, m3, k3⟩ := spec_l1Str_some b i2 h2 [(⟨#[109, 97, 105, 110]⟩ : ByteArray), (⟨#[108, 111, 103, 115]⟩ : ByteArray), (⟨#[97, 100, 109, 105, 110]⟩ : ByteArray)] (by simp) k2 hb
  have hn : nameB q = true := by
    simp only [List.mem_cons, List.not_mem_nil, or_false] at m3
    rcases m3 with rfl | rfl | rfl <;> decide
  by_cases c2 : v2 = 2
  · subst c2
    obtain ⟨v4, i4, h4, e4, g4, _, k4⟩ := spec_l1Below_some b i3 h3 9 k3 hb
    obtain ⟨v5, i5, h5, e5, m5, k5⟩ := spec_l1Int_some b i4 h4 [0, 7, 300, 100000] (by simp) k4 hb
    obtain ⟨t, i6, h6, e6, ht, k6⟩ := spec_l7Query_some b i5 h5 k5 hb
    have r4 := g4 (by omega)
    have r5 : 0 ≤ v5 ∧ v5 ≤ 100000 := by
      simp only [List.mem_cons, List.not_mem_nil, or_false] at m5
      omega
    refine ⟨⟨1 + v1, q, 2, v4, v5, t, 0, 0⟩, i6, h6, ?_, ⟨?_, show (0 : Int) ≤ 65535 by omega⟩, k6⟩
    · refine ev_bind1 e1 (ev_bind1 e2 (ev_neg (by omega) (ev_bind1 e3 ?_)))
      simp only [w1]
      exact ev_step (fun k => spec_l9Asker.j0.eq_2 ..) (ev_pos rfl (ev_bind1 e4 (ev_bind1 e5 (ev_bind1 e6 (ev_now _)))))
    · show askerB (1 + v1) q 2 v4 v5 t 0 0 = true
      simp [askerB, hs, hn, ht, (inB_iff v4 0 65535).2 (by omega), (inB_iff v5 0 100000).2 r5]
  have fin : ∀ c : Bool, Ev (fun k => spec_l9Asker.j1 k c b i3 h3 (1 + v1) q v2 0 0 ⟨#[]⟩ 0 0) (1 + v1, q, v2, 0, 0, ⟨#[]⟩, 0, 0, i3, h3) ∨ c = true := by
    intro c
    cases c with
    | false => exact .inl (ev_step (fun k => spec_l9Asker.j1.eq_2 ..) (ev_neg (by simp) (ev_now _)))
    | true => exact .inr rfl
  by_cases c34 : v2 = 3 ∨ v2 = 4
  · obtain ⟨v4, i4, h4, e4, g4, _, k4⟩ := spec_l1Below_some b i3 h3 9 k3 hb
    obtain ⟨v5, i5, h5, e5, g5, _, k5⟩ := spec_l1Below_some b i4 h4 900 k4 hb
    have r4 := g4 (by omega)
    have r5 := g5 (by omega)
    have w4 : wrap64 (1 + v4) = 1 + v4 := w64 (by omega) (by omega)
    have w5 : wrap64 (1 + v5) = 1 + v5 := w64 (by omega) (by omega)
    have hj : Ev (fun k => spec_l9Asker.j1 k true b i3 h3 (1 + v1) q v2 0 0 ⟨#[]⟩ 0 0) (1 + v1, q, v2, 0, 0, ⟨#[]⟩, 1 + v4, 1 + v5, i5, h5) := by
      refine ev_step (fun k => spec_l9Asker.j1.eq_2 ..) (ev_pos rfl (ev_bind1 e4 (ev_bind1 e5 ?_)))
      simp only [w4, w5]
      exact ev_now _
    refine ⟨⟨1 + v1, q, v2, 0, 0, ⟨#[]⟩, 1 + v4, 1 + v5⟩, i5, h5, ?_, ⟨?_, show 1 + v5 ≤ 65535 by omega⟩, k5⟩
    · refine ev_bind1 e1 (ev_bind1 e2 (ev_neg c (ev_bind1 e3 ?_)))
      simp only [w1]
      refine ev_step (fun k => spec_l9Asker.j0.eq_2 ..) (ev_neg c2 ?_)
      rcases c34 with rfl | rfl
      · exact ev_pos rfl hj
      · exact ev_neg (by omega) hj
    · show askerB (1 + v1) q v2 0 0 ⟨#[]⟩ (1 + v4) (1 + v5) = true
      have h4 := (inB_iff (1 + v4) 1 9999).2 (by omega)
      rcases c34 with rfl | rfl <;> simp [askerB, hs, hn, h4, emptyL] <;> omega
  · have c1 : v2 = 1 := by omega
    subst c1
    refine ⟨⟨1 + v1, q, 1, 0, 0, ⟨#[]⟩, 0, 0⟩, i3, h3, ?_, ⟨?_, show (0 : Int) ≤ 65535 by omega⟩, k3⟩
    · refine ev_bind1 e1 (ev_bind1 e2 (ev_neg (by omega) (ev_bind1 e3 ?_)))
      simp only [w1]
      refine ev_step (fun k => spec_l9Asker.j0.eq_2 ..) (ev_neg (by omega) (ev_neg (by omega) ?_))
      exact ev_step (fun k => spec_l9Asker.j1.eq_2 ..) (ev_neg (by simp) (ev_now _))
    · show askerB (1 + v1) q 1 0 0 ⟨#[]⟩ 0 0 = true
      simp [askerB, hs, hn, emptyL]
theorem spec_l9Line_good (b : List Int) (i h : Int) (hc : curB b i) (hb : b.length ≤ 4611686018427387904) : ∃ (x : S27) (i' h' : Int), spec_l9Line.f b i h = some (x.f0, x.f1, x.f2, x.f3, x.f4, x.f5, x.f6, i', h') ∧ lineG x ∧ curB b i' := by
  unfold spec_l9Line.f
  obtain ⟨v1, i1, h1, e1, g1, _, k1⟩ := spec_l1Below_some b i h 9 hc hb
  obtain ⟨q, i2, h2, e2, m2, k2⟩ := spec_l1Str_some b i1 h1 [(⟨#[109, 97, 105, 110]⟩ : ByteArray), (⟨#[108, 111, 103, 115]⟩ : ByteArray)] (by simp) k1 hb
  obtain ⟨v3, i3, h3, e3, g3, _, k3⟩ := spec_l1Below_some b i2 h2 3 k2 hb
  obtain ⟨v4, i4, h4, e4, g4, _, k4⟩ := spec_l1Below_some b i3 h3 3 k3 hb
  have hn : nameB q = true := by
    simp only [List.mem_cons, List.not_mem_nil, or_false] at m2
    rcases m2 with rfl | rfl <;> decide
  have r1 := g1 (by omega)
  have r3 := g3 (by omega)
  have r4 := g4 (by omega)
  have w1 : wrap64 (1 + v1) = 1 + v1 := w64 (by omega) (by omega)
  have w3 : wrap64 (1 + v3) = 1 + v3 := w64 (by omega) (by omega)
  have hs : inB (1 + v1) 1 9999 = true := (inB_iff _ _ _).2 (by omega)
  have hg : inB (1 + v3) 1 60000 = true := (inB_iff _ _ _).2 (by omega)
  simp only [e1, e2, e3, e4, Option.bind_some, w1, w3]
  by_cases c : v4 = 0
  · obtain ⟨v5, i5, h5, e5, m5, k5⟩ := spec_l1Int_some b i4 h4 [0, 7, 300, 100000] (by simp) k4 hb
    have r5 : 0 ≤ v5 ∧ v5 ≤ 100000 := by
      simp only [List.mem_cons, List.not_mem_nil, or_false] at m5
      omega
    rw [if_pos c]
    refine ⟨⟨1 + v1, q, 1 + v3, v4, v5, 0, 0⟩, i5, h5, by rw [e5]; rfl, ⟨?_, show (0 : Int) ≤ 65535 by omega⟩, k5⟩
    show lineB (1 + v1) q (1 + v3) v4 v5 0 0 = true
    subst c
    simp [lineB, hs, hn, hg, (inB_iff v5 0 100000).2 r5]
  · obtain ⟨v5, i5, h5, e5, g5, _, k5⟩ := spec_l1Below_some b i4 h4 9 k4 hb
    obtain ⟨v6, i6, h6, e6, g6, _, k6⟩ := spec_l1Below_some b i5 h5 900 k5 hb
    have r5 := g5 (by omega)
    have r6 := g6 (by omega)
    have w5 : wrap64 (1 + v5) = 1 + v5 := w64 (by omega) (by omega)
    have w6 : wrap64 (1 + v6) = 1 + v6 := w64 (by omega) (by omega)
    have h5' := (inB_iff (1 + v5) 1 9999).2 (by omega)
    rw [if_neg c]
    refine ⟨⟨1 + v1, q, 1 + v3, v4, 0, 1 + v5, 1 + v6⟩, i6, h6, by simp only [e5, e6, Option.bind_some, w5, w6], ⟨?_, show 1 + v6 ≤ 65535 by omega⟩, k6⟩
    show lineB (1 + v1) q (1 + v3) v4 0 (1 + v5) (1 + v6) = true
    have c12 : v4 = 1 ∨ v4 = 2 := by omega
    rcases c12 with rfl | rfl <;> simp [lineB, hs, hn, hg, h5'] <;> omega
theorem spec_l9Item_good (b : List Int) (i h : Int) (hc : curB b i) (hb : b.length ≤ 4611686018427387904) : ∃ (n : Int) (x : S25) (y : S27) (i' h' : Int), Ev (fun k => spec_l9Item.f k b i h) (n, x.f0, x.f1, x.f2, x.f3, x.f4, x.f5, x.f6, x.f7, y.f0, y.f1, y.f2, y.f3, y.f4, y.f5, y.f6, i', h') ∧ itemB n x y = true ∧ okA x ∧ okL y ∧ curB b i' := by
  unfold spec_l9Item.f
  obtain ⟨v, i1, h1, e1, k1⟩ := spec_l1Once_some b i h 2 hc hb
  by_cases c : v = true
  · obtain ⟨x, i2, h2, e2, g2, k2⟩ := spec_l9Asker_good b i1 h1 k1 hb
    exact ⟨1, x, zL, _, _, ev_bind1 e1 (ev_pos c (ev_bind e2 (ev_now _))), itemB_ask x g2, askG_okA x g2, by show (0 : Nat) ≤ 101; omega, k2⟩
  · obtain ⟨y, i2, h2, e2, g2, k2⟩ := spec_l9Line_good b i1 h1 k1 hb
    exact ⟨2, zA, y, _, _, ev_bind1 e1 (ev_neg c (ev_bind1 e2 (ev_now _))), itemB_line y g2, ⟨by show (0 : Nat) ≤ 101; omega, by show (0 : Nat) ≤ 101; omega⟩, lineG_okL y g2, k2⟩
theorem spec_l9Item_some (b : List Int) (i h : Int) (hc : curB b i) (hb : b.length ≤ 4611686018427387904) : ∃ (n : Int) (x : S25) (y : S27) (i' h' : Int), Ev (fun k => spec_l9Item.f k b i h) (n, x.f0, x.f1, x.f2, x.f3, x.f4, x.f5, x.f6, x.f7, y.f0, y.f1, y.f2, y.f3, y.f4, y.f5, y.f6, i', h') ∧ okA x ∧ okL y ∧ curB b i' := by
  obtain ⟨n, x, y, i', h', e, _, r⟩ := spec_l9Item_good b i h hc hb
  exact ⟨n, x, y, i', h', e, r⟩
def itemOkB (x : S29) : Bool := itemB x.f0 x.f1 x.f2
def partB (n of ti : Int) (m : Nat) : Bool := inB of 1 20 && (inB n 0 (wrap64 (of - 1)) && (inB ti 0 65535 && decide (m ≤ 2)))
def ctlB (ki fr id n of : Int) (pa : Bool) (ti : Int) (l : List S29) : Bool :=
  inB fr 0 1 && (inB id 1 60000 &&
    (if ki = 1 then l.all itemOkB && partB n of ti l.length
     else of == 0 && (!pa && (ti == 0 && (decide (l.length = 0) && (if ki = 2 then inB n 0 20 else if ki = 3 then n == 0 else false))))))
theorem spec_CtlOk_l0 (ki fr id n of : Int) (pa : Bool) (ti : Int) (l : List S29) (hl : l.length ≤ 1000000000) (hz : ∀ x ∈ l, x.f1.f1.size ≤ 1000000000 ∧ x.f1.f5.size ≤ 1000000000 ∧ x.f2.f1.size ≤ 1000000000) (d : Nat) : ∀ i : Nat, i + d = l.length → Ev (fun k => spec_CtlOk.l0 k (i : Int) ki fr id n of pa ti l) ((l.drop i).all itemOkB && partB n of ti l.length) := by
  induction d with
  | zero =>
    intro i hi
    refine ev_step (fun k => spec_CtlOk.l0.eq_2 ..) (ev_neg (by omega) ?_)
    have hd : l.drop i = [] := List.drop_of_length_le (by omega)
    rw [hd]
    unfold partB
    refine ev_bind1 (spec_l1In_eq _ _ _) (ev_ite (fun c => ev_bind1 (spec_l1In_eq _ _ _) (ev_ite (fun c1 => ev_bind1 (spec_l1In_eq _ _ _) (ev_ite (fun c2 => ?_) (fun c2 => ?_))) (fun c1 => ?_))) (fun c => ?_))
    · exact ev_as (ev_now _) (by simp [c, c1, c2]; omega)
    · exact ev_as (ev_now _) (by simp [c2])
    · exact ev_as (ev_now _) (by simp [c1])
    · exact ev_as (ev_now _) (by simp [c])
  | succ d ih =>
    intro i hi
    have hn := ih (i + 1) (by omega)
    have hlt : i < l.length := by omega
    have hr : rd_T29 l (i : Int) = l[i] := getD_nth _ l i hlt
    have hd : l.drop i = l[i] :: l.drop (i + 1) := List.drop_eq_getElem_cons hlt
    have h := hz l[i] (List.getElem_mem hlt)
    rw [hd, List.all_cons]
    refine ev_step (fun k => spec_CtlOk.l0.eq_2 ..) (ev_pos (by omega) (ev_pos (by omega) (?_)))
    simp only [hr]
    rw [w64 (by omega) (by omega)]
    refine ev_bind (spec_PutItem_ev l[i].f0 l[i].f1 l[i].f2 h.1 h.2.1 h.2.2) (ev_ite (fun c => ?_) (fun c => ?_))
    · have := (itemV_nil l[i].f0 l[i].f1 l[i].f2).1 (by omega)
      exact ev_as (ev_now _) (by unfold itemOkB; rw [this]; rfl)
    · have : itemB l[i].f0 l[i].f1 l[i].f2 = true := by
        rw [← Bool.not_eq_false]
        exact fun e => c (by have := (itemV_nil l[i].f0 l[i].f1 l[i].f2).2 e; omega)
      exact ev_as hn (by unfold itemOkB; rw [this]; simp)
theorem spec_CtlOk_ev (ki fr id n of : Int) (pa : Bool) (ti : Int) (l : List S29) (hl : l.length ≤ 1000000000) (hz : ∀ x ∈ l, x.f1.f1.size ≤ 1000000000 ∧ x.f1.f5.size ≤ 1000000000 ∧ x.f2.f1.size ≤ 1000000000) : Ev (fun k => spec_CtlOk.f k ki fr id n of pa ti l) (ctlB ki fr id n of pa ti l) := by
  have h0 := spec_CtlOk_l0 ki fr id n of pa ti l hl hz l.length 0 (by omega)
  unfold spec_CtlOk.f ctlB
  refine ev_bind1 (spec_l1In_eq _ _ _) (ev_ite (fun c => ev_bind1 (spec_l1In_eq _ _ _) (ev_step (fun k => spec_CtlOk.j0.eq_2 ..) (ev_ite (fun c1 => ?_) (fun c1 => ev_ite (fun c2 => ?_) (fun c2 => ?_))))) (fun c => ev_step (fun k => spec_CtlOk.j0.eq_2 ..) (ev_pos rfl (ev_as (ev_now _) (by simp [c])))))
  · exact ev_as (ev_now _) (by simp at c1; simp [c1])
  · exact ev_as h0 (by simp at c1; simp [c, c1, c2])
  · simp at c1
    refine ev_ite (fun c3 => ev_ite (fun c4 => ?_) (fun c4 => ev_ite (fun c5 => ev_ite (fun c6 => ?_) (fun c6 => ?_)) (fun c5 => ?_))) (fun c3 => ?_)
    · exact ev_as (ev_now _) (by simp [c2, c4])
    · have hn : l = [] := List.eq_nil_of_length_eq_zero (by omega)
      simp at c4
      refine ev_ite (fun c7 => ev_bind1 (spec_l1In_eq _ _ _) (ev_ite (fun c8 => ?_) (fun c8 => ev_neg (by omega) ?_))) (fun c7 => ev_ite (fun c9 => ?_) (fun c9 => ?_))
      · exact ev_as (ev_now _) (by simp [c, c1, c3, c4, c5, c7, c8, hn])
      · exact ev_as (ev_now _) (by simp [c7, c8])
      · exact ev_as (ev_now _) (by simp [c, c1, c3, c4, c5, c9, hn])
      · exact ev_as (ev_now _) (by simp [c2, c7, c9])
    · have : ¬ l = [] := by
        intro e
        rw [e] at c6
        exact c6 rfl
      exact ev_as (ev_now _) (by simp [c2, this])
    · exact ev_as (ev_now _) (by simp [c2, c5])
    · exact ev_as (ev_now _) (by simp [c2, c3])
def okI (x : S29) : Prop := okA x.f1 ∧ okL x.f2
theorem okI_sz (l : List S29) (h : ∀ x ∈ l, okI x) : ∀ x ∈ l, x.f1.f1.size ≤ 1000000000 ∧ x.f1.f5.size ≤ 1000000000 ∧ x.f2.f1.size ≤ 1000000000 := fun x hx => by
  obtain ⟨⟨h1, h5⟩, hl⟩ := h x hx
  have hl2 : x.f2.f1.size ≤ 101 := hl
  exact ⟨by omega, by omega, by omega⟩
theorem okI_snoc {p : S29 → Prop} {l m : List S29} (h : ∀ x ∈ l, p x) (hm : ∀ x ∈ m, p x) : ∀ x ∈ l ++ m, p x := fun x hx => (List.mem_append.1 hx).elim (h x) (hm x)
theorem okI_one {p : S29 → Prop} {x : S29} (h : p x) : ∀ y ∈ [x], p y := fun y hy => by
  rw [List.mem_singleton] at hy
  exact hy ▸ h
def okJ (x : S29) : Prop := itemB x.f0 x.f1 x.f2 = true ∧ okI x
theorem spec_l11Draw_l0 (b : List Int) (hb : b.length ≤ 4611686018427387904) (ki fr id n of : Int) (pa : Bool) (ti : Int) (d : Nat) : ∀ (it : List S29) (i h : Int), (∀ x ∈ it, okJ x) → curB b i → it.length + d ≤ 1000 → ∃ (it' : List S29) (i' h' : Int), Ev (fun k => spec_l11Draw.l0 k (d : Int) b i h ki fr id n of pa ti it) (ki, fr, id, n, of, pa, ti, it', i', h') ∧ (∀ x ∈ it', okJ x) ∧ it'.length ≤ it.length + d ∧ curB b i' := by
  induction d with
  | zero =>
    intro it i h ho hc hl
    exact ⟨it, i, h, ev_step (fun k => spec_l11Draw.l0.eq_2 ..) (ev_neg (by omega) (ev_now _)), ho, by omega, hc⟩
  | succ d ih =>
    intro it i h ho hc hl
    obtain ⟨v, x, y, i1, h1, e1, g1, ox, oy, c1⟩ := spec_l9Item_good b i h hc hb
    obtain ⟨it', i2, h2, e2, o2, l2, c2⟩ := ih (it ++ [(⟨v, ⟨x.f0, x.f1, x.f2, x.f3, x.f4, x.f5, x.f6, x.f7⟩, ⟨y.f0, y.f1, y.f2, y.f3, y.f4, y.f5, y.f6⟩⟩ : S29)]) i1 h1 (okI_snoc ho (okI_one (p := okJ) ⟨g1, ox, oy⟩)) c1 (by rw [List.length_append, List.length_singleton]; omega)
    refine ⟨it', i2, h2, ev_step (fun k => spec_l11Draw.l0.eq_2 ..) (ev_pos (by omega) (ev_bind e1 (ev_pos (by omega) ?_))), o2, by rw [List.length_append, List.length_singleton] at l2; omega, c2⟩
    rw [show wrap64 (((d + 1 : Nat) : Int) - 1) = (d : Int) from by rw [w64 (by omega) (by omega)]; omega]
    exact e2
theorem spec_l11Draw_good (b : List Int) (i h : Int) (hc : curB b i) (hb : b.length ≤ 4611686018427387904) : ∃ (ki fr id n of : Int) (pa : Bool) (ti : Int) (it : List S29) (i' h' : Int), Ev (fun k => spec_l11Draw.f k b i h) (ki, fr, id, n, of, pa, ti, it, i', h') ∧ ctlB ki fr id n of pa ti it = true ∧ (∀ x ∈ it, okI x) ∧ it.length ≤ 3 ∧ curB b i' := by
  unfold spec_l11Draw.f
  obtain ⟨v1, i1, h1, e1, g1, _, c1⟩ := spec_l1Below_some b i h 3 hc hb
  obtain ⟨v2, i2, h2, e2, g2, _, c2⟩ := spec_l1Below_some b i1 h1 2 c1 hb
  obtain ⟨v3, i3, h3, e3, g3, _, c3⟩ := spec_l1Below_some b i2 h2 5 c2 hb
  have r1 := g1 (by omega)
  have r2 := g2 (by omega)
  have r3 := g3 (by omega)
  have w1 : wrap64 (1 + v1) = 1 + v1 := w64 (by omega) (by omega)
  have w3 : wrap64 (1 + v3) = 1 + v3 := w64 (by omega) (by omega)
  have hf := (inB_iff v2 0 1).2 (by omega)
  have hi := (inB_iff (1 + v3) 1 60000).2 (by omega)
  by_cases k1 : 1 + v1 = 1
  · obtain ⟨v4, i4, h4, e4, g4, _, c4⟩ := spec_l1Below_some b i3 h3 3 c3 hb
    have r4 := g4 (by omega)
    have w4 : wrap64 (1 + v4) = 1 + v4 := w64 (by omega) (by omega)
    obtain ⟨v5, i5, h5, e5, g5, _, c5⟩ := spec_l1Below_some b i4 h4 (1 + v4) c4 hb
    have r5 := g5 (by omega)
    obtain ⟨v6, i6, h6, e6, c6⟩ := spec_l1Once_some b i5 h5 3 c5 hb
    obtain ⟨v7, i7, h7, e7, g7, _, c7⟩ := spec_l1Below_some b i6 h6 9 c6 hb
    have r7 := g7 (by omega)
    obtain ⟨v8, i8, h8, e8, g8, _, c8⟩ := spec_l1Below_some b i7 h7 3 c7 hb
    have r8 := g8 (by omega)
    obtain ⟨it, i9, h9, e9, o9, l9, c9⟩ := spec_l11Draw_l0 b hb (1 + v1) v2 (1 + v3) v5 (1 + v4) v6 v7 v8.toNat [] i8 h8 (fun _ hx => by cases hx) c8 (by simp; omega)
    rw [show ((v8.toNat : Nat) : Int) = v8 by omega] at e9
    refine ⟨1 + v1, v2, 1 + v3, v5, 1 + v4, v6, v7, it, i9, h9, ev_bind1 e1 (ev_bind1 e2 (ev_bind1 e3 ?_)), ?_, fun x hx => (o9 x hx).2, by simp at l9; omega, c9⟩
    rotate_left
    · have ha : it.all itemOkB = true := List.all_eq_true.2 (fun x hx => (o9 x hx).1)
      have hw : wrap64 (1 + v4 - 1) = v4 := by rw [w64 (by omega) (by omega)]; omega
      unfold ctlB partB
      rw [hf, hi, if_pos k1, ha, hw, (inB_iff (1 + v4) 1 20).2 (by omega), (inB_iff v5 0 v4).2 (by omega), (inB_iff v7 0 65535).2 (by omega), decide_eq_true (show it.length ≤ 2 by simp at l9; omega)]
      rfl
    · simp only [w1, w3]
      refine ev_pos k1 (ev_bind1 e4 ?_)
      simp only [w4]
      exact ev_bind1 e5 (ev_bind1 e6 (ev_bind1 e7 (ev_bind1 e8 e9)))
  · by_cases k2 : 1 + v1 = 2
    · obtain ⟨v4, i4, h4, e4, g4, _, c4⟩ := spec_l1Below_some b i3 h3 4 c3 hb
      have r4 := g4 (by omega)
      refine ⟨1 + v1, v2, 1 + v3, v4, 0, false, 0, [], i4, h4, ev_bind1 e1 (ev_bind1 e2 (ev_bind1 e3 ?_)), ?_, (fun _ hx => by cases hx), by simp, c4⟩
      · simp only [w1, w3]
        exact ev_neg k1 (ev_pos k2 (ev_bind1 e4 (ev_now _)))
      · simp [ctlB, hf, hi, k1, k2, (inB_iff v4 0 20).2 (by omega)]
    · refine ⟨1 + v1, v2, 1 + v3, 0, 0, false, 0, [], i3, h3, ev_bind1 e1 (ev_bind1 e2 (ev_bind1 e3 ?_)), ?_, (fun _ hx => by cases hx), by simp, c3⟩
      · simp only [w1, w3]
        exact ev_neg k1 (ev_neg k2 (ev_now _))
      · have k3 : 1 + v1 = 3 := by omega
        simp [ctlB, hf, hi, k3]
theorem spec_l11Draw_some (b : List Int) (i h : Int) (hc : curB b i) (hb : b.length ≤ 4611686018427387904) : ∃ (ki fr id n of : Int) (pa : Bool) (ti : Int) (it : List S29) (i' h' : Int), Ev (fun k => spec_l11Draw.f k b i h) (ki, fr, id, n, of, pa, ti, it, i', h') ∧ (∀ x ∈ it, okI x) ∧ it.length ≤ 3 ∧ curB b i' := by
  obtain ⟨ki, fr, id, n, of, pa, ti, it, i', h', e, _, r⟩ := spec_l11Draw_good b i h hc hb
  exact ⟨ki, fr, id, n, of, pa, ti, it, i', h', e, r⟩
theorem spec_l11Any_some (b : List Int) (i h : Int) (hc : curB b i) (hb : b.length ≤ 4611686018427387904) : ∃ (ki fr id n of : Int) (pa : Bool) (ti : Int) (it : List S29) (i' h' : Int), Ev (fun k => spec_l11Any.f k b i h) (ki, fr, id, n, of, pa, ti, it, i', h') ∧ (∀ x ∈ it, okI x) ∧ it.length ≤ 6 ∧ curB b i' := by
  unfold spec_l11Any.f
  obtain ⟨ki, fr, id, n, of, pa, ti, it, i1, h1, e1, o1, l1, c1⟩ := spec_l11Draw_some b i h hc hb
  obtain ⟨v, i2, h2, e2, _, _, c2⟩ := spec_l1Below_some b i1 h1 16 c1 hb
  have z0 : okI ⟨0, ⟨0, ⟨#[]⟩, 0, 0, 0, ⟨#[]⟩, 0, 0⟩, ⟨0, ⟨#[]⟩, 0, 0, 0, 0, 0⟩⟩ := ⟨⟨by show (0 : Nat) ≤ 101; omega, by show (0 : Nat) ≤ 101; omega⟩, by show (0 : Nat) ≤ 101; omega⟩
  by_cases d0 : v = 0
  · obtain ⟨a, j, g, f, _, k⟩ := spec_l1Int_some b i2 h2 [0, 1, 2, 3, 4] (by simp) c2 hb
    exact ⟨_, _, _, _, _, _, _, it, _, _, ev_bind e1 (ev_bind1 e2 (ev_pos d0 (ev_bind1 f (ev_now _)))), o1, by omega, k⟩
  by_cases d1 : v = 1
  · obtain ⟨a, j, g, f, _, k⟩ := spec_l1Int_some b i2 h2 [(-1), 2] (by simp) c2 hb
    exact ⟨_, _, _, _, _, _, _, it, _, _, ev_bind e1 (ev_bind1 e2 (ev_neg d0 (ev_pos d1 (ev_bind1 f (ev_now _))))), o1, by omega, k⟩
  by_cases d2 : v = 2
  · obtain ⟨a, j, g, f, _, k⟩ := spec_l1Int_some b i2 h2 [0, 60000, 60001] (by simp) c2 hb
    exact ⟨_, _, _, _, _, _, _, it, _, _, ev_bind e1 (ev_bind1 e2 (ev_neg d0 (ev_neg d1 (ev_pos d2 (ev_bind1 f (ev_now _)))))), o1, by omega, k⟩
  by_cases d3 : v = 3
  · obtain ⟨a, j, g, f, _, k⟩ := spec_l1Int_some b i2 h2 [(-1), 20, 21] (by simp) c2 hb
    exact ⟨_, _, _, _, _, _, _, it, _, _, ev_bind e1 (ev_bind1 e2 (ev_neg d0 (ev_neg d1 (ev_neg d2 (ev_pos d3 (ev_bind1 f (ev_now _))))))), o1, by omega, k⟩
  by_cases d4 : v = 4
  · obtain ⟨a, j, g, f, _, k⟩ := spec_l1Int_some b i2 h2 [0, 20, 21] (by simp) c2 hb
    exact ⟨_, _, _, _, _, _, _, it, _, _, ev_bind e1 (ev_bind1 e2 (ev_neg d0 (ev_neg d1 (ev_neg d2 (ev_neg d3 (ev_pos d4 (ev_bind1 f (ev_now _)))))))), o1, by omega, k⟩
  by_cases d5 : v = 5
  · obtain ⟨a, j, g, f, _, k⟩ := spec_l1Int_some b i2 h2 [(-1), 65536] (by simp) c2 hb
    exact ⟨_, _, _, _, _, _, _, it, _, _, ev_bind e1 (ev_bind1 e2 (ev_neg d0 (ev_neg d1 (ev_neg d2 (ev_neg d3 (ev_neg d4 (ev_pos d5 (ev_bind1 f (ev_now _))))))))), o1, by omega, k⟩
  by_cases d6 : v = 6
  · obtain ⟨v1, x1, y1, j1, g1, f1, a1, b1, k1⟩ := spec_l9Item_some b i2 h2 c2 hb
    exact ⟨_, _, _, _, _, _, _, _, _, _, ev_bind e1 (ev_bind1 e2 (ev_neg d0 (ev_neg d1 (ev_neg d2 (ev_neg d3 (ev_neg d4 (ev_neg d5 (ev_pos d6 (ev_bind f1 (ev_bind1 rfl (ev_pos (show it.length + 2 < 925904528653 by omega) (ev_now _)))))))))))), okI_snoc o1 (okI_snoc (okI_one z0) (okI_one ⟨a1, b1⟩)), by rw [List.length_append]; show it.length + 2 ≤ 6; omega, k1⟩
  by_cases d7 : v = 7
  · obtain ⟨v1, x1, y1, j1, g1, f1, a1, b1, k1⟩ := spec_l9Item_some b i2 h2 c2 hb
    obtain ⟨v2, x2, y2, j2, g2, f2, a2, b2, k2⟩ := spec_l9Item_some b j1 g1 k1 hb
    obtain ⟨v3, x3, y3, j3, g3, f3, a3, b3, k3⟩ := spec_l9Item_some b j2 g2 k2 hb
    exact ⟨_, _, _, _, _, _, _, _, _, _, ev_bind e1 (ev_bind1 e2 (ev_neg d0 (ev_neg d1 (ev_neg d2 (ev_neg d3 (ev_neg d4 (ev_neg d5 (ev_neg d6 (ev_pos d7 (ev_bind f1 (ev_bind f2 (ev_bind f3 (ev_bind1 rfl (ev_pos (show it.length + 3 < 925904528653 by omega) (ev_now _))))))))))))))), okI_snoc o1 (okI_snoc (okI_one ⟨a1, b1⟩) (okI_snoc (okI_one ⟨a2, b2⟩) (okI_one ⟨a3, b3⟩))), by rw [List.length_append]; show it.length + 3 ≤ 6; omega, k3⟩
  exact ⟨_, _, _, _, _, _, _, it, _, _, ev_bind e1 (ev_bind1 e2 (ev_neg d0 (ev_neg d1 (ev_neg d2 (ev_neg d3 (ev_neg d4 (ev_neg d5 (ev_neg d6 (ev_neg d7 (ev_now _)))))))))), o1, by omega, c2⟩
theorem spec_DrawPutCtl_some (b : List Int) (hb : b.length ≤ 4611686018427387904) : ∃ (ki fr id n of : Int) (pa : Bool) (ti : Int) (it : List S29), Ev (fun k => spec_DrawPutCtl.f k b) (ki, fr, id, n, of, pa, ti, it) ∧ (∀ x ∈ it, okI x) ∧ it.length ≤ 6 := by
  unfold spec_DrawPutCtl.f
  obtain ⟨h, e0⟩ := spec_l1New_some b hb
  obtain ⟨ki, fr, id, n, of, pa, ti, it, i', h', e1, o, l, _⟩ := spec_l11Any_some b 0 h ⟨by omega, by omega⟩ hb
  exact ⟨ki, fr, id, n, of, pa, ti, it, ev_bind e0 (ev_bind e1 (ev_now _)), o, l⟩
theorem impl_isIn_eq (a b c : Int) : impl_isIn.f a b c = some (inB a b c) := by
  unfold impl_isIn.f inB
  by_cases h : b ≤ a <;> simp [h]
theorem impl_wordOk_eq (a : Int) : impl_wordOk.f a = some (inB a 0 65535) := by
  unfold impl_wordOk.f
  rw [impl_isIn_eq]
  rfl
theorem impl_sockIdOk_eq (a : Int) : impl_sockIdOk.f a = some (inB a 1 9999) := by
  unfold impl_sockIdOk.f
  rw [impl_isIn_eq]
  rfl
theorem impl_nameOk_l0 (s : ByteArray) (hs : s.size ≤ 4611686018427387904) (d : Nat) : ∀ i : Int, 0 ≤ i → i + d = s.size → Ev (fun k => impl_nameOk.l0 k s (s.size : Int) i) (allF (byteIn s 97 122) i d && inB s.size 1 8) := by
  induction d with
  | zero =>
    intro i h0 h1
    refine ev_step (fun k => impl_nameOk.l0.eq_2 ..) ?_
    refine ev_neg (by omega) ?_
    rw [impl_isIn_eq]
    exact ev_now _
  | succ d ih =>
    intro i h0 h1
    refine ev_step (fun k => impl_nameOk.l0.eq_2 ..) ?_
    refine ev_pos (by omega) (ev_pos (by omega) (ev_pos (by omega) ?_))
    refine ev_ite (fun c1 => ?_) (fun c1 => ev_ite (fun c2 => ?_) (fun c2 => ?_))
    · refine ev_as (ev_now _) ?_
      have : byteIn s 97 122 i = false := by rw [byteIn_false]; omega
      simp [allF, this]
    · refine ev_as (ev_now _) ?_
      have : byteIn s 97 122 i = false := by rw [byteIn_false]; omega
      simp [allF, this]
    · have : byteIn s 97 122 i = true := by rw [byteIn_iff]; omega
      rw [w64 (by omega) (by omega), allF, this, Bool.true_and]
      exact ih (i + 1) (by omega) (by omega)
theorem impl_nameOk_ev (s : ByteArray) (hs : s.size ≤ 4611686018427387904) : Ev (fun k => impl_nameOk.f k s) (nameB s) := impl_nameOk_l0 s hs s.size 0 (by omega) (by omega)
theorem impl_sinceOk_eq (a : Int) : impl_sinceOk.f a = some (inB a 0 100000) := by
  unfold impl_sinceOk.f
  rw [impl_isIn_eq]
  rfl
theorem impl_TextOk_l0 (s : ByteArray) (hs : s.size ≤ 4611686018427387904) (d : Nat) : ∀ i : Int, 0 ≤ i → i + d = s.size → Ev (fun k => impl_TextOk.l0 k s (s.size : Int) i) (allF (byteIn s 32 126) i d && decide ((s.size : Int) ≤ 100)) := by
  induction d with
  | zero =>
    intro i h0 h1
    refine ev_step (fun k => impl_TextOk.l0.eq_2 ..) ?_
    refine ev_neg (by omega) ?_
    exact ev_now _
  | succ d ih =>
    intro i h0 h1
    refine ev_step (fun k => impl_TextOk.l0.eq_2 ..) ?_
    refine ev_pos (by omega) (ev_pos (by omega) (ev_pos (by omega) ?_))
    refine ev_ite (fun c1 => ?_) (fun c1 => ev_ite (fun c2 => ?_) (fun c2 => ?_))
    · refine ev_as (ev_now _) ?_
      have : byteIn s 32 126 i = false := by rw [byteIn_false]; omega
      simp [allF, this]
    · refine ev_as (ev_now _) ?_
      have : byteIn s 32 126 i = false := by rw [byteIn_false]; omega
      simp [allF, this]
    · have : byteIn s 32 126 i = true := by rw [byteIn_iff]; omega
      rw [w64 (by omega) (by omega), allF, this, Bool.true_and]
      exact ih (i + 1) (by omega) (by omega)
theorem impl_TextOk_ev (s : ByteArray) (hs : s.size ≤ 4611686018427387904) : Ev (fun k => impl_TextOk.f k s) (textB s) := impl_TextOk_l0 s hs s.size 0 (by omega) (by omega)
theorem impl_AskerOk_core (x0 : Int) (x1 : ByteArray) (x2 x3 x4 : Int) (x5 : ByteArray) (x6 x7 : Int) (h1 : x1.size ≤ 4611686018427387904) (h5 : x5.size ≤ 4611686018427387904) : Ev (fun k => impl_AskerOk.f k x0 x1 x2 x3 x4 x5 x6 x7) (askerB x0 x1 x2 x3 x4 x5 x6 x7) := by
  unfold impl_AskerOk.f askerB
  refine ev_step (fun k => impl_AskerOk.j0.eq_2 ..) ?_
  have e0 : (⟨#[]⟩ : ByteArray).toList = [] := by unfold ByteArray.toList; unfold ByteArray.toList.loop; rfl
  simp only [beq_self_eq_true, Bool.true_and, Bool.and_true, e0]
  refine ev_bind1 (impl_sockIdOk_eq _) ?_
  refine ev_ite (fun c => ?_) (fun c => ?_)
  · refine ev_ite (fun s0 => ?_) (fun s0 => ?_)
    · exact ev_as (ev_now _) (by simp [c, s0])
    · refine ev_bind (impl_nameOk_ev _ h1) ?_
      refine ev_ite (fun cn => ?_) (fun cn => ?_)
      · refine ev_ite (fun s1 => ?_) (fun s1 => ev_ite (fun s2 => ?_) (fun s2 => ev_ite (fun s3 => ?_) (fun s3 => ev_ite (fun s4 => ?_) (fun s4 => ?_))))
        · exact ev_as (ev_now _) (by simp [c, s1, cn])
        · refine ev_ite (fun c1 => ?_) (fun c1 => ?_)
          · refine ev_bind1 (impl_wordOk_eq _) ?_
            refine ev_ite (fun c3 => ?_) (fun c3 => ?_)
            · refine ev_bind1 (impl_sinceOk_eq _) ?_
              refine ev_ite (fun c4 => ?_) (fun c4 => ?_)
              · exact ev_bind (impl_TextOk_ev _ h5) (ev_as (ev_now _) (by rw [c, cn, c3, c4, c1]; simp [s2]))
              · exact ev_as (ev_now _) (by simp [s2, c4])
            · exact ev_as (ev_now _) (by simp [s2, c3])
          · have c1' := Bool.eq_false_iff.2 c1
            exact ev_as (ev_now _) (by rw [c1']; simp [s2])
        · refine ev_ite (fun c1 => ?_) (fun c1 => ?_)
          · refine ev_bind1 (impl_sockIdOk_eq _) ?_
            refine ev_ite (fun c3 => ?_) (fun c3 => ?_)
            · exact ev_as (ev_now _) (by rw [c, cn, c3, c1]; simp [s3])
            · exact ev_as (ev_now _) (by simp [s3, c3])
          · have c1' := Bool.eq_false_iff.2 c1
            exact ev_as (ev_now _) (by rw [c1']; simp [s3])
        · refine ev_ite (fun c1 => ?_) (fun c1 => ?_)
          · refine ev_bind1 (impl_sockIdOk_eq _) ?_
            refine ev_ite (fun c3 => ?_) (fun c3 => ?_)
            · exact ev_as (ev_now _) (by rw [c, cn, c3, c1]; simp [s4])
            · exact ev_as (ev_now _) (by simp [s4, c3])
          · have c1' := Bool.eq_false_iff.2 c1
            exact ev_as (ev_now _) (by rw [c1']; simp [s4])
        · exact ev_as (ev_now _) (by simp [s0, s1, s2, s3, s4])
      · exact ev_as (ev_now _) (by simp [s0, cn])
  · exact ev_as (ev_now _) (by simp [c])
theorem impl_AskerOk_ev (x : S25) (h1 : x.f1.size ≤ 4611686018427387904) (h5 : x.f5.size ≤ 4611686018427387904) : Ev (fun k => impl_AskerOk.f k x.f0 x.f1 x.f2 x.f3 x.f4 x.f5 x.f6 x.f7) (askerB x.f0 x.f1 x.f2 x.f3 x.f4 x.f5 x.f6 x.f7) := impl_AskerOk_core _ _ _ _ _ _ _ _ h1 h5
theorem impl_LineOk_j0 (b : Bool) (x0 : Int) (x1 : ByteArray) (x2 x3 x4 x5 x6 : Int) : Ev (fun k => impl_LineOk.j0 k b x0 x1 x2 x3 x4 x5 x6)
    (!b && (if x3 = 0 then inB x4 0 100000 && (x5 == 0 && x6 == 0) else if x3 = 1 ∨ x3 = 2 then x4 == 0 && (inB x5 1 9999 && decide (x6 ≥ 1)) else false)) := by
  refine ev_step (fun k => impl_LineOk.j0.eq_2 ..) ?_
  refine ev_ite (fun c => ?_) (fun c => ?_)
  · exact ev_as (ev_now _) (by simp [c])
  · have hb : b = false := by simpa using c
    refine ev_ite (fun c1 => ?_) (fun c1 => ev_ite (fun c2 => ?_) (fun c2 => ev_ite (fun c3 => ?_) (fun c3 => ?_)))
    · refine ev_bind1 (impl_sinceOk_eq x4) ?_
      refine ev_ite (fun c2 => ev_ite (fun c3 => ?_) (fun c3 => ?_)) (fun c2 => ?_)
      all_goals exact ev_as (ev_now _) (by simp_all)
    · refine ev_ite (fun c3 => ?_) (fun c3 => ?_)
      · refine ev_bind1 (impl_sockIdOk_eq x5) ?_
        refine ev_ite (fun c4 => ?_) (fun c4 => ?_)
        all_goals exact ev_as (ev_now _) (by simp_all)
      · exact ev_as (ev_now _) (by simp_all)
    · refine ev_ite (fun c3 => ?_) (fun c3 => ?_)
      · refine ev_bind1 (impl_sockIdOk_eq x5) ?_
        refine ev_ite (fun c4 => ?_) (fun c4 => ?_)
        all_goals exact ev_as (ev_now _) (by simp_all)
      · exact ev_as (ev_now _) (by simp_all)
    · exact ev_as (ev_now _) (by simp [c1, c2, c3])
theorem impl_LineOk_ev (x : S27) (hs : x.f1.size ≤ 4611686018427387904) : Ev (fun k => impl_LineOk.f k x.f0 x.f1 x.f2 x.f3 x.f4 x.f5 x.f6) (lineB x.f0 x.f1 x.f2 x.f3 x.f4 x.f5 x.f6) := by
  unfold impl_LineOk.f lineB
  refine ev_bind1 (impl_sockIdOk_eq _) ?_
  refine ev_ite (fun c => ?_) (fun c => ?_)
  · refine ev_bind (impl_nameOk_ev _ hs) ?_
    refine ev_ite (fun c2 => ?_) (fun c2 => ?_)
    · refine ev_bind1 (impl_isIn_eq _ _ _) ?_
      exact ev_as (impl_LineOk_j0 ..) (by rw [c, c2]; simp)
    · exact ev_as (impl_LineOk_j0 ..) (by simp [c2])
  · exact ev_as (impl_LineOk_j0 ..) (by simp [c])
theorem slices_Clone_byte_eq (l : List Int) (h : l.length ≤ 1000000000000) : slices_Clone_byte.f l = some l := by
  unfold slices_Clone_byte.f
  simp only [Option.bind_some, List.nil_append, List.length_nil]
  rw [if_pos (by omega)]
theorem impl_PutText_ev (l : List Int) (s : ByteArray) (hl : l.length ≤ 1000000000000) (hs : s.size ≤ 1000000000000) : Ev (fun k => impl_PutText.f k l s) (putTextV l s) := by
  unfold impl_PutText.f putTextV
  simp only [Option.bind_some]
  refine ev_bind1 (slices_Clone_byte_eq l (by omega)) (ev_bind (impl_TextOk_ev s (by omega)) (ev_ite (fun c => ?_) (fun c => ?_)))
  · exact ev_pos (by omega) (ev_pos (by rw [List.length_append]; simp only [List.length_cons, List.length_nil]; omega) (ev_as (ev_now _) (by rw [if_pos c])))
  · exact ev_as (ev_now _) (by rw [if_neg c])
theorem impl_PutWord_eq (l : List Int) (n : Int) (hl : l.length ≤ 1000000000000) : impl_PutWord.f l n = some (putWordV l n) := by
  unfold impl_PutWord.f putWordV
  rw [slices_Clone_byte_eq l hl]
  simp only [Option.bind_some, List.length_cons, List.length_nil]
  rw [if_pos (by omega)]
theorem impl_putSince_eq (l : List Int) (n : Int) (hl : l.length ≤ 1000000000) : impl_putSince.f l n = some (sinceV l n) := by
  unfold impl_putSince.f sinceV
  rw [impl_PutWord_eq l _ (by omega), Option.bind_some, if_pos (by rw [putWordV_len]; omega)]
theorem impl_PutItem_ev (k : Int) (a : S25) (l : S27) (h1 : a.f1.size ≤ 1000000000) (h5 : a.f5.size ≤ 1000000000) (hl : l.f1.size ≤ 1000000000) :
    Ev (fun n => impl_PutItem.f n k a.f0 a.f1 a.f2 a.f3 a.f4 a.f5 a.f6 a.f7 l.f0 l.f1 l.f2 l.f3 l.f4 l.f5 l.f6) (itemV k a l) := by
  have n2 : ∀ y, Ev (fun n => impl_PutItem.j1 n y false k a.f0 a.f1 a.f2 a.f3 a.f4 a.f5 a.f6 a.f7 l.f0 l.f1 l.f2 l.f3 l.f4 l.f5 l.f6) [] := fun y => ev_step (fun n => impl_PutItem.j1.eq_2 ..) (ev_neg (by simp) (ev_now _))
  have p2 : Ev (fun n => impl_PutItem.j1 n [2] true k a.f0 a.f1 a.f2 a.f3 a.f4 a.f5 a.f6 a.f7 l.f0 l.f1 l.f2 l.f3 l.f4 l.f5 l.f6) (lineV l) := by
    have t1 := putTextV_len (putWordV [2] l.f0 ++ [l.f3 % 256]) l.f1
    simp only [putWordV_len, List.length_append, List.length_cons, List.length_nil] at t1
    refine ev_step (fun n => impl_PutItem.j1.eq_2 ..) (ev_pos rfl ?_)
    refine ev_bind1 (impl_PutWord_eq _ _ (by simp)) (ev_bind1 rfl (ev_pos (by simp only [putWordV_len, List.length_cons, List.length_nil]; omega) ?_))
    refine ev_bind (impl_PutText_ev _ _ (by simp only [putWordV_len, List.length_append, List.length_cons, List.length_nil]; omega) (by omega)) ?_
    refine ev_bind1 (impl_PutWord_eq _ _ (by omega)) (ev_bind1 (impl_putSince_eq _ _ (by rw [putWordV_len]; omega)) ?_)
    exact ev_bind1 (impl_PutWord_eq _ _ (by simp only [sinceV_len, putWordV_len]; omega)) (ev_bind1 (impl_PutWord_eq _ _ (by simp only [sinceV_len, putWordV_len]; omega)) (ev_now _))
  have p1 : Ev (fun n => impl_PutItem.j0 n [1] true k a.f0 a.f1 a.f2 a.f3 a.f4 a.f5 a.f6 a.f7 l.f0 l.f1 l.f2 l.f3 l.f4 l.f5 l.f6) (askV a) := by
    have t1 := putTextV_len (putWordV [1] a.f0 ++ [a.f2 % 256]) a.f1
    have t2 := putTextV_len (sinceV (putWordV (putTextV (putWordV [1] a.f0 ++ [a.f2 % 256]) a.f1) a.f3) a.f4) a.f5
    simp only [putWordV_len, sinceV_len, List.length_append, List.length_cons, List.length_nil] at t1 t2
    refine ev_step (fun n => impl_PutItem.j0.eq_2 ..) (ev_pos rfl ?_)
    refine ev_bind1 (impl_PutWord_eq _ _ (by simp)) (ev_bind1 rfl (ev_pos (by simp only [putWordV_len, List.length_cons, List.length_nil]; omega) ?_))
    refine ev_bind (impl_PutText_ev _ _ (by simp only [putWordV_len, List.length_append, List.length_cons, List.length_nil]; omega) (by omega)) ?_
    refine ev_bind1 (impl_PutWord_eq _ _ (by omega)) (ev_bind1 (impl_putSince_eq _ _ (by rw [putWordV_len]; omega)) ?_)
    refine ev_bind (impl_PutText_ev _ _ (by simp only [sinceV_len, putWordV_len]; omega) (by omega)) ?_
    exact ev_bind1 (impl_PutWord_eq _ _ (by omega)) (ev_bind1 (impl_PutWord_eq _ _ (by rw [putWordV_len]; omega)) (ev_now _))
  have z1 : (l.f0 == 0 && (l.f1.toList == ([] : List UInt8) && (l.f2 == 0 && (l.f3 == 0 && (l.f4 == 0 && (l.f5 == 0 && (l.f6 == 0))))))) = zeroL l := rfl
  have z2 : (a.f0 == 0 && (a.f1.toList == ([] : List UInt8) && (a.f2 == 0 && (a.f3 == 0 && (a.f4 == 0 && (a.f5.toList == ([] : List UInt8) && (a.f6 == 0 && (a.f7 == 0)))))))) = zeroA a := rfl
  have q : ∀ y, (k = 2 → y = [2]) → k ≠ 1 → Ev (fun n => impl_PutItem.j0 n y false k a.f0 a.f1 a.f2 a.f3 a.f4 a.f5 a.f6 a.f7 l.f0 l.f1 l.f2 l.f3 l.f4 l.f5 l.f6) (itemV k a l) := by
    intro y hy c
    refine ev_step (fun n => impl_PutItem.j0.eq_2 ..) (ev_neg (by simp) ?_)
    unfold itemV itemB
    rw [z2]
    refine ev_ite (fun c' => ?_) (fun c' => ?_)
    · obtain rfl := hy c'
      refine ev_bind (impl_LineOk_ev l (by omega)) (ev_ite (fun d => ev_ite (fun e => ?_) (fun e => ?_)) (fun d => ?_))
      · refine ev_bind1 (impl_wordOk_eq _) ?_
        have h0 := lineB_lease _ _ _ _ _ _ _ d
        by_cases f : l.f6 > 65535
        · rw [(inB_false _ _ _).2 (.inr (by omega))]
          exact ev_as (n2 _) (by rw [if_neg]; rw [if_neg c, if_pos c', d]; simp [f])
        · rw [(inB_iff _ _ _).2 ⟨h0, by omega⟩]
          exact ev_as p2 (by rw [if_pos, if_neg c]; rw [if_neg c, if_pos c', d, e]; simp; omega)
      · exact ev_as (n2 _) (by rw [if_neg]; rw [if_neg c, if_pos c', d]; simp at e; simp [e])
      · exact ev_as (n2 _) (by rw [if_neg]; rw [if_neg c, if_pos c']; simp [d])
    · exact ev_as (n2 _) (by rw [if_neg]; rw [if_neg c, if_neg c']; simp)
  have q1 : ∀ y, k = 1 → itemB k a l = false → Ev (fun n => impl_PutItem.j0 n y false k a.f0 a.f1 a.f2 a.f3 a.f4 a.f5 a.f6 a.f7 l.f0 l.f1 l.f2 l.f3 l.f4 l.f5 l.f6) (itemV k a l) := by
    intro y c hf
    unfold itemV
    rw [hf]
    exact ev_step (fun n => impl_PutItem.j0.eq_2 ..) (ev_neg (by simp) (ev_neg (by omega) (ev_as (n2 _) (by simp))))
  unfold impl_PutItem.f
  rw [z1]
  refine ev_bind1 rfl (ev_ite (fun c => ?_) (fun c => q _ (fun e => by rw [e]; rfl) c))
  have hy : ([k % 256] : List Int) = [1] := by rw [c]; rfl
  rw [hy]
  refine ev_bind (impl_AskerOk_core _ _ _ _ _ _ _ _ (by omega) (by omega)) (ev_ite (fun d => ev_ite (fun e => ?_) (fun e => ?_)) (fun d => ?_))
  · refine ev_bind1 (impl_wordOk_eq _) ?_
    have h0 := askerB_lease _ _ _ _ _ _ _ _ d
    by_cases f : a.f7 > 65535
    · rw [(inB_false _ _ _).2 (.inr (by omega))]
      exact q1 _ c (by unfold itemB; rw [if_pos c, d]; simp [f])
    · rw [(inB_iff _ _ _).2 ⟨h0, by omega⟩]
      exact ev_as p1 (by unfold itemV itemB; rw [if_pos, if_pos c]; rw [if_pos c, d, e]; simp; omega)
  · exact q1 _ c (by unfold itemB; rw [if_pos c, d]; simp at e; simp [e])
  · exact q1 _ c (by unfold itemB; rw [if_pos c]; simp [d])
theorem impl_CtlOk_l0 (ki fr id n of : Int) (pa : Bool) (ti : Int) (l : List S29) (hl : l.length ≤ 1000000000) (hz : ∀ x ∈ l, x.f1.f1.size ≤ 1000000000 ∧ x.f1.f5.size ≤ 1000000000 ∧ x.f2.f1.size ≤ 1000000000) (d : Nat) : ∀ i : Nat, i + d = l.length → Ev (fun k => impl_CtlOk.l0 k l (l.length : Int) (i : Int) ki fr id n of pa ti l) ((l.drop i).all itemOkB && partB n of ti l.length) := by
  induction d with
  | zero =>
    intro i hi
    refine ev_step (fun k => impl_CtlOk.l0.eq_2 ..) (ev_neg (by omega) ?_)
    have hd : l.drop i = [] := List.drop_of_length_le (by omega)
    rw [hd]
    unfold partB
    refine ev_bind1 (impl_isIn_eq _ _ _) (ev_ite (fun c => ev_bind1 (impl_isIn_eq _ _ _) (ev_ite (fun c1 => ev_bind1 (impl_wordOk_eq _) (ev_ite (fun c2 => ?_) (fun c2 => ?_))) (fun c1 => ?_))) (fun c => ?_))
    · exact ev_as (ev_now _) (by simp [c, c1, c2]; omega)
    · exact ev_as (ev_now _) (by simp [c2])
    · exact ev_as (ev_now _) (by simp [c1])
    · exact ev_as (ev_now _) (by simp [c])
  | succ d ih =>
    intro i hi
    have hn := ih (i + 1) (by omega)
    have hlt : i < l.length := by omega
    have hr : rd_T29 l (i : Int) = l[i] := getD_nth _ l i hlt
    have hd : l.drop i = l[i] :: l.drop (i + 1) := List.drop_eq_getElem_cons hlt
    have h := hz l[i] (List.getElem_mem hlt)
    rw [hd, List.all_cons]
    refine ev_step (fun k => impl_CtlOk.l0.eq_2 ..) (ev_pos (by omega) (ev_pos (by omega) (ev_pos (by omega) (?_))))
    simp only [hr]
    rw [w64 (by omega) (by omega)]
    refine ev_bind (impl_PutItem_ev l[i].f0 l[i].f1 l[i].f2 h.1 h.2.1 h.2.2) (ev_ite (fun c => ?_) (fun c => ?_))
    · have := (itemV_nil l[i].f0 l[i].f1 l[i].f2).1 (by omega)
      exact ev_as (ev_now _) (by unfold itemOkB; rw [this]; rfl)
    · have : itemB l[i].f0 l[i].f1 l[i].f2 = true := by
        rw [← Bool.not_eq_false]
        exact fun e => c (by have := (itemV_nil l[i].f0 l[i].f1 l[i].f2).2 e; omega)
      exact ev_as hn (by unfold itemOkB; rw [this]; simp)
theorem impl_CtlOk_ev (ki fr id n of : Int) (pa : Bool) (ti : Int) (l : List S29) (hl : l.length ≤ 1000000000) (hz : ∀ x ∈ l, x.f1.f1.size ≤ 1000000000 ∧ x.f1.f5.size ≤ 1000000000 ∧ x.f2.f1.size ≤ 1000000000) : Ev (fun k => impl_CtlOk.f k ki fr id n of pa ti l) (ctlB ki fr id n of pa ti l) := by
  have h0 := impl_CtlOk_l0 ki fr id n of pa ti l hl hz l.length 0 (by omega)
  have hL : ((l.length : Int) == 0) = decide (l.length = 0) := by
    by_cases e : l.length = 0
    · rw [e]; rfl
    · rw [decide_eq_false e]
      exact beq_eq_false_iff_ne.2 (by omega)
  unfold impl_CtlOk.f ctlB
  refine ev_bind1 (impl_isIn_eq _ _ _) (ev_ite (fun c => ev_bind1 (impl_isIn_eq _ _ _) (ev_step (fun k => impl_CtlOk.j0.eq_2 ..) (ev_ite (fun c1 => ?_) (fun c1 => ev_ite (fun c2 => ?_) (fun c2 => ev_ite (fun c3 => ?_) (fun c3 => ev_ite (fun c4 => ?_) (fun c4 => ?_))))))) (fun c => ev_step (fun k => impl_CtlOk.j0.eq_2 ..) (ev_pos rfl (ev_as (ev_now _) (by simp [c])))))
  · exact ev_as (ev_now _) (by simp at c1; simp [c1])
  · exact ev_as h0 (by simp at c1; simp [c, c1, c2])
  · simp only [hL]
    simp at c1
    refine ev_bind1 (impl_isIn_eq _ _ _) (ev_ite (fun d => ev_ite (fun d1 => ev_ite (fun d2 => ?_) (fun d2 => ev_ite (fun d3 => ?_) (fun d3 => ?_))) (fun d1 => ?_)) (fun d => ?_))
    · exact ev_as (ev_now _) (by simp [c3, d2])
    · exact ev_as (ev_now _) (by simp at d2; simp [c, c1, c3, d, d1, d2, d3])
    · exact ev_as (ev_now _) (by simp [c3, d3])
    · exact ev_as (ev_now _) (by simp [c3, d1])
    · exact ev_as (ev_now _) (by simp [c3, d])
  · simp only [hL]
    simp at c1
    refine ev_bind1 (impl_isIn_eq _ _ _) (ev_ite (fun d => ev_ite (fun d0 => ev_ite (fun d1 => ev_ite (fun d2 => ?_) (fun d2 => ev_ite (fun d3 => ?_) (fun d3 => ?_))) (fun d1 => ?_)) (fun d0 => ?_)) (fun d => ?_))
    · exact ev_as (ev_now _) (by simp [c4, d2])
    · exact ev_as (ev_now _) (by simp at d2; simp [c, c1, c4, d0, d1, d2, d3])
    · exact ev_as (ev_now _) (by simp [c4, d3])
    · exact ev_as (ev_now _) (by simp [c4, d1])
    · exact ev_as (ev_now _) (by simp [c4, d0])
    · have : ¬ n = 0 := by
        intro e
        rw [e] at d
        exact d (by decide)
      exact ev_as (ev_now _) (by simp [c4, this])
  · exact ev_as (ev_now _) (by simp [c2, c3, c4])
def crcS (s : Int) : Int := if wrap64 (s * 2) > 65535 then Go.bits .xor .i64 (wrap64 (s * 2)) 69665 else wrap64 (s * 2)
def itS : Nat → Int → Int
  | 0, s => s
  | n + 1, s => itS n (crcS s)
def sumS (s x : Int) : Int := itS 8 (Go.bits .xor .i64 s (wrap64 ((wrap64 x) * 256)))
def sumV (l : List Int) : Int := Go.bits .and .i64 (l.foldl sumS 65535) 65535
theorem spec_Sum_l1 (l : List Int) (i : Nat) (hi : i < 1000000000000) (r : Int) (d : Nat) : ∀ (j : Nat) (s : Int), j + d = 8 → Ev (fun k => spec_Sum.l0 k l (itS d s) ((i : Int) + 1)) r → Ev (fun k => spec_Sum.l1 k l s (i : Int) (j : Int)) r := by
  induction d with
  | zero =>
    intro j s hj h
    refine ev_step (fun k => spec_Sum.l1.eq_2 ..) (ev_neg (by omega) ?_)
    rw [w64 (by omega) (by omega)]
    exact h
  | succ d ih =>
    intro j s hj h
    have e : wrap64 ((j : Int) + 1) = ((j + 1 : Nat) : Int) := by rw [w64 (by omega) (by omega)]; omega
    refine ev_step (fun k => spec_Sum.l1.eq_2 ..) (ev_pos (by omega) ?_)
    rw [e]
    have h' := ih (j + 1) (crcS s) (by omega) h
    unfold crcS at h'
    refine ev_ite (fun c => ?_) (fun c => ?_)
    · rw [if_pos c] at h'
      exact h'
    · rw [if_neg c] at h'
      exact h'
theorem spec_Sum_l0 (l : List Int) (hl : l.length ≤ 1000000000) (d : Nat) : ∀ (i : Nat) (s : Int), i + d = l.length → Ev (fun k => spec_Sum.l0 k l s (i : Int)) (Go.bits .and .i64 ((l.drop i).foldl sumS s) 65535) := by
  induction d with
  | zero =>
    intro i s hi
    rw [List.drop_of_length_le (by omega)]
    exact ev_step (fun k => spec_Sum.l0.eq_2 ..) (ev_neg (by omega) (ev_now _))
  | succ d ih =>
    intro i s hi
    have hlt : i < l.length := by omega
    have hr : rd l (i : Int) = l[i] := rd_nth l i hlt
    rw [List.drop_eq_getElem_cons hlt, List.foldl_cons]
    refine ev_step (fun k => spec_Sum.l0.eq_2 ..) (ev_pos (by omega) (ev_pos (by omega) ?_))
    rw [hr]
    have h := ih (i + 1) (sumS s l[i]) (by omega)
    rw [show ((i + 1 : Nat) : Int) = (i : Int) + 1 by omega] at h
    exact spec_Sum_l1 l i (by omega) _ 8 0 _ rfl h
theorem spec_Sum_ev (l : List Int) (hl : l.length ≤ 1000000000) : Ev (fun k => spec_Sum.f k l) (sumV l) := by
  have h := spec_Sum_l0 l hl l.length 0 65535 (by omega)
  rw [List.drop_zero] at h
  exact h
theorem impl_Sum_l1 (l : List Int) (i : Nat) (hi : i < 1000000000000) (r : Int) (d : Nat) : ∀ (j : Nat) (s : Int), j + d = 8 → Ev (fun k => impl_Sum.l0 k (itS d s) l (l.length : Int) ((i : Int) + 1)) r → Ev (fun k => impl_Sum.l1 k s l (l.length : Int) (i : Int) (j : Int)) r := by
  induction d with
  | zero =>
    intro j s hj h
    refine ev_step (fun k => impl_Sum.l1.eq_2 ..) (ev_neg (by omega) ?_)
    rw [w64 (by omega) (by omega)]
    exact h
  | succ d ih =>
    intro j s hj h
    have e : wrap64 ((j : Int) + 1) = ((j + 1 : Nat) : Int) := by rw [w64 (by omega) (by omega)]; omega
    refine ev_step (fun k => impl_Sum.l1.eq_2 ..) (ev_pos (by omega) ?_)
    rw [e]
    have h' := ih (j + 1) (crcS s) (by omega) h
    unfold crcS at h'
    refine ev_ite (fun c => ?_) (fun c => ?_)
    · rw [if_pos c] at h'
      exact h'
    · rw [if_neg c] at h'
      exact h'
theorem impl_Sum_l0 (l : List Int) (hl : l.length ≤ 1000000000) (d : Nat) : ∀ (i : Nat) (s : Int), i + d = l.length → Ev (fun k => impl_Sum.l0 k s l (l.length : Int) (i : Int)) (Go.bits .and .i64 ((l.drop i).foldl sumS s) 65535) := by
  induction d with
  | zero =>
    intro i s hi
    rw [List.drop_of_length_le (by omega)]
    exact ev_step (fun k => impl_Sum.l0.eq_2 ..) (ev_neg (by omega) (ev_now _))
  | succ d ih =>
    intro i s hi
    have hlt : i < l.length := by omega
    have hr : rd l (i : Int) = l[i] := rd_nth l i hlt
    rw [List.drop_eq_getElem_cons hlt, List.foldl_cons]
    refine ev_step (fun k => impl_Sum.l0.eq_2 ..) (ev_pos (by omega) (ev_pos (by omega) (ev_pos (by omega) ?_)))
    rw [hr]
    have h := ih (i + 1) (sumS s l[i]) (by omega)
    rw [show ((i + 1 : Nat) : Int) = (i : Int) + 1 by omega] at h
    rw [Int.mul_comm 256]
    exact impl_Sum_l1 l i (by omega) _ 8 0 _ rfl h
theorem impl_Sum_ev (l : List Int) (hl : l.length ≤ 1000000000) : Ev (fun k => impl_Sum.f k l) (sumV l) := by
  have h := impl_Sum_l0 l hl l.length 0 65535 (by omega)
  rw [List.drop_zero] at h
  exact h
def itemsS (b : List Int) (x : S29) : List Int := (b ++ [((itemV x.f0 x.f1 x.f2).length : Int) % 256]) ++ itemV x.f0 x.f1 x.f2
def ctlH (ki fr id n of p ti : Int) (l : List S29) : List Int := l.foldl itemsS (putWordV (putWordV [ki % 256, fr % 256] id ++ [n % 256, of % 256, p]) ti ++ [(l.length : Int) % 256])
def ctlX (ki fr id n of p ti : Int) (l : List S29) : List Int := putWordV (ctlH ki fr id n of p ti l) (sumV (ctlH ki fr id n of p ti l))
def ctlV (ki fr id n of : Int) (pa : Bool) (ti : Int) (l : List S29) : List Int := if ctlB ki fr id n of pa ti l = true then ctlX ki fr id n of (if pa = true then 1 else 0) ti l else []
theorem items_len (l : List S29) : ∀ b : List Int, (l.foldl itemsS b).length ≤ b.length + 300 * l.length := by
  induction l with
  | nil => intro b; simp
  | cons x l ih =>
    intro b
    have hv := itemV_len x.f0 x.f1 x.f2
    have h := ih (itemsS b x)
    have hq : (itemsS b x).length = b.length + 1 + (itemV x.f0 x.f1 x.f2).length := by unfold itemsS; simp only [List.length_append, List.length_cons, List.length_nil]
    rw [List.foldl_cons, List.length_cons]
    omega
theorem ctlV_len (ki fr id n of : Int) (pa : Bool) (ti : Int) (l : List S29) : (ctlV ki fr id n of pa ti l).length ≤ 20 + 300 * l.length := by
  unfold ctlV
  split
  · unfold ctlX
    rw [putWordV_len]
    have h := items_len l (putWordV (putWordV [ki % 256, fr % 256] id ++ [n % 256, of % 256, if pa = true then 1 else 0]) ti ++ [(l.length : Int) % 256])
    simp only [putWordV_len, List.length_append, List.length_cons, List.length_nil] at h
    unfold ctlH
    omega
  · simp
theorem spec_PutCtl_l0 (ki fr id n of : Int) (pa : Bool) (ti : Int) (l : List S29) (hl : l.length ≤ 2000000) (hz : ∀ x ∈ l, x.f1.f1.size ≤ 1000000000 ∧ x.f1.f5.size ≤ 1000000000 ∧ x.f2.f1.size ≤ 1000000000) (d : Nat) : ∀ (i : Nat) (b : List Int), i + d = l.length → b.length + 300 * d ≤ 700000000 → Ev (fun k => spec_PutCtl.l0 k b (i : Int) ki fr id n of pa ti l) (putWordV ((l.drop i).foldl itemsS b) (sumV ((l.drop i).foldl itemsS b))) := by
  induction d with
  | zero =>
    intro i b hi hb
    rw [List.drop_of_length_le (by omega)]
    exact ev_step (fun k => spec_PutCtl.l0.eq_2 ..) (ev_neg (by omega) (ev_bind (spec_Sum_ev b (by omega)) (ev_bind1 (spec_PutWord_eq b _ (by omega)) (ev_now _))))
  | succ d ih =>
    intro i b hi hb
    have hlt : i < l.length := by omega
    have hr : rd_T29 l (i : Int) = l[i] := getD_nth _ l i hlt
    have h := hz l[i] (List.getElem_mem hlt)
    have hv := itemV_len l[i].f0 l[i].f1 l[i].f2
    have hq : (itemsS b l[i]).length = b.length + 1 + (itemV l[i].f0 l[i].f1 l[i].f2).length := by unfold itemsS; simp only [List.length_append, List.length_cons, List.length_nil]
    have hn := ih (i + 1) (itemsS b l[i]) (by omega) (by omega)
    rw [List.drop_eq_getElem_cons hlt, List.foldl_cons]
    refine ev_step (fun k => spec_PutCtl.l0.eq_2 ..) (ev_pos (by omega) (ev_pos (by omega) ?_))
    simp only [hr]
    rw [w64 (by omega) (by omega)]
    refine ev_bind (spec_PutItem_ev l[i].f0 l[i].f1 l[i].f2 h.1 h.2.1 h.2.2) (ev_bind1 rfl (ev_pos (by simp only [List.length_cons, List.length_nil]; omega) (ev_bind1 rfl (ev_pos (by simp only [List.length_append, List.length_cons, List.length_nil]; omega) ?_))))
    rw [show (i : Int) + 1 = ((i + 1 : Nat) : Int) by omega]
    exact hn
theorem spec_PutCtl_ev (ki fr id n of : Int) (pa : Bool) (ti : Int) (l : List S29) (hl : l.length ≤ 2000000) (hz : ∀ x ∈ l, x.f1.f1.size ≤ 1000000000 ∧ x.f1.f5.size ≤ 1000000000 ∧ x.f2.f1.size ≤ 1000000000) : Ev (fun k => spec_PutCtl.f k ki fr id n of pa ti l) (ctlV ki fr id n of pa ti l) := by
  have h0 : ∀ p : Int, Ev (fun k => spec_PutCtl.j0 k p ki fr id n of pa ti l) (ctlX ki fr id n of (p % 256) ti l) := by
    intro p
    refine ev_step (fun k => spec_PutCtl.j0.eq_2 ..) (ev_bind1 (spec_PutWord_eq _ _ (by simp)) (ev_bind1 rfl (ev_pos (by simp only [putWordV_len, List.length_cons, List.length_nil]; omega) (ev_bind1 (spec_PutWord_eq _ _ (by simp only [putWordV_len, List.length_append, List.length_cons, List.length_nil]; omega)) (ev_bind1 rfl (ev_pos (by simp only [putWordV_len, List.length_append, List.length_cons, List.length_nil]; omega) ?_))))))
    exact spec_PutCtl_l0 ki fr id n of pa ti l hl hz l.length 0 _ (by omega) (by simp only [putWordV_len, List.length_append, List.length_cons, List.length_nil]; omega)
  unfold spec_PutCtl.f ctlV
  refine ev_bind (spec_CtlOk_ev ki fr id n of pa ti l (by omega) hz) (ev_ite (fun c => ev_ite (fun c1 => ?_) (fun c1 => ?_)) (fun c => ?_))
  · exact ev_as (h0 1) (by rw [if_pos c, if_pos c1]; rfl)
  · exact ev_as (h0 0) (by rw [if_pos c, if_neg c1]; rfl)
  · exact ev_as (ev_now _) (by rw [if_neg c])
theorem impl_PutCtl_l0 (l : List S29) (hl : l.length ≤ 2000000) (hz : ∀ x ∈ l, x.f1.f1.size ≤ 1000000000 ∧ x.f1.f5.size ≤ 1000000000 ∧ x.f2.f1.size ≤ 1000000000) (d : Nat) : ∀ (i : Nat) (b : List Int), i + d = l.length → b.length + 300 * d ≤ 700000000 → Ev (fun k => impl_PutCtl.l0 k b l (l.length : Int) (i : Int)) (putWordV ((l.drop i).foldl itemsS b) (sumV ((l.drop i).foldl itemsS b))) := by
  induction d with
  | zero =>
    intro i b hi hb
    rw [List.drop_of_length_le (by omega)]
    exact ev_step (fun k => impl_PutCtl.l0.eq_2 ..) (ev_neg (by omega) (ev_bind (impl_Sum_ev b (by omega)) (ev_bind1 (impl_PutWord_eq b _ (by omega)) (ev_now _))))
  | succ d ih =>
    intro i b hi hb
    have hlt : i < l.length := by omega
    have hr : rd_T29 l (i : Int) = l[i] := getD_nth _ l i hlt
    have h := hz l[i] (List.getElem_mem hlt)
    have hv := itemV_len l[i].f0 l[i].f1 l[i].f2
    have hq : (itemsS b l[i]).length = b.length + 1 + (itemV l[i].f0 l[i].f1 l[i].f2).length := by unfold itemsS; simp only [List.length_append, List.length_cons, List.length_nil]
    have hn := ih (i + 1) (itemsS b l[i]) (by omega) (by omega)
    rw [List.drop_eq_getElem_cons hlt, List.foldl_cons]
    refine ev_step (fun k => impl_PutCtl.l0.eq_2 ..) (ev_pos (by omega) (ev_pos (by omega) (ev_pos (by omega) ?_)))
    simp only [hr]
    rw [w64 (by omega) (by omega)]
    refine ev_bind (impl_PutItem_ev l[i].f0 l[i].f1 l[i].f2 h.1 h.2.1 h.2.2) (ev_bind1 rfl (ev_pos (by simp only [List.length_cons, List.length_nil]; omega) (ev_bind1 rfl (ev_pos (by simp only [List.length_append, List.length_cons, List.length_nil]; omega) ?_))))
    rw [show (i : Int) + 1 = ((i + 1 : Nat) : Int) by omega]
    exact hn
theorem impl_PutCtl_ev (ki fr id n of : Int) (pa : Bool) (ti : Int) (l : List S29) (hl : l.length ≤ 2000000) (hz : ∀ x ∈ l, x.f1.f1.size ≤ 1000000000 ∧ x.f1.f5.size ≤ 1000000000 ∧ x.f2.f1.size ≤ 1000000000) : Ev (fun k => impl_PutCtl.f k ki fr id n of pa ti l) (ctlV ki fr id n of pa ti l) := by
  have h0 : ∀ p : Int, Ev (fun k => impl_PutCtl.j0 k p ki fr id n of pa ti l) (ctlX ki fr id n of (p) ti l) := by
    intro p
    refine ev_step (fun k => impl_PutCtl.j0.eq_2 ..) (ev_bind1 (impl_PutWord_eq _ _ (by simp)) (ev_bind1 rfl (ev_pos (by simp only [putWordV_len, List.length_cons, List.length_nil]; omega) (ev_bind1 (impl_PutWord_eq _ _ (by simp only [putWordV_len, List.length_append, List.length_cons, List.length_nil]; omega)) (ev_bind1 rfl (ev_pos (by simp only [putWordV_len, List.length_append, List.length_cons, List.length_nil]; omega) ?_))))))
    exact impl_PutCtl_l0 l hl hz l.length 0 _ (by omega) (by simp only [putWordV_len, List.length_append, List.length_cons, List.length_nil]; omega)
  unfold impl_PutCtl.f ctlV
  refine ev_bind (impl_CtlOk_ev ki fr id n of pa ti l (by omega) hz) (ev_ite (fun c => ev_ite (fun c1 => ?_) (fun c1 => ?_)) (fun c => ?_))
  · exact ev_as (h0 1) (by rw [if_pos c, if_pos c1])
  · exact ev_as (h0 0) (by rw [if_pos c, if_neg c1])
  · exact ev_as (ev_now _) (by rw [if_neg c])
theorem u8_xor_in (a c : Int) : 0 ≤ Go.bits .xor .u8 a c ∧ Go.bits .xor .u8 a c < 256 := by
  show 0 ≤ IntKind.u8.wrap _ ∧ IntKind.u8.wrap _ < 256
  rw [IntKind.wrap_u8]
  omega
theorem spec_l1Bend_some (b : List Int) (i h : Int) (l : List Int) (hl : l.length ≤ 1000) (hbl : bytesL l) (hc : curB b i) (hb : b.length ≤ 4611686018427387904) : ∃ l' i' h', spec_l1Bend.f b i h l = some (l', i', h') ∧ bytesL l' ∧ l'.length ≤ 1001 ∧ curB b i' := by
  unfold spec_l1Bend.f
  simp only [Option.bind_some, List.nil_append, List.length_nil]
  rw [if_pos (by omega)]
  obtain ⟨v, i1, h1, e1, _, _, c1⟩ := spec_l1Below_some b i h 8 hc hb
  rw [e1, Option.bind_some]
  dsimp only
  by_cases d0 : v = 0
  · rw [if_pos d0]
    by_cases z : (l.length : Int) > 0
    · rw [if_pos z]
      obtain ⟨j, i2, h2, e2, r2, _, c2⟩ := spec_l1Below_some b i1 h1 (l.length : Int) c1 hb
      have r := r2 (by omega)
      rw [e2, Option.bind_some]
      dsimp only
      rw [if_pos r.1, if_pos r.2]
      obtain ⟨x, i3, h3, e3, _, _, c3⟩ := spec_l1Below_some b i2 h2 255 c2 hb
      rw [e3, Option.bind_some]
      refine ⟨_, _, _, rfl, fun y hy => ?_, by rw [List.length_set]; omega, c3⟩
      rcases List.mem_or_eq_of_mem_set hy with hy | rfl
      · exact hbl y hy
      · exact u8_xor_in _ _
    · rw [if_neg z]
      exact ⟨_, _, _, rfl, hbl, by omega, c1⟩
  rw [if_neg d0]
  by_cases d1 : v = 1
  · rw [if_pos d1]
    by_cases z : (l.length : Int) > 0
    · rw [if_pos z]
      obtain ⟨j, i2, h2, e2, r2, _, c2⟩ := spec_l1Below_some b i1 h1 (l.length : Int) c1 hb
      have r := r2 (by omega)
      rw [e2, Option.bind_some]
      dsimp only
      rw [if_pos r.1, if_pos (by omega)]
      exact ⟨_, _, _, rfl, fun y hy => hbl y (List.mem_of_mem_take hy), by rw [List.length_take]; omega, c2⟩
    · rw [if_neg z]
      exact ⟨_, _, _, rfl, hbl, by omega, c1⟩
  rw [if_neg d1]
  by_cases d2 : v = 2
  · rw [if_pos d2]
    obtain ⟨x, i2, h2, e2, x0, x1, c2⟩ := spec_l1Byte_some b i1 h1 c1 hb
    rw [e2, Option.bind_some]
    dsimp only
    rw [if_pos (by omega)]
    refine ⟨_, _, _, rfl, fun y hy => ?_, by rw [List.length_append, List.length_cons, List.length_nil]; omega, c2⟩
    rcases List.mem_append.1 hy with hy | hy
    · exact hbl y hy
    · rw [List.mem_singleton] at hy; omega
  · rw [if_neg d2]
    exact ⟨_, _, _, rfl, hbl, by omega, c1⟩
theorem w64e {x y : Int} (e : x = y) (h0 : -9223372036854775808 ≤ y) (h1 : y ≤ 9223372036854775807) : wrap64 x = y := by rw [e, w64 h0 h1]
def itemL (x : S29) : List Int := itemV x.f0 x.f1 x.f2
def flatI : List S29 → List Int
  | [] => []
  | x :: l => ((itemL x).length : Int) :: (itemL x ++ flatI l)
theorem itemL_len (x : S29) : (itemL x).length ≤ 215 := itemV_len _ _ _
theorem items_flat (l : List S29) : ∀ b : List Int, l.foldl itemsS b = b ++ flatI l := by
  induction l with
  | nil => intro b; simp [flatI]
  | cons x l ih =>
    intro b
    have h := itemL_len x
    have e : ((itemV x.f0 x.f1 x.f2).length : Int) % 256 = ((itemL x).length : Int) := by show ((itemL x).length : Int) % 256 = _; omega
    rw [List.foldl_cons, ih, itemsS, e, flatI]
    simp only [List.append_assoc, List.cons_append, List.nil_append, itemL]
theorem toList_nil (s : ByteArray) (h : s.toList = ([] : List UInt8)) : s = ⟨#[]⟩ := by
  rw [ByteArray.toList_eq] at h
  obtain ⟨d⟩ := s
  have : d = #[] := by simpa using h
  rw [this]
theorem item_canon (k : Int) (a : S25) (l : S27) (h : itemB k a l = true) : (k = 1 ∧ askG a ∧ l = zL) ∨ (k = 2 ∧ a = zA ∧ lineG l) := by
  unfold itemB at h
  by_cases c : k = 1
  · rw [if_pos c] at h
    simp only [Bool.and_eq_true, Bool.not_eq_true', decide_eq_false_iff_not] at h
    obtain ⟨h1, h2, h3⟩ := h
    obtain ⟨l0, l1, l2, l3, l4, l5, l6⟩ := l
    simp only [zeroL, Bool.and_eq_true, beq_iff_eq] at h2
    obtain ⟨rfl, e, rfl, rfl, rfl, rfl, rfl⟩ := h2
    obtain rfl := toList_nil _ e
    exact .inl ⟨c, ⟨h1, by omega⟩, rfl⟩
  · rw [if_neg c] at h
    by_cases d : k = 2
    · rw [if_pos d] at h
      simp only [Bool.and_eq_true, Bool.not_eq_true', decide_eq_false_iff_not] at h
      obtain ⟨h1, h2, h3⟩ := h
      obtain ⟨a0, a1, a2, a3, a4, a5, a6, a7⟩ := a
      simp only [zeroA, Bool.and_eq_true, beq_iff_eq] at h2
      obtain ⟨rfl, e, rfl, rfl, rfl, f, rfl, rfl⟩ := h2
      obtain rfl := toList_nil _ e
      obtain rfl := toList_nil _ f
      exact .inr ⟨d, rfl, ⟨h1, by omega⟩⟩
    · rw [if_neg d] at h
      cases h
theorem itemL_U (x : S29) : bytesU (itemL x) := itemV_U _ _ _
theorem spec_GetItem_at (x : S29) (h : itemB x.f0 x.f1 x.f2 = true) : Ev (fun k => spec_GetItem.f k (itemL x)) (x.f0, x.f1.f0, x.f1.f1, x.f1.f2, x.f1.f3, x.f1.f4, x.f1.f5, x.f1.f6, x.f1.f7, x.f2.f0, x.f2.f1, x.f2.f2, x.f2.f3, x.f2.f4, x.f2.f5, x.f2.f6, true) := by
  obtain ⟨k, a, l⟩ := x
  rcases item_canon k a l h with ⟨rfl, hg, rfl⟩ | ⟨rfl, rfl, hg⟩
  · rw [show itemL ⟨1, a, zL⟩ = askV a from itemV_ask a hg]
    exact spec_GetItem_ask a hg
  · rw [show itemL ⟨2, zA, l⟩ = lineV l from itemV_line l hg]
    exact spec_GetItem_line l hg
def smallI (x : S29) : Prop := x.f1.f1.size ≤ 1000000000 ∧ x.f1.f5.size ≤ 1000000000 ∧ x.f2.f1.size ≤ 1000000000
theorem ask_small (a : S25) (h : askG a) : smallI ⟨1, a, zL⟩ := by
  obtain ⟨_, _, _, _, _, _, t1, t5⟩ := ask_ranges a h
  have := textB_small _ t1
  have := textB_small _ t5
  exact ⟨by show a.f1.size ≤ _; omega, by show a.f5.size ≤ _; omega, by show zL.f1.size ≤ _; decide⟩
theorem line_small (l : S27) (h : lineG l) : smallI ⟨2, zA, l⟩ := by
  obtain ⟨_, _, _, _, _, _, t1⟩ := line_ranges l h
  have := textB_small _ t1
  exact ⟨by show zA.f1.size ≤ _; decide, by show zA.f5.size ≤ _; decide, by show l.f1.size ≤ _; omega⟩
theorem item_small (x : S29) (h : itemB x.f0 x.f1 x.f2 = true) : smallI x := by
  obtain ⟨k, a, l⟩ := x
  rcases item_canon k a l h with ⟨rfl, hg, rfl⟩ | ⟨rfl, rfl, hg⟩
  · exact ask_small a hg
  · exact line_small l hg
theorem zero_small : smallI ⟨0, zA, zL⟩ := ⟨by decide, by decide, by decide⟩
theorem spec_GetItem_some (b : List Int) (hU : bytesU b) (hl : b.length ≤ 1048576) : ∃ (x : S29) (ok : Bool), smallI x ∧ Ev (fun k => spec_GetItem.f k b) (x.f0, x.f1.f0, x.f1.f1, x.f1.f2, x.f1.f3, x.f1.f4, x.f1.f5, x.f1.f6, x.f1.f7, x.f2.f0, x.f2.f1, x.f2.f2, x.f2.f3, x.f2.f4, x.f2.f5, x.f2.f6, ok) := by
  by_cases hg : goodB b
  · rcases hg with ⟨a, h, rfl⟩ | ⟨l, h, rfl⟩
    · exact ⟨⟨1, a, zL⟩, true, ask_small a h, spec_GetItem_ask a h⟩
    · exact ⟨⟨2, zA, l⟩, true, line_small l h, spec_GetItem_line l h⟩
  · exact ⟨⟨0, zA, zL⟩, false, zero_small, spec_GetItem_bad b hU hl hg⟩
theorem segU {b : List Int} (hU : bytesU b) (n m : Nat) : bytesU ((b.take n).drop m) := fun x hx => hU x (List.mem_of_mem_take (List.mem_of_mem_drop hx))
theorem seg_len (b : List Int) (n m : Nat) : ((b.take n).drop m).length ≤ b.length := by simp; omega
def goodC (b : List Int) : Prop := ∃ ki fr id n of pa ti l, ctlB ki fr id n of pa ti l = true ∧ b = ctlV ki fr id n of pa ti l
theorem ctl_ranges (ki fr id n of : Int) (pa : Bool) (ti : Int) (l : List S29) (h : ctlB ki fr id n of pa ti l = true) : (1 ≤ ki ∧ ki ≤ 3) ∧ (0 ≤ fr ∧ fr ≤ 1) ∧ (1 ≤ id ∧ id ≤ 60000) ∧ (0 ≤ n ∧ n ≤ 20) ∧ (0 ≤ of ∧ of ≤ 20) ∧ (0 ≤ ti ∧ ti ≤ 65535) ∧ l.length ≤ 2 ∧ ∀ x ∈ l, itemB x.f0 x.f1 x.f2 = true := by
  unfold ctlB at h
  rw [Bool.and_eq_true, Bool.and_eq_true, inB_iff, inB_iff] at h
  obtain ⟨h1, h2, h⟩ := h
  by_cases c : ki = 1
  · rw [if_pos c, partB, Bool.and_eq_true, Bool.and_eq_true, Bool.and_eq_true, Bool.and_eq_true, inB_iff, inB_iff, inB_iff, decide_eq_true_eq] at h
    obtain ⟨ha, h3, h4, h5, h6⟩ := h
    rw [w64 (by omega) (by omega)] at h4
    exact ⟨by omega, by omega, by omega, by omega, by omega, by omega, h6, fun x hx => by have := List.all_eq_true.1 ha x hx; exact this⟩
  · rw [if_neg c] at h
    simp only [Bool.and_eq_true, beq_iff_eq, decide_eq_true_eq, Bool.not_eq_true'] at h
    obtain ⟨h3, h4, h5, h6, h⟩ := h
    have hn : l = [] := List.length_eq_zero_iff.1 h6
    subst hn
    by_cases d : ki = 2
    · rw [if_pos d, inB_iff] at h
      exact ⟨by omega, by omega, by omega, by omega, by omega, by omega, by simp, by simp⟩
    · rw [if_neg d] at h
      by_cases e : ki = 3
      · rw [if_pos e, beq_iff_eq] at h
        exact ⟨by omega, by omega, by omega, by omega, by omega, by omega, by simp, by simp⟩
      · rw [if_neg e] at h
        cases h
theorem ctl_small (ki fr id n of : Int) (pa : Bool) (ti : Int) (l : List S29) (h : ctlB ki fr id n of pa ti l = true) : ∀ x ∈ l, x.f1.f1.size ≤ 1000000000 ∧ x.f1.f5.size ≤ 1000000000 ∧ x.f2.f1.size ≤ 1000000000 := fun x hx => item_small x ((ctl_ranges ki fr id n of pa ti l h).2.2.2.2.2.2.2 x hx)
def ctlP (ki fr id n of : Int) (pa : Bool) (ti : Int) (m : Nat) : List Int := [ki, fr, id / 256 % 256, id % 256, n, of, if pa = true then 1 else 0, ti / 256 % 256, ti % 256, (m : Int)]
theorem ctlV_flat (ki fr id n of : Int) (pa : Bool) (ti : Int) (l : List S29) (h : ctlB ki fr id n of pa ti l = true) : ∃ s0 s1, ctlV ki fr id n of pa ti l = ctlP ki fr id n of pa ti l.length ++ (flatI l ++ [s0, s1]) := by
  obtain ⟨r0, r1, r2, r3, r4, r5, r6, _⟩ := ctl_ranges ki fr id n of pa ti l h
  have e0 : ki % 256 = ki := by omega
  have e1 : fr % 256 = fr := by omega
  have e3 : n % 256 = n := by omega
  have e4 : of % 256 = of := by omega
  have e6 : (l.length : Int) % 256 = (l.length : Int) := by omega
  obtain ⟨s, hs⟩ : ∃ s, s = sumV (ctlH ki fr id n of (if pa = true then 1 else 0) ti l) := ⟨_, rfl⟩
  refine ⟨s / 256 % 256, s % 256, ?_⟩
  rw [ctlV, if_pos h, ctlX, ← hs, ctlH, items_flat]
  simp only [putWordV, e0, e1, e3, e4, e6, ctlP, List.append_assoc, List.cons_append, List.nil_append]
theorem putWord_U {l : List Int} (n : Int) (h : bytesU l) : bytesU (putWordV l n) := putWordV_U l n h
theorem flat_U (l : List S29) : bytesU (flatI l) := by
  induction l with
  | nil => intro x hx; cases hx
  | cons y l ih =>
    intro x hx
    have h := itemL_len y
    rw [flatI, List.mem_cons, List.mem_append] at hx
    rcases hx with rfl | hx | hx
    · omega
    · exact itemL_U y x hx
    · exact ih x hx
theorem ctlV_U (ki fr id n of : Int) (pa : Bool) (ti : Int) (l : List S29) : bytesU (ctlV ki fr id n of pa ti l) := by
  have n0 : bytesU ([] : List Int) := by intro x hx; cases hx
  unfold ctlV
  split
  · rw [ctlX, ctlH, items_flat]
    refine putWord_U _ ?_
    have hp : bytesU [if pa = true then (1 : Int) else 0] := by intro x hx; rw [List.mem_singleton] at hx; subst hx; split <;> omega
    have two : ∀ a b : Int, bytesU [a % 256, b % 256] := by intro a b x hx; simp only [List.mem_cons, List.not_mem_nil, or_false] at hx; rcases hx with rfl | rfl <;> omega
    have app : ∀ a b : List Int, bytesU a → bytesU b → bytesU (a ++ b) := fun a b ha hb x hx => (List.mem_append.1 hx).elim (ha x) (hb x)
    refine app _ _ (one_U _ _ (putWord_U _ (app _ _ (putWord_U _ (two _ _)) ?_))) (flat_U l)
    exact app [n % 256, of % 256] [_] (two _ _) hp
  · exact n0
theorem spec_l9Byte_U (b : List Int) (hU : bytesU b) (i : Int) (bad : Bool) (hl : b.length ≤ 1000000000000) (h0 : 0 ≤ i) (h1 : i ≤ b.length) : ∃ v i' bad', spec_l9Byte.f b i bad = some (v, i', bad') ∧ 0 ≤ i' ∧ i' ≤ b.length ∧ 0 ≤ v ∧ v < 256 := by
  unfold spec_l9Byte.f
  by_cases c : bad = true
  · rw [if_pos c]; exact ⟨_, _, _, rfl, h0, h1, by omega, by omega⟩
  rw [if_neg c]
  by_cases d : i ≥ (b.length : Int)
  · rw [if_pos d]; exact ⟨_, _, _, rfl, h0, h1, by omega, by omega⟩
  rw [if_neg d]
  have hr := rdU hU i
  have w1 : wrap64 (i + 1) = i + 1 := w64 (by omega) (by omega)
  have w2 : wrap64 (i + 1 - 1) = i := by rw [w64 (by omega) (by omega)]; omega
  have w3 : wrap64 (rd b i) = rd b i := w64 (by omega) (by omega)
  simp only [w1, w2, w3]
  rw [if_pos (by omega), if_pos (by omega)]
  exact ⟨_, _, _, rfl, by omega, by omega, by omega, by omega⟩
theorem spec_GetCtl_end (b : List Int) (hU : bytesU b) (hg : ¬ goodC b) (c i : Int) (bad : Bool) (ki fr id n of : Int) (pa : Bool) (ti : Int) (l : List S29) (hl : l.length ≤ 1000) (hz : ∀ x ∈ l, smallI x) : Ev (fun k => spec_GetCtl.j1 k b c false b i bad ki fr id n of pa ti l) (0, 0, 0, 0, 0, false, 0, ([] : List S29), false) := by
  refine ev_step (fun k => spec_GetCtl.j1.eq_2 ..) (ev_neg (by simp) (ev_ite (fun _ => ev_now _) (fun _ => ev_bind (spec_CtlOk_ev ki fr id n of pa ti l (by omega) hz) (ev_ite (fun hc => ev_bind (spec_PutCtl_ev ki fr id n of pa ti l (by omega) hz) (ev_bind1 rfl (ev_neg ?_ (ev_now _)))) (fun _ => ev_now _)))))
  intro e
  exact hg ⟨ki, fr, id, n, of, pa, ti, l, hc, (strU_inj _ _ (ctlV_U _ _ _ _ _ _ _ _) hU (by simpa using e)).symm⟩
theorem spec_GetCtl_l0_bad (b : List Int) (hU : bytesU b) (hb : b.length ≤ 1048576) (hg : ¬ goodC b) (ki fr id n of : Int) (pa : Bool) (ti : Int) (d : Nat) : ∀ (c i : Int) (bad : Bool) (l : List S29), c ≤ d → 0 ≤ i → i ≤ b.length → l.length + d ≤ 1000 → (∀ x ∈ l, smallI x) → Ev (fun k => spec_GetCtl.l0 k b c b i bad ki fr id n of pa ti l) (0, 0, 0, 0, 0, false, 0, ([] : List S29), false) := by
  have hl' : b.length ≤ 1000000000000 := by omega
  induction d with
  | zero =>
    intro c i bad l hc h0 h1 hl hz
    exact ev_step (fun k => spec_GetCtl.l0.eq_2 ..) (ev_neg (by omega) (spec_GetCtl_end b hU hg c i bad ki fr id n of pa ti l (by omega) hz))
  | succ d ih =>
    intro c i bad l hc h0 h1 hl hz
    by_cases hc0 : c > 0
    · refine ev_step (fun k => spec_GetCtl.l0.eq_2 ..) (ev_pos hc0 ?_)
      cases bad with
      | true => exact spec_GetCtl_end b hU hg c i true ki fr id n of pa ti l (by omega) hz
      | false =>
        obtain ⟨v, i', bad', e, p0, p1, v0, v1⟩ := spec_l9Byte_U b hU i false hl' h0 h1
        refine ev_step (fun k => spec_GetCtl.j1.eq_2 ..) (ev_pos rfl (ev_bind1 e ?_))
        by_cases hb' : bad' = true
        · exact ev_pos hb' (ev_step (fun k => spec_GetCtl.j2.eq_2 ..) (ev_pos rfl (ev_now _)))
        refine ev_neg hb' ?_
        have w0 : wrap64 ((b.length : Int) - i') = (b.length : Int) - i' := w64 (by omega) (by omega)
        have w1 : wrap64 (i' + v) = i' + v := w64 (by omega) (by omega)
        have w2 : wrap64 (c - 1) = c - 1 := w64 (by omega) (by omega)
        simp only [w0]
        by_cases hv : v > (b.length : Int) - i'
        · exact ev_step (fun k => spec_GetCtl.j2.eq_2 ..) (ev_pos (decide_eq_true hv) (ev_now _))
        obtain ⟨x, ok, hs, eg⟩ := spec_GetItem_some ((b.take (i' + v).toNat).drop i'.toNat) (segU hU _ _) (Nat.le_trans (seg_len _ _ _) hb)
        refine ev_step (fun k => spec_GetCtl.j2.eq_2 ..) (ev_neg (by simpa using hv) (ev_pos p0 ?_))
        simp only [w1, w2]
        refine ev_pos (by omega) (ev_pos (by omega) (ev_bind eg (ev_ite (fun hok => ev_pos (by omega) ?_) (fun _ => ev_now _))))
        exact ih (c - 1) (i' + v) bad' (l ++ [x]) (by omega) (by omega) (by omega) (by simp; omega) (fun y hy => by
          rcases List.mem_append.1 hy with hy | hy
          · exact hz y hy
          · rw [List.mem_singleton] at hy; subst hy; exact hs)
    · exact ev_step (fun k => spec_GetCtl.l0.eq_2 ..) (ev_neg hc0 (spec_GetCtl_end b hU hg c i bad ki fr id n of pa ti l (by omega) hz))
theorem spec_GetCtl_bad (b : List Int) (hU : bytesU b) (hb : b.length ≤ 1048576) (hg : ¬ goodC b) : Ev (fun k => spec_GetCtl.f k b) (0, 0, 0, 0, 0, false, 0, ([] : List S29), false) := by
  have hl' : b.length ≤ 1000000000000 := by omega
  unfold spec_GetCtl.f
  obtain ⟨ki, i0, b0, e0, p0, q0, _⟩ := spec_l9Byte_some b 0 false hl' (by omega) (by omega)
  obtain ⟨fr, i1, b1, e1, p1, q1, _⟩ := spec_l9Byte_some b i0 b0 hl' p0 q0
  obtain ⟨id, i2, b2, e2, p2, q2, _⟩ := spec_l9Word_some b i1 b1 hl' p1 q1
  obtain ⟨n, i3, b3, e3, p3, q3, _⟩ := spec_l9Byte_some b i2 b2 hl' p2 q2
  obtain ⟨of, i4, b4, e4, p4, q4, _⟩ := spec_l9Byte_some b i3 b3 hl' p3 q3
  obtain ⟨pp, i5, b5, e5, p5, q5, _⟩ := spec_l9Byte_some b i4 b4 hl' p4 q4
  obtain ⟨ti, i6, b6, e6, p6, q6, _⟩ := spec_l9Word_some b i5 b5 hl' p5 q5
  obtain ⟨c, i7, b7, e7, p7, q7, v0, v1⟩ := spec_l9Byte_U b hU i6 b6 hl' p6 q6
  exact ev_bind1 e0 (ev_bind1 e1 (ev_bind1 e2 (ev_bind1 e3 (ev_bind1 e4 (ev_bind1 e5 (ev_bind1 e6 (ev_bind1 e7 (spec_GetCtl_l0_bad b hU hb hg ki fr id n of (pp == 1) ti 256 c i7 b7 [] (by omega) p7 q7 (by simp) (by simp)))))))))
theorem segL (b p m s : List Int) (hb : b = p ++ (m ++ s)) : (b.take (((p.length : Int)) + (m.length : Int)).toNat).drop ((p.length : Int)).toNat = m := by
  have e : ((p.length : Int) + (m.length : Int)).toNat = p.length + m.length := by omega
  rw [e, Int.toNat_natCast, hb]
  exact seg_mid p m s
theorem spec_GetCtl_l0_at (b : List Int) (hb : b.length ≤ 1048576) (ki fr id n of : Int) (pa : Bool) (ti : Int) (l : List S29) (hc : ctlB ki fr id n of pa ti l = true) (hv : b = ctlV ki fr id n of pa ti l) (s : List Int) (r : List S29) : ∀ (p : List Int) (acc : List S29), b = p ++ (flatI r ++ s) → acc ++ r = l → Ev (fun k => spec_GetCtl.l0 k b (r.length : Int) b (p.length : Int) false ki fr id n of pa ti acc) (ki, fr, id, n, of, pa, ti, l, true) := by
  have hl' : b.length ≤ 1000000000000 := by omega
  obtain ⟨_, _, _, _, _, _, hln, hit⟩ := ctl_ranges ki fr id n of pa ti l hc
  have hz := ctl_small ki fr id n of pa ti l hc
  have hp := spec_PutCtl_ev ki fr id n of pa ti l (by omega) hz
  rw [← hv] at hp
  have ho := spec_CtlOk_ev ki fr id n of pa ti l (by omega) hz
  rw [hc] at ho
  induction r with
  | nil =>
    intro p acc h1 h2
    rw [List.append_nil] at h2
    subst h2
    exact ev_step (fun k => spec_GetCtl.l0.eq_2 ..) (ev_neg (by simp) (ev_step (fun k => spec_GetCtl.j1.eq_2 ..) (ev_neg (by simp) (ev_neg (by simp) (ev_bind ho (ev_pos rfl (ev_bind hp (ev_bind1 rfl (ev_pos (sameEq b) (ev_now _))))))))))
  | cons x r ih =>
    intro p acc h1 h2
    have hx : itemB x.f0 x.f1 x.f2 = true := hit x (by rw [← h2]; simp)
    have hxl := itemL_len x
    have hacc : acc.length ≤ 2 := by have := congrArg List.length h2; simp at this; omega
    have hbl : b.length = p.length + (1 + (itemL x).length + (flatI r).length + s.length) := by rw [h1, flatI]; simp; omega
    have e := sB b p _ _ (p.length : Int) hl' (by rw [h1, flatI]; rfl) rfl (show 0 ≤ ((itemL x).length : Int) ∧ ((itemL x).length : Int) < 256 by omega)
    have hseg : (b.take ((p.length : Int) + 1 + ((itemL x).length : Int)).toNat).drop ((p.length : Int) + 1).toNat = itemL x := by
      have := segL b (p ++ [((itemL x).length : Int)]) (itemL x) (flatI r ++ s) (by rw [h1, flatI]; simp)
      rw [List.length_append, List.length_singleton, Int.natCast_add] at this
      exact this
    have hn := ih (p ++ ((itemL x).length : Int) :: itemL x) (acc ++ [x]) (by rw [h1, flatI]; simp) (by rw [← h2]; simp)
    refine ev_step (fun k => spec_GetCtl.l0.eq_2 ..) (ev_pos (by rw [List.length_cons]; omega) (ev_step (fun k => spec_GetCtl.j1.eq_2 ..) (ev_pos rfl (ev_bind1 e (ev_neg (by simp) ?_)))))
    have w0 : wrap64 ((b.length : Int) - ((p.length : Int) + 1)) = (b.length : Int) - ((p.length : Int) + 1) := w64 (by omega) (by omega)
    simp only [w0]
    clear w0
    rw [decide_eq_false (show ¬ ((itemL x).length : Int) > (b.length : Int) - ((p.length : Int) + 1) by omega)]
    refine ev_step (fun k => spec_GetCtl.j2.eq_2 ..) (ev_neg (by simp) (ev_pos (by omega) ?_))
    have w1 : wrap64 ((p.length : Int) + 1 + ((itemL x).length : Int)) = (p.length : Int) + 1 + ((itemL x).length : Int) := w64 (by omega) (by omega)
    have w2 : wrap64 (((x :: r).length : Int) - 1) = (r.length : Int) := w64e (by simp) (by omega) (by have := congrArg List.length h2; simp at this; omega)
    simp only [w1, w2, hseg]
    clear w1 w2
    refine ev_pos (by omega) (ev_pos (by omega) (ev_bind (spec_GetItem_at x hx) (ev_pos rfl (ev_pos (by omega) ?_))))
    rw [show (p.length : Int) + 1 + ((itemL x).length : Int) = ((p ++ ((itemL x).length : Int) :: itemL x).length : Int) by simp <;> omega]
    exact hn
theorem boolInt (pa : Bool) : ((if pa = true then (1 : Int) else 0) == 1) = pa := by cases pa <;> rfl
theorem word_join (x : Int) (h0 : 0 ≤ x) (h1 : x ≤ 65535) : x / 256 % 256 * 256 + x % 256 = x := by omega
theorem spec_GetCtl_at (ki fr id n of : Int) (pa : Bool) (ti : Int) (l : List S29) (hc : ctlB ki fr id n of pa ti l = true) : Ev (fun k => spec_GetCtl.f k (ctlV ki fr id n of pa ti l)) (ki, fr, id, n, of, pa, ti, l, true) := by
  obtain ⟨r0, r1, r2, r3, r4, r5, r6, _⟩ := ctl_ranges ki fr id n of pa ti l hc
  obtain ⟨s0, s1, hf⟩ := ctlV_flat ki fr id n of pa ti l hc
  have hlen := ctlV_len ki fr id n of pa ti l
  have key := fun p h => spec_GetCtl_l0_at (ctlV ki fr id n of pa ti l) (by omega) ki fr id n of pa ti l hc rfl [s0, s1] l p [] h rfl
  generalize ctlV ki fr id n of pa ti l = b at hf hlen key
  have hl' : b.length ≤ 1000000000000 := by omega
  have hk := key (ctlP ki fr id n of pa ti l.length) hf
  have hp : 0 ≤ (if pa = true then (1 : Int) else 0) ∧ (if pa = true then (1 : Int) else 0) < 256 := by split <;> omega
  rw [show ((ctlP ki fr id n of pa ti l.length).length : Int) = 0 + 1 + 1 + 2 + 1 + 1 + 1 + 2 + 1 from rfl] at hk
  unfold ctlP at hf
  simp only [List.cons_append, List.nil_append] at hf
  have e0 := sB b [] _ ki 0 hl' hf rfl (by omega)
  have e1 := sB b [ki] _ fr (0 + 1) hl' hf rfl (by omega)
  have e2 := sW b [ki, fr] _ _ _ (0 + 1 + 1) hl' hf rfl (by omega) (by omega)
  have e3 := sB b [ki, fr, id / 256 % 256, id % 256] _ n (0 + 1 + 1 + 2) hl' hf rfl (by omega)
  have e4 := sB b [ki, fr, id / 256 % 256, id % 256, n] _ of (0 + 1 + 1 + 2 + 1) hl' hf rfl (by omega)
  have e5 := sB b [ki, fr, id / 256 % 256, id % 256, n, of] _ _ (0 + 1 + 1 + 2 + 1 + 1) hl' hf rfl hp
  have e6 := sW b [ki, fr, id / 256 % 256, id % 256, n, of, _] _ _ _ (0 + 1 + 1 + 2 + 1 + 1 + 1) hl' hf rfl (by omega) (by omega)
  have e7 := sB b [ki, fr, id / 256 % 256, id % 256, n, of, _, ti / 256 % 256, ti % 256] _ _ (0 + 1 + 1 + 2 + 1 + 1 + 1 + 2) hl' hf rfl (by omega)
  rw [word_join id (by omega) (by omega)] at e2
  rw [word_join ti (by omega) (by omega)] at e6
  unfold spec_GetCtl.f
  refine ev_bind1 e0 (ev_bind1 e1 (ev_bind1 e2 (ev_bind1 e3 (ev_bind1 e4 (ev_bind1 e5 (ev_bind1 e6 (ev_bind1 e7 ?_)))))))
  simp only [boolInt]
  exact hk
theorem ctlV_ge (ki fr id n of : Int) (pa : Bool) (ti : Int) (l : List S29) (h : ctlB ki fr id n of pa ti l = true) : 12 ≤ (ctlV ki fr id n of pa ti l).length := by
  obtain ⟨s0, s1, hf⟩ := ctlV_flat ki fr id n of pa ti l h
  rw [hf, ctlP]
  simp only [List.length_append, List.length_cons, List.length_nil]
  omega
theorem spec_DrawGetCtl_some (b : List Int) (hb : b.length ≤ 4611686018427387904) : ∃ c, Ev (fun k => spec_DrawGetCtl.f k b) c ∧ bytesU c ∧ c.length ≤ 1048576 := by
  unfold spec_DrawGetCtl.f
  obtain ⟨h, e0⟩ := spec_l1New_some b hb
  obtain ⟨ki, fr, id, n, of, pa, ti, it, i1, h1, e1, hc, o, l, c1⟩ := spec_l11Draw_good b 0 h ⟨by omega, by omega⟩ hb
  have hp := spec_PutCtl_ev ki fr id n of pa ti it (by omega) (okI_sz it o)
  have hg := ctlV_ge ki fr id n of pa ti it hc
  have hle := ctlV_len ki fr id n of pa ti it
  have hln := (ctl_ranges ki fr id n of pa ti it hc).2.2.2.2.2.2.1
  have hU := ctlV_U ki fr id n of pa ti it
  obtain ⟨v, i2, h2, e2, c2⟩ := spec_l1Once_some b i1 h1 4 c1 hb
  generalize ctlV ki fr id n of pa ti it = t at hp hg hle hU
  by_cases d : v = true
  · obtain ⟨x, i3, h3, e3, g3, _, c3⟩ := spec_l1Below_some b i2 h2 9 c2 hb
    obtain ⟨y, i4, h4, e4, g4, _, c4⟩ := spec_l1Below_some b i3 h3 4 c3 hb
    have r3 := g3 (by omega)
    have r4 := g4 (by omega)
    have w : wrap64 ((t.length : Int) - 2) = (t.length : Int) - 2 := w64 (by omega) (by omega)
    have hs := spec_Sum_ev ((t.take ((t.length : Int) - 2).toNat).set x.toNat (y % 256)) (by simp; omega)
    have hl2 : (t.take ((t.length : Int) - 2).toNat).length = t.length - 2 := by rw [List.length_take]; omega
    refine ⟨putWordV ((t.take ((t.length : Int) - 2).toNat).set x.toNat (y % 256)) (sumV ((t.take ((t.length : Int) - 2).toNat).set x.toNat (y % 256))), ?_, ?_, by rw [putWordV_len, List.length_set, hl2]; omega⟩
    · refine ev_bind e0 (ev_bind e1 (ev_bind hp (ev_bind1 e2 (ev_pos d (ev_bind1 rfl ?_)))))
      simp only [w, List.nil_append, List.length_nil]
      refine ev_pos (by omega) (ev_pos (by omega) (ev_bind1 rfl (ev_pos (by omega) (ev_bind1 rfl (ev_bind1 e3 (ev_bind1 e4 (ev_pos r3.1 (ev_pos (by omega) (ev_bind1 rfl (ev_bind hs (ev_bind1 (spec_PutWord_eq _ _ (by rw [List.length_set, hl2]; omega)) (ev_now _))))))))))))
    · refine putWordV_U _ _ (fun z hz => ?_)
      rcases List.mem_or_eq_of_mem_set hz with hz | rfl
      · exact hU z (List.mem_of_mem_take hz)
      · omega
  · obtain ⟨l', i3, h3, e3, b3, l3, c3⟩ := spec_l1Bend_some b i2 h2 t (by omega) hU c2 hb
    exact ⟨l', ev_bind e0 (ev_bind e1 (ev_bind hp (ev_bind1 e2 (ev_neg d (ev_bind1 e3 (ev_now _)))))), b3, by omega⟩
theorem impl_reader_one_at (p : List Int) (x : Int) (s : List Int) (h0 : 0 ≤ x) (h1 : x < 256) (hl : (p ++ x :: s).length ≤ 1000000000000) : impl_reader_one.f (p ++ x :: s) (p.length : Int) = some (x, (p.length : Int) + 1) := by
  unfold impl_reader_one.f
  have hlen : (p ++ x :: s).length = p.length + s.length + 1 := by simp; omega
  rw [if_pos (by omega), if_pos (by omega), rd_mid, w64 (by omega) (by omega), w64 (by omega) (by omega)]
theorem impl_reader_one_some (b : List Int) (i : Int) (hl : b.length ≤ 1000000000000) (h0 : 0 ≤ i) (h1 : i ≤ 2000000000000) : ∃ v, impl_reader_one.f b i = some (v, i + 1) := by
  unfold impl_reader_one.f
  rw [w64 (x := i + 1) (by omega) (by omega)]
  by_cases c : i < (b.length : Int)
  · rw [if_pos c, if_pos h0]; exact ⟨_, rfl⟩
  · rw [if_neg c]; exact ⟨_, rfl⟩
theorem or_word (x y : Int) (hx : 0 ≤ x ∧ x < 256) (hy : 0 ≤ y ∧ y < 256) : Go.bits .or .i64 (x * 256) y = x * 256 + y := by
  obtain ⟨a, rfl⟩ := Int.eq_ofNat_of_zero_le hx.1
  obtain ⟨c, rfl⟩ := Int.eq_ofNat_of_zero_le hy.1
  have ha : a < 256 := by omega
  have hc : c < 2 ^ 8 := by omega
  have key : (BitVec.ofInt 64 ((a : Int) * 256) ||| BitVec.ofInt 64 (c : Int)).toNat = a * 256 + c := by
    rw [BitVec.toNat_or, BitVec.toNat_ofInt, BitVec.toNat_ofInt]
    have e1 : (((a : Int) * 256) % ((2 ^ 64 : Nat) : Int)).toNat = a <<< 8 := by rw [Nat.shiftLeft_eq]; omega
    have e2 : (((c : Int)) % ((2 ^ 64 : Nat) : Int)).toNat = c := by omega
    rw [e1, e2, ← Nat.shiftLeft_add_eq_or_of_lt hc, Nat.shiftLeft_eq]
  show IntKind.i64.wrap ((BitVec.ofInt 64 ((a : Int) * 256) ||| BitVec.ofInt 64 (c : Int)).toNat : Nat) = (a : Int) * 256 + c
  rw [key, IntKind.wrap_i64]
  omega
theorem impl_reader_word_at (p : List Int) (x y : Int) (s : List Int) (hx : 0 ≤ x ∧ x < 256) (hy : 0 ≤ y ∧ y < 256) (hl : (p ++ x :: y :: s).length ≤ 1000000000000) : impl_reader_word.f (p ++ x :: y :: s) (p.length : Int) = some (x * 256 + y, (p.length : Int) + 2) := by
  unfold impl_reader_word.f
  have h2 := impl_reader_one_at (p ++ [x]) y s hy.1 hy.2 (by simpa using hl)
  have e : ((p ++ [x]).length : Int) = (p.length : Int) + 1 := by simp
  rw [e, show (p ++ [x]) ++ y :: s = p ++ x :: y :: s by simp] at h2
  rw [impl_reader_one_at p x (y :: s) hx.1 hx.2 hl, Option.bind_some]
  dsimp only
  rw [h2, Option.bind_some, w64 (x := x * 256) (by omega) (by omega), or_word x y hx hy]
  dsimp only
  rw [show (p.length : Int) + 1 + 1 = (p.length : Int) + 2 by omega]
theorem impl_reader_word_some (b : List Int) (i : Int) (hl : b.length ≤ 1000000000000) (h0 : 0 ≤ i) (h1 : i ≤ 1000000000000) : ∃ v, impl_reader_word.f b i = some (v, i + 2) := by
  unfold impl_reader_word.f
  obtain ⟨v, e⟩ := impl_reader_one_some b i hl h0 (by omega)
  obtain ⟨v2, e2⟩ := impl_reader_one_some b (i + 1) hl (by omega) (by omega)
  rw [e, Option.bind_some]
  dsimp only
  rw [e2, Option.bind_some]
  dsimp only
  rw [show i + 1 + 1 = i + 2 by omega]
  exact ⟨_, rfl⟩
theorem impl_GetText_at (p : List Int) (t : ByteArray) (s : List Int) (ht : textB t = true) (hl : (p ++ (t.size : Int) :: (bytesOf t ++ s)).length ≤ 1000000000000) : Ev (fun k => impl_GetText.f k (p ++ (t.size : Int) :: (bytesOf t ++ s)) (p.length : Int)) (t, (p.length : Int) + 1 + (t.size : Int), true) := by
  have hz := textB_small t ht
  have hlen : (p ++ (t.size : Int) :: (bytesOf t ++ s)).length = p.length + 1 + t.size + s.length := by simp [bytesOf_len]; omega
  unfold impl_GetText.f
  have w0 : wrap64 ((t.size : Int)) = (t.size : Int) := w64 (by omega) (by omega)
  have w1 : wrap64 ((p.length : Int) + 1) = (p.length : Int) + 1 := w64 (by omega) (by omega)
  have w2 : wrap64 ((p.length : Int) + 1 + (t.size : Int)) = (p.length : Int) + 1 + (t.size : Int) := w64 (by omega) (by omega)
  have w3 : wrap64 (wrap64 (((p ++ (t.size : Int) :: (bytesOf t ++ s)).length : Int) - (p.length : Int)) - 1) = (t.size : Int) + s.length := by rw [w64 (x := ((p ++ (t.size : Int) :: (bytesOf t ++ s)).length : Int) - (p.length : Int)) (by omega) (by omega), w64 (by omega) (by omega)]; omega
  have w4 : wrap64 (((p ++ (t.size : Int) :: (bytesOf t ++ s)).length : Int) - 1) = ((p ++ (t.size : Int) :: (bytesOf t ++ s)).length : Int) - 1 := w64 (by omega) (by omega)
  simp only [w4, rd_mid, w0, w3]
  refine ev_bind1 (impl_isIn_eq _ _ _) (ev_pos ((inB_iff _ _ _).2 ⟨by omega, by omega⟩) (ev_pos (by omega) (ev_pos (by omega) (ev_step (fun k => impl_GetText.j0.eq_2 ..) (ev_neg (by simp; omega) (ev_pos (by omega) (ev_pos (by omega) ?_)))))))
  simp only [rd_mid, w0, w1, w2, textSeg]
  exact ev_pos (by omega) (ev_pos (by omega) (ev_pos (by omega) (ev_bind (impl_TextOk_ev t (by omega)) (ev_pos ht (ev_now _)))))
theorem impl_GetText_some (b : List Int) (i : Int) (hb : bytesU b) (hl : b.length ≤ 1048576) (h0 : 0 ≤ i) : ∃ t i' ok, Ev (fun k => impl_GetText.f k b i) (t, i', ok) ∧ t.size ≤ 2000000 ∧ (ok = true → 0 ≤ i' ∧ i' ≤ 2000000) := by
  unfold impl_GetText.f
  have w4 : wrap64 ((b.length : Int) - 1) = (b.length : Int) - 1 := w64 (by omega) (by omega)
  simp only [w4]
  by_cases c : inB i 0 ((b.length : Int) - 1) = true
  · have hi := (inB_iff _ _ _).1 c
    have hr := rdU hb i
    have w0 : wrap64 (rd b i) = rd b i := w64 (by omega) (by omega)
    have w1 : wrap64 (i + 1) = i + 1 := w64 (by omega) (by omega)
    have w2 : wrap64 (i + 1 + rd b i) = i + 1 + rd b i := w64 (by omega) (by omega)
    have w3 : wrap64 (wrap64 ((b.length : Int) - i) - 1) = (b.length : Int) - i - 1 := by rw [w64 (x := (b.length : Int) - i) (by omega) (by omega), w64 (by omega) (by omega)]
    simp only [w0, w3]
    by_cases d : rd b i > (b.length : Int) - i - 1
    · exact ⟨_, _, _, ev_bind1 (impl_isIn_eq _ _ _) (ev_pos c (ev_pos (by omega) (ev_pos (by omega) (ev_step (fun k => impl_GetText.j0.eq_2 ..) (ev_pos (by simpa using d) (ev_now _)))))), by decide, fun h => by cases h⟩
    have hz := strU_size b (i + 1 + rd b i).toNat (i + 1).toNat
    have go : ∀ (r : ByteArray × Int × Bool), Ev (fun k => (impl_TextOk.f k (strOfNums ((b.take (i + 1 + rd b i).toNat).drop (i + 1).toNat))).bind fun t => if t = true then some (strOfNums ((b.take (i + 1 + rd b i).toNat).drop (i + 1).toNat), i + 1 + rd b i, true) else some ((⟨#[]⟩ : ByteArray), (0 : Int), false)) r → Ev (fun k => impl_GetText.j0 k b i (decide (rd b i > (b.length : Int) - i - 1))) r := by
      intro r h
      refine ev_step (fun k => impl_GetText.j0.eq_2 ..) (ev_neg (by simpa using d) (ev_pos (by omega) (ev_pos (by omega) ?_)))
      simp only [w0, w1, w2]
      exact ev_pos (by omega) (ev_pos (by omega) (ev_pos (by omega) h))
    by_cases e : textB (strOfNums ((b.take (i + 1 + rd b i).toNat).drop (i + 1).toNat)) = true
    · exact ⟨_, _, _, ev_bind1 (impl_isIn_eq _ _ _) (ev_pos c (ev_pos (by omega) (ev_pos (by omega) (go _ (ev_bind (impl_TextOk_ev _ (by omega)) (ev_pos e (ev_now _))))))), by omega, fun _ => by omega⟩
    · exact ⟨_, _, _, ev_bind1 (impl_isIn_eq _ _ _) (ev_pos c (ev_pos (by omega) (ev_pos (by omega) (go _ (ev_bind (impl_TextOk_ev _ (by omega)) (ev_neg e (ev_now _))))))), by decide, fun h => by cases h⟩
  · exact ⟨_, _, _, ev_bind1 (impl_isIn_eq _ _ _) (ev_neg c (ev_step (fun k => impl_GetText.j0.eq_2 ..) (ev_pos rfl (ev_now _)))), by decide, fun h => by cases h⟩
theorem impl_reader_text_at (p : List Int) (t : ByteArray) (s : List Int) (ht : textB t = true) (hl : (p ++ (t.size : Int) :: (bytesOf t ++ s)).length ≤ 1000000000000) : Ev (fun k => impl_reader_text.f k (p ++ (t.size : Int) :: (bytesOf t ++ s)) (p.length : Int)) (t, (p.length : Int) + 1 + (t.size : Int)) := by
  unfold impl_reader_text.f
  exact ev_bind (impl_GetText_at p t s ht hl) (ev_pos rfl (ev_now _))
theorem impl_reader_text_some (b : List Int) (i : Int) (hb : bytesU b) (hl : b.length ≤ 1048576) (h0 : 0 ≤ i) : ∃ t i', Ev (fun k => impl_reader_text.f k b i) (t, i') ∧ t.size ≤ 2000000 ∧ 0 ≤ i' ∧ (i' = i ∨ i' ≤ 2000000) := by
  unfold impl_reader_text.f
  obtain ⟨t, j, ok, e, hz, hj⟩ := impl_GetText_some b i hb hl h0
  by_cases d : ok = true
  · exact ⟨_, _, ev_bind e (ev_pos d (ev_now _)), hz, (hj d).1, .inr (hj d).2⟩
  · exact ⟨_, _, ev_bind e (ev_neg d (ev_now _)), hz, h0, .inl rfl⟩
theorem impl_reader_since_at (p : List Int) (x y z : Int) (s : List Int) (hx : 0 ≤ x ∧ x < 256) (hy : 0 ≤ y ∧ y < 256) (hz : 0 ≤ z ∧ z < 256) (hl : (p ++ x :: y :: z :: s).length ≤ 1000000000000) : impl_reader_since.f (p ++ x :: y :: z :: s) (p.length : Int) = some ((x * 256 + y) * 256 + z, (p.length : Int) + 3) := by
  unfold impl_reader_since.f
  have h2 := impl_reader_one_at (p ++ [x, y]) z s hz.1 hz.2 (by simpa using hl)
  have e : ((p ++ [x, y]).length : Int) = (p.length : Int) + 2 := by simp
  rw [e, show (p ++ [x, y]) ++ z :: s = p ++ x :: y :: z :: s by simp] at h2
  rw [impl_reader_word_at p x y (z :: s) hx hy hl, Option.bind_some]
  dsimp only
  rw [h2, Option.bind_some]
  dsimp only
  rw [w64 (x := (x * 256 + y) * 256) (by omega) (by omega), w64 (by omega) (by omega), show (p.length : Int) + 2 + 1 = (p.length : Int) + 3 by omega]
theorem impl_reader_since_some (b : List Int) (i : Int) (hl : b.length ≤ 1000000000000) (h0 : 0 ≤ i) (h1 : i ≤ 1000000000000) : ∃ v, impl_reader_since.f b i = some (v, i + 3) := by
  unfold impl_reader_since.f
  obtain ⟨v, e⟩ := impl_reader_word_some b i hl h0 h1
  obtain ⟨v2, e2⟩ := impl_reader_one_some b (i + 2) hl (by omega) (by omega)
  rw [e, Option.bind_some]
  dsimp only
  rw [e2, Option.bind_some]
  dsimp only
  rw [show i + 2 + 1 = i + 3 by omega]
  exact ⟨_, rfl⟩
theorem iB (b p s : List Int) (x i : Int) (hl : b.length ≤ 1000000000000) (hb : b = p ++ x :: s) (hi : i = p.length) (h0 : 0 ≤ x ∧ x < 256) : impl_reader_one.f b i = some (x, i + 1) := by
  subst hb hi
  exact impl_reader_one_at p x s h0.1 h0.2 hl
theorem iW (b p s : List Int) (x y i : Int) (hl : b.length ≤ 1000000000000) (hb : b = p ++ x :: y :: s) (hi : i = p.length) (h0 : 0 ≤ x ∧ x < 256) (h1 : 0 ≤ y ∧ y < 256) : impl_reader_word.f b i = some (x * 256 + y, i + 2) := by
  subst hb hi
  exact impl_reader_word_at p x y s h0 h1 hl
theorem iS (b p s : List Int) (x y z i : Int) (hl : b.length ≤ 1000000000000) (hb : b = p ++ x :: y :: z :: s) (hi : i = p.length) (h0 : 0 ≤ x ∧ x < 256) (h1 : 0 ≤ y ∧ y < 256) (h2 : 0 ≤ z ∧ z < 256) : impl_reader_since.f b i = some ((x * 256 + y) * 256 + z, i + 3) := by
  subst hb hi
  exact impl_reader_since_at p x y z s h0 h1 h2 hl
theorem iT (b p s : List Int) (t : ByteArray) (i : Int) (hl : b.length ≤ 1000000000000) (hb : b = p ++ (t.size : Int) :: (bytesOf t ++ s)) (hi : i = p.length) (h0 : textB t = true) : Ev (fun k => impl_reader_text.f k b i) (t, i + 1 + (t.size : Int)) := by
  subst hb hi
  exact impl_reader_text_at p t s h0 hl
theorem impl_GetItem_ask (a : S25) (h : askG a) : Ev (fun k => impl_GetItem.f k (askV a)) (1, a.f0, a.f1, a.f2, a.f3, a.f4, a.f5, a.f6, a.f7, 0, ⟨#[]⟩, 0, 0, 0, 0, 0, true) := by
  obtain ⟨r0, r2, r3, r4, r6, r7, t1, t5⟩ := ask_ranges a h
  have hf := askV_flat a t1 t5 r4 r2
  have hl := askV_len a
  have z1 := textB_small _ t1
  have z5 := textB_small _ t5
  have hp := impl_PutItem_ev 1 a zL (by omega) (by omega) (by decide)
  rw [itemV_ask a h] at hp
  generalize askV a = b at hf hl hp
  have hl' : b.length ≤ 1000000000000 := by omega
  have v0 : a.f0 / 256 % 256 * 256 + a.f0 % 256 = a.f0 := by omega
  have v3 : a.f3 / 256 % 256 * 256 + a.f3 % 256 = a.f3 := by omega
  have v6 : a.f6 / 256 % 256 * 256 + a.f6 % 256 = a.f6 := by omega
  have v7 : a.f7 / 256 % 256 * 256 + a.f7 % 256 = a.f7 := by omega
  have v4 : (a.f4 / 256 / 256 % 256 * 256 + a.f4 / 256 % 256) * 256 + a.f4 % 256 = a.f4 := by omega
  have e0 := iB b [] _ 1 0 hl' hf rfl (by omega)
  have e1 := iW b [1] _ _ _ (0 + 1) hl' hf rfl (by omega) (by omega)
  have e2 := iB b [1, a.f0 / 256 % 256, a.f0 % 256] _ _ (0 + 1 + 2) hl' hf rfl (by omega)
  have e3 := iT b [1, a.f0 / 256 % 256, a.f0 % 256, a.f2] _ a.f1 (0 + 1 + 2 + 1) hl' hf rfl t1
  have e4 := iW b (1 :: (a.f0 / 256 % 256) :: (a.f0 % 256) :: a.f2 :: (a.f1.size : Int) :: bytesOf a.f1) _ _ _ (0 + 1 + 2 + 1 + 1 + (a.f1.size : Int)) hl' hf (by simp [bytesOf_len]; omega) (by omega) (by omega)
  have e5 := iS b (1 :: (a.f0 / 256 % 256) :: (a.f0 % 256) :: a.f2 :: (a.f1.size : Int) :: (bytesOf a.f1 ++ [a.f3 / 256 % 256, a.f3 % 256])) _ _ _ _ (0 + 1 + 2 + 1 + 1 + (a.f1.size : Int) + 2) hl' (by rw [hf]; simp only [List.cons_append, List.append_assoc, List.nil_append] <;> rfl) (by simp [bytesOf_len]; omega) (by omega) (by omega) (by omega)
  have e7 := iT b (1 :: (a.f0 / 256 % 256) :: (a.f0 % 256) :: a.f2 :: (a.f1.size : Int) :: (bytesOf a.f1 ++ [a.f3 / 256 % 256, a.f3 % 256, a.f4 / 256 / 256 % 256, a.f4 / 256 % 256, a.f4 % 256])) _ a.f5 (0 + 1 + 2 + 1 + 1 + (a.f1.size : Int) + 2 + 3) hl' (by rw [hf]; simp only [List.cons_append, List.append_assoc, List.nil_append] <;> rfl) (by simp [bytesOf_len]; omega) t5
  have e8 := iW b (1 :: (a.f0 / 256 % 256) :: (a.f0 % 256) :: a.f2 :: (a.f1.size : Int) :: (bytesOf a.f1 ++ ((a.f3 / 256 % 256) :: (a.f3 % 256) :: (a.f4 / 256 / 256 % 256) :: (a.f4 / 256 % 256) :: (a.f4 % 256) :: (a.f5.size : Int) :: bytesOf a.f5))) _ _ _ (0 + 1 + 2 + 1 + 1 + (a.f1.size : Int) + 2 + 3 + 1 + (a.f5.size : Int)) hl' (by rw [hf]; simp only [List.cons_append, List.append_assoc, List.nil_append] <;> rfl) (by simp [bytesOf_len]; omega) (by omega) (by omega)
  have e9 := iW b (1 :: (a.f0 / 256 % 256) :: (a.f0 % 256) :: a.f2 :: (a.f1.size : Int) :: (bytesOf a.f1 ++ ((a.f3 / 256 % 256) :: (a.f3 % 256) :: (a.f4 / 256 / 256 % 256) :: (a.f4 / 256 % 256) :: (a.f4 % 256) :: (a.f5.size : Int) :: (bytesOf a.f5 ++ [a.f6 / 256 % 256, a.f6 % 256])))) _ _ _ (0 + 1 + 2 + 1 + 1 + (a.f1.size : Int) + 2 + 3 + 1 + (a.f5.size : Int) + 2) hl' (by rw [hf]; simp only [List.cons_append, List.append_assoc, List.nil_append] <;> rfl) (by simp [bytesOf_len]; omega) (by omega) (by omega)
  unfold impl_GetItem.f
  refine ev_bind1 e0 (ev_bind1 e1 (ev_bind1 e2 (ev_bind e3 (ev_bind1 e4 (ev_bind1 e5 (ev_pos rfl (ev_bind e7 (ev_bind1 e8 (ev_bind1 e9 ?_)))))))))
  simp only [v0, v3, v4, v6, v7]
  exact ev_step (fun k => impl_GetItem.j0.eq_2 ..) (ev_neg (by omega) (ev_bind hp (ev_bind1 rfl (ev_pos (sameEq b) (ev_now _)))))
theorem impl_GetItem_line (l : S27) (h : lineG l) : Ev (fun k => impl_GetItem.f k (lineV l)) (2, 0, ⟨#[]⟩, 0, 0, 0, ⟨#[]⟩, 0, 0, l.f0, l.f1, l.f2, l.f3, l.f4, l.f5, l.f6, true) := by
  obtain ⟨r0, r2, r3, r4, r5, r6, t1⟩ := line_ranges l h
  have hf := lineV_flat l t1 r4 r3
  have hl := lineV_len l
  have z1 := textB_small _ t1
  have hp := impl_PutItem_ev 2 zA l (by decide) (by decide) (by omega)
  rw [itemV_line l h] at hp
  generalize lineV l = b at hf hl hp
  have hl' : b.length ≤ 1000000000000 := by omega
  have v0 : l.f0 / 256 % 256 * 256 + l.f0 % 256 = l.f0 := by omega
  have v2 : l.f2 / 256 % 256 * 256 + l.f2 % 256 = l.f2 := by omega
  have v5 : l.f5 / 256 % 256 * 256 + l.f5 % 256 = l.f5 := by omega
  have v6 : l.f6 / 256 % 256 * 256 + l.f6 % 256 = l.f6 := by omega
  have v4 : (l.f4 / 256 / 256 % 256 * 256 + l.f4 / 256 % 256) * 256 + l.f4 % 256 = l.f4 := by omega
  have e0 := iB b [] _ 2 0 hl' hf rfl (by omega)
  have e1 := iW b [2] _ _ _ (0 + 1) hl' hf rfl (by omega) (by omega)
  have e2 := iB b [2, l.f0 / 256 % 256, l.f0 % 256] _ _ (0 + 1 + 2) hl' hf rfl (by omega)
  have e3 := iT b [2, l.f0 / 256 % 256, l.f0 % 256, l.f3] _ l.f1 (0 + 1 + 2 + 1) hl' hf rfl t1
  have e4 := iW b (2 :: (l.f0 / 256 % 256) :: (l.f0 % 256) :: l.f3 :: (l.f1.size : Int) :: bytesOf l.f1) _ _ _ (0 + 1 + 2 + 1 + 1 + (l.f1.size : Int)) hl' hf (by simp [bytesOf_len]; omega) (by omega) (by omega)
  have e5 := iS b (2 :: (l.f0 / 256 % 256) :: (l.f0 % 256) :: l.f3 :: (l.f1.size : Int) :: (bytesOf l.f1 ++ [l.f2 / 256 % 256, l.f2 % 256])) _ _ _ _ (0 + 1 + 2 + 1 + 1 + (l.f1.size : Int) + 2) hl' (by rw [hf]; simp only [List.cons_append, List.append_assoc, List.nil_append] <;> rfl) (by simp [bytesOf_len]; omega) (by omega) (by omega) (by omega)
  have e7 := iW b (2 :: (l.f0 / 256 % 256) :: (l.f0 % 256) :: l.f3 :: (l.f1.size : Int) :: (bytesOf l.f1 ++ [l.f2 / 256 % 256, l.f2 % 256, l.f4 / 256 / 256 % 256, l.f4 / 256 % 256, l.f4 % 256])) _ _ _ (0 + 1 + 2 + 1 + 1 + (l.f1.size : Int) + 2 + 3) hl' (by rw [hf]; simp only [List.cons_append, List.append_assoc, List.nil_append] <;> rfl) (by simp [bytesOf_len]; omega) (by omega) (by omega)
  have e8 := iW b (2 :: (l.f0 / 256 % 256) :: (l.f0 % 256) :: l.f3 :: (l.f1.size : Int) :: (bytesOf l.f1 ++ [l.f2 / 256 % 256, l.f2 % 256, l.f4 / 256 / 256 % 256, l.f4 / 256 % 256, l.f4 % 256, l.f5 / 256 % 256, l.f5 % 256])) _ _ _ (0 + 1 + 2 + 1 + 1 + (l.f1.size : Int) + 2 + 3 + 2) hl' (by rw [hf]; simp only [List.cons_append, List.append_assoc, List.nil_append] <;> rfl) (by simp [bytesOf_len]; omega) (by omega) (by omega)
  unfold impl_GetItem.f
  refine ev_bind1 e0 (ev_bind1 e1 (ev_bind1 e2 (ev_bind e3 (ev_bind1 e4 (ev_bind1 e5 (ev_neg (by show ¬ (2 : Int) = 1; omega) (ev_bind1 e7 (ev_bind1 e8 ?_))))))))
  simp only [v0, v2, v4, v5, v6]
  exact ev_step (fun k => impl_GetItem.j0.eq_2 ..) (ev_neg (by omega) (ev_bind hp (ev_bind1 rfl (ev_pos (sameEq b) (ev_now _)))))
theorem impl_GetItem_j0 (b : List Int) (hU : bytesU b) (hg : ¬ goodB b) (k : Int) (a : S25) (l : S27) (h1 : a.f1.size ≤ 2000000) (h5 : a.f5.size ≤ 2000000) (hl : l.f1.size ≤ 2000000) :
    Ev (fun n => impl_GetItem.j0 n b k a.f0 a.f1 a.f2 a.f3 a.f4 a.f5 a.f6 a.f7 l.f0 l.f1 l.f2 l.f3 l.f4 l.f5 l.f6) (0, 0, ⟨#[]⟩, 0, 0, 0, ⟨#[]⟩, 0, 0, 0, ⟨#[]⟩, 0, 0, 0, 0, 0, false) := by
  by_cases c : (b.length : Int) = 0
  · exact ev_step (fun k => impl_GetItem.j0.eq_2 ..) (ev_pos c (ev_now _))
  refine ev_step (fun k => impl_GetItem.j0.eq_2 ..) (ev_neg c (ev_bind (impl_PutItem_ev k a l (by omega) (by omega) (by omega)) (ev_bind1 rfl (ev_neg ?_ (ev_now _)))))
  intro e
  have e2 := strU_inj _ _ (itemV_U k a l) hU (by simpa using e)
  rcases itemV_good k a l with h | h
  · rw [← e2, h] at c
    exact c rfl
  · exact hg (e2 ▸ h)
theorem impl_GetItem_bad (b : List Int) (hU : bytesU b) (hl : b.length ≤ 1048576) (hg : ¬ goodB b) : Ev (fun k => impl_GetItem.f k b) (0, 0, ⟨#[]⟩, 0, 0, 0, ⟨#[]⟩, 0, 0, 0, ⟨#[]⟩, 0, 0, 0, 0, 0, false) := by
  unfold impl_GetItem.f
  have hl' : b.length ≤ 1000000000000 := by omega
  obtain ⟨v, e0⟩ := impl_reader_one_some b 0 hl' (by omega) (by omega)
  obtain ⟨so, e1⟩ := impl_reader_word_some b (0 + 1) hl' (by omega) (by omega)
  obtain ⟨st, e2⟩ := impl_reader_one_some b (0 + 1 + 2) hl' (by omega) (by omega)
  obtain ⟨db, i3, e3, z3, p3, q3⟩ := impl_reader_text_some b (0 + 1 + 2 + 1) hU hl (by omega)
  obtain ⟨n4, e4⟩ := impl_reader_word_some b i3 hl' p3 (by omega)
  obtain ⟨n5, e5⟩ := impl_reader_since_some b (i3 + 2) hl' (by omega) (by omega)
  by_cases c : v = 1
  · obtain ⟨q, i7, e7, z7, p7, q7⟩ := impl_reader_text_some b (i3 + 2 + 3) hU hl (by omega)
    obtain ⟨n8, e8⟩ := impl_reader_word_some b i7 hl' p7 (by omega)
    obtain ⟨n9, e9⟩ := impl_reader_word_some b (i7 + 2) hl' (by omega) (by omega)
    refine ev_bind1 e0 (ev_bind1 e1 (ev_bind1 e2 (ev_bind e3 (ev_bind1 e4 (ev_bind1 e5 (ev_pos c (ev_bind e7 (ev_bind1 e8 (ev_bind1 e9 ?_)))))))))
    exact impl_GetItem_j0 b hU hg v ⟨so, db, st, n4, n5, q, n8, n9⟩ zL z3 z7 (by decide)
  · obtain ⟨n7, e7⟩ := impl_reader_word_some b (i3 + 2 + 3) hl' (by omega) (by omega)
    obtain ⟨n8, e8⟩ := impl_reader_word_some b (i3 + 2 + 3 + 2) hl' (by omega) (by omega)
    refine ev_bind1 e0 (ev_bind1 e1 (ev_bind1 e2 (ev_bind e3 (ev_bind1 e4 (ev_bind1 e5 (ev_neg c (ev_bind1 e7 (ev_bind1 e8 ?_))))))))
    exact impl_GetItem_j0 b hU hg v zA ⟨so, db, n4, st, n5, n7, n8⟩ (by decide) (by decide) z3
theorem getItem_both (b : List Int) (hU : bytesU b) (hl : b.length ≤ 1048576) : ∃ r, Ev (fun k => spec_GetItem.f k b) r ∧ Ev (fun k => impl_GetItem.f k b) r := by
  by_cases h : goodB b
  · rcases h with ⟨a, ha, rfl⟩ | ⟨l, hg2, rfl⟩
    · exact ⟨_, spec_GetItem_ask a ha, impl_GetItem_ask a ha⟩
    · exact ⟨_, spec_GetItem_line l hg2, impl_GetItem_line l hg2⟩
  · exact ⟨_, spec_GetItem_bad b hU hl h, impl_GetItem_bad b hU hl h⟩
theorem impl_GetItem_at (x : S29) (h : itemB x.f0 x.f1 x.f2 = true) : Ev (fun k => impl_GetItem.f k (itemL x)) (x.f0, x.f1.f0, x.f1.f1, x.f1.f2, x.f1.f3, x.f1.f4, x.f1.f5, x.f1.f6, x.f1.f7, x.f2.f0, x.f2.f1, x.f2.f2, x.f2.f3, x.f2.f4, x.f2.f5, x.f2.f6, true) := by
  obtain ⟨k, a, l⟩ := x
  rcases item_canon k a l h with ⟨rfl, hg, rfl⟩ | ⟨rfl, rfl, hg⟩
  · rw [show itemL ⟨1, a, zL⟩ = askV a from itemV_ask a hg]
    exact impl_GetItem_ask a hg
  · rw [show itemL ⟨2, zA, l⟩ = lineV l from itemV_line l hg]
    exact impl_GetItem_line l hg
theorem impl_GetItem_some (b : List Int) (hU : bytesU b) (hl : b.length ≤ 1048576) : ∃ (x : S29) (ok : Bool), smallI x ∧ Ev (fun k => impl_GetItem.f k b) (x.f0, x.f1.f0, x.f1.f1, x.f1.f2, x.f1.f3, x.f1.f4, x.f1.f5, x.f1.f6, x.f1.f7, x.f2.f0, x.f2.f1, x.f2.f2, x.f2.f3, x.f2.f4, x.f2.f5, x.f2.f6, ok) := by
  by_cases hg : goodB b
  · rcases hg with ⟨a, h, rfl⟩ | ⟨l, h, rfl⟩
    · exact ⟨⟨1, a, zL⟩, true, ask_small a h, impl_GetItem_ask a h⟩
    · exact ⟨⟨2, zA, l⟩, true, line_small l h, impl_GetItem_line l h⟩
  · exact ⟨⟨0, zA, zL⟩, false, zero_small, impl_GetItem_bad b hU hl hg⟩
theorem impl_reader_one_U (b : List Int) (hU : bytesU b) (i : Int) (hl : b.length ≤ 1000000000000) (h0 : 0 ≤ i) (h1 : i ≤ 2000000000000) : ∃ v, impl_reader_one.f b i = some (v, i + 1) ∧ 0 ≤ v ∧ v < 256 := by
  unfold impl_reader_one.f
  have hr := rdU hU i
  rw [w64 (x := i + 1) (by omega) (by omega)]
  by_cases c : i < (b.length : Int)
  · rw [if_pos c, if_pos h0, w64 (by omega) (by omega)]; exact ⟨_, rfl, hr.1, hr.2⟩
  · rw [if_neg c]; exact ⟨_, rfl, by omega, by omega⟩
theorem impl_GetCtl_l0_bad (b : List Int) (hU : bytesU b) (hb : b.length ≤ 1048576) (hg : ¬ goodC b) (t ki fr id n of : Int) (pa : Bool) (ti : Int) (ht : t ≤ 2) (d : Nat) : ∀ (c i : Int) (l : List S29), t ≤ c + d → 0 ≤ c → 0 ≤ i → i ≤ b.length + 100 → l.length + d ≤ 1000 → (∀ x ∈ l, smallI x) → Ev (fun k => impl_GetCtl.l0 k b t c b i ki fr id n of pa ti l) (0, 0, 0, 0, 0, false, 0, ([] : List S29), false) := by
  have hl' : b.length ≤ 1000000000000 := by omega
  have hend : ∀ (c i : Int) (l : List S29), ¬ c < t → l.length ≤ 1000 → (∀ x ∈ l, smallI x) → Ev (fun k => impl_GetCtl.l0 k b t c b i ki fr id n of pa ti l) (0, 0, 0, 0, 0, false, 0, ([] : List S29), false) := by
    intro c i l hc hl hz
    refine ev_step (fun k => impl_GetCtl.l0.eq_2 ..) (ev_neg hc (ev_ite (fun _ => ev_now _) (fun h0 => ev_bind (impl_PutCtl_ev ki fr id n of pa ti l (by omega) hz) (ev_bind1 rfl (ev_neg ?_ (ev_now _))))))
    intro e
    have e2 := strU_inj _ _ (ctlV_U _ _ _ _ _ _ _ _) hU (by simpa using e)
    by_cases hk : ctlB ki fr id n of pa ti l = true
    · exact hg ⟨ki, fr, id, n, of, pa, ti, l, hk, e2.symm⟩
    · rw [ctlV, if_neg hk] at e2
      rw [← e2] at h0
      exact h0 rfl
  induction d with
  | zero =>
    intro c i l hc _ _ _ hl hz
    exact hend c i l (by omega) (by omega) hz
  | succ d ih =>
    intro c i l hc c0 h0 h1 hl hz
    by_cases hct : c < t
    · obtain ⟨v, e, v0, v1⟩ := impl_reader_one_U b hU i hl' h0 (by omega)
      have w1 : wrap64 (i + 1 + v) = i + 1 + v := w64 (by omega) (by omega)
      have w2 : wrap64 (c + 1) = c + 1 := w64 (by omega) (by omega)
      refine ev_step (fun k => impl_GetCtl.l0.eq_2 ..) (ev_pos hct (ev_bind1 e ?_))
      simp only [w1, w2]
      refine ev_ite (fun _ => ev_now _) (fun hv => ev_pos (by omega) (ev_pos (by omega) (ev_pos (by omega) ?_)))
      obtain ⟨x, ok, hs, eg⟩ := impl_GetItem_some ((b.take (i + 1 + v).toNat).drop (i + 1).toNat) (segU hU _ _) (Nat.le_trans (seg_len _ _ _) hb)
      refine ev_bind eg (ev_pos (by omega) ?_)
      exact ih (c + 1) (i + 1 + v) (l ++ [x]) (by omega) (by omega) (by omega) (by omega) (by simp; omega) (fun y hy => by
        rcases List.mem_append.1 hy with hy | hy
        · exact hz y hy
        · rw [List.mem_singleton] at hy; subst hy; exact hs)
    · exact hend c i l hct (by omega) hz
theorem impl_GetCtl_bad (b : List Int) (hU : bytesU b) (hb : b.length ≤ 1048576) (hg : ¬ goodC b) : Ev (fun k => impl_GetCtl.f k b) (0, 0, 0, 0, 0, false, 0, ([] : List S29), false) := by
  have hl' : b.length ≤ 1000000000000 := by omega
  unfold impl_GetCtl.f
  obtain ⟨ki, e0⟩ := impl_reader_one_some b 0 hl' (by omega) (by omega)
  obtain ⟨fr, e1⟩ := impl_reader_one_some b (0 + 1) hl' (by omega) (by omega)
  obtain ⟨id, e2⟩ := impl_reader_word_some b (0 + 1 + 1) hl' (by omega) (by omega)
  obtain ⟨n, e3⟩ := impl_reader_one_some b (0 + 1 + 1 + 2) hl' (by omega) (by omega)
  obtain ⟨of, e4⟩ := impl_reader_one_some b (0 + 1 + 1 + 2 + 1) hl' (by omega) (by omega)
  obtain ⟨pp, e5⟩ := impl_reader_one_some b (0 + 1 + 1 + 2 + 1 + 1) hl' (by omega) (by omega)
  obtain ⟨ti, e6⟩ := impl_reader_word_some b (0 + 1 + 1 + 2 + 1 + 1 + 1) hl' (by omega) (by omega)
  obtain ⟨c, e7⟩ := impl_reader_one_some b (0 + 1 + 1 + 2 + 1 + 1 + 1 + 2) hl' (by omega) (by omega)
  exact ev_bind1 e0 (ev_bind1 e1 (ev_bind1 e2 (ev_bind1 e3 (ev_bind1 e4 (ev_bind1 e5 (ev_bind1 e6 (ev_bind1 e7 (impl_GetCtl_l0_bad b hU hb hg (mn c 2) ki fr id n of (pp == 1) ti (by unfold mn; split <;> omega) 2 0 (0 + 1 + 1 + 2 + 1 + 1 + 1 + 2 + 1) [] (by unfold mn; split <;> omega) (by omega) (by omega) (by omega) (by simp) (by simp)))))))))
theorem impl_GetCtl_l0_at (b : List Int) (hb : b.length ≤ 1048576) (hne : ¬ (b.length : Int) = 0) (ki fr id n of : Int) (pa : Bool) (ti : Int) (l : List S29) (hc : ctlB ki fr id n of pa ti l = true) (hv : b = ctlV ki fr id n of pa ti l) (s : List Int) (r : List S29) : ∀ (p : List Int) (acc : List S29), b = p ++ (flatI r ++ s) → acc ++ r = l → Ev (fun k => impl_GetCtl.l0 k b (l.length : Int) (acc.length : Int) b (p.length : Int) ki fr id n of pa ti acc) (ki, fr, id, n, of, pa, ti, l, true) := by
  have hl' : b.length ≤ 1000000000000 := by omega
  obtain ⟨_, _, _, _, _, _, hln, hit⟩ := ctl_ranges ki fr id n of pa ti l hc
  have hz := ctl_small ki fr id n of pa ti l hc
  have hp := impl_PutCtl_ev ki fr id n of pa ti l (by omega) hz
  rw [← hv] at hp
  induction r with
  | nil =>
    intro p acc h1 h2
    rw [List.append_nil] at h2
    subst h2
    exact ev_step (fun k => impl_GetCtl.l0.eq_2 ..) (ev_neg (by omega) (ev_neg hne (ev_bind hp (ev_bind1 rfl (ev_pos (sameEq b) (ev_now _))))))
  | cons x r ih =>
    intro p acc h1 h2
    have hx : itemB x.f0 x.f1 x.f2 = true := hit x (by rw [← h2]; simp)
    have hxl := itemL_len x
    have hal : l.length = acc.length + (r.length + 1) := by rw [← h2]; simp
    have hbl : b.length = p.length + (1 + (itemL x).length + (flatI r).length + s.length) := by rw [h1, flatI]; simp; omega
    have e := iB b p _ _ (p.length : Int) hl' (by rw [h1, flatI]; rfl) rfl (show 0 ≤ ((itemL x).length : Int) ∧ ((itemL x).length : Int) < 256 by omega)
    have hseg : (b.take ((p.length : Int) + 1 + ((itemL x).length : Int)).toNat).drop ((p.length : Int) + 1).toNat = itemL x := by
      have := segL b (p ++ [((itemL x).length : Int)]) (itemL x) (flatI r ++ s) (by rw [h1, flatI]; simp)
      rw [List.length_append, List.length_singleton, Int.natCast_add] at this
      exact this
    have hn := ih (p ++ ((itemL x).length : Int) :: itemL x) (acc ++ [x]) (by rw [h1, flatI]; simp) (by rw [← h2]; simp)
    refine ev_step (fun k => impl_GetCtl.l0.eq_2 ..) (ev_pos (by omega) (ev_bind1 e ?_))
    have w1 : wrap64 ((p.length : Int) + 1 + ((itemL x).length : Int)) = (p.length : Int) + 1 + ((itemL x).length : Int) := w64 (by omega) (by omega)
    have w2 : wrap64 ((acc.length : Int) + 1) = ((acc ++ [x]).length : Int) := w64e (by simp) (by omega) (by simp; omega)
    simp only [w1, w2, hseg]
    clear w1 w2
    refine ev_neg (by omega) (ev_pos (by omega) (ev_pos (by omega) (ev_pos (by omega) (ev_bind (impl_GetItem_at x hx) (ev_pos (by omega) ?_)))))
    rw [show (p.length : Int) + 1 + ((itemL x).length : Int) = ((p ++ ((itemL x).length : Int) :: itemL x).length : Int) by simp <;> omega]
    exact hn
theorem impl_GetCtl_at (ki fr id n of : Int) (pa : Bool) (ti : Int) (l : List S29) (hc : ctlB ki fr id n of pa ti l = true) : Ev (fun k => impl_GetCtl.f k (ctlV ki fr id n of pa ti l)) (ki, fr, id, n, of, pa, ti, l, true) := by
  obtain ⟨r0, r1, r2, r3, r4, r5, r6, _⟩ := ctl_ranges ki fr id n of pa ti l hc
  obtain ⟨s0, s1, hf⟩ := ctlV_flat ki fr id n of pa ti l hc
  have hlen := ctlV_len ki fr id n of pa ti l
  have hne : ¬ ((ctlV ki fr id n of pa ti l).length : Int) = 0 := by rw [hf]; simp [ctlP]; omega
  have key := fun p h => impl_GetCtl_l0_at (ctlV ki fr id n of pa ti l) (by omega) hne ki fr id n of pa ti l hc rfl [s0, s1] l p [] h rfl
  generalize ctlV ki fr id n of pa ti l = b at hf hlen key
  have hl' : b.length ≤ 1000000000000 := by omega
  have hk := key (ctlP ki fr id n of pa ti l.length) hf
  have hp : 0 ≤ (if pa = true then (1 : Int) else 0) ∧ (if pa = true then (1 : Int) else 0) < 256 := by split <;> omega
  rw [show ((ctlP ki fr id n of pa ti l.length).length : Int) = 0 + 1 + 1 + 2 + 1 + 1 + 1 + 2 + 1 from rfl] at hk
  unfold ctlP at hf
  simp only [List.cons_append, List.nil_append] at hf
  have e0 := iB b [] _ ki 0 hl' hf rfl (by omega)
  have e1 := iB b [ki] _ fr (0 + 1) hl' hf rfl (by omega)
  have e2 := iW b [ki, fr] _ _ _ (0 + 1 + 1) hl' hf rfl (by omega) (by omega)
  have e3 := iB b [ki, fr, id / 256 % 256, id % 256] _ n (0 + 1 + 1 + 2) hl' hf rfl (by omega)
  have e4 := iB b [ki, fr, id / 256 % 256, id % 256, n] _ of (0 + 1 + 1 + 2 + 1) hl' hf rfl (by omega)
  have e5 := iB b [ki, fr, id / 256 % 256, id % 256, n, of] _ _ (0 + 1 + 1 + 2 + 1 + 1) hl' hf rfl hp
  have e6 := iW b [ki, fr, id / 256 % 256, id % 256, n, of, _] _ _ _ (0 + 1 + 1 + 2 + 1 + 1 + 1) hl' hf rfl (by omega) (by omega)
  have e7 := iB b [ki, fr, id / 256 % 256, id % 256, n, of, _, ti / 256 % 256, ti % 256] _ _ (0 + 1 + 1 + 2 + 1 + 1 + 1 + 2) hl' hf rfl (by omega)
  rw [word_join id (by omega) (by omega)] at e2
  rw [word_join ti (by omega) (by omega)] at e6
  unfold impl_GetCtl.f
  refine ev_bind1 e0 (ev_bind1 e1 (ev_bind1 e2 (ev_bind1 e3 (ev_bind1 e4 (ev_bind1 e5 (ev_bind1 e6 (ev_bind1 e7 ?_)))))))
  simp only [boolInt, show mn (l.length : Int) 2 = (l.length : Int) by unfold mn; split <;> omega]
  exact hk
theorem getCtl_both (b : List Int) (hU : bytesU b) (hb : b.length ≤ 1048576) : ∃ (ki fr id n of : Int) (pa : Bool) (ti : Int) (l : List S29) (ok : Bool), l.length ≤ 2 ∧ Ev (fun k => spec_GetCtl.f k b) (ki, fr, id, n, of, pa, ti, l, ok) ∧ Ev (fun k => impl_GetCtl.f k b) (ki, fr, id, n, of, pa, ti, l, ok) := by
  by_cases hg : goodC b
  · obtain ⟨ki, fr, id, n, of, pa, ti, l, hc, rfl⟩ := hg
    exact ⟨ki, fr, id, n, of, pa, ti, l, true, (ctl_ranges ki fr id n of pa ti l hc).2.2.2.2.2.2.1, spec_GetCtl_at ki fr id n of pa ti l hc, impl_GetCtl_at ki fr id n of pa ti l hc⟩
  · exact ⟨0, 0, 0, 0, 0, false, 0, [], false, by simp, spec_GetCtl_bad b hU hb hg, impl_GetCtl_bad b hU hb hg⟩
theorem laws_at_U (b : List Int) (hU : bytesU b) (hl : b.length ≤ 1048576) (i : Int) (h0 : 0 ≤ i) (h1 : i ≤ 100) : ∃ v, laws_at.f b i = some v ∧ 0 ≤ v ∧ v < 256 := by
  unfold laws_at.f
  have hr := rdU hU i
  by_cases c : i < (b.length : Int)
  · rw [if_pos c, if_pos h0, w64 (by omega) (by omega)]
    exact ⟨_, rfl, hr⟩
  · rw [if_neg c]
    refine ⟨_, rfl, ?_⟩
    rw [w64 (x := i * 31) (by omega) (by omega), w64 (x := (b.length : Int) * 7) (by omega) (by omega), w64 (by omega) (by omega), Int.tmod_eq_emod_of_nonneg (by omega)]
    omega
theorem bitN (a c : Nat) (ha : a < 2 ^ 62) (hc : c < 2 ^ 62) : Go.bits .xor .i64 (a : Int) (c : Int) = ((a ^^^ c : Nat) : Int) ∧ Go.bits .and .i64 (a : Int) (c : Int) = ((a &&& c : Nat) : Int) := by
  have e1 : (((a : Int)) % ((2 ^ 64 : Nat) : Int)).toNat = a := by omega
  have e2 : (((c : Int)) % ((2 ^ 64 : Nat) : Int)).toNat = c := by omega
  have k1 : (BitVec.ofInt 64 (a : Int) ^^^ BitVec.ofInt 64 (c : Int)).toNat = a ^^^ c := by rw [BitVec.toNat_xor, BitVec.toNat_ofInt, BitVec.toNat_ofInt, e1, e2]
  have k2 : (BitVec.ofInt 64 (a : Int) &&& BitVec.ofInt 64 (c : Int)).toNat = a &&& c := by rw [BitVec.toNat_and, BitVec.toNat_ofInt, BitVec.toNat_ofInt, e1, e2]
  have b1 : a ^^^ c < 2 ^ 62 := Nat.xor_lt_two_pow ha hc
  have b2 : a &&& c ≤ a := Nat.and_le_left
  constructor
  · show IntKind.i64.wrap ((BitVec.ofInt 64 (a : Int) ^^^ BitVec.ofInt 64 (c : Int)).toNat : Nat) = ((a ^^^ c : Nat) : Int)
    rw [k1, IntKind.wrap_i64]
    omega
  · show IntKind.i64.wrap ((BitVec.ofInt 64 (a : Int) &&& BitVec.ofInt 64 (c : Int)).toNat : Nat) = ((a &&& c : Nat) : Int)
    rw [k2, IntKind.wrap_i64]
    omega
theorem xor_u8 (a c : Nat) (ha : a < 256) (hc : c < 256) : Go.bits .xor .u8 (a : Int) (c : Int) = ((a ^^^ c : Nat) : Int) := by
  have e1 : (((a : Int)) % ((2 ^ 8 : Nat) : Int)).toNat = a := by omega
  have e2 : (((c : Int)) % ((2 ^ 8 : Nat) : Int)).toNat = c := by omega
  have k1 : (BitVec.ofInt 8 (a : Int) ^^^ BitVec.ofInt 8 (c : Int)).toNat = a ^^^ c := by rw [BitVec.toNat_xor, BitVec.toNat_ofInt, BitVec.toNat_ofInt, e1, e2]
  have b1 : a ^^^ c < 2 ^ 8 := Nat.xor_lt_two_pow ha hc
  show IntKind.u8.wrap ((BitVec.ofInt 8 (a : Int) ^^^ BitVec.ofInt 8 (c : Int)).toNat : Nat) = ((a ^^^ c : Nat) : Int)
  rw [k1, IntKind.wrap_u8]
  omega
theorem xor_back (a c : Nat) : a ^^^ (a ^^^ c) = c := by rw [← Nat.xor_assoc, Nat.xor_self, Nat.zero_xor]
def crcN (s : Nat) : Nat := bif Nat.ble 65536 (2 * s) then Nat.xor (2 * s) 69665 else 2 * s
def crcB (t : Nat) : Nat := bif Nat.beq (t % 2) 1 then Nat.xor t 69665 / 2 else t / 2
def all2 (p : Nat → Bool) : Nat → Nat → Bool
  | 0, b => p b
  | k + 1, b => all2 p k b && all2 p k (b + 2 ^ k)
theorem all2_at (p : Nat → Bool) : ∀ k b, all2 p k b = true → ∀ s, b ≤ s → s < b + 2 ^ k → p s = true
  | 0, b, h, s, h0, h1 => by
    have : s = b := by simp at h1; omega
    exact this ▸ h
  | k + 1, b, h, s, h0, h1 => by
    rw [all2, Bool.and_eq_true] at h
    rw [Nat.pow_succ] at h1
    by_cases c : s < b + 2 ^ k
    · exact all2_at p k b h.1 s h0 c
    · exact all2_at p k (b + 2 ^ k) h.2 s (by omega) (by omega)
theorem crc_all : all2 (fun s => Nat.beq (crcB (crcN s)) s && Nat.ble (crcN s) 65535) 16 0 = true := by kernel_rfl
theorem crc_one (s : Nat) (h : s ≤ 65535) : crcB (crcN s) = s ∧ crcN s ≤ 65535 := by
  have := all2_at _ 16 0 crc_all s (by omega) (by omega)
  rw [Bool.and_eq_true] at this
  exact ⟨Nat.eq_of_beq_eq_true this.1, Nat.le_of_ble_eq_true this.2⟩
theorem crc_step (s : Nat) (h : s ≤ 65535) : crcS (s : Int) = (crcN s : Int) := by
  have w : wrap64 ((s : Int) * 2) = ((2 * s : Nat) : Int) := w64e (by omega) (by omega) (by omega)
  unfold crcS crcN
  rw [w]
  by_cases c : 65536 ≤ 2 * s
  · rw [if_pos (by omega), show Nat.ble 65536 (2 * s) = true from Nat.ble_eq_true_of_le c]
    exact (bitN (2 * s) 69665 (by omega) (by omega)).1
  · rw [if_neg (by omega), show Nat.ble 65536 (2 * s) = false by rw [Bool.eq_false_iff]; intro h; exact c (Nat.le_of_ble_eq_true h)]
    rfl
def itN : Nat → Nat → Nat
  | 0, s => s
  | n + 1, s => itN n (crcN s)
theorem it_step : ∀ (n s : Nat), s ≤ 65535 → itS n (s : Int) = (itN n s : Int) ∧ itN n s ≤ 65535
  | 0, s, h => ⟨rfl, h⟩
  | n + 1, s, h => by
    have g := it_step n (crcN s) (crc_one s h).2
    rw [itS, crc_step s h]
    exact g
theorem it_inj : ∀ (n s t : Nat), s ≤ 65535 → t ≤ 65535 → itN n s = itN n t → s = t
  | 0, s, t, _, _, e => e
  | n + 1, s, t, h, h', e => by
    have g := it_inj n (crcN s) (crcN t) (crc_one s h).2 (crc_one t h').2 e
    rw [← (crc_one s h).1, ← (crc_one t h').1, g]
def sumN (s x : Nat) : Nat := itN 8 (s ^^^ x * 256)
theorem sum_arg (s x : Nat) (h : s ≤ 65535) (hx : x < 256) : s ^^^ x * 256 ≤ 65535 := by
  have : s ^^^ x * 256 < 2 ^ 16 := Nat.xor_lt_two_pow (by omega) (by omega)
  omega
theorem sum_step (s x : Nat) (h : s ≤ 65535) (hx : x < 256) : sumS (s : Int) (x : Int) = (sumN s x : Int) ∧ sumN s x ≤ 65535 := by
  have w1 : wrap64 (x : Int) = (x : Int) := w64 (by omega) (by omega)
  have w2 : wrap64 ((x : Int) * 256) = ((x * 256 : Nat) : Int) := w64e (by omega) (by omega) (by omega)
  unfold sumS sumN
  rw [w1, w2, (bitN s (x * 256) (by omega) (by omega)).1]
  exact it_step 8 _ (sum_arg s x h hx)
theorem sum_inj (s t x y : Nat) (h : s ≤ 65535) (h' : t ≤ 65535) (hx : x < 256) (hy : y < 256) (e : sumN s x = sumN t y) : s ^^^ x * 256 = t ^^^ y * 256 := it_inj 8 _ _ (sum_arg s x h hx) (sum_arg t y h' hy) e
theorem fold_step (l : List Int) (hl : bytesU l) : ∀ s : Nat, s ≤ 65535 → l.foldl sumS (s : Int) = ((l.foldl (fun s x => sumN s x.toNat) s : Nat) : Int) ∧ l.foldl (fun s x => sumN s x.toNat) s ≤ 65535 := by
  induction l with
  | nil => intro s h; exact ⟨rfl, h⟩
  | cons x l ih =>
    intro s h
    have hx := hl x (List.mem_cons_self ..)
    have g := sum_step s x.toNat h (by omega)
    rw [List.foldl_cons, List.foldl_cons, show x = ((x.toNat : Nat) : Int) by omega, g.1]
    exact ih (fun y hy => hl y (List.mem_cons_of_mem _ hy)) _ g.2
theorem fold_inj (l : List Int) (hl : bytesU l) : ∀ s t : Nat, s ≤ 65535 → t ≤ 65535 → l.foldl (fun s x => sumN s x.toNat) s = l.foldl (fun s x => sumN s x.toNat) t → s = t := by
  induction l with
  | nil => intro s t _ _ e; exact e
  | cons x l ih =>
    intro s t h h' e
    rw [List.foldl_cons, List.foldl_cons] at e
    have hx := hl x (List.mem_cons_self ..)
    have e1 := ih (fun y hy => hl y (List.mem_cons_of_mem _ hy)) _ _ (sum_step s x.toNat h (by omega)).2 (sum_step t x.toNat h' (by omega)).2 e
    have e2 := sum_inj s t x.toNat x.toNat h h' (by omega) (by omega) e1
    have e3 := congrArg (fun z => (x.toNat * 256) ^^^ z) e2
    simp only [Nat.xor_comm s, Nat.xor_comm t, xor_back] at e3
    exact e3
theorem sumV_nat (l : List Int) (hl : bytesU l) : sumV l = ((l.foldl (fun s x => sumN s x.toNat) 65535 : Nat) : Int) ∧ 0 ≤ sumV l ∧ sumV l ≤ 65535 := by
  have g := fold_step l hl 65535 (by omega)
  have e : sumV l = ((l.foldl (fun s x => sumN s x.toNat) 65535 : Nat) : Int) := by
    unfold sumV
    rw [show (65535 : Int) = ((65535 : Nat) : Int) from rfl, g.1, (bitN _ 65535 (by omega) (by omega)).2, show (65535 : Nat) = 2 ^ 16 - 1 by rfl, Nat.and_two_pow_sub_one_eq_mod]
    rw [show (2 ^ 16 - 1 : Nat) = 65535 by rfl]
    have := g.2
    omega
  exact ⟨e, by omega, by have := g.2; omega⟩
theorem sumV_ne (p : List Int) (x y : Int) (s : List Int) (hp : bytesU p) (hx : 0 ≤ x ∧ x < 256) (hy : 0 ≤ y ∧ y < 256) (hs : bytesU s) (e : sumV (p ++ x :: s) = sumV (p ++ y :: s)) : x = y := by
  have app : ∀ z : Int, 0 ≤ z ∧ z < 256 → bytesU (p ++ z :: s) := fun z hz w hw => by
    rcases List.mem_append.1 hw with hw | hw
    · exact hp w hw
    · rcases List.mem_cons.1 hw with rfl | hw
      · exact hz
      · exact hs w hw
  rw [(sumV_nat _ (app x hx)).1, (sumV_nat _ (app y hy)).1] at e
  have e := Int.ofNat.inj e
  rw [List.foldl_append, List.foldl_append, List.foldl_cons, List.foldl_cons] at e
  have g := (fold_step p hp 65535 (by omega)).2
  generalize p.foldl (fun s x => sumN s x.toNat) 65535 = u at e g
  have e1 := fold_inj s hs _ _ (sum_step u x.toNat g (by omega)).2 (sum_step u y.toNat g (by omega)).2 e
  have e2 := sum_inj u u x.toNat y.toNat g g (by omega) (by omega) e1
  have e3 := congrArg (fun z => u ^^^ z) e2
  simp only [xor_back] at e3
  omega
theorem goodC_tail (b : List Int) (h : goodC b) : bytesU b ∧ ∃ H, b = H ++ [sumV H / 256 % 256, sumV H % 256] := by
  obtain ⟨ki, fr, id, n, of, pa, ti, l, hc, rfl⟩ := h
  refine ⟨ctlV_U _ _ _ _ _ _ _ _, ctlH ki fr id n of (if pa = true then 1 else 0) ti l, ?_⟩
  rw [ctlV, if_pos hc, ctlX, putWordV]
theorem bent_bad (b : List Int) (h : goodC b) (j : Nat) (hj : j < b.length) (z : Int) (hne : z ≠ b[j]) : ¬ goodC (b.set j z) := by
  intro h'
  obtain ⟨hU, H, e⟩ := goodC_tail b h
  obtain ⟨hU', H', e'⟩ := goodC_tail _ h'
  have hl : H.length = H'.length := by
    have a1 := congrArg List.length e
    have a2 := congrArg List.length e'
    rw [List.length_set] at a2
    simp only [List.length_append, List.length_cons, List.length_nil] at a1 a2
    omega
  have hH : bytesU H := fun x hx => hU x (by rw [e]; exact List.mem_append_left _ hx)
  have hH' : bytesU H' := fun x hx => hU' x (by rw [e']; exact List.mem_append_left _ hx)
  have s0 := (sumV_nat H hH).2
  have s1 := (sumV_nat H' hH').2
  by_cases c : j < H.length
  · have e2 : b.set j z = H.set j z ++ [sumV H / 256 % 256, sumV H % 256] := by
      conv => lhs; rw [e]
      exact List.set_append_left _ _ c
    rw [e2] at e'
    obtain ⟨p1, p2⟩ := List.append_inj e' (by rw [List.length_set]; exact hl)
    have hs : sumV H = sumV H' := by
      injection p2 with q1 q2
      injection q2 with q2
      omega
    rw [← p1] at hs hH'
    have d : H = H.take j ++ H[j] :: H.drop (j + 1) := by
      rw [← List.drop_eq_getElem_cons c, List.take_append_drop]
    have d' : H.set j z = H.take j ++ z :: H.drop (j + 1) := List.set_eq_take_append_cons_drop .. |>.trans (by rw [if_pos c])
    have hz : 0 ≤ z ∧ z < 256 := hH' z (by rw [d']; simp)
    rw [d'] at hs
    have hs2 : sumV (H.take j ++ H[j] :: H.drop (j + 1)) = sumV (H.take j ++ z :: H.drop (j + 1)) := by rw [← d]; exact hs
    have := sumV_ne _ _ _ _ (fun x hx => hH x (List.mem_of_mem_take hx)) (hH _ (List.getElem_mem c)) hz (fun x hx => hH x (List.mem_of_mem_drop hx)) hs2
    refine hne ?_
    rw [← this]
    have g : b[j]? = H[j]? := by
      conv => lhs; rw [e]
      exact List.getElem?_append_left c
    rw [List.getElem?_eq_getElem hj, List.getElem?_eq_getElem c] at g
    exact (Option.some.inj g).symm
  · have t1 : (b.set j z).take H.length = b.take H.length := List.take_set_of_le (by omega)
    have t2 : b.take H.length = H := by conv => lhs; rw [e]
                                        exact List.take_left' rfl
    have t3 : (b.set j z).take H.length = H' := by rw [e']; exact List.take_left' hl.symm
    have hh : H' = H := by rw [← t3, t1, t2]
    rw [hh, ← e] at e'
    have g := congrArg (fun l => l[j]?) e'
    simp only [List.getElem?_set_self hj, List.getElem?_eq_getElem hj] at g
    exact hne (Option.some.inj g)
theorem laws_bent_good (l b : List Int) (hU : bytesU l) (hl : l.length ≤ 1048576) (hb : goodC b) (hbl : b.length ≤ 1000) : ∃ b', laws_bent.f l b = some b' ∧ ¬ goodC b' ∧ bytesU b' ∧ b'.length ≤ 1000 := by
  obtain ⟨v2, e2, r2⟩ := laws_at_U l hU hl 2 (by omega) (by omega)
  obtain ⟨v3, e3, r3⟩ := laws_at_U l hU hl 3 (by omega) (by omega)
  obtain ⟨v4, e4, r4⟩ := laws_at_U l hU hl 4 (by omega) (by omega)
  obtain ⟨hbU, H, eH⟩ := goodC_tail b hb
  have hb0 : 2 ≤ b.length := by rw [eH]; simp
  have w1 : wrap64 (v2 * 256) = v2 * 256 := w64 (by omega) (by omega)
  have w2 : wrap64 (v2 * 256 + v3) = v2 * 256 + v3 := w64 (by omega) (by omega)
  have m4 : Int.tmod v4 255 = v4 % 255 := Int.tmod_eq_emod_of_nonneg (by omega)
  have w4 : wrap64 (1 + v4 % 255) = 1 + v4 % 255 := w64 (by omega) (by omega)
  have hm : Int.tmod (v2 * 256 + v3) (b.length : Int) = (v2 * 256 + v3) % (b.length : Int) := Int.tmod_eq_emod_of_nonneg (by omega)
  have i0 : 0 ≤ (v2 * 256 + v3) % (b.length : Int) := Int.emod_nonneg _ (by omega)
  have i1 : (v2 * 256 + v3) % (b.length : Int) < (b.length : Int) := Int.emod_lt_of_pos _ (by omega)
  unfold laws_bent.f
  simp only [Option.bind_some, List.nil_append, List.length_nil, e2, e3, e4, w1, w2, m4, w4, hm]
  generalize (v2 * 256 + v3) % (b.length : Int) = i at i0 i1
  rw [if_pos (by omega), if_pos (by omega), if_neg (by omega), if_pos i0, if_pos i1]
  obtain ⟨j, rfl⟩ := Int.eq_ofNat_of_zero_le i0
  have hj : j < b.length := by omega
  have hx := hbU _ (List.getElem_mem hj)
  rw [rd_nth b j hj, Int.toNat_natCast]
  have hz : Go.bits .xor .u8 b[j] ((1 + v4 % 255) % 256) = ((b[j].toNat ^^^ (1 + v4 % 255).toNat : Nat) : Int) := by
    have := xor_u8 b[j].toNat (1 + v4 % 255).toNat (by omega) (by omega)
    rw [show ((b[j].toNat : Nat) : Int) = b[j] by omega, show (((1 + v4 % 255).toNat : Nat) : Int) = (1 + v4 % 255) % 256 by omega] at this
    exact this
  have hlt : b[j].toNat ^^^ (1 + v4 % 255).toNat < 2 ^ 8 := Nat.xor_lt_two_pow (by omega) (by omega)
  rw [hz]
  refine ⟨_, rfl, bent_bad b hb j hj _ ?_, ?_, by rw [List.length_set]; exact hbl⟩
  · intro e
    have e5 := xor_back b[j].toNat (1 + v4 % 255).toNat
    rw [show b[j].toNat ^^^ (1 + v4 % 255).toNat = b[j].toNat by omega, Nat.xor_self] at e5
    omega
  · intro x hx'
    rcases List.mem_or_eq_of_mem_set hx' with hx' | rfl
    · exact hbU x hx'
    · omega
theorem wf_bytesU {l : List Int} (h : ∀ x ∈ l, (Lit.int .u8 x).wf = true) : bytesU l := by
  intro x hx
  have := h x hx
  simp [Lit.wf, IntKind.min, IntKind.max, IntKind.bits, IntKind.signed] at this
  omega
theorem name8 (s : ByteArray) (h : nameB s = true) : s.size ≤ 8 := by
  unfold nameB at h
  rw [Bool.and_eq_true, inB_iff] at h
  omega
theorem empty0 (s : ByteArray) (h : (s.toList == ([] : List UInt8)) = true) : s.size = 0 := by
  have := toList_nil s (by simpa using h)
  rw [this]
  rfl
theorem itemL_123 (x : S29) (h : itemB x.f0 x.f1 x.f2 = true) : (itemL x).length ≤ 123 := by
  obtain ⟨k, a, l⟩ := x
  rcases item_canon k a l h with ⟨rfl, hg, rfl⟩ | ⟨rfl, rfl, hg⟩
  · rw [show itemL ⟨1, a, zL⟩ = askV a from itemV_ask a hg]
    obtain ⟨_, r2, _, r4, _, _, t1, t5⟩ := ask_ranges a hg
    rw [askV_flat a t1 t5 r4 r2]
    have z5 := textB_small _ t5
    have z1 : a.f1.size ≤ 8 := by
      have h := hg.1
      unfold askerB at h
      rw [Bool.and_eq_true] at h
      have h := h.2
      by_cases c0 : a.f2 = 0
      · rw [if_pos c0, Bool.and_eq_true] at h
        have := empty0 _ h.1
        omega
      · rw [if_neg c0, Bool.and_eq_true] at h
        exact name8 _ h.1
    simp only [List.length_cons, List.length_append, bytesOf_len, List.length_nil]
    omega
  · rw [show itemL ⟨2, zA, l⟩ = lineV l from itemV_line l hg]
    have := lineV_len l
    omega
theorem flat_len (l : List S29) (h : ∀ x ∈ l, itemB x.f0 x.f1 x.f2 = true) : (flatI l).length ≤ 124 * l.length := by
  induction l with
  | nil => simp [flatI]
  | cons x l ih =>
    have h1 := itemL_123 x (h x (List.mem_cons_self ..))
    have h2 := ih (fun y hy => h y (List.mem_cons_of_mem _ hy))
    rw [flatI]
    simp only [List.length_cons, List.length_append]
    omega
theorem FnCtls : laws_FnCtls.Pure := by
  intro b _ _ hw
  refine ev_rounds ?_
  unfold laws_FnCtls.f
  refine ev_bind1 rfl (ev_ite (fun _ => ev_now _) (fun c => ?_))
  have hb : b.length ≤ 1048576 := by
    have : ¬ ((b.length : Int) > 1048576) := by simpa using c
    omega
  have hbU := wf_bytesU hw
  obtain ⟨ki, fr, id, n, of, pa, ti, it, e1, o1, l1⟩ := spec_DrawPutCtl_some b (by omega)
  have hz := okI_sz it o1
  have hp := impl_PutCtl_ev ki fr id n of pa ti it (by omega) hz
  have ho := impl_CtlOk_ev ki fr id n of pa ti it (by omega) hz
  have ho' := spec_CtlOk_ev ki fr id n of pa ti it (by omega) hz
  obtain ⟨cc, e2, cU, cl⟩ := spec_DrawGetCtl_some b (by omega)
  have fin : Ev (fun k => laws_FnCtls.j0 k b (ctlV ki fr id n of pa ti it) false ki fr id n of pa ti it) true := by
    refine ev_step (fun k => laws_FnCtls.j0.eq_2 ..) (ev_neg (by simp) (ev_bind ho (ev_ite (fun hc => ?_) (fun hc => ?_))))
    · obtain ⟨_, _, _, _, _, _, hln, hit⟩ := ctl_ranges ki fr id n of pa ti it hc
      have hle : (ctlV ki fr id n of pa ti it).length ≤ 400 := by
        obtain ⟨s0, s1, hf⟩ := ctlV_flat ki fr id n of pa ti it hc
        have := flat_len it hit
        rw [hf, ctlP]
        simp only [List.length_append, List.length_cons, List.length_nil]
        omega
      obtain ⟨b', e5, n5, u5, l5⟩ := laws_bent_good b (ctlV ki fr id n of pa ti it) hbU hb ⟨ki, fr, id, n, of, pa, ti, it, hc, rfl⟩ (by omega)
      refine ev_bind (impl_GetCtl_at ki fr id n of pa ti it hc) (ev_bind1 e5 (ev_bind (impl_GetCtl_bad b' u5 (by omega) n5) ?_))
      refine ev_pos rfl (ev_pos rfl (ev_pos rfl (ev_pos rfl (ev_pos rfl (ev_pos rfl (ev_pos (by simp) (ev_pos rfl (ev_pos rfl (ev_bind hp (ev_bind1 rfl (ev_pos (sameEq _) (ev_neg (by simp) ?_))))))))))))
      exact ev_as (ev_now _) (decide_eq_true (by omega))
    · have hv : ctlV ki fr id n of pa ti it = [] := by rw [ctlV, if_neg hc]
      rw [hv]
      exact ev_now _
  by_cases hg : goodC cc
  · obtain ⟨ki', fr', id', n', of', pa', ti', it', hc, rfl⟩ := hg
    have hp' := impl_PutCtl_ev ki' fr' id' n' of' pa' ti' it' (by have := (ctl_ranges _ _ _ _ _ _ _ _ hc).2.2.2.2.2.2.1; omega) (ctl_small _ _ _ _ _ _ _ _ hc)
    refine ev_bind e1 (ev_bind hp (ev_bind e2 (ev_bind (impl_GetCtl_at ki' fr' id' n' of' pa' ti' it' hc) (ev_bind (spec_GetCtl_at ki' fr' id' n' of' pa' ti' it' hc) (ev_bind ho (ev_bind ho' (ev_neg (by simp) (ev_neg (by simp) (ev_pos rfl (ev_bind hp' (ev_bind1 rfl ?_)))))))))))
    simp only [beq_self_eq_true, Bool.not_true]
    exact fin
  · exact ev_bind e1 (ev_bind hp (ev_bind e2 (ev_bind (impl_GetCtl_bad cc cU cl hg) (ev_bind (spec_GetCtl_bad cc cU cl hg) (ev_bind ho (ev_bind ho' (ev_neg (by simp) (ev_neg (by simp) (ev_neg (by simp) fin)))))))))
end Go.Proofs.Ytiffahfpfgnjnaa.Pure
-- Written by a program of this session (myprint.py, over the kit's print): contracts of FnCtls
namespace Go.Proofs.Ytiffahfpfgnjnaa.fnCtls
open Go.ChangeShapes Go.WideShapes Go.ChangeAt Go.RowKit
open Go.ChangeMaps (open_string shut_string)
set_option linter.unusedVariables false
theorem own : ownKnob Try.prog.godebug = none := by kernel_rfl
theorem laidOut : laidOutB Try.prog = true := by kernel_rfl
def IsRow (k : IntKind) (w : World) (a : Option Addr) (len cap : Nat) (zs : List Int) : Prop :=
  (a = none ∧ len = 0 ∧ cap = 0 ∧ zs = []) ∨
  ∃ x, a = some x ∧ len ≤ cap ∧ cap ≤ maxLen ∧ zs.length = cap ∧ (∀ i, i < zs.length → w.cell? (x.add i) = some (.int k (zs.getD i 0))) ∧ ∀ n ∈ zs, (Lit.int k n).wf = true
set_option maxRecDepth 100000 in
theorem lifted (os : Os) (started : os.Started) (H : Type) (enc : TypeId × Value → H) :
    ReturnsInHanded {} Try.checked os 6 .any (Rows.fnCtlsSpec.pre6 enc Try.prog Try.f6 Rows.fnCtlsRow.domain false) (Rows.fnCtlsSpec.post enc Try.prog Try.f6 false true false false) := by
  refine returnsInHanded_of_change_sized (C := Try.checked) own started (by kernel_rfl) Try.func6
    (ChangeSpec.witness6 (enc := enc) (C := Try.checked) false ⟨#[], #[.slice none 0 0], []⟩ 8 (by kernel_rfl) (by kernel_rfl) (by kernel_rfl) (by kernel_rfl)) ?_
  intro W base args ds gs before hval0 hW hcnd hsz0 _
  have hsz : (DataW.weightsEach Try.prog (Try.f6.params.toList ++ Rows.fnCtlsSpec.plain.varTypes Try.prog) (ds ++ gs)).all (· ≤ reachBytes) = true := hsz0
  have hval : ∀ (j : Nat) t v, Try.f6.params[j]? = some t → args[j]? = some v → Value.okWide Try.prog W .any base t v := hval0
  have hW' := hW
  obtain ⟨p, q, hA0, hV, rfl, hfz, hnd⟩ := hW
  have hA : DataW.TrodAll enc Try.prog W 0 (fun _ => true) true Try.f6.params.toList args.toList ds p := hA0
  rw [Try.params6] at hA hval hsz
  obtain ⟨v0, vs0, d0, ds0, p0, q0, hargs, rfl, rfl, h0, r0⟩ := trodAll_cons hA
  obtain ⟨rfl, rfl, rfl⟩ := trodAll_nil r0
  obtain rfl : args = #[v0] := by cases args; simp_all
  obtain ⟨rfl, rfl⟩ := trodVars_none hV
  obtain ⟨a0, len0, cap0, rfl⟩ := okWide_slice Try.underlying22 (hval 0 22 v0 rfl rfl)
  have k0 := h0
  have lt0 : ∀ x ∈ p0, x.block < W.heap.size := by obtain ⟨m, hm⟩ := k0; exact DataW.trod_lt m _ _ _ hm
  obtain ⟨z0, w0⟩ : ∃ zs, IsRow .u8 W a0 len0 cap0 zs := by
    obtain ⟨fuel, hf⟩ := h0
    rcases open_ints Try.underlying22 Try.underlying5 (by kernel_rfl) hf with ⟨hcs, _⟩ | ⟨x, l, c, zs, hcs, _, hl, hm, hz, _, hcell, hwz⟩
    · simp [Value.cells] at hcs
      obtain ⟨rfl, rfl, rfl⟩ := hcs
      exact ⟨[], .inl ⟨rfl, rfl, rfl, rfl⟩⟩
    · simp [Value.cells] at hcs
      obtain ⟨rfl, rfl, rfl⟩ := hcs
      exact ⟨zs, .inr ⟨_, rfl, hl, hm, by simpa using hz, hcell, hwz⟩⟩
  have y0 : len0 * 1 ≤ 140737488351232 := Go.Proofs.YtiffahfpfgnjnaaW.PrintWords.sized_ints hsz (j := 0) (t := 22) rfl rfl Try.underlying22 Try.underlying5 (by kernel_rfl) (by kernel_rfl) h0
  clear hA0 hval0 hsz0 hsz
  refine (PFnCtls.laws_FnCtls.walk Pure.FnCtls a0 len0 cap0 z0 W w0 y0).mono fun e W' ⟨he, bel⟩ => ?_
  subst he
  exact ⟨_, rfl, _, _, _, [], _, [], hW', trodAll_mk1 (shut_bool Try.underlying4 _), (trodAll_cons_mk (Below.trod laidOut (by kernel_rfl) (of_decide_eq_true (by kernel_rfl)) k0 bel lt0) trodAll_mk0), rfl, bel.frame _, fun h => by cases h⟩
theorem over : Rows.fnCtlsRow.holds Try.pinned (OpenSpec.ofChange Rows.fnCtlsSpec) :=
  OpenClaim.holds_of_wide 6 Try.f6 rfl rfl rfl rfl rfl rfl rfl ⟨rfl, rfl, rfl, rfl, rfl⟩ rfl rfl rfl rfl rfl (by kernel_rfl) Try.func6 (by kernel_rfl)
    (of_decide_eq_true (by kernel_rfl)) (by unfold Func.isWrapper; first | (rw [if_pos (by decide +kernel)]; kernel_rfl) | (rw [if_neg (by decide +kernel)]; exact ⟨rfl, rfl⟩))
    (fun os started H enc _ => lifted os started H enc)
theorem proved : Rows.FnCtlsSaid := over
#print axioms proved
end Go.Proofs.Ytiffahfpfgnjnaa.fnCtls
namespace Go.Proofs.Ytiffahfpfgnjnaa
theorem fnCtls_holds : Rows.FnCtlsSaid := fnCtls.proved
end Go.Proofs.Ytiffahfpfgnjnaa
