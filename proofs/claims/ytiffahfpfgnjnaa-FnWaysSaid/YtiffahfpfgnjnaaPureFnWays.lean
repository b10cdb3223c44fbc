/- A message that is sent lies in the channel; one that is taken out does not; one that is sent twice lies there twice. -/
import Derived.Test.YtiffahfpfgnjnaaPFnWaysx24
import Derived.Test.YtiffahfpfgnjnaaVBase
import Derived.Test.YtiffahfpfgnjnaaVExt
namespace Go.Proofs.Ytiffahfpfgnjnaa.Pure
open Go.RowKit Go.Proofs.Ytiffahfpfgnjnaa.PFnWays Go.Proofs.YtiffahfpfgnjnaaW.PrintWords Go.Proofs.YtiffahfpfgnjnaaW.PrintLast Go.Proofs.YtiffahfpfgnjnaaV
set_option linter.unusedVariables false
set_option linter.unusedSimpArgs false
set_option maxRecDepth 20000

def bytesL (l : List Int) : Prop := ∀ x ∈ l, 0 ≤ x ∧ x < 256
/-! ### laws_big -/
theorem laws_big_eq (l : List Int) : laws_big.f l = some (decide ((l.length : Int) > 1048576)) := rfl

/-! ### laws_same -/
theorem laws_same_eq (l : List Int) : laws_same.f l l = some true := by
  unfold laws_same.f
  rw [beq_self_eq_true]

/-! ### spec_l1New -/
/-- A cursor's place over its bytes. -/
def curB (b : List Int) (i : Int) : Prop := 0 ≤ i ∧ i ≤ b.length
theorem spec_l1New_l0 (b : List Int) (hb : b.length ≤ 4611686018427387904) (d : Nat) : ∀ (x : Int) (i : Int), 0 ≤ i → i + d = b.length → ∃ h, Ev (fun k => spec_l1New.l0 k b x i) (b, 0, h) := by
  induction d with
  | zero =>
    intro x i h0 h1
    exact ⟨x, ev_step (fun k => spec_l1New.l0.eq_2 ..) (ev_neg (by omega) (ev_now _))⟩
  | succ d ih =>
    intro x i h0 h1
    by_cases c : i < 4000
    · obtain ⟨h, e⟩ := ih (Go.bits .and .i64 (wrap64 ((wrap64 ((wrap64 (x * 137)) + (wrap64 (rd b i)))) + 11)) 1073741823) (i + 1) (by omega) (by omega)
      refine ⟨h, ev_step (fun k => spec_l1New.l0.eq_2 ..) (ev_pos (by omega) (ev_pos c (ev_pos h0 ?_)))⟩
      rw [w64 (x := i + 1) (by omega) (by omega)]
      exact e
    · exact ⟨x, ev_step (fun k => spec_l1New.l0.eq_2 ..) (ev_pos (by omega) (ev_neg c (ev_now _)))⟩
theorem spec_l1New_some (b : List Int) (hb : b.length ≤ 4611686018427387904) : ∃ h, Ev (fun k => spec_l1New.f k b) (b, 0, h) := spec_l1New_l0 b hb b.length _ 0 (by omega) (by omega)

/-! ### spec_l1Byte -/
theorem i64_and255 (n : Int) : Go.bits .and .i64 n 255 = n % 256 := by
  have h255 : (BitVec.ofInt 64 255).toNat = 2 ^ 8 - 1 := by decide
  have key : (BitVec.ofInt 64 n &&& BitVec.ofInt 64 255).toNat = (n % ((2 ^ 64 : Nat) : Int)).toNat % 2 ^ 8 := by
    rw [BitVec.toNat_and, BitVec.toNat_ofInt, h255, Nat.and_two_pow_sub_one_eq_mod]
  show IntKind.i64.wrap ((BitVec.ofInt 64 n &&& BitVec.ofInt 64 255).toNat : Nat) = n % 256
  rw [key, IntKind.wrap_i64]
  omega
theorem spec_l1Byte_some (b : List Int) (i h : Int) (hc : curB b i) (hb : b.length ≤ 4611686018427387904) : ∃ v i' h', spec_l1Byte.f b i h = some (v, i', h') ∧ 0 ≤ v ∧ v < 256 ∧ curB b i' := by
  unfold curB at *
  unfold spec_l1Byte.f
  by_cases c : i < (b.length : Int)
  · rw [if_pos c, if_pos hc.1]
    refine ⟨_, _, _, rfl, ?_, ?_, ?_⟩
    · rw [i64_and255]; omega
    · rw [i64_and255]; omega
    · rw [w64 (by omega) (by omega)]; omega
  · rw [if_neg c]
    refine ⟨_, _, _, rfl, ?_, ?_, hc⟩
    · rw [i64_and255]; omega
    · rw [i64_and255]; omega

/-! ### spec_l1Below -/
theorem tmod_in {v n : Int} (h0 : 0 ≤ v) (hn : 0 < n) : 0 ≤ Int.tmod v n ∧ Int.tmod v n < n := by
  rw [Int.tmod_eq_emod_of_nonneg h0]
  exact ⟨Int.emod_nonneg _ (by omega), Int.emod_lt_of_pos _ hn⟩
theorem spec_l1Below_some (b : List Int) (i h n : Int) (hc : curB b i) (hb : b.length ≤ 4611686018427387904) : ∃ v i' h', spec_l1Below.f b i h n = some (v, i', h') ∧ (0 < n → 0 ≤ v ∧ v < n) ∧ (n ≤ 0 → v = 0) ∧ curB b i' := by
  unfold spec_l1Below.f
  by_cases c0 : n ≤ 0
  · rw [if_pos c0]
    exact ⟨0, i, h, rfl, fun h => by omega, fun _ => rfl, hc⟩
  rw [if_neg c0]
  obtain ⟨v, i1, h1, e1, l1, u1, c1⟩ := spec_l1Byte_some b i h hc hb
  by_cases c1' : n ≤ 256
  · rw [if_pos c1', e1, Option.bind_some, if_neg (by omega)]
    exact ⟨_, _, _, rfl, fun hn => tmod_in l1 hn, fun hn => by omega, c1⟩
  · obtain ⟨v2, i2, h2, e2, l2, u2, c2⟩ := spec_l1Byte_some b i1 h1 c1 hb
    obtain ⟨v3, i3, h3, e3, l3, u3, c3⟩ := spec_l1Byte_some b i2 h2 c2 hb
    rw [if_neg c1', e1, Option.bind_some]
    dsimp only
    rw [e2, Option.bind_some]
    dsimp only
    rw [e3, Option.bind_some, if_neg (by omega)]
    refine ⟨_, _, _, rfl, fun hn => tmod_in ?_ hn, fun hn => by omega, c3⟩
    dsimp only
    rw [w64 (x := v * 65536) (by omega) (by omega), w64 (x := v2 * 256) (by omega) (by omega), w64 (x := v * 65536 + v2 * 256) (by omega) (by omega), w64 (by omega) (by omega)]
    omega

/-! ### spec_l1Int -/
theorem spec_l1Int_some (b : List Int) (i h : Int) (l : List Int) (hl : 0 < l.length) (hc : curB b i) (hb : b.length ≤ 4611686018427387904) : ∃ v i' h', spec_l1Int.f b i h l = some (v, i', h') ∧ v ∈ l ∧ curB b i' := by
  obtain ⟨v, i1, h1, e1, r1, _, c1⟩ := spec_l1Below_some b i h (l.length : Int) hc hb
  have r := r1 (by omega)
  unfold spec_l1Int.f
  rw [e1, Option.bind_some]
  dsimp only
  rw [if_pos r.1, if_pos r.2]
  refine ⟨_, _, _, rfl, ?_, c1⟩
  obtain ⟨m, rfl⟩ := Int.eq_ofNat_of_zero_le r.1
  rw [rd_nth l m (by omega)]
  exact List.getElem_mem _

/-! ### spec_l1In -/
theorem spec_l1In_eq (a b c : Int) : spec_l1In.f a b c = some (inB a b c) := by
  unfold spec_l1In.f inB
  by_cases h : b ≤ a <;> simp [h]

/-! ### spec_WayOk -/
/-- A message as it has to be. -/
def packB (x : S68) : Bool := inB x.f0 0 1 && !(decide ((x.f1.length : Int) > 400))
def wayB (l : List S68) : Bool := l.all packB && decide ((l.length : Int) ≤ 12)
theorem spec_WayOk_l0 (l : List S68) (hl : l.length ≤ 4611686018427387904) (d : Nat) : ∀ i : Nat, i + d = l.length → Ev (fun k => spec_WayOk.l0 k l (i : Int)) ((l.drop i).all packB && decide ((l.length : Int) ≤ 12)) := by
  induction d with
  | zero =>
    intro i hi
    refine ev_step (fun k => spec_WayOk.l0.eq_2 ..) (ev_neg (by omega) ?_)
    rw [List.drop_of_length_le (by omega)]
    exact ev_as (ev_now _) (by simp)
  | succ d ih =>
    intro i hi
    have hlt : i < l.length := by omega
    have hr : rd_T68 l (i : Int) = l[i] := getD_nth _ l i hlt
    have hd : l.drop i = l[i] :: l.drop (i + 1) := List.drop_eq_getElem_cons hlt
    have hn := ih (i + 1) (by omega)
    refine ev_step (fun k => spec_WayOk.l0.eq_2 ..) (ev_pos (by omega) (ev_pos (by omega) ?_))
    simp only [hr]
    rw [w64 (by omega) (by omega), hd, List.all_cons]
    refine ev_bind1 (spec_l1In_eq _ _ _) ?_
    refine ev_ite (fun c => ev_ite (fun c2 => ?_) (fun c2 => ?_)) (fun c => ?_)
    · exact ev_as (ev_now _) (by simp [packB, c, c2])
    · refine ev_as hn ?_
      have : packB l[i] = true := by simp only [packB, c, Bool.true_and]; simpa using c2
      simp [this]
    · exact ev_as (ev_now _) (by simp [packB, c])
theorem spec_WayOk_ev (l : List S68) (hl : l.length ≤ 4611686018427387904) : Ev (fun k => spec_WayOk.f k l) (wayB l) := ev_as (spec_WayOk_l0 l hl l.length 0 (by omega)) (by simp [wayB])

/-! ### spec_l1Name -/
theorem spec_l1Name_l0 (s : ByteArray) (hs : s.size ≤ 4611686018427387904) (d : Nat) : ∀ i : Int, 0 ≤ i → i + d = s.size → Ev (fun k => spec_l1Name.l0 k s i) (allF (byteIn s 97 122) i d && inB s.size 1 8) := by
  induction d with
  | zero =>
    intro i h0 h1
    refine ev_step (fun k => spec_l1Name.l0.eq_2 ..) ?_
    refine ev_neg (by omega) ?_
    rw [spec_l1In_eq]
    exact ev_now _
  | succ d ih =>
    intro i h0 h1
    refine ev_step (fun k => spec_l1Name.l0.eq_2 ..) ?_
    refine ev_pos (by omega) (ev_pos (by omega) ?_)
    refine ev_ite (fun c1 => ?_) (fun c1 => ev_ite (fun c2 => ?_) (fun c2 => ?_))
    · refine ev_as (ev_now _) ?_
      have : byteIn s 97 122 i = false := by rw [byteIn_false]; omega
      simp [allF, this]
    · refine ev_as (ev_now _) ?_
      have : byteIn s 97 122 i = false := by rw [byteIn_false]; omega
      simp [allF, this]
    · have : byteIn s 97 122 i = true := by rw [byteIn_iff]; omega
      rw [w64 (by omega) (by omega), allF, this, Bool.true_and]
      exact ih (i + 1) (by omega) (by omega)
theorem spec_l1Name_ev (s : ByteArray) (hs : s.size ≤ 4611686018427387904) : Ev (fun k => spec_l1Name.f k s) (nameB s) := spec_l1Name_l0 s hs s.size 0 (by omega) (by omega)

/-! ### spec_l9Time -/
theorem spec_l9Time_eq (a : Int) : spec_l9Time.f a = some (inB a 0 100000) := by
  unfold spec_l9Time.f
  rw [spec_l1In_eq]
  rfl

/-! ### spec_TextOk -/
theorem spec_TextOk_l0 (s : ByteArray) (hs : s.size ≤ 4611686018427387904) (d : Nat) : ∀ i : Int, 0 ≤ i → i + d = s.size → i ≤ 101 → Ev (fun k => spec_TextOk.l0 k s i) (allF (byteIn s 32 126) i d && decide ((s.size : Int) ≤ 100)) := by
  induction d with
  | zero =>
    intro i h0 h1 h2
    refine ev_step (fun k => spec_TextOk.l0.eq_2 ..) ?_
    refine ev_neg (by omega) ?_
    refine ev_step (fun k => spec_TextOk.j1.eq_2 ..) ?_
    refine ev_neg (by decide) ?_
    exact ev_now _
  | succ d ih =>
    intro i h0 h1 h2
    refine ev_step (fun k => spec_TextOk.l0.eq_2 ..) ?_
    refine ev_pos (by omega) ?_
    refine ev_step (fun k => spec_TextOk.j1.eq_2 ..) ?_
    refine ev_ite (fun c0 => ?_) (fun c0 => ?_)
    · have c0' := of_decide_eq_true c0
      refine ev_pos (by omega) (ev_pos (by omega) ?_)
      refine ev_ite (fun c1 => ?_) (fun c1 => ev_ite (fun c2 => ?_) (fun c2 => ?_))
      · refine ev_as (ev_now _) ?_
        have : byteIn s 32 126 i = false := by rw [byteIn_false]; omega
        simp [allF, this]
      · refine ev_as (ev_now _) ?_
        have : byteIn s 32 126 i = false := by rw [byteIn_false]; omega
        simp [allF, this]
      · have : byteIn s 32 126 i = true := by rw [byteIn_iff]; omega
        rw [w64 (by omega) (by omega), allF, this, Bool.true_and]
        exact ih (i + 1) (by omega) (by omega) (by omega)
    · have c0' : ¬ i ≤ 100 := fun h => c0 (decide_eq_true h)
      refine ev_as (ev_now _) ?_
      have : decide ((s.size : Int) ≤ 100) = false := decide_eq_false (by omega)
      rw [this, Bool.and_false]
theorem spec_TextOk_ev (s : ByteArray) (hs : s.size ≤ 4611686018427387904) : Ev (fun k => spec_TextOk.f k s) (textB s) := spec_TextOk_l0 s hs s.size 0 (by omega) (by omega) (by omega)

/-! ### spec_AskerOk -/
/-- A client as it has to be. -/
def askerB (so : Int) (db : ByteArray) (st ti si : Int) (q : ByteArray) (li le : Int) : Bool :=
  inB so 1 9999 &&
    (if st = 0 then db.toList == ([] : List UInt8) && (ti == 0 && (si == 0 && (q.toList == ([] : List UInt8) && (li == 0 && le == 0))))
    else nameB db &&
      (if st = 1 then ti == 0 && (si == 0 && (q.toList == ([] : List UInt8) && (li == 0 && le == 0)))
      else if st = 2 then (li == 0 && le == 0) && (inB ti 0 65535 && (inB si 0 100000 && textB q))
      else if st = 3 ∨ st = 4 then (ti == 0 && (si == 0 && q.toList == ([] : List UInt8))) && (inB li 1 9999 && decide (le ≥ 1))
      else false))
theorem spec_AskerOk_j2 (b : Bool) (x0 : Int) (x1 : ByteArray) (x2 x3 x4 : Int) (x5 : ByteArray) (x6 x7 : Int) (h1 : x1.size ≤ 4611686018427387904) :
    Ev (fun k => spec_AskerOk.j2 k b x0 x1 x2 x3 x4 x5 x6 x7) (b && (nameB x1 && (inB x6 1 9999 && decide (x7 ≥ 1)))) := by
  refine ev_step (fun k => spec_AskerOk.j2.eq_2 ..) ?_
  refine ev_ite (fun c => ?_) (fun c => ?_)
  · refine ev_bind (spec_l1Name_ev _ h1) ?_
    refine ev_ite (fun c2 => ?_) (fun c2 => ?_)
    · refine ev_bind1 (spec_l1In_eq _ _ _) ?_
      refine ev_ite (fun c3 => ?_) (fun c3 => ?_)
      all_goals exact ev_as (ev_now _) (by simp_all)
    · exact ev_as (ev_now _) (by simp_all)
  · exact ev_as (ev_now _) (by simp_all)
theorem spec_AskerOk_j1 (b : Bool) (x0 : Int) (x1 : ByteArray) (x2 x3 x4 : Int) (x5 : ByteArray) (x6 x7 : Int) (h1 : x1.size ≤ 4611686018427387904) (h5 : x5.size ≤ 4611686018427387904) :
    Ev (fun k => spec_AskerOk.j1 k b x0 x1 x2 x3 x4 x5 x6 x7)
      (!b && (if x2 = 0 then x1.toList == ([] : List UInt8) else nameB x1 && (if x2 = 1 then true else if x2 = 2 then inB x3 0 65535 && (inB x4 0 100000 && textB x5) else if x2 = 3 ∨ x2 = 4 then inB x6 1 9999 && decide (x7 ≥ 1) else false))) := by
  refine ev_step (fun k => spec_AskerOk.j1.eq_2 ..) ?_
  refine ev_ite (fun c => ?_) (fun c => ?_)
  · exact ev_as (ev_now _) (by simp [c])
  have hb : b = false := by simpa using c
  subst hb
  refine ev_ite (fun c0 => ?_) (fun c0 => ev_ite (fun c1 => ?_) (fun c1 => ev_ite (fun c2 => ?_) (fun c2 => ev_ite (fun c3 => ?_) (fun c3 => ?_))))
  · exact ev_as (ev_now _) (by simp [c0])
  · exact ev_bind (spec_l1Name_ev _ h1) (ev_as (ev_now _) (by simp [c1]))
  · refine ev_bind (spec_l1Name_ev _ h1) ?_
    refine ev_ite (fun c3 => ?_) (fun c3 => ?_)
    · refine ev_bind1 (spec_l1In_eq _ _ _) ?_
      refine ev_ite (fun c4 => ?_) (fun c4 => ?_)
      · refine ev_bind1 (spec_l9Time_eq _) ?_
        refine ev_ite (fun c5 => ?_) (fun c5 => ?_)
        · exact ev_bind (spec_TextOk_ev _ h5) (ev_as (ev_now _) (by simp [c2, c3, c4, c5]))
        · exact ev_as (ev_now _) (by simp [c2, c5])
      · exact ev_as (ev_now _) (by simp [c2, c4])
    · exact ev_as (ev_now _) (by simp [c2, c3])
  · exact ev_as (spec_AskerOk_j2 _ _ _ _ _ _ _ _ _ h1) (by simp [c3])
  · refine ev_as (spec_AskerOk_j2 _ _ _ _ _ _ _ _ _ h1) ?_
    by_cases c4 : x2 = 4
    · simp [c4]
    · simp [c0, c1, c2, c3, c4]
theorem spec_AskerOk_j0 (b : Bool) (x0 : Int) (x1 : ByteArray) (x2 x3 x4 : Int) (x5 : ByteArray) (x6 x7 : Int) (h1 : x1.size ≤ 4611686018427387904) (h5 : x5.size ≤ 4611686018427387904) :
    Ev (fun k => spec_AskerOk.j0 k b x0 x1 x2 x3 x4 x5 x6 x7)
      (!b && (!(decide (x2 < 3) && !(x6 == 0 && x7 == 0)) && (if x2 = 0 then x1.toList == ([] : List UInt8) else nameB x1 && (if x2 = 1 then true else if x2 = 2 then inB x3 0 65535 && (inB x4 0 100000 && textB x5) else if x2 = 3 ∨ x2 = 4 then inB x6 1 9999 && decide (x7 ≥ 1) else false)))) := by
  refine ev_step (fun k => spec_AskerOk.j0.eq_2 ..) ?_
  refine ev_ite (fun c => ?_) (fun c => ?_)
  · exact ev_as (ev_now _) (by simp [c])
  have hb : b = false := by simpa using c
  subst hb
  refine ev_ite (fun c0 => ev_ite (fun c1 => ?_) (fun c1 => ?_)) (fun c0 => ?_)
  · refine ev_as (spec_AskerOk_j1 _ _ _ _ _ _ _ _ _ h1 h5) ?_
    subst c1
    by_cases c2 : x7 = 0
    · simp [c2]
    · simp [c0, c2, bne]
  · refine ev_as (spec_AskerOk_j1 _ _ _ _ _ _ _ _ _ h1 h5) ?_
    simp [c0, c1]
  · refine ev_as (spec_AskerOk_j1 _ _ _ _ _ _ _ _ _ h1 h5) ?_
    simp [c0]
theorem spec_AskerOk_core (x0 : Int) (x1 : ByteArray) (x2 x3 x4 : Int) (x5 : ByteArray) (x6 x7 : Int) (h1 : x1.size ≤ 4611686018427387904) (h5 : x5.size ≤ 4611686018427387904) : Ev (fun k => spec_AskerOk.f k x0 x1 x2 x3 x4 x5 x6 x7) (askerB x0 x1 x2 x3 x4 x5 x6 x7) := by
  unfold spec_AskerOk.f askerB
  refine ev_bind1 (spec_l1In_eq _ _ _) ?_
  have key : ∀ b : Bool, (b = !(decide (x2 = 2) || (x3 == 0 && (x4 == 0 && x5.toList == ([] : List UInt8))))) → inB x0 1 9999 = true →
      Ev (fun k => spec_AskerOk.j0 k b x0 x1 x2 x3 x4 x5 x6 x7) (inB x0 1 9999 &&
    (if x2 = 0 then x1.toList == ([] : List UInt8) && (x3 == 0 && (x4 == 0 && (x5.toList == ([] : List UInt8) && (x6 == 0 && x7 == 0))))
    else nameB x1 &&
      (if x2 = 1 then x3 == 0 && (x4 == 0 && (x5.toList == ([] : List UInt8) && (x6 == 0 && x7 == 0)))
      else if x2 = 2 then (x6 == 0 && x7 == 0) && (inB x3 0 65535 && (inB x4 0 100000 && textB x5))
      else if x2 = 3 ∨ x2 = 4 then (x3 == 0 && (x4 == 0 && x5.toList == ([] : List UInt8))) && (inB x6 1 9999 && decide (x7 ≥ 1))
      else false))) := by
    intro b hb h0
    refine ev_as (spec_AskerOk_j0 _ _ _ _ _ _ _ _ _ h1 h5) ?_
    rw [hb, h0]
    generalize (x5.toList == ([] : List UInt8)) = e5
    generalize (x1.toList == ([] : List UInt8)) = e1
    generalize nameB x1 = n1
    generalize textB x5 = t5
    generalize inB x3 0 65535 = i3
    generalize inB x4 0 100000 = i4
    generalize inB x6 1 9999 = i6
    by_cases s0 : x2 = 0
    · subst s0
      cases (x3 == 0) <;> cases (x4 == 0) <;> cases e5 <;> cases (x6 == 0) <;> cases (x7 == 0) <;> cases e1 <;> rfl
    · by_cases s1 : x2 = 1
      · subst s1
        cases (x3 == 0) <;> cases (x4 == 0) <;> cases e5 <;> cases (x6 == 0) <;> cases (x7 == 0) <;> cases n1 <;> rfl
      · by_cases s2 : x2 = 2
        · subst s2
          cases (x6 == 0) <;> cases (x7 == 0) <;> cases n1 <;> cases i3 <;> cases i4 <;> cases t5 <;> rfl
        · by_cases s3 : x2 = 3 ∨ x2 = 4
          · have hn : ¬ x2 < 3 := by omega
            simp only [s0, s1, s2, s3, hn, decide_false, if_true, if_false]
            cases (x3 == 0) <;> cases (x4 == 0) <;> cases e5 <;> cases n1 <;> simp
          · simp only [s0, s1, s2, s3, if_false, Bool.and_false]
  refine ev_ite (fun c => ?_) (fun c => ?_)
  · refine ev_ite (fun c2 => ?_) (fun c2 => ev_ite (fun c3 => ev_ite (fun c4 => ?_) (fun c4 => ?_)) (fun c3 => ?_))
    · exact key _ (by simp [c2]) c
    · exact key _ (by simp only [c2, c3, c4, bne]; simp) c
    · exact key _ (by simp [c2, c3, c4]) c
    · exact key _ (by simp [c2, c3]) c
  · exact ev_as (ev_now _) (by simp [c])
theorem spec_AskerOk_ev (x : S25) (h1 : x.f1.size ≤ 4611686018427387904) (h5 : x.f5.size ≤ 4611686018427387904) : Ev (fun k => spec_AskerOk.f k x.f0 x.f1 x.f2 x.f3 x.f4 x.f5 x.f6 x.f7) (askerB x.f0 x.f1 x.f2 x.f3 x.f4 x.f5 x.f6 x.f7) := spec_AskerOk_core _ _ _ _ _ _ _ _ h1 h5

/-! ### spec_LineOk -/
def lineB (so : Int) (db : ByteArray) (ge st si asn le : Int) : Bool :=
  inB so 1 9999 && (nameB db && (inB ge 1 60000 &&
    (if st = 0 then inB si 0 100000 && (asn == 0 && le == 0)
    else if st = 1 ∨ st = 2 then si == 0 && (inB asn 1 9999 && decide (le ≥ 1))
    else false)))
theorem spec_LineOk_j0 (b : Bool) (x0 : Int) (x1 : ByteArray) (x2 x3 x4 x5 x6 : Int) : Ev (fun k => spec_LineOk.j0 k b x0 x1 x2 x3 x4 x5 x6)
    (!b && (if x3 = 0 then inB x4 0 100000 && (x5 == 0 && x6 == 0) else if x3 = 1 ∨ x3 = 2 then x4 == 0 && (inB x5 1 9999 && decide (x6 ≥ 1)) else false)) := by
  refine ev_step (fun k => spec_LineOk.j0.eq_2 ..) ?_
  refine ev_ite (fun c => ?_) (fun c => ?_)
  · exact ev_as (ev_now _) (by simp [c])
  · have hb : b = false := by simpa using c
    refine ev_ite (fun c1 => ?_) (fun c1 => ?_)
    · refine ev_bind1 (spec_l9Time_eq x4) ?_
      refine ev_ite (fun c2 => ev_ite (fun c3 => ?_) (fun c3 => ?_)) (fun c2 => ?_)
      all_goals exact ev_as (ev_now _) (by simp_all)
    · refine ev_bind1 (spec_l1In_eq x3 1 2) ?_
      refine ev_ite (fun c2 => ?_) (fun c2 => ?_)
      · have h3 : x3 = 1 ∨ x3 = 2 := by have := (inB_iff _ _ _).1 c2; omega
        refine ev_ite (fun c3 => ?_) (fun c3 => ?_)
        · refine ev_bind1 (spec_l1In_eq x5 1 9999) ?_
          refine ev_ite (fun c4 => ?_) (fun c4 => ?_)
          all_goals exact ev_as (ev_now _) (by simp_all)
        · exact ev_as (ev_now _) (by simp_all)
      · have h3 : ¬ (x3 = 1 ∨ x3 = 2) := by
          intro h
          exact c2 ((inB_iff _ _ _).2 (by omega))
        exact ev_as (ev_now _) (by simp [c1, h3])
theorem spec_LineOk_ev (x : S27) (hs : x.f1.size ≤ 4611686018427387904) : Ev (fun k => spec_LineOk.f k x.f0 x.f1 x.f2 x.f3 x.f4 x.f5 x.f6) (lineB x.f0 x.f1 x.f2 x.f3 x.f4 x.f5 x.f6) := by
  unfold spec_LineOk.f lineB
  refine ev_bind1 (spec_l1In_eq _ _ _) ?_
  refine ev_ite (fun c => ?_) (fun c => ?_)
  · refine ev_bind (spec_l1Name_ev _ hs) ?_
    refine ev_ite (fun c2 => ?_) (fun c2 => ?_)
    · refine ev_bind1 (spec_l1In_eq _ _ _) ?_
      exact ev_as (spec_LineOk_j0 ..) (by rw [c, c2]; simp)
    · exact ev_as (spec_LineOk_j0 ..) (by simp [c2])
  · exact ev_as (spec_LineOk_j0 ..) (by simp [c])

/-! ### spec_PutText -/
/-- Bytes with a text behind them, if it is one that may stand there. -/
def putTextV (l : List Int) (s : ByteArray) : List Int := if textB s = true then (l ++ [(s.size : Int) % 256]) ++ bytesOf s else l
theorem textB_size (s : ByteArray) (h : textB s = true) : s.size ≤ 100 := by
  unfold textB at h
  rw [Bool.and_eq_true] at h
  have := of_decide_eq_true h.2
  omega
theorem putTextV_len (l : List Int) (s : ByteArray) : (putTextV l s).length ≤ l.length + 101 := by
  unfold putTextV
  split
  · rename_i h
    have := textB_size s h
    rw [List.length_append, List.length_append, bytesOf_length]
    simp only [List.length_cons, List.length_nil]
    omega
  · omega
theorem putTextV_ge (l : List Int) (s : ByteArray) : l.length ≤ (putTextV l s).length := by
  unfold putTextV
  split
  · rw [List.length_append, List.length_append]
    omega
  · omega
theorem spec_PutText_ev (l : List Int) (s : ByteArray) (hl : l.length ≤ 1000000000000) (hs : s.size ≤ 1000000000000) : Ev (fun k => spec_PutText.f k l s) (putTextV l s) := by
  unfold spec_PutText.f putTextV
  simp only [Option.bind_some, List.nil_append, List.length_nil]
  refine ev_pos (by omega) (ev_bind (spec_TextOk_ev s (by omega)) (ev_ite (fun c => ?_) (fun c => ?_)))
  · exact ev_pos (by omega) (ev_pos (by rw [List.length_append]; simp only [List.length_cons, List.length_nil]; omega) (ev_as (ev_now _) (by rw [if_pos c])))
  · exact ev_as (ev_now _) (by rw [if_neg c])

/-! ### spec_PutWord -/
theorem and255 (x : Int) : Go.bits .and .i64 x 255 = x % 256 := by
  have h : (BitVec.ofInt 64 x &&& BitVec.ofInt 64 255).toNat = (x % 256).toNat := by
    rw [BitVec.toNat_and, BitVec.toNat_ofInt, BitVec.toNat_ofInt]
    have e : ((255 : Int) % ((2 ^ 64 : Nat) : Int)).toNat = 2 ^ 8 - 1 := by decide
    rw [e, Nat.and_two_pow_sub_one_eq_mod]
    omega
  show IntKind.i64.wrap (((BitVec.ofInt 64 x &&& BitVec.ofInt 64 255).toNat : Nat) : Int) = x % 256
  rw [h]
  have h0 : 0 ≤ x % 256 := Int.emod_nonneg _ (by decide)
  have h1 : x % 256 < 256 := Int.emod_lt_of_pos _ (by decide)
  rw [Int.toNat_of_nonneg h0]
  have hw : ∀ n : Int, 0 ≤ n → n < 256 → IntKind.i64.wrap n = n := by
    intro n a b
    simp [IntKind.wrap, IntKind.bits, IntKind.signed]
    (try split) <;> omega
  exact hw _ h0 h1
/-- Bytes with a number of two bytes behind them. -/
def putWordV (l : List Int) (n : Int) : List Int := l ++ [(n / 256) % 256, n % 256]
theorem putWordV_len (l : List Int) (n : Int) : (putWordV l n).length = l.length + 2 := by simp [putWordV]
/-- Bytes with a time behind them. -/
def sinceV (l : List Int) (n : Int) : List Int := putWordV l (wrap64 (Int.tdiv n 256)) ++ [(Int.tmod n 256) % 256]
theorem sinceV_len (l : List Int) (n : Int) : (sinceV l n).length = l.length + 3 := by simp [sinceV, putWordV]
theorem spec_PutWord_eq (l : List Int) (n : Int) (hl : l.length ≤ 1000000000000) : spec_PutWord.f l n = some (putWordV l n) := by
  unfold spec_PutWord.f putWordV
  simp only [Option.bind_some, List.nil_append, List.length_nil, List.length_cons, and255]
  rw [if_pos (by omega), if_pos (by omega)]
  have e1 : n / 256 % 256 % 256 = n / 256 % 256 := by omega
  have e2 : n % 256 % 256 = n % 256 := by omega
  rw [e1, e2]

/-! ### spec_PutItem -/
/-- The bytes of a client that is handed over. -/
def askV (a : S25) : List Int := putWordV (putWordV (putTextV (sinceV (putWordV (putTextV (putWordV [1] a.f0 ++ [a.f2 % 256]) a.f1) a.f3) a.f4) a.f5) a.f6) a.f7
/-- The bytes of a connection that is handed over. -/
def lineV (l : S27) : List Int := putWordV (putWordV (sinceV (putWordV (putTextV (putWordV [2] l.f0 ++ [l.f3 % 256]) l.f1) l.f2) l.f4) l.f5) l.f6
def zeroA (a : S25) : Bool := a.f0 == 0 && (a.f1.toList == ([] : List UInt8) && (a.f2 == 0 && (a.f3 == 0 && (a.f4 == 0 && (a.f5.toList == ([] : List UInt8) && (a.f6 == 0 && (a.f7 == 0)))))))
def zeroL (l : S27) : Bool := l.f0 == 0 && (l.f1.toList == ([] : List UInt8) && (l.f2 == 0 && (l.f3 == 0 && (l.f4 == 0 && (l.f5 == 0 && (l.f6 == 0))))))
/-- May this be handed over. -/
def itemB (k : Int) (a : S25) (l : S27) : Bool :=
  if k = 1 then askerB a.f0 a.f1 a.f2 a.f3 a.f4 a.f5 a.f6 a.f7 && (zeroL l && !(decide (a.f7 > 65535)))
  else if k = 2 then lineB l.f0 l.f1 l.f2 l.f3 l.f4 l.f5 l.f6 && (zeroA a && !(decide (l.f6 > 65535))) else false
def itemV (k : Int) (a : S25) (l : S27) : List Int := if itemB k a l = true then (if k = 1 then askV a else lineV l) else []
theorem askV_len (a : S25) : 13 ≤ (askV a).length ∧ (askV a).length ≤ 215 := by
  have t1 := putTextV_len (putWordV [1] a.f0 ++ [a.f2 % 256]) a.f1
  have t2 := putTextV_len (sinceV (putWordV (putTextV (putWordV [1] a.f0 ++ [a.f2 % 256]) a.f1) a.f3) a.f4) a.f5
  have g1 := putTextV_ge (putWordV [1] a.f0 ++ [a.f2 % 256]) a.f1
  have g2 := putTextV_ge (sinceV (putWordV (putTextV (putWordV [1] a.f0 ++ [a.f2 % 256]) a.f1) a.f3) a.f4) a.f5
  simp only [putWordV_len, sinceV_len, List.length_append, List.length_cons, List.length_nil] at t1 t2 g1 g2
  unfold askV
  simp only [putWordV_len]
  omega
theorem lineV_len (l : S27) : 13 ≤ (lineV l).length ∧ (lineV l).length ≤ 114 := by
  have t1 := putTextV_len (putWordV [2] l.f0 ++ [l.f3 % 256]) l.f1
  have g1 := putTextV_ge (putWordV [2] l.f0 ++ [l.f3 % 256]) l.f1
  simp only [putWordV_len, List.length_append, List.length_cons, List.length_nil] at t1 g1
  unfold lineV
  simp only [putWordV_len, sinceV_len]
  omega
theorem itemV_len (k : Int) (a : S25) (l : S27) : (itemV k a l).length ≤ 215 := by
  have := askV_len a
  have := lineV_len l
  unfold itemV
  split
  · split <;> omega
  · simp
theorem itemV_nil (k : Int) (a : S25) (l : S27) : (itemV k a l).length = 0 ↔ itemB k a l = false := by
  have := askV_len a
  have := lineV_len l
  unfold itemV
  by_cases c : itemB k a l = true
  · rw [if_pos c, c]
    constructor
    · intro h
      split at h <;> omega
    · intro h
      exact absurd h (by decide)
  · rw [if_neg c]
    simpa using c
theorem askerB_lease (so : Int) (db : ByteArray) (st ti si : Int) (q : ByteArray) (li le : Int) (h : askerB so db st ti si q li le = true) : 0 ≤ le := by
  unfold askerB at h
  rw [Bool.and_eq_true] at h
  have h := h.2
  split at h
  · simp only [Bool.and_eq_true, beq_iff_eq] at h
    omega
  · rw [Bool.and_eq_true] at h
    have h := h.2
    split at h
    · simp only [Bool.and_eq_true, beq_iff_eq] at h
      omega
    · split at h
      · simp only [Bool.and_eq_true, beq_iff_eq] at h
        omega
      · split at h
        · simp only [Bool.and_eq_true, decide_eq_true_eq] at h
          omega
        · exact absurd h (by decide)
theorem lineB_lease (so : Int) (db : ByteArray) (ge st si asn le : Int) (h : lineB so db ge st si asn le = true) : 0 ≤ le := by
  unfold lineB at h
  simp only [Bool.and_eq_true] at h
  have h := h.2.2.2
  split at h
  · simp only [Bool.and_eq_true, beq_iff_eq] at h
    omega
  · split at h
    · simp only [Bool.and_eq_true, decide_eq_true_eq] at h
      omega
    · exact absurd h (by decide)
theorem spec_PutItem_ev (k : Int) (a : S25) (l : S27) (h1 : a.f1.size ≤ 1000000000) (h5 : a.f5.size ≤ 1000000000) (hl : l.f1.size ≤ 1000000000) :
    Ev (fun n => spec_PutItem.f n k a.f0 a.f1 a.f2 a.f3 a.f4 a.f5 a.f6 a.f7 l.f0 l.f1 l.f2 l.f3 l.f4 l.f5 l.f6) (itemV k a l) := by
  have p1 : Ev (fun n => spec_PutItem.j0 n false a.f0 a.f1 a.f2 a.f3 a.f4 a.f5 a.f6 a.f7) (askV a) := by
    have t1 := putTextV_len (putWordV [1] a.f0 ++ [a.f2 % 256]) a.f1
    have t2 := putTextV_len (sinceV (putWordV (putTextV (putWordV [1] a.f0 ++ [a.f2 % 256]) a.f1) a.f3) a.f4) a.f5
    simp only [putWordV_len, sinceV_len, List.length_append, List.length_cons, List.length_nil] at t1 t2
    refine ev_step (fun n => spec_PutItem.j0.eq_2 ..) (ev_neg (by simp) ?_)
    refine ev_bind1 (spec_PutWord_eq _ _ (by simp)) (ev_bind1 rfl (ev_pos (by simp only [putWordV_len, List.length_cons, List.length_nil]; omega) ?_))
    refine ev_bind (spec_PutText_ev _ _ (by simp only [putWordV_len, List.length_append, List.length_cons, List.length_nil]; omega) (by omega)) ?_
    refine ev_bind1 (spec_PutWord_eq _ _ (by omega)) (ev_bind1 (spec_PutWord_eq _ _ (by rw [putWordV_len]; omega)) (ev_bind1 rfl (ev_pos (by simp only [putWordV_len, List.length_cons, List.length_nil]; omega) ?_)))
    refine ev_bind (spec_PutText_ev _ _ (by simp only [putWordV_len, List.length_append, List.length_cons, List.length_nil]; omega) (by omega)) ?_
    exact ev_bind1 (spec_PutWord_eq _ _ (by unfold sinceV at t2; omega)) (ev_bind1 (spec_PutWord_eq _ _ (by rw [putWordV_len]; unfold sinceV at t2; omega)) (ev_now _))
  have p2 : Ev (fun n => spec_PutItem.j1 n false l.f0 l.f1 l.f2 l.f3 l.f4 l.f5 l.f6) (lineV l) := by
    have t1 := putTextV_len (putWordV [2] l.f0 ++ [l.f3 % 256]) l.f1
    simp only [putWordV_len, List.length_append, List.length_cons, List.length_nil] at t1
    refine ev_step (fun n => spec_PutItem.j1.eq_2 ..) (ev_neg (by simp) ?_)
    refine ev_bind1 (spec_PutWord_eq _ _ (by simp)) (ev_bind1 rfl (ev_pos (by simp only [putWordV_len, List.length_cons, List.length_nil]; omega) ?_))
    refine ev_bind (spec_PutText_ev _ _ (by simp only [putWordV_len, List.length_append, List.length_cons, List.length_nil]; omega) (by omega)) ?_
    refine ev_bind1 (spec_PutWord_eq _ _ (by omega)) (ev_bind1 (spec_PutWord_eq _ _ (by rw [putWordV_len]; omega)) (ev_bind1 rfl (ev_pos (by simp only [putWordV_len, List.length_cons, List.length_nil]; omega) ?_)))
    exact ev_bind1 (spec_PutWord_eq _ _ (by simp only [putWordV_len, List.length_append, List.length_cons, List.length_nil]; omega)) (ev_bind1 (spec_PutWord_eq _ _ (by simp only [putWordV_len, List.length_append, List.length_cons, List.length_nil]; omega)) (ev_now _))
  have n1 : Ev (fun n => spec_PutItem.j0 n true a.f0 a.f1 a.f2 a.f3 a.f4 a.f5 a.f6 a.f7) [] := ev_step (fun n => spec_PutItem.j0.eq_2 ..) (ev_pos rfl (ev_now _))
  have n2 : Ev (fun n => spec_PutItem.j1 n true l.f0 l.f1 l.f2 l.f3 l.f4 l.f5 l.f6) [] := ev_step (fun n => spec_PutItem.j1.eq_2 ..) (ev_pos rfl (ev_now _))
  have z1 : (!(l.f0 == 0) || (!(l.f1.toList == ([] : List UInt8)) || (!(l.f2 == 0) || (!(l.f3 == 0) || (!(l.f4 == 0) || (!(l.f5 == 0) || (!(l.f6 == 0)))))))) = !zeroL l := by simp [zeroL, Bool.not_and]
  have z2 : (!(a.f0 == 0) || (!(a.f1.toList == ([] : List UInt8)) || (!(a.f2 == 0) || (!(a.f3 == 0) || (!(a.f4 == 0) || (!(a.f5.toList == ([] : List UInt8)) || (!(a.f6 == 0) || (!(a.f7 == 0))))))))) = !zeroA a := by simp [zeroA, Bool.not_and]
  unfold spec_PutItem.f itemV itemB
  rw [z1, z2]
  refine ev_ite (fun c => ?_) (fun c => ev_ite (fun c' => ?_) (fun c' => ?_))
  · refine ev_bind (spec_AskerOk_core _ _ _ _ _ _ _ _ (by omega) (by omega)) (ev_ite (fun d => ev_ite (fun e => ?_) (fun e => ?_)) (fun d => ?_))
    · exact ev_as n1 (by rw [if_neg]; rw [if_pos c, d]; simp at e; simp [e])
    · by_cases f : a.f7 > 65535
      · rw [decide_eq_true f]
        exact ev_as n1 (by rw [if_neg]; rw [if_pos c, d]; simp [f])
      · rw [decide_eq_false f]
        exact ev_as p1 (by rw [if_pos, if_pos c]; rw [if_pos c, d]; simp at e; simp [e, f])
    · exact ev_as n1 (by rw [if_neg]; rw [if_pos c]; simp [d])
  · refine ev_bind (spec_LineOk_ev l (by omega)) (ev_ite (fun d => ev_ite (fun e => ?_) (fun e => ?_)) (fun d => ?_))
    · exact ev_as n2 (by rw [if_neg]; rw [if_neg c, if_pos c', d]; simp at e; simp [e])
    · by_cases f : l.f6 > 65535
      · rw [decide_eq_true f]
        exact ev_as n2 (by rw [if_neg]; rw [if_neg c, if_pos c', d]; simp [f])
      · rw [decide_eq_false f]
        exact ev_as p2 (by rw [if_pos, if_neg c]; rw [if_neg c, if_pos c', d]; simp at e; simp [e, f])
    · exact ev_as n2 (by rw [if_neg]; rw [if_neg c, if_pos c']; simp [d])
  · exact ev_as n2 (by rw [if_neg]; rw [if_neg c, if_neg c']; simp)

/-! ### spec_CtlOk -/
def itemOkB (x : S29) : Bool := itemB x.f0 x.f1 x.f2
def partB (n of ti : Int) (m : Nat) : Bool := inB of 1 20 && (inB n 0 (wrap64 (of - 1)) && (inB ti 0 65535 && decide (m ≤ 2)))
/-- A message between proxies as it has to be. -/
def ctlB (ki fr id n of : Int) (pa : Bool) (ti : Int) (l : List S29) : Bool :=
  inB fr 0 1 && (inB id 1 60000 &&
    (if ki = 1 then l.all itemOkB && partB n of ti l.length
     else of == 0 && (!pa && (ti == 0 && (decide (l.length = 0) && (if ki = 2 then inB n 0 20 else if ki = 3 then n == 0 else false))))))
theorem spec_CtlOk_l0 (ki fr id n of : Int) (pa : Bool) (ti : Int) (l : List S29) (hl : l.length ≤ 1000000000) (hz : ∀ x ∈ l, x.f1.f1.size ≤ 1000000000 ∧ x.f1.f5.size ≤ 1000000000 ∧ x.f2.f1.size ≤ 1000000000) (d : Nat) : ∀ i : Nat, i + d = l.length → Ev (fun k => spec_CtlOk.l0 k (i : Int) ki fr id n of pa ti l) ((l.drop i).all itemOkB && partB n of ti l.length) := by
  induction d with
  | zero =>
    intro i hi
    refine ev_step (fun k => spec_CtlOk.l0.eq_2 ..) (ev_neg (by omega) ?_)
    have hd : l.drop i = [] := List.drop_of_length_le (by omega)
    rw [hd]
    unfold partB
    refine ev_bind1 (spec_l1In_eq _ _ _) (ev_ite (fun c => ev_bind1 (spec_l1In_eq _ _ _) (ev_ite (fun c1 => ev_bind1 (spec_l1In_eq _ _ _) (ev_ite (fun c2 => ?_) (fun c2 => ?_))) (fun c1 => ?_))) (fun c => ?_))
    · exact ev_as (ev_now _) (by simp [c, c1, c2]; omega)
    · exact ev_as (ev_now _) (by simp [c2])
    · exact ev_as (ev_now _) (by simp [c1])
    · exact ev_as (ev_now _) (by simp [c])
  | succ d ih =>
    intro i hi
    have hn := ih (i + 1) (by omega)
    have hlt : i < l.length := by omega
    have hr : rd_T29 l (i : Int) = l[i] := getD_nth _ l i hlt
    have hd : l.drop i = l[i] :: l.drop (i + 1) := List.drop_eq_getElem_cons hlt
    have h := hz l[i] (List.getElem_mem hlt)
    rw [hd, List.all_cons]
    refine ev_step (fun k => spec_CtlOk.l0.eq_2 ..) (ev_pos (by omega) (ev_pos (by omega) (?_)))
    simp only [hr]
    rw [w64 (by omega) (by omega)]
    refine ev_bind (spec_PutItem_ev l[i].f0 l[i].f1 l[i].f2 h.1 h.2.1 h.2.2) (ev_ite (fun c => ?_) (fun c => ?_))
    · have := (itemV_nil l[i].f0 l[i].f1 l[i].f2).1 (by omega)
      exact ev_as (ev_now _) (by unfold itemOkB; rw [this]; rfl)
    · have : itemB l[i].f0 l[i].f1 l[i].f2 = true := by
        rw [← Bool.not_eq_false]
        exact fun e => c (by have := (itemV_nil l[i].f0 l[i].f1 l[i].f2).2 e; omega)
      exact ev_as hn (by unfold itemOkB; rw [this]; simp)
theorem spec_CtlOk_ev (ki fr id n of : Int) (pa : Bool) (ti : Int) (l : List S29) (hl : l.length ≤ 1000000000) (hz : ∀ x ∈ l, x.f1.f1.size ≤ 1000000000 ∧ x.f1.f5.size ≤ 1000000000 ∧ x.f2.f1.size ≤ 1000000000) : Ev (fun k => spec_CtlOk.f k ki fr id n of pa ti l) (ctlB ki fr id n of pa ti l) := by
  have h0 := spec_CtlOk_l0 ki fr id n of pa ti l hl hz l.length 0 (by omega)
  unfold spec_CtlOk.f ctlB
  refine ev_bind1 (spec_l1In_eq _ _ _) (ev_ite (fun c => ev_bind1 (spec_l1In_eq _ _ _) (ev_step (fun k => spec_CtlOk.j0.eq_2 ..) (ev_ite (fun c1 => ?_) (fun c1 => ev_ite (fun c2 => ?_) (fun c2 => ?_))))) (fun c => ev_step (fun k => spec_CtlOk.j0.eq_2 ..) (ev_pos rfl (ev_as (ev_now _) (by simp [c])))))
  · exact ev_as (ev_now _) (by simp at c1; simp [c1])
  · exact ev_as h0 (by simp at c1; simp [c, c1, c2])
  · simp at c1
    refine ev_ite (fun c3 => ev_ite (fun c4 => ?_) (fun c4 => ev_ite (fun c5 => ev_ite (fun c6 => ?_) (fun c6 => ?_)) (fun c5 => ?_))) (fun c3 => ?_)
    · exact ev_as (ev_now _) (by simp [c2, c4])
    · have hn : l = [] := List.eq_nil_of_length_eq_zero (by omega)
      simp at c4
      refine ev_ite (fun c7 => ev_bind1 (spec_l1In_eq _ _ _) (ev_ite (fun c8 => ?_) (fun c8 => ev_neg (by omega) ?_))) (fun c7 => ev_ite (fun c9 => ?_) (fun c9 => ?_))
      · exact ev_as (ev_now _) (by simp [c, c1, c3, c4, c5, c7, c8, hn])
      · exact ev_as (ev_now _) (by simp [c7, c8])
      · exact ev_as (ev_now _) (by simp [c, c1, c3, c4, c5, c9, hn])
      · exact ev_as (ev_now _) (by simp [c2, c7, c9])
    · have : ¬ l = [] := by
        intro e
        rw [e] at c6
        exact c6 rfl
      exact ev_as (ev_now _) (by simp [c2, this])
    · exact ev_as (ev_now _) (by simp [c2, c5])
    · exact ev_as (ev_now _) (by simp [c2, c3])

/-! ### spec_l12Pack -/
theorem spec_l12Pack_eq (a : Int) (l : List Int) (h : l.length ≤ 1000000000000) : spec_l12Pack.f a l = some (a, l) := by
  unfold spec_l12Pack.f
  simp only [Option.bind_some, List.nil_append, List.length_nil]
  rw [if_pos (by omega)]

/-! ### spec_l12Copy -/
theorem spec_l12Copy_l0 (l : List S68) (hl : l.length ≤ 1000000000000) (hx : ∀ x ∈ l, x.f1.length ≤ 1000000000000) (d : Nat) : ∀ i : Nat, i + d = l.length → Ev (fun k => spec_l12Copy.l0 k l (l.take i) (i : Int)) l := by
  induction d with
  | zero =>
    intro i hi
    refine ev_step (fun k => spec_l12Copy.l0.eq_2 ..) (ev_neg (by omega) ?_)
    rw [List.take_of_length_le (by omega)]
    exact ev_now _
  | succ d ih =>
    intro i hi
    have hlt : i < l.length := by omega
    have hr : rd_T68 l (i : Int) = l[i] := getD_nth _ l i hlt
    have hn := ih (i + 1) (by omega)
    rw [List.take_add_one, List.getElem?_eq_getElem hlt] at hn
    refine ev_step (fun k => spec_l12Copy.l0.eq_2 ..) (ev_pos (by omega) (ev_pos (by omega) ?_))
    simp only [hr]
    rw [w64 (by omega) (by omega)]
    refine ev_bind1 (spec_l12Pack_eq _ _ (hx _ (List.getElem_mem hlt))) (ev_pos (by rw [List.length_take]; omega) ?_)
    exact hn
theorem spec_l12Copy_ev (l : List S68) (hl : l.length ≤ 1000000000000) (hx : ∀ x ∈ l, x.f1.length ≤ 1000000000000) : Ev (fun k => spec_l12Copy.f k l) l := by
  have h := spec_l12Copy_l0 l hl hx l.length 0 (by omega)
  exact h

/-! ### spec_Sum -/
/-- One step of the check sum. -/
def crcS (s : Int) : Int := if wrap64 (s * 2) > 65535 then Go.bits .xor .i64 (wrap64 (s * 2)) 69665 else wrap64 (s * 2)
def itS : Nat → Int → Int
  | 0, s => s
  | n + 1, s => itS n (crcS s)
def sumS (s x : Int) : Int := itS 8 (Go.bits .xor .i64 s (wrap64 ((wrap64 x) * 256)))
/-- The check sum of some bytes. -/
def sumV (l : List Int) : Int := Go.bits .and .i64 (l.foldl sumS 65535) 65535
theorem spec_Sum_l1 (l : List Int) (i : Nat) (hi : i < 1000000000000) (r : Int) (d : Nat) : ∀ (j : Nat) (s : Int), j + d = 8 → Ev (fun k => spec_Sum.l0 k l (itS d s) ((i : Int) + 1)) r → Ev (fun k => spec_Sum.l1 k l s (i : Int) (j : Int)) r := by
  induction d with
  | zero =>
    intro j s hj h
    refine ev_step (fun k => spec_Sum.l1.eq_2 ..) (ev_neg (by omega) ?_)
    rw [w64 (by omega) (by omega)]
    exact h
  | succ d ih =>
    intro j s hj h
    have e : wrap64 ((j : Int) + 1) = ((j + 1 : Nat) : Int) := by rw [w64 (by omega) (by omega)]; omega
    refine ev_step (fun k => spec_Sum.l1.eq_2 ..) (ev_pos (by omega) ?_)
    rw [e]
    have h' := ih (j + 1) (crcS s) (by omega) h
    unfold crcS at h'
    refine ev_ite (fun c => ?_) (fun c => ?_)
    · rw [if_pos c] at h'
      exact h'
    · rw [if_neg c] at h'
      exact h'
theorem spec_Sum_l0 (l : List Int) (hl : l.length ≤ 1000000000) (d : Nat) : ∀ (i : Nat) (s : Int), i + d = l.length → Ev (fun k => spec_Sum.l0 k l s (i : Int)) (Go.bits .and .i64 ((l.drop i).foldl sumS s) 65535) := by
  induction d with
  | zero =>
    intro i s hi
    rw [List.drop_of_length_le (by omega)]
    exact ev_step (fun k => spec_Sum.l0.eq_2 ..) (ev_neg (by omega) (ev_now _))
  | succ d ih =>
    intro i s hi
    have hlt : i < l.length := by omega
    have hr : rd l (i : Int) = l[i] := rd_nth l i hlt
    rw [List.drop_eq_getElem_cons hlt, List.foldl_cons]
    refine ev_step (fun k => spec_Sum.l0.eq_2 ..) (ev_pos (by omega) (ev_pos (by omega) ?_))
    rw [hr]
    have h := ih (i + 1) (sumS s l[i]) (by omega)
    rw [show ((i + 1 : Nat) : Int) = (i : Int) + 1 by omega] at h
    exact spec_Sum_l1 l i (by omega) _ 8 0 _ rfl h
theorem spec_Sum_ev (l : List Int) (hl : l.length ≤ 1000000000) : Ev (fun k => spec_Sum.f k l) (sumV l) := by
  have h := spec_Sum_l0 l hl l.length 0 65535 (by omega)
  rw [List.drop_zero] at h
  exact h

/-! ### spec_PutCtl -/
def itemsS (b : List Int) (x : S29) : List Int := (b ++ [((itemV x.f0 x.f1 x.f2).length : Int) % 256]) ++ itemV x.f0 x.f1 x.f2
/-- The bytes of a message ahead of its check sum. -/
def ctlH (ki fr id n of p ti : Int) (l : List S29) : List Int := l.foldl itemsS (putWordV (putWordV [ki % 256, fr % 256] id ++ [n % 256, of % 256, p]) ti ++ [(l.length : Int) % 256])
def ctlX (ki fr id n of p ti : Int) (l : List S29) : List Int := putWordV (ctlH ki fr id n of p ti l) (sumV (ctlH ki fr id n of p ti l))
/-- The bytes of a message between proxies. -/
def ctlV (ki fr id n of : Int) (pa : Bool) (ti : Int) (l : List S29) : List Int := if ctlB ki fr id n of pa ti l = true then ctlX ki fr id n of (if pa = true then 1 else 0) ti l else []
theorem items_len (l : List S29) : ∀ b : List Int, (l.foldl itemsS b).length ≤ b.length + 300 * l.length := by
  induction l with
  | nil => intro b; simp
  | cons x l ih =>
    intro b
    have hv := itemV_len x.f0 x.f1 x.f2
    have h := ih (itemsS b x)
    have hq : (itemsS b x).length = b.length + 1 + (itemV x.f0 x.f1 x.f2).length := by unfold itemsS; simp only [List.length_append, List.length_cons, List.length_nil]
    rw [List.foldl_cons, List.length_cons]
    omega
theorem ctlV_len (ki fr id n of : Int) (pa : Bool) (ti : Int) (l : List S29) : (ctlV ki fr id n of pa ti l).length ≤ 20 + 300 * l.length := by
  unfold ctlV
  split
  · unfold ctlX
    rw [putWordV_len]
    have h := items_len l (putWordV (putWordV [ki % 256, fr % 256] id ++ [n % 256, of % 256, if pa = true then 1 else 0]) ti ++ [(l.length : Int) % 256])
    simp only [putWordV_len, List.length_append, List.length_cons, List.length_nil] at h
    unfold ctlH
    omega
  · simp
theorem spec_PutCtl_l0 (ki fr id n of : Int) (pa : Bool) (ti : Int) (l : List S29) (hl : l.length ≤ 2000000) (hz : ∀ x ∈ l, x.f1.f1.size ≤ 1000000000 ∧ x.f1.f5.size ≤ 1000000000 ∧ x.f2.f1.size ≤ 1000000000) (d : Nat) : ∀ (i : Nat) (b : List Int), i + d = l.length → b.length + 300 * d ≤ 700000000 → Ev (fun k => spec_PutCtl.l0 k b (i : Int) ki fr id n of pa ti l) (putWordV ((l.drop i).foldl itemsS b) (sumV ((l.drop i).foldl itemsS b))) := by
  induction d with
  | zero =>
    intro i b hi hb
    rw [List.drop_of_length_le (by omega)]
    exact ev_step (fun k => spec_PutCtl.l0.eq_2 ..) (ev_neg (by omega) (ev_bind (spec_Sum_ev b (by omega)) (ev_bind1 (spec_PutWord_eq b _ (by omega)) (ev_now _))))
  | succ d ih =>
    intro i b hi hb
    have hlt : i < l.length := by omega
    have hr : rd_T29 l (i : Int) = l[i] := getD_nth _ l i hlt
    have h := hz l[i] (List.getElem_mem hlt)
    have hv := itemV_len l[i].f0 l[i].f1 l[i].f2
    have hq : (itemsS b l[i]).length = b.length + 1 + (itemV l[i].f0 l[i].f1 l[i].f2).length := by unfold itemsS; simp only [List.length_append, List.length_cons, List.length_nil]
    have hn := ih (i + 1) (itemsS b l[i]) (by omega) (by omega)
    rw [List.drop_eq_getElem_cons hlt, List.foldl_cons]
    refine ev_step (fun k => spec_PutCtl.l0.eq_2 ..) (ev_pos (by omega) (ev_pos (by omega) ?_))
    simp only [hr]
    rw [w64 (by omega) (by omega)]
    refine ev_bind (spec_PutItem_ev l[i].f0 l[i].f1 l[i].f2 h.1 h.2.1 h.2.2) (ev_bind1 rfl (ev_pos (by simp only [List.length_cons, List.length_nil]; omega) (ev_bind1 rfl (ev_pos (by simp only [List.length_append, List.length_cons, List.length_nil]; omega) ?_))))
    rw [show (i : Int) + 1 = ((i + 1 : Nat) : Int) by omega]
    exact hn
theorem spec_PutCtl_ev (ki fr id n of : Int) (pa : Bool) (ti : Int) (l : List S29) (hl : l.length ≤ 2000000) (hz : ∀ x ∈ l, x.f1.f1.size ≤ 1000000000 ∧ x.f1.f5.size ≤ 1000000000 ∧ x.f2.f1.size ≤ 1000000000) : Ev (fun k => spec_PutCtl.f k ki fr id n of pa ti l) (ctlV ki fr id n of pa ti l) := by
  have h0 : ∀ p : Int, Ev (fun k => spec_PutCtl.j0 k p ki fr id n of pa ti l) (ctlX ki fr id n of (p % 256) ti l) := by
    intro p
    refine ev_step (fun k => spec_PutCtl.j0.eq_2 ..) (ev_bind1 (spec_PutWord_eq _ _ (by simp)) (ev_bind1 rfl (ev_pos (by simp only [putWordV_len, List.length_cons, List.length_nil]; omega) (ev_bind1 (spec_PutWord_eq _ _ (by simp only [putWordV_len, List.length_append, List.length_cons, List.length_nil]; omega)) (ev_bind1 rfl (ev_pos (by simp only [putWordV_len, List.length_append, List.length_cons, List.length_nil]; omega) ?_))))))
    exact spec_PutCtl_l0 ki fr id n of pa ti l hl hz l.length 0 _ (by omega) (by simp only [putWordV_len, List.length_append, List.length_cons, List.length_nil]; omega)
  unfold spec_PutCtl.f ctlV
  refine ev_bind (spec_CtlOk_ev ki fr id n of pa ti l (by omega) hz) (ev_ite (fun c => ev_ite (fun c1 => ?_) (fun c1 => ?_)) (fun c => ?_))
  · exact ev_as (h0 1) (by rw [if_pos c, if_pos c1]; rfl)
  · exact ev_as (h0 0) (by rw [if_pos c, if_neg c1]; rfl)
  · exact ev_as (ev_now _) (by rw [if_neg c])

/-! ### spec_Send -/
def sendV (l : List S68) (ki fr id n of : Int) (pa : Bool) (ti : Int) (it : List S29) : List S68 :=
  if wayB l = true then (if ctlB ki fr id n of pa ti it = true then (if (l.length : Int) = 12 then l else l ++ [⟨fr, ctlV ki fr id n of pa ti it⟩]) else l) else l
theorem spec_Send_ev (l : List S68) (hl : l.length ≤ 1000000000000) (hx : ∀ x ∈ l, x.f1.length ≤ 1000000000000) (ki fr id n of : Int) (pa : Bool) (ti : Int) (it : List S29) (hi : it.length ≤ 2000000) (hz : ∀ x ∈ it, x.f1.f1.size ≤ 1000000000 ∧ x.f1.f5.size ≤ 1000000000 ∧ x.f2.f1.size ≤ 1000000000) : Ev (fun k => spec_Send.f k l ki fr id n of pa ti it) (sendV l ki fr id n of pa ti it) := by
  unfold spec_Send.f sendV
  refine ev_bind (spec_l12Copy_ev l hl hx) (ev_bind (spec_WayOk_ev l (by omega)) ?_)
  by_cases h1 : wayB l = true
  · simp only [if_pos h1]
    refine ev_bind (spec_CtlOk_ev ki fr id n of pa ti it (by omega) hz) ?_
    by_cases h2 : ctlB ki fr id n of pa ti it = true
    · simp only [if_pos h2]
      by_cases h3 : (l.length : Int) = 12
      · simp only [if_pos h3]; exact ev_now _
      simp only [if_neg h3]
      exact ev_bind (spec_PutCtl_ev ki fr id n of pa ti it hi hz) (ev_pos (by omega) (ev_now _))
    · simp only [if_neg h2]; exact ev_now _
  · simp only [if_neg h1]; exact ev_now _

/-! ### spec_l1Bytes -/
theorem spec_l1Bytes_l0 (b : List Int) (hb : b.length ≤ 4611686018427387904) (n : Int) (hn : n ≤ 1000) (d : Nat) : ∀ (l : List Int) (j i h : Int), n ≤ j + d → 0 ≤ j → l.length + d ≤ 1000 → bytesL l → curB b i → ∃ l' i' h', Ev (fun k => spec_l1Bytes.l0 k n l j b i h) (l', i', h') ∧ bytesL l' ∧ l'.length ≤ 1000 ∧ curB b i' := by
  induction d with
  | zero =>
    intro l j i h hd h0 hl hbl hc
    exact ⟨_, _, _, ev_step (fun k => spec_l1Bytes.l0.eq_2 ..) (ev_neg (by omega) (ev_now _)), hbl, by omega, hc⟩
  | succ d ih =>
    intro l j i h hd h0 hl hbl hc
    by_cases c : j < n
    · obtain ⟨v, i1, h1, e1, v0, v1, c1⟩ := spec_l1Byte_some b i h hc hb
      obtain ⟨l', i2, h2, e2, b2, s2, c2⟩ := ih (l ++ [v % 256]) (j + 1) i1 h1 (by omega) (by omega) (by rw [List.length_append, List.length_cons, List.length_nil]; omega) (fun x hx => by
        rcases List.mem_append.1 hx with hx | hx
        · exact hbl x hx
        · rw [List.mem_singleton] at hx; omega) c1
      refine ⟨l', i2, h2, ev_step (fun k => spec_l1Bytes.l0.eq_2 ..) (ev_pos c (ev_bind1 e1 (ev_pos (by omega) ?_))), b2, s2, c2⟩
      rw [w64 (by omega) (by omega)]
      exact e2
    · exact ⟨_, _, _, ev_step (fun k => spec_l1Bytes.l0.eq_2 ..) (ev_neg c (ev_now _)), hbl, by omega, hc⟩
theorem spec_l1Bytes_some (b : List Int) (i h n : Int) (hn : n ≤ 1000) (hc : curB b i) (hb : b.length ≤ 4611686018427387904) : ∃ l i' h', Ev (fun k => spec_l1Bytes.f k b i h n) (l, i', h') ∧ bytesL l ∧ l.length ≤ 1000 ∧ curB b i' :=
  spec_l1Bytes_l0 b hb n hn n.toNat [] 0 i h (by omega) (by omega) (by simp; omega) (fun _ hx => by cases hx) hc

/-! ### spec_l1Once -/
theorem spec_l1Once_some (b : List Int) (i h n : Int) (hc : curB b i) (hb : b.length ≤ 4611686018427387904) : ∃ v i' h', spec_l1Once.f b i h n = some (v, i', h') ∧ curB b i' := by
  obtain ⟨v, i1, h1, e1, _, _, c1⟩ := spec_l1Below_some b i h n hc hb
  unfold spec_l1Once.f
  rw [e1, Option.bind_some]
  exact ⟨_, _, _, rfl, c1⟩

/-! ### spec_l1Str -/
theorem spec_l1Str_some (b : List Int) (i h : Int) (l : List ByteArray) (hl : 0 < l.length) (hc : curB b i) (hb : b.length ≤ 4611686018427387904) : ∃ v i' h', spec_l1Str.f b i h l = some (v, i', h') ∧ v ∈ l ∧ curB b i' := by
  obtain ⟨v, i1, h1, e1, r1, _, c1⟩ := spec_l1Below_some b i h (l.length : Int) hc hb
  have r := r1 (by omega)
  unfold spec_l1Str.f
  rw [e1, Option.bind_some]
  dsimp only
  rw [if_pos r.1, if_pos r.2]
  refine ⟨_, _, _, rfl, ?_, c1⟩
  obtain ⟨m, rfl⟩ := Int.eq_ofNat_of_zero_le r.1
  rw [rdOf_nth ByteArray.empty l m (by omega)]
  exact List.getElem_mem _

/-! ### spec_l7Query -/
theorem spec_l7Query_some (b : List Int) (i h : Int) (hc : curB b i) (hb : b.length ≤ 4611686018427387904) : ∃ v i' h', spec_l7Query.f b i h = some (v, i', h') ∧ v.size ≤ 10 ∧ curB b i' := by
  unfold spec_l7Query.f
  obtain ⟨v, i1, h1, e1, m1, c1⟩ := spec_l1Str_some b i h [(⟨#[98, 101, 103, 105, 110]⟩ : ByteArray), (⟨#[98, 101, 103, 105, 110]⟩ : ByteArray), (⟨#[99, 111, 109, 109, 105, 116]⟩ : ByteArray), (⟨#[99, 111, 109, 109, 105, 116]⟩ : ByteArray), (⟨#[114, 111, 108, 108, 98, 97, 99, 107]⟩ : ByteArray), (⟨#[102, 97, 105, 108]⟩ : ByteArray), (⟨#[111, 110, 101]⟩ : ByteArray), (⟨#[116, 119, 111]⟩ : ByteArray), (⟨#[116, 104, 114, 101, 101]⟩ : ByteArray)] (by simp) hc hb
  rw [e1, Option.bind_some]
  refine ⟨_, _, _, rfl, ?_, c1⟩
  have all : ∀ x ∈ [(⟨#[98, 101, 103, 105, 110]⟩ : ByteArray), (⟨#[98, 101, 103, 105, 110]⟩ : ByteArray), (⟨#[99, 111, 109, 109, 105, 116]⟩ : ByteArray), (⟨#[99, 111, 109, 109, 105, 116]⟩ : ByteArray), (⟨#[114, 111, 108, 108, 98, 97, 99, 107]⟩ : ByteArray), (⟨#[102, 97, 105, 108]⟩ : ByteArray), (⟨#[111, 110, 101]⟩ : ByteArray), (⟨#[116, 119, 111]⟩ : ByteArray), (⟨#[116, 104, 114, 101, 101]⟩ : ByteArray)], x.size ≤ 10 := by decide
  exact all v m1

/-! ### spec_l9Asker -/
def okA (a : S25) : Prop := a.f1.size ≤ 101 ∧ a.f5.size ≤ 101
def okL (l : S27) : Prop := l.f1.size ≤ 101
theorem spec_l9Asker_j1 (b : List Int) (c : Bool) (i h : Int) (a : S25) (ha : okA a) (hc : curB b i) (hb : b.length ≤ 4611686018427387904) : ∃ (x : S25) (i' h' : Int), Ev (fun k => spec_l9Asker.j1 k c b i h a.f0 a.f1 a.f2 a.f3 a.f4 a.f5 a.f6 a.f7) (x.f0, x.f1, x.f2, x.f3, x.f4, x.f5, x.f6, x.f7, i', h') ∧ okA x ∧ curB b i' := by
  by_cases c1 : c = true
  · obtain ⟨v1, i1, h1, e1, _, _, k1⟩ := spec_l1Below_some b i h 9 hc hb
    obtain ⟨v2, i2, h2, e2, _, _, k2⟩ := spec_l1Below_some b i1 h1 900 k1 hb
    exact ⟨⟨a.f0, a.f1, a.f2, a.f3, a.f4, a.f5, wrap64 (1 + v1), wrap64 (1 + v2)⟩, _, _, ev_step (fun k => spec_l9Asker.j1.eq_2 ..) (ev_pos c1 (ev_bind1 e1 (ev_bind1 e2 (ev_now _)))), ha, k2⟩
  · exact ⟨a, _, _, ev_step (fun k => spec_l9Asker.j1.eq_2 ..) (ev_neg c1 (ev_now _)), ha, hc⟩
theorem spec_l9Asker_j0 (b : List Int) (i h : Int) (a : S25) (ha : okA a) (hc : curB b i) (hb : b.length ≤ 4611686018427387904) : ∃ (x : S25) (i' h' : Int), Ev (fun k => spec_l9Asker.j0 k b i h a.f0 a.f1 a.f2 a.f3 a.f4 a.f5 a.f6 a.f7) (x.f0, x.f1, x.f2, x.f3, x.f4, x.f5, x.f6, x.f7, i', h') ∧ okA x ∧ curB b i' := by
  by_cases c2 : a.f2 = 2
  · obtain ⟨v1, i1, h1, e1, _, _, k1⟩ := spec_l1Below_some b i h 9 hc hb
    obtain ⟨v2, i2, h2, e2, _, k2⟩ := spec_l1Int_some b i1 h1 [0, 7, 300, 100000] (by simp) k1 hb
    obtain ⟨q, i3, h3, e3, s3, k3⟩ := spec_l7Query_some b i2 h2 k2 hb
    exact ⟨⟨a.f0, a.f1, a.f2, v1, v2, q, a.f6, a.f7⟩, _, _, ev_step (fun k => spec_l9Asker.j0.eq_2 ..) (ev_pos c2 (ev_bind1 e1 (ev_bind1 e2 (ev_bind1 e3 (ev_now _))))), ⟨ha.1, by show q.size ≤ 101; omega⟩, k3⟩
  · by_cases c3 : a.f2 = 3
    · obtain ⟨x, i1, h1, e1, g1, k1⟩ := spec_l9Asker_j1 b (a.f2 == 3) i h a ha hc hb
      exact ⟨x, i1, h1, ev_step (fun k => spec_l9Asker.j0.eq_2 ..) (ev_neg c2 (ev_pos c3 e1)), g1, k1⟩
    · obtain ⟨x, i1, h1, e1, g1, k1⟩ := spec_l9Asker_j1 b (a.f2 == 4) i h a ha hc hb
      exact ⟨x, i1, h1, ev_step (fun k => spec_l9Asker.j0.eq_2 ..) (ev_neg c2 (ev_neg c3 e1)), g1, k1⟩
theorem spec_l9Asker_some (b : List Int) (i h : Int) (hc : curB b i) (hb : b.length ≤ 4611686018427387904) : ∃ (x : S25) (i' h' : Int), Ev (fun k => spec_l9Asker.f k b i h) (x.f0, x.f1, x.f2, x.f3, x.f4, x.f5, x.f6, x.f7, i', h') ∧ okA x ∧ curB b i' := by
  unfold spec_l9Asker.f
  obtain ⟨v1, i1, h1, e1, _, _, k1⟩ := spec_l1Below_some b i h 9 hc hb
  obtain ⟨v2, i2, h2, e2, _, _, k2⟩ := spec_l1Below_some b i1 h1 5 k1 hb
  by_cases c : v2 = 0
  · obtain ⟨x, i3, h3, e3, g3, k3⟩ := spec_l9Asker_j0 b i2 h2 ⟨wrap64 (1 + v1), ⟨#[]⟩, v2, 0, 0, ⟨#[]⟩, 0, 0⟩ ⟨by show (0 : Nat) ≤ 101; omega, by show (0 : Nat) ≤ 101; omega⟩ k2 hb
    exact ⟨x, i3, h3, ev_bind1 e1 (ev_bind1 e2 (ev_pos c e3)), g3, k3⟩
  · obtain ⟨q, i3, h3, e3, m3, k3⟩ := spec_l1Str_some b i2 h2 [(⟨#[109, 97, 105, 110]⟩ : ByteArray), (⟨#[108, 111, 103, 115]⟩ : ByteArray), (⟨#[97, 100, 109, 105, 110]⟩ : ByteArray)] (by simp) k2 hb
    have all : ∀ x ∈ [(⟨#[109, 97, 105, 110]⟩ : ByteArray), (⟨#[108, 111, 103, 115]⟩ : ByteArray), (⟨#[97, 100, 109, 105, 110]⟩ : ByteArray)], x.size ≤ 101 := by decide
    obtain ⟨x, i4, h4, e4, g4, k4⟩ := spec_l9Asker_j0 b i3 h3 ⟨wrap64 (1 + v1), q, v2, 0, 0, ⟨#[]⟩, 0, 0⟩ ⟨all q m3, by show (0 : Nat) ≤ 101; omega⟩ k3 hb
    exact ⟨x, i4, h4, ev_bind1 e1 (ev_bind1 e2 (ev_neg c (ev_bind1 e3 e4))), g4, k4⟩

/-! ### spec_l9Line -/
theorem spec_l9Line_some (b : List Int) (i h : Int) (hc : curB b i) (hb : b.length ≤ 4611686018427387904) : ∃ (x : S27) (i' h' : Int), spec_l9Line.f b i h = some (x.f0, x.f1, x.f2, x.f3, x.f4, x.f5, x.f6, i', h') ∧ okL x ∧ curB b i' := by
  unfold spec_l9Line.f
  obtain ⟨v1, i1, h1, e1, _, _, k1⟩ := spec_l1Below_some b i h 9 hc hb
  obtain ⟨q, i2, h2, e2, m2, k2⟩ := spec_l1Str_some b i1 h1 [(⟨#[109, 97, 105, 110]⟩ : ByteArray), (⟨#[108, 111, 103, 115]⟩ : ByteArray)] (by simp) k1 hb
  have all : ∀ x ∈ [(⟨#[109, 97, 105, 110]⟩ : ByteArray), (⟨#[108, 111, 103, 115]⟩ : ByteArray)], x.size ≤ 101 := by decide
  obtain ⟨v3, i3, h3, e3, _, _, k3⟩ := spec_l1Below_some b i2 h2 3 k2 hb
  obtain ⟨v4, i4, h4, e4, _, _, k4⟩ := spec_l1Below_some b i3 h3 3 k3 hb
  simp only [e1, e2, e3, e4, Option.bind_some]
  by_cases c : v4 = 0
  · obtain ⟨v5, i5, h5, e5, _, k5⟩ := spec_l1Int_some b i4 h4 [0, 7, 300, 100000] (by simp) k4 hb
    rw [if_pos c]
    exact ⟨⟨wrap64 (1 + v1), q, wrap64 (1 + v3), v4, v5, 0, 0⟩, i5, h5, by rw [e5]; rfl, all q m2, k5⟩
  · obtain ⟨v5, i5, h5, e5, _, _, k5⟩ := spec_l1Below_some b i4 h4 9 k4 hb
    obtain ⟨v6, i6, h6, e6, _, _, k6⟩ := spec_l1Below_some b i5 h5 900 k5 hb
    rw [if_neg c]
    exact ⟨⟨wrap64 (1 + v1), q, wrap64 (1 + v3), v4, 0, wrap64 (1 + v5), wrap64 (1 + v6)⟩, i6, h6, by simp only [e5, e6, Option.bind_some], all q m2, k6⟩

/-! ### spec_l9Item -/
theorem spec_l9Item_some (b : List Int) (i h : Int) (hc : curB b i) (hb : b.length ≤ 4611686018427387904) : ∃ (n : Int) (x : S25) (y : S27) (i' h' : Int), Ev (fun k => spec_l9Item.f k b i h) (n, x.f0, x.f1, x.f2, x.f3, x.f4, x.f5, x.f6, x.f7, y.f0, y.f1, y.f2, y.f3, y.f4, y.f5, y.f6, i', h') ∧ okA x ∧ okL y ∧ curB b i' := by
  unfold spec_l9Item.f
  obtain ⟨v, i1, h1, e1, k1⟩ := spec_l1Once_some b i h 2 hc hb
  by_cases c : v = true
  · obtain ⟨x, i2, h2, e2, g2, k2⟩ := spec_l9Asker_some b i1 h1 k1 hb
    exact ⟨1, x, ⟨0, ⟨#[]⟩, 0, 0, 0, 0, 0⟩, _, _, ev_bind1 e1 (ev_pos c (ev_bind e2 (ev_now _))), g2, by show (0 : Nat) ≤ 101; omega, k2⟩
  · obtain ⟨y, i2, h2, e2, g2, k2⟩ := spec_l9Line_some b i1 h1 k1 hb
    exact ⟨2, ⟨0, ⟨#[]⟩, 0, 0, 0, ⟨#[]⟩, 0, 0⟩, y, _, _, ev_bind1 e1 (ev_neg c (ev_bind1 e2 (ev_now _))), ⟨by show (0 : Nat) ≤ 101; omega, by show (0 : Nat) ≤ 101; omega⟩, g2, k2⟩

/-! ### spec_l11Draw -/
def okI (x : S29) : Prop := okA x.f1 ∧ okL x.f2
theorem okI_sz (l : List S29) (h : ∀ x ∈ l, okI x) : ∀ x ∈ l, x.f1.f1.size ≤ 1000000000 ∧ x.f1.f5.size ≤ 1000000000 ∧ x.f2.f1.size ≤ 1000000000 := fun x hx => by
  obtain ⟨⟨h1, h5⟩, hl⟩ := h x hx
  have hl2 : x.f2.f1.size ≤ 101 := hl
  exact ⟨by omega, by omega, by omega⟩
theorem okI_snoc {l m : List S29} (h : ∀ x ∈ l, okI x) (hm : ∀ x ∈ m, okI x) : ∀ x ∈ l ++ m, okI x := fun x hx => (List.mem_append.1 hx).elim (h x) (hm x)
theorem okI_one {x : S29} (h : okI x) : ∀ y ∈ [x], okI y := fun y hy => by
  rw [List.mem_singleton] at hy
  exact hy ▸ h
theorem spec_l11Draw_l0 (b : List Int) (hb : b.length ≤ 4611686018427387904) (ki fr id n of : Int) (pa : Bool) (ti : Int) (d : Nat) : ∀ (it : List S29) (i h : Int), (∀ x ∈ it, okI x) → curB b i → it.length + d ≤ 1000 → ∃ (it' : List S29) (i' h' : Int), Ev (fun k => spec_l11Draw.l0 k (d : Int) b i h ki fr id n of pa ti it) (ki, fr, id, n, of, pa, ti, it', i', h') ∧ (∀ x ∈ it', okI x) ∧ it'.length ≤ it.length + d ∧ curB b i' := by
  induction d with
  | zero =>
    intro it i h ho hc hl
    exact ⟨it, i, h, ev_step (fun k => spec_l11Draw.l0.eq_2 ..) (ev_neg (by omega) (ev_now _)), ho, by omega, hc⟩
  | succ d ih =>
    intro it i h ho hc hl
    obtain ⟨v, x, y, i1, h1, e1, ox, oy, c1⟩ := spec_l9Item_some b i h hc hb
    obtain ⟨it', i2, h2, e2, o2, l2, c2⟩ := ih (it ++ [(⟨v, ⟨x.f0, x.f1, x.f2, x.f3, x.f4, x.f5, x.f6, x.f7⟩, ⟨y.f0, y.f1, y.f2, y.f3, y.f4, y.f5, y.f6⟩⟩ : S29)]) i1 h1 (okI_snoc ho (okI_one ⟨ox, oy⟩)) c1 (by rw [List.length_append, List.length_singleton]; omega)
    refine ⟨it', i2, h2, ev_step (fun k => spec_l11Draw.l0.eq_2 ..) (ev_pos (by omega) (ev_bind e1 (ev_pos (by omega) ?_))), o2, by rw [List.length_append, List.length_singleton] at l2; omega, c2⟩
    rw [show wrap64 (((d + 1 : Nat) : Int) - 1) = (d : Int) from by rw [w64 (by omega) (by omega)]; omega]
    exact e2
theorem spec_l11Draw_some (b : List Int) (i h : Int) (hc : curB b i) (hb : b.length ≤ 4611686018427387904) : ∃ (ki fr id n of : Int) (pa : Bool) (ti : Int) (it : List S29) (i' h' : Int), Ev (fun k => spec_l11Draw.f k b i h) (ki, fr, id, n, of, pa, ti, it, i', h') ∧ (∀ x ∈ it, okI x) ∧ it.length ≤ 3 ∧ curB b i' := by
  unfold spec_l11Draw.f
  obtain ⟨v1, i1, h1, e1, _, _, c1⟩ := spec_l1Below_some b i h 3 hc hb
  obtain ⟨v2, i2, h2, e2, _, _, c2⟩ := spec_l1Below_some b i1 h1 2 c1 hb
  obtain ⟨v3, i3, h3, e3, _, _, c3⟩ := spec_l1Below_some b i2 h2 5 c2 hb
  by_cases k1 : wrap64 (1 + v1) = 1
  · obtain ⟨v4, i4, h4, e4, _, _, c4⟩ := spec_l1Below_some b i3 h3 3 c3 hb
    obtain ⟨v5, i5, h5, e5, _, _, c5⟩ := spec_l1Below_some b i4 h4 (wrap64 (1 + v4)) c4 hb
    obtain ⟨v6, i6, h6, e6, c6⟩ := spec_l1Once_some b i5 h5 3 c5 hb
    obtain ⟨v7, i7, h7, e7, _, _, c7⟩ := spec_l1Below_some b i6 h6 9 c6 hb
    obtain ⟨v8, i8, h8, e8, g8, _, c8⟩ := spec_l1Below_some b i7 h7 3 c7 hb
    have g := g8 (by omega)
    obtain ⟨it, i9, h9, e9, o9, l9, c9⟩ := spec_l11Draw_l0 b hb (wrap64 (1 + v1)) v2 (wrap64 (1 + v3)) v5 (wrap64 (1 + v4)) v6 v7 v8.toNat [] i8 h8 (fun _ hx => by cases hx) c8 (by simp; omega)
    rw [show ((v8.toNat : Nat) : Int) = v8 by omega] at e9
    exact ⟨_, _, _, _, _, _, _, it, i9, h9, ev_bind1 e1 (ev_bind1 e2 (ev_bind1 e3 (ev_pos k1 (ev_bind1 e4 (ev_bind1 e5 (ev_bind1 e6 (ev_bind1 e7 (ev_bind1 e8 e9)))))))), o9, by simp at l9; omega, c9⟩
  · by_cases k2 : wrap64 (1 + v1) = 2
    · obtain ⟨v4, i4, h4, e4, _, _, c4⟩ := spec_l1Below_some b i3 h3 4 c3 hb
      exact ⟨_, _, _, _, _, _, _, [], i4, h4, ev_bind1 e1 (ev_bind1 e2 (ev_bind1 e3 (ev_neg k1 (ev_pos k2 (ev_bind1 e4 (ev_now _)))))), (fun _ hx => by cases hx), by simp, c4⟩
    · exact ⟨_, _, _, _, _, _, _, [], i3, h3, ev_bind1 e1 (ev_bind1 e2 (ev_bind1 e3 (ev_neg k1 (ev_neg k2 (ev_now _))))), (fun _ hx => by cases hx), by simp, c3⟩

/-! ### spec_l12Draw -/
def okP (l : List S68) (m : Nat) : Prop := l.length ≤ m ∧ ∀ x ∈ l, x.f1.length ≤ 5000
theorem okP_snoc {l : List S68} {m : Nat} (h : okP l m) (x : S68) (hx : x.f1.length ≤ 5000) : okP (l ++ [x]) (m + 1) := ⟨by rw [List.length_append, List.length_singleton]; have := h.1; omega, fun y hy => (List.mem_append.1 hy).elim (h.2 y) (fun e => by rw [List.mem_singleton] at e; exact e ▸ hx)⟩
theorem okP_le {l : List S68} {m m' : Nat} (h : okP l m) (hm : m ≤ m') : okP l m' := ⟨Nat.le_trans h.1 hm, h.2⟩
theorem sendV_okP {l : List S68} {m : Nat} (h : okP l m) (ki fr id n of : Int) (pa : Bool) (ti : Int) (it : List S29) (hi : it.length ≤ 10) : okP (sendV l ki fr id n of pa ti it) (m + 1) := by
  have hl := ctlV_len ki fr id n of pa ti it
  unfold sendV
  split
  · split
    · split
      · exact okP_le h (by omega)
      · exact okP_snoc h _ (by show (ctlV ki fr id n of pa ti it).length ≤ 5000; omega)
    · exact okP_le h (by omega)
  · exact okP_le h (by omega)
theorem spec_l12Draw_l1 (b : List Int) (i h x : Int) (hx : x ≤ 20) (d : Nat) : ∀ (l : List S68), okP l 20 → (x - (l.length : Int)).toNat ≤ d → ∃ l' : List S68, Ev (fun k => spec_l12Draw.l1 k l x b i h) (l', i, h) ∧ okP l' 20 := by
  induction d with
  | zero =>
    intro l ho hd
    exact ⟨l, ev_step (fun k => spec_l12Draw.l1.eq_2 ..) (ev_neg (by omega) (ev_now _)), ho⟩
  | succ d ih =>
    intro l ho hd
    by_cases c : (l.length : Int) < x
    · obtain ⟨l', e, o⟩ := ih (l ++ [(⟨0, []⟩ : S68)]) ⟨by rw [List.length_append, List.length_singleton]; omega, (okP_snoc ho ⟨0, []⟩ (by simp)).2⟩ (by rw [List.length_append, List.length_singleton]; omega)
      exact ⟨l', ev_step (fun k => spec_l12Draw.l1.eq_2 ..) (ev_pos c (ev_pos (by have := ho.1; omega) e)), o⟩
    · exact ⟨l, ev_step (fun k => spec_l12Draw.l1.eq_2 ..) (ev_neg c (ev_now _)), ho⟩
theorem spec_l12Draw_l0 (b : List Int) (hb : b.length ≤ 4611686018427387904) (d : Nat) : ∀ (l : List S68) (m : Nat) (i h : Int), okP l m → m + d ≤ 10 → curB b i → ∃ (l' : List S68) (i' h' : Int), Ev (fun k => spec_l12Draw.l0 k l (d : Int) b i h) (l', i', h') ∧ okP l' 20 ∧ curB b i' := by
  induction d with
  | zero =>
    intro l m i h ho hm hc
    obtain ⟨v1, i1, h1, e1, _, _, c1⟩ := spec_l1Below_some b i h 10 hc hb
    by_cases k1 : v1 = 0
    · obtain ⟨v2, i2, h2, e2, _, c2⟩ := spec_l1Int_some b i1 h1 [(-1), 2, 1] (by simp) c1 hb
      obtain ⟨v3, i3, h3, e3, g3, c3⟩ := spec_l1Int_some b i2 h2 [3, 400, 401] (by simp) c2 hb
      obtain ⟨q, i4, h4, e4, _, l4, c4⟩ := spec_l1Bytes_some b i3 h3 v3 (by simp at g3; omega) c3 hb
      exact ⟨_, i4, h4, ev_step (fun k => spec_l12Draw.l0.eq_2 ..) (ev_neg (by omega) (ev_bind1 e1 (ev_pos k1 (ev_bind1 e2 (ev_bind1 e3 (ev_bind e4 (ev_pos (by have := ho.1; omega) (ev_now _)))))))), okP_le (okP_snoc ho ⟨v2, q⟩ (by show q.length ≤ 5000; omega)) (by omega), c4⟩
    · by_cases k2 : v1 = 1
      · obtain ⟨v2, i2, h2, e2, g2, c2⟩ := spec_l1Int_some b i1 h1 [11, 12, 13] (by simp) c1 hb
        obtain ⟨l', e3, o3⟩ := spec_l12Draw_l1 b i2 h2 v2 (by simp at g2; omega) (v2 - (l.length : Int)).toNat l (okP_le ho (by omega)) (Nat.le_refl _)
        exact ⟨l', i2, h2, ev_step (fun k => spec_l12Draw.l0.eq_2 ..) (ev_neg (by omega) (ev_bind1 e1 (ev_neg k1 (ev_pos k2 (ev_bind1 e2 e3))))), o3, c2⟩
      · exact ⟨l, i1, h1, ev_step (fun k => spec_l12Draw.l0.eq_2 ..) (ev_neg (by omega) (ev_bind1 e1 (ev_neg k1 (ev_neg k2 (ev_now _))))), okP_le ho (by omega), c1⟩
  | succ d ih =>
    intro l m i h ho hm hc
    obtain ⟨ki, fr, id, n, of, pa, ti, it, i1, h1, e1, o1, l1, c1⟩ := spec_l11Draw_some b i h hc hb
    have hs := spec_Send_ev l (by have := ho.1; omega) (fun x hx => by have := ho.2 x hx; omega) ki fr id n of pa ti it (by omega) (okI_sz it o1)
    obtain ⟨l', i2, h2, e2, o2, c2⟩ := ih (sendV l ki fr id n of pa ti it) (m + 1) i1 h1 (sendV_okP ho ki fr id n of pa ti it (by omega)) (by omega) c1
    refine ⟨l', i2, h2, ev_step (fun k => spec_l12Draw.l0.eq_2 ..) (ev_pos (by omega) (ev_bind e1 (ev_bind hs ?_))), o2, c2⟩
    rw [show wrap64 (((d + 1 : Nat) : Int) - 1) = (d : Int) from by rw [w64 (by omega) (by omega)]; omega]
    exact e2
theorem spec_l12Draw_some (b : List Int) (i h : Int) (hc : curB b i) (hb : b.length ≤ 4611686018427387904) : ∃ (l : List S68) (i' h' : Int), Ev (fun k => spec_l12Draw.f k b i h) (l, i', h') ∧ okP l 20 ∧ curB b i' := by
  unfold spec_l12Draw.f
  obtain ⟨v1, i1, h1, e1, g1, _, c1⟩ := spec_l1Below_some b i h 5 hc hb
  have g := g1 (by omega)
  obtain ⟨l, i2, h2, e2, o2, c2⟩ := spec_l12Draw_l0 b hb v1.toNat [] 0 i1 h1 ⟨Nat.le_refl _, (fun _ hx => by cases hx)⟩ (by omega) c1
  rw [show ((v1.toNat : Nat) : Int) = v1 by omega] at e2
  exact ⟨l, i2, h2, ev_bind1 e1 e2, o2, c2⟩

/-! ### spec_DrawTakeOut -/
def tko (l : List S68) (i : Int) : List S68 × Int × List Int × Bool :=
  if (l.length : Int) = 0 then (l, 0, [], false) else if i < 0 then (l, 0, [], false) else
  (l.eraseIdx (Int.tmod i (l.length : Int)).toNat, (rd_T68 l (Int.tmod i (l.length : Int))).f0, (rd_T68 l (Int.tmod i (l.length : Int))).f1, true)
theorem rd_mem (l : List S68) (j : Int) (h0 : 0 ≤ j) (h1 : j < (l.length : Int)) : rd_T68 l j ∈ l := by
  unfold rd_T68
  rw [List.getD_eq_getElem?_getD, List.getElem?_eq_getElem (by omega)]
  exact List.getElem_mem _
theorem spec_DrawTakeOut_some (b : List Int) (hb : b.length ≤ 4611686018427387904) : ∃ (l : List S68) (n : Int), Ev (fun k => spec_DrawTakeOut.f k b) (l, n) ∧ okP l 20 := by
  unfold spec_DrawTakeOut.f
  obtain ⟨h, e0⟩ := spec_l1New_some b hb
  obtain ⟨l, i1, h1, e1, o1, c1⟩ := spec_l12Draw_some b 0 h ⟨by omega, by omega⟩ hb
  obtain ⟨v, i2, h2, e2, _, _⟩ := spec_l1Int_some b i1 h1 [0, 1, 2, 7, (-1), 9223372036854775807] (by simp) c1 hb
  exact ⟨l, v, ev_bind e0 (ev_bind e1 (ev_bind1 e2 (ev_now _))), o1⟩

/-! ### slices_Clone_byte -/
theorem slices_Clone_byte_eq (l : List Int) (h : l.length ≤ 1000000000000) : slices_Clone_byte.f l = some l := by
  unfold slices_Clone_byte.f
  simp only [Option.bind_some, List.nil_append, List.length_nil]
  rw [if_pos (by omega)]

/-! ### impl_packCopy -/
theorem impl_packCopy_eq (a : Int) (l : List Int) (h : l.length ≤ 1000000000000) : impl_packCopy.f a l = some (a, l) := by
  unfold impl_packCopy.f
  rw [slices_Clone_byte_eq l h]
  rfl

/-! ### impl_wayCopy -/
theorem impl_wayCopy_l0 (l : List S68) (hl : l.length ≤ 1000000000000) (hx : ∀ x ∈ l, x.f1.length ≤ 1000000000000) (d : Nat) : ∀ i : Nat, i + d = l.length → Ev (fun k => impl_wayCopy.l0 k (l.take i) l (l.length : Int) (i : Int)) l := by
  induction d with
  | zero =>
    intro i hi
    refine ev_step (fun k => impl_wayCopy.l0.eq_2 ..) (ev_neg (by omega) ?_)
    rw [List.take_of_length_le (by omega)]
    exact ev_now _
  | succ d ih =>
    intro i hi
    have hlt : i < l.length := by omega
    have hr : rd_T68 l (i : Int) = l[i] := getD_nth _ l i hlt
    have hn := ih (i + 1) (by omega)
    rw [List.take_add_one, List.getElem?_eq_getElem hlt] at hn
    refine ev_step (fun k => impl_wayCopy.l0.eq_2 ..) (ev_pos (by omega) (ev_pos (by omega) (ev_pos (by omega) ?_)))
    simp only [hr]
    rw [w64 (by omega) (by omega)]
    refine ev_bind1 (impl_packCopy_eq _ _ (hx _ (List.getElem_mem hlt))) (ev_pos (by rw [List.length_take]; omega) ?_)
    exact hn
theorem impl_wayCopy_ev (l : List S68) (hl : l.length ≤ 1000000000000) (hx : ∀ x ∈ l, x.f1.length ≤ 1000000000000) : Ev (fun k => impl_wayCopy.f k l) l := by
  have h := impl_wayCopy_l0 l hl hx l.length 0 (by omega)
  exact h

/-! ### slices_Delete_Pack -/
theorem del_Pack (l : List S68) (i : Int) (h0 : 0 ≤ i) (h1 : i < (l.length : Int)) (hl : l.length ≤ 1000000000000) : slices_Delete_Pack.f l i (wrap64 (i + 1)) = some (l.eraseIdx i.toNat) := by
  unfold slices_Delete_Pack.f
  rw [w64 (by omega) (by omega), if_pos ⟨h0, h1, rfl⟩]

/-! ### impl_TakeOut -/
theorem impl_TakeOut_ev (l : List S68) (i : Int) (hl : l.length ≤ 1000000000000) (hx : ∀ x ∈ l, x.f1.length ≤ 1000000000000) : Ev (fun k => impl_TakeOut.f k l i) (tko l i) := by
  unfold impl_TakeOut.f tko
  refine ev_bind (impl_wayCopy_ev l hl hx) ?_
  by_cases h1 : (l.length : Int) = 0
  · simp only [if_pos h1]
    exact ev_step (fun k => impl_TakeOut.j0.eq_2 ..) (ev_pos rfl (ev_now _))
  simp only [if_neg h1]
  by_cases h2 : i < 0
  · simp only [if_pos h2]
    rw [decide_eq_true h2]
    exact ev_step (fun k => impl_TakeOut.j0.eq_2 ..) (ev_pos rfl (ev_now _))
  simp only [if_neg h2]
  rw [decide_eq_false h2]
  have hm0 : 0 ≤ Int.tmod i (l.length : Int) := Int.tmod_nonneg _ (by omega)
  have hm1 : Int.tmod i (l.length : Int) < (l.length : Int) := Int.tmod_lt_of_pos _ (by omega)
  refine ev_step (fun k => impl_TakeOut.j0.eq_2 ..) (ev_neg (by decide) (ev_neg h1 ?_))
  generalize Int.tmod i (l.length : Int) = j at hm0 hm1
  have hr := rd_mem l j hm0 hm1
  exact ev_pos hm0 (ev_pos hm1 (ev_bind1 (impl_packCopy_eq _ _ (hx _ hr)) (ev_bind1 (del_Pack l j hm0 hm1 hl) (ev_now _))))

/-! ### spec_DrawTwice -/
theorem spec_DrawTwice_some (b : List Int) (hb : b.length ≤ 4611686018427387904) : ∃ (l : List S68) (n : Int), Ev (fun k => spec_DrawTwice.f k b) (l, n) ∧ okP l 20 := by
  unfold spec_DrawTwice.f
  obtain ⟨h, e0⟩ := spec_l1New_some b hb
  obtain ⟨l, i1, h1, e1, o1, c1⟩ := spec_l12Draw_some b 0 h ⟨by omega, by omega⟩ hb
  obtain ⟨v, i2, h2, e2, _, _⟩ := spec_l1Int_some b i1 h1 [0, 1, 2, 7, (-1), 9223372036854775807] (by simp) c1 hb
  exact ⟨l, v, ev_bind e0 (ev_bind e1 (ev_bind1 e2 (ev_now _))), o1⟩

/-! ### impl_isIn -/
theorem impl_isIn_eq (a b c : Int) : impl_isIn.f a b c = some (inB a b c) := by
  unfold impl_isIn.f inB
  by_cases h : b ≤ a <;> simp [h]

/-! ### impl_WayOk -/
theorem impl_WayOk_l0 (l : List S68) (hl : l.length ≤ 4611686018427387904) (d : Nat) : ∀ i : Nat, i + d = l.length → Ev (fun k => impl_WayOk.l0 k l l (l.length : Int) (i : Int)) ((l.drop i).all packB && decide ((l.length : Int) ≤ 12)) := by
  induction d with
  | zero =>
    intro i hi
    refine ev_step (fun k => impl_WayOk.l0.eq_2 ..) (ev_neg (by omega) ?_)
    rw [List.drop_of_length_le (by omega)]
    exact ev_as (ev_now _) (by simp)
  | succ d ih =>
    intro i hi
    have hlt : i < l.length := by omega
    have hr : rd_T68 l (i : Int) = l[i] := getD_nth _ l i hlt
    have hd : l.drop i = l[i] :: l.drop (i + 1) := List.drop_eq_getElem_cons hlt
    have hn := ih (i + 1) (by omega)
    refine ev_step (fun k => impl_WayOk.l0.eq_2 ..) (ev_pos (by omega) (ev_pos (by omega) (ev_pos (by omega) ?_)))
    simp only [hr]
    rw [w64 (by omega) (by omega), hd, List.all_cons]
    refine ev_bind1 (impl_isIn_eq _ _ _) ?_
    refine ev_ite (fun c => ev_ite (fun c2 => ?_) (fun c2 => ?_)) (fun c => ?_)
    · exact ev_as (ev_now _) (by simp [packB, c, c2])
    · refine ev_as hn ?_
      have : packB l[i] = true := by simp only [packB, c, Bool.true_and]; simpa using c2
      simp [this]
    · exact ev_as (ev_now _) (by simp [packB, c])
theorem impl_WayOk_ev (l : List S68) (hl : l.length ≤ 4611686018427387904) : Ev (fun k => impl_WayOk.f k l) (wayB l) := ev_as (impl_WayOk_l0 l hl l.length 0 (by omega)) (by simp [wayB])

/-! ### spec_Twice -/
def tw (l : List S68) (i : Int) : List S68 × Bool :=
  if (l.length : Int) = 0 then (l, false) else if i < 0 then (l, false) else if wayB l = true then (if (l.length : Int) = 12 then (l, false) else (l ++ [rd_T68 l (Int.tmod i (l.length : Int))], true)) else (l, false)
theorem spec_Twice_ev (l : List S68) (i : Int) (hl : l.length ≤ 1000000000000) (hx : ∀ x ∈ l, x.f1.length ≤ 1000000000000) : Ev (fun k => spec_Twice.f k l i) (tw l i) := by
  unfold spec_Twice.f tw
  refine ev_bind (spec_l12Copy_ev l hl hx) ?_
  by_cases h1 : (l.length : Int) = 0
  · simp only [if_pos h1]; exact ev_now _
  simp only [if_neg h1]
  by_cases h2 : i < 0
  · simp only [if_pos h2]; exact ev_now _
  simp only [if_neg h2]
  refine ev_bind (spec_WayOk_ev l (by omega)) ?_
  by_cases h3 : wayB l = true
  · simp only [if_pos h3]
    by_cases h4 : (l.length : Int) = 12
    · simp only [if_pos h4]; exact ev_now _
    simp only [if_neg h4]
    have hm0 : 0 ≤ Int.tmod i (l.length : Int) := Int.tmod_nonneg _ (by omega)
    have hm1 : Int.tmod i (l.length : Int) < (l.length : Int) := Int.tmod_lt_of_pos _ (by omega)
    have hr : rd_T68 l (Int.tmod i (l.length : Int)) ∈ l := by
      unfold rd_T68
      rw [List.getD_eq_getElem?_getD, List.getElem?_eq_getElem (by omega)]
      exact List.getElem_mem _
    exact ev_pos hm0 (ev_pos hm1 (ev_bind1 (spec_l12Pack_eq _ _ (hx _ hr)) (ev_pos (by omega) (ev_now _))))
  · simp only [if_neg h3]
    exact ev_now _

/-! ### impl_Twice -/
theorem impl_Twice_ev (l : List S68) (i : Int) (hl : l.length ≤ 1000000000000) (hx : ∀ x ∈ l, x.f1.length ≤ 1000000000000) : Ev (fun k => impl_Twice.f k l i) (tw l i) := by
  unfold impl_Twice.f tw
  refine ev_bind (impl_wayCopy_ev l hl hx) ?_
  by_cases h1 : (l.length : Int) = 0
  · simp only [if_pos h1]; exact ev_now _
  simp only [if_neg h1]
  by_cases h2 : i < 0
  · simp only [if_pos h2]; exact ev_now _
  simp only [if_neg h2]
  refine ev_bind (impl_WayOk_ev l (by omega)) ?_
  by_cases h3 : wayB l = true
  · simp only [if_pos h3]
    by_cases h4 : (l.length : Int) = 12
    · simp only [if_pos h4]; exact ev_now _
    simp only [if_neg h4]
    have hm0 : 0 ≤ Int.tmod i (l.length : Int) := Int.tmod_nonneg _ (by omega)
    have hm1 : Int.tmod i (l.length : Int) < (l.length : Int) := Int.tmod_lt_of_pos _ (by omega)
    have hr : rd_T68 l (Int.tmod i (l.length : Int)) ∈ l := by
      unfold rd_T68
      rw [List.getD_eq_getElem?_getD, List.getElem?_eq_getElem (by omega)]
      exact List.getElem_mem _
    exact ev_pos hm0 (ev_pos hm1 (ev_bind1 (impl_packCopy_eq _ _ (hx _ hr)) (ev_pos (by omega) (ev_now _))))
  · simp only [if_neg h3]
    exact ev_now _

/-! ### spec_l11Any -/
theorem spec_l11Any_some (b : List Int) (i h : Int) (hc : curB b i) (hb : b.length ≤ 4611686018427387904) : ∃ (ki fr id n of : Int) (pa : Bool) (ti : Int) (it : List S29) (i' h' : Int), Ev (fun k => spec_l11Any.f k b i h) (ki, fr, id, n, of, pa, ti, it, i', h') ∧ (∀ x ∈ it, okI x) ∧ it.length ≤ 6 ∧ curB b i' := by
  unfold spec_l11Any.f
  obtain ⟨ki, fr, id, n, of, pa, ti, it, i1, h1, e1, o1, l1, c1⟩ := spec_l11Draw_some b i h hc hb
  obtain ⟨v, i2, h2, e2, _, _, c2⟩ := spec_l1Below_some b i1 h1 16 c1 hb
  have z0 : okI ⟨0, ⟨0, ⟨#[]⟩, 0, 0, 0, ⟨#[]⟩, 0, 0⟩, ⟨0, ⟨#[]⟩, 0, 0, 0, 0, 0⟩⟩ := ⟨⟨by show (0 : Nat) ≤ 101; omega, by show (0 : Nat) ≤ 101; omega⟩, by show (0 : Nat) ≤ 101; omega⟩
  by_cases d0 : v = 0
  · obtain ⟨a, j, g, f, _, k⟩ := spec_l1Int_some b i2 h2 [0, 1, 2, 3, 4] (by simp) c2 hb
    exact ⟨_, _, _, _, _, _, _, it, _, _, ev_bind e1 (ev_bind1 e2 (ev_pos d0 (ev_bind1 f (ev_now _)))), o1, by omega, k⟩
  by_cases d1 : v = 1
  · obtain ⟨a, j, g, f, _, k⟩ := spec_l1Int_some b i2 h2 [(-1), 2] (by simp) c2 hb
    exact ⟨_, _, _, _, _, _, _, it, _, _, ev_bind e1 (ev_bind1 e2 (ev_neg d0 (ev_pos d1 (ev_bind1 f (ev_now _))))), o1, by omega, k⟩
  by_cases d2 : v = 2
  · obtain ⟨a, j, g, f, _, k⟩ := spec_l1Int_some b i2 h2 [0, 60000, 60001] (by simp) c2 hb
    exact ⟨_, _, _, _, _, _, _, it, _, _, ev_bind e1 (ev_bind1 e2 (ev_neg d0 (ev_neg d1 (ev_pos d2 (ev_bind1 f (ev_now _)))))), o1, by omega, k⟩
  by_cases d3 : v = 3
  · obtain ⟨a, j, g, f, _, k⟩ := spec_l1Int_some b i2 h2 [(-1), 20, 21] (by simp) c2 hb
    exact ⟨_, _, _, _, _, _, _, it, _, _, ev_bind e1 (ev_bind1 e2 (ev_neg d0 (ev_neg d1 (ev_neg d2 (ev_pos d3 (ev_bind1 f (ev_now _))))))), o1, by omega, k⟩
  by_cases d4 : v = 4
  · obtain ⟨a, j, g, f, _, k⟩ := spec_l1Int_some b i2 h2 [0, 20, 21] (by simp) c2 hb
    exact ⟨_, _, _, _, _, _, _, it, _, _, ev_bind e1 (ev_bind1 e2 (ev_neg d0 (ev_neg d1 (ev_neg d2 (ev_neg d3 (ev_pos d4 (ev_bind1 f (ev_now _)))))))), o1, by omega, k⟩
  by_cases d5 : v = 5
  · obtain ⟨a, j, g, f, _, k⟩ := spec_l1Int_some b i2 h2 [(-1), 65536] (by simp) c2 hb
    exact ⟨_, _, _, _, _, _, _, it, _, _, ev_bind e1 (ev_bind1 e2 (ev_neg d0 (ev_neg d1 (ev_neg d2 (ev_neg d3 (ev_neg d4 (ev_pos d5 (ev_bind1 f (ev_now _))))))))), o1, by omega, k⟩
  by_cases d6 : v = 6
  · obtain ⟨v1, x1, y1, j1, g1, f1, a1, b1, k1⟩ := spec_l9Item_some b i2 h2 c2 hb
    exact ⟨_, _, _, _, _, _, _, _, _, _, ev_bind e1 (ev_bind1 e2 (ev_neg d0 (ev_neg d1 (ev_neg d2 (ev_neg d3 (ev_neg d4 (ev_neg d5 (ev_pos d6 (ev_bind f1 (ev_bind1 rfl (ev_pos (show it.length + 2 < 925904528653 by omega) (ev_now _)))))))))))), okI_snoc o1 (okI_snoc (okI_one z0) (okI_one ⟨a1, b1⟩)), by rw [List.length_append]; show it.length + 2 ≤ 6; omega, k1⟩
  by_cases d7 : v = 7
  · obtain ⟨v1, x1, y1, j1, g1, f1, a1, b1, k1⟩ := spec_l9Item_some b i2 h2 c2 hb
    obtain ⟨v2, x2, y2, j2, g2, f2, a2, b2, k2⟩ := spec_l9Item_some b j1 g1 k1 hb
    obtain ⟨v3, x3, y3, j3, g3, f3, a3, b3, k3⟩ := spec_l9Item_some b j2 g2 k2 hb
    exact ⟨_, _, _, _, _, _, _, _, _, _, ev_bind e1 (ev_bind1 e2 (ev_neg d0 (ev_neg d1 (ev_neg d2 (ev_neg d3 (ev_neg d4 (ev_neg d5 (ev_neg d6 (ev_pos d7 (ev_bind f1 (ev_bind f2 (ev_bind f3 (ev_bind1 rfl (ev_pos (show it.length + 3 < 925904528653 by omega) (ev_now _))))))))))))))), okI_snoc o1 (okI_snoc (okI_one ⟨a1, b1⟩) (okI_snoc (okI_one ⟨a2, b2⟩) (okI_one ⟨a3, b3⟩))), by rw [List.length_append]; show it.length + 3 ≤ 6; omega, k3⟩
  exact ⟨_, _, _, _, _, _, _, it, _, _, ev_bind e1 (ev_bind1 e2 (ev_neg d0 (ev_neg d1 (ev_neg d2 (ev_neg d3 (ev_neg d4 (ev_neg d5 (ev_neg d6 (ev_neg d7 (ev_now _)))))))))), o1, by omega, c2⟩

/-! ### spec_DrawSend -/
theorem spec_DrawSend_some (b : List Int) (hb : b.length ≤ 4611686018427387904) : ∃ (l : List S68) (ki fr id n of : Int) (pa : Bool) (ti : Int) (it : List S29), Ev (fun k => spec_DrawSend.f k b) (l, ki, fr, id, n, of, pa, ti, it) ∧ okP l 20 ∧ (∀ x ∈ it, okI x) ∧ it.length ≤ 6 := by
  unfold spec_DrawSend.f
  obtain ⟨h, e0⟩ := spec_l1New_some b hb
  obtain ⟨l, i1, h1, e1, o1, c1⟩ := spec_l12Draw_some b 0 h ⟨by omega, by omega⟩ hb
  obtain ⟨ki, fr, id, n, of, pa, ti, it, i2, h2, e2, o2, l2, c2⟩ := spec_l11Any_some b i1 h1 c1 hb
  exact ⟨l, ki, fr, id, n, of, pa, ti, it, ev_bind e0 (ev_bind e1 (ev_bind e2 (ev_now _))), o1, o2, l2⟩

/-! ### impl_wordOk -/
theorem impl_wordOk_eq (a : Int) : impl_wordOk.f a = some (inB a 0 65535) := by
  unfold impl_wordOk.f
  rw [impl_isIn_eq]
  rfl

/-! ### impl_sockIdOk -/
theorem impl_sockIdOk_eq (a : Int) : impl_sockIdOk.f a = some (inB a 1 9999) := by
  unfold impl_sockIdOk.f
  rw [impl_isIn_eq]
  rfl

/-! ### impl_nameOk -/
theorem impl_nameOk_l0 (s : ByteArray) (hs : s.size ≤ 4611686018427387904) (d : Nat) : ∀ i : Int, 0 ≤ i → i + d = s.size → Ev (fun k => impl_nameOk.l0 k s (s.size : Int) i) (allF (byteIn s 97 122) i d && inB s.size 1 8) := by
  induction d with
  | zero =>
    intro i h0 h1
    refine ev_step (fun k => impl_nameOk.l0.eq_2 ..) ?_
    refine ev_neg (by omega) ?_
    rw [impl_isIn_eq]
    exact ev_now _
  | succ d ih =>
    intro i h0 h1
    refine ev_step (fun k => impl_nameOk.l0.eq_2 ..) ?_
    refine ev_pos (by omega) (ev_pos (by omega) (ev_pos (by omega) ?_))
    refine ev_ite (fun c1 => ?_) (fun c1 => ev_ite (fun c2 => ?_) (fun c2 => ?_))
    · refine ev_as (ev_now _) ?_
      have : byteIn s 97 122 i = false := by rw [byteIn_false]; omega
      simp [allF, this]
    · refine ev_as (ev_now _) ?_
      have : byteIn s 97 122 i = false := by rw [byteIn_false]; omega
      simp [allF, this]
    · have : byteIn s 97 122 i = true := by rw [byteIn_iff]; omega
      rw [w64 (by omega) (by omega), allF, this, Bool.true_and]
      exact ih (i + 1) (by omega) (by omega)
theorem impl_nameOk_ev (s : ByteArray) (hs : s.size ≤ 4611686018427387904) : Ev (fun k => impl_nameOk.f k s) (nameB s) := impl_nameOk_l0 s hs s.size 0 (by omega) (by omega)

/-! ### impl_sinceOk -/
theorem impl_sinceOk_eq (a : Int) : impl_sinceOk.f a = some (inB a 0 100000) := by
  unfold impl_sinceOk.f
  rw [impl_isIn_eq]
  rfl

/-! ### impl_TextOk -/
theorem impl_TextOk_l0 (s : ByteArray) (hs : s.size ≤ 4611686018427387904) (d : Nat) : ∀ i : Int, 0 ≤ i → i + d = s.size → Ev (fun k => impl_TextOk.l0 k s (s.size : Int) i) (allF (byteIn s 32 126) i d && decide ((s.size : Int) ≤ 100)) := by
  induction d with
  | zero =>
    intro i h0 h1
    refine ev_step (fun k => impl_TextOk.l0.eq_2 ..) ?_
    refine ev_neg (by omega) ?_
    exact ev_now _
  | succ d ih =>
    intro i h0 h1
    refine ev_step (fun k => impl_TextOk.l0.eq_2 ..) ?_
    refine ev_pos (by omega) (ev_pos (by omega) (ev_pos (by omega) ?_))
    refine ev_ite (fun c1 => ?_) (fun c1 => ev_ite (fun c2 => ?_) (fun c2 => ?_))
    · refine ev_as (ev_now _) ?_
      have : byteIn s 32 126 i = false := by rw [byteIn_false]; omega
      simp [allF, this]
    · refine ev_as (ev_now _) ?_
      have : byteIn s 32 126 i = false := by rw [byteIn_false]; omega
      simp [allF, this]
    · have : byteIn s 32 126 i = true := by rw [byteIn_iff]; omega
      rw [w64 (by omega) (by omega), allF, this, Bool.true_and]
      exact ih (i + 1) (by omega) (by omega)
theorem impl_TextOk_ev (s : ByteArray) (hs : s.size ≤ 4611686018427387904) : Ev (fun k => impl_TextOk.f k s) (textB s) := impl_TextOk_l0 s hs s.size 0 (by omega) (by omega)

/-! ### impl_AskerOk -/
theorem impl_AskerOk_core (x0 : Int) (x1 : ByteArray) (x2 x3 x4 : Int) (x5 : ByteArray) (x6 x7 : Int) (h1 : x1.size ≤ 4611686018427387904) (h5 : x5.size ≤ 4611686018427387904) : Ev (fun k => impl_AskerOk.f k x0 x1 x2 x3 x4 x5 x6 x7) (askerB x0 x1 x2 x3 x4 x5 x6 x7) := by
  unfold impl_AskerOk.f askerB
  refine ev_step (fun k => impl_AskerOk.j0.eq_2 ..) ?_
  have e0 : (⟨#[]⟩ : ByteArray).toList = [] := by unfold ByteArray.toList; unfold ByteArray.toList.loop; rfl
  simp only [beq_self_eq_true, Bool.true_and, Bool.and_true, e0]
  refine ev_bind1 (impl_sockIdOk_eq _) ?_
  refine ev_ite (fun c => ?_) (fun c => ?_)
  · refine ev_ite (fun s0 => ?_) (fun s0 => ?_)
    · exact ev_as (ev_now _) (by simp [c, s0])
    · refine ev_bind (impl_nameOk_ev _ h1) ?_
      refine ev_ite (fun cn => ?_) (fun cn => ?_)
      · refine ev_ite (fun s1 => ?_) (fun s1 => ev_ite (fun s2 => ?_) (fun s2 => ev_ite (fun s3 => ?_) (fun s3 => ev_ite (fun s4 => ?_) (fun s4 => ?_))))
        · exact ev_as (ev_now _) (by simp [c, s1, cn])
        · refine ev_ite (fun c1 => ?_) (fun c1 => ?_)
          · refine ev_bind1 (impl_wordOk_eq _) ?_
            refine ev_ite (fun c3 => ?_) (fun c3 => ?_)
            · refine ev_bind1 (impl_sinceOk_eq _) ?_
              refine ev_ite (fun c4 => ?_) (fun c4 => ?_)
              · exact ev_bind (impl_TextOk_ev _ h5) (ev_as (ev_now _) (by rw [c, cn, c3, c4, c1]; simp [s2]))
              · exact ev_as (ev_now _) (by simp [s2, c4])
            · exact ev_as (ev_now _) (by simp [s2, c3])
          · have c1' := Bool.eq_false_iff.2 c1
            exact ev_as (ev_now _) (by rw [c1']; simp [s2])
        · refine ev_ite (fun c1 => ?_) (fun c1 => ?_)
          · refine ev_bind1 (impl_sockIdOk_eq _) ?_
            refine ev_ite (fun c3 => ?_) (fun c3 => ?_)
            · exact ev_as (ev_now _) (by rw [c, cn, c3, c1]; simp [s3])
            · exact ev_as (ev_now _) (by simp [s3, c3])
          · have c1' := Bool.eq_false_iff.2 c1
            exact ev_as (ev_now _) (by rw [c1']; simp [s3])
        · refine ev_ite (fun c1 => ?_) (fun c1 => ?_)
          · refine ev_bind1 (impl_sockIdOk_eq _) ?_
            refine ev_ite (fun c3 => ?_) (fun c3 => ?_)
            · exact ev_as (ev_now _) (by rw [c, cn, c3, c1]; simp [s4])
            · exact ev_as (ev_now _) (by simp [s4, c3])
          · have c1' := Bool.eq_false_iff.2 c1
            exact ev_as (ev_now _) (by rw [c1']; simp [s4])
        · exact ev_as (ev_now _) (by simp [s0, s1, s2, s3, s4])
      · exact ev_as (ev_now _) (by simp [s0, cn])
  · exact ev_as (ev_now _) (by simp [c])
theorem impl_AskerOk_ev (x : S25) (h1 : x.f1.size ≤ 4611686018427387904) (h5 : x.f5.size ≤ 4611686018427387904) : Ev (fun k => impl_AskerOk.f k x.f0 x.f1 x.f2 x.f3 x.f4 x.f5 x.f6 x.f7) (askerB x.f0 x.f1 x.f2 x.f3 x.f4 x.f5 x.f6 x.f7) := impl_AskerOk_core _ _ _ _ _ _ _ _ h1 h5

/-! ### impl_LineOk -/
theorem impl_LineOk_j0 (b : Bool) (x0 : Int) (x1 : ByteArray) (x2 x3 x4 x5 x6 : Int) : Ev (fun k => impl_LineOk.j0 k b x0 x1 x2 x3 x4 x5 x6)
    (!b && (if x3 = 0 then inB x4 0 100000 && (x5 == 0 && x6 == 0) else if x3 = 1 ∨ x3 = 2 then x4 == 0 && (inB x5 1 9999 && decide (x6 ≥ 1)) else false)) := by
  refine ev_step (fun k => impl_LineOk.j0.eq_2 ..) ?_
  refine ev_ite (fun c => ?_) (fun c => ?_)
  · exact ev_as (ev_now _) (by simp [c])
  · have hb : b = false := by simpa using c
    refine ev_ite (fun c1 => ?_) (fun c1 => ev_ite (fun c2 => ?_) (fun c2 => ev_ite (fun c3 => ?_) (fun c3 => ?_)))
    · refine ev_bind1 (impl_sinceOk_eq x4) ?_
      refine ev_ite (fun c2 => ev_ite (fun c3 => ?_) (fun c3 => ?_)) (fun c2 => ?_)
      all_goals exact ev_as (ev_now _) (by simp_all)
    · refine ev_ite (fun c3 => ?_) (fun c3 => ?_)
      · refine ev_bind1 (impl_sockIdOk_eq x5) ?_
        refine ev_ite (fun c4 => ?_) (fun c4 => ?_)
        all_goals exact ev_as (ev_now _) (by simp_all)
      · exact ev_as (ev_now _) (by simp_all)
    · refine ev_ite (fun c3 => ?_) (fun c3 => ?_)
      · refine ev_bind1 (impl_sockIdOk_eq x5) ?_
        refine ev_ite (fun c4 => ?_) (fun c4 => ?_)
        all_goals exact ev_as (ev_now _) (by simp_all)
      · exact ev_as (ev_now _) (by simp_all)
    · exact ev_as (ev_now _) (by simp [c1, c2, c3])
theorem impl_LineOk_ev (x : S27) (hs : x.f1.size ≤ 4611686018427387904) : Ev (fun k => impl_LineOk.f k x.f0 x.f1 x.f2 x.f3 x.f4 x.f5 x.f6) (lineB x.f0 x.f1 x.f2 x.f3 x.f4 x.f5 x.f6) := by
  unfold impl_LineOk.f lineB
  refine ev_bind1 (impl_sockIdOk_eq _) ?_
  refine ev_ite (fun c => ?_) (fun c => ?_)
  · refine ev_bind (impl_nameOk_ev _ hs) ?_
    refine ev_ite (fun c2 => ?_) (fun c2 => ?_)
    · refine ev_bind1 (impl_isIn_eq _ _ _) ?_
      exact ev_as (impl_LineOk_j0 ..) (by rw [c, c2]; simp)
    · exact ev_as (impl_LineOk_j0 ..) (by simp [c2])
  · exact ev_as (impl_LineOk_j0 ..) (by simp [c])

/-! ### impl_PutText -/
theorem impl_PutText_ev (l : List Int) (s : ByteArray) (hl : l.length ≤ 1000000000000) (hs : s.size ≤ 1000000000000) : Ev (fun k => impl_PutText.f k l s) (putTextV l s) := by
  unfold impl_PutText.f putTextV
  simp only [Option.bind_some]
  refine ev_bind1 (slices_Clone_byte_eq l (by omega)) (ev_bind (impl_TextOk_ev s (by omega)) (ev_ite (fun c => ?_) (fun c => ?_)))
  · exact ev_pos (by omega) (ev_pos (by rw [List.length_append]; simp only [List.length_cons, List.length_nil]; omega) (ev_as (ev_now _) (by rw [if_pos c])))
  · exact ev_as (ev_now _) (by rw [if_neg c])

/-! ### impl_PutWord -/
theorem impl_PutWord_eq (l : List Int) (n : Int) (hl : l.length ≤ 1000000000000) : impl_PutWord.f l n = some (putWordV l n) := by
  unfold impl_PutWord.f putWordV
  rw [slices_Clone_byte_eq l hl]
  simp only [Option.bind_some, List.length_cons, List.length_nil]
  rw [if_pos (by omega)]

/-! ### impl_putSince -/
theorem impl_putSince_eq (l : List Int) (n : Int) (hl : l.length ≤ 1000000000) : impl_putSince.f l n = some (sinceV l n) := by
  unfold impl_putSince.f sinceV
  rw [impl_PutWord_eq l _ (by omega), Option.bind_some, if_pos (by rw [putWordV_len]; omega)]

/-! ### impl_PutItem -/
theorem impl_PutItem_ev (k : Int) (a : S25) (l : S27) (h1 : a.f1.size ≤ 1000000000) (h5 : a.f5.size ≤ 1000000000) (hl : l.f1.size ≤ 1000000000) :
    Ev (fun n => impl_PutItem.f n k a.f0 a.f1 a.f2 a.f3 a.f4 a.f5 a.f6 a.f7 l.f0 l.f1 l.f2 l.f3 l.f4 l.f5 l.f6) (itemV k a l) := by
  have n2 : ∀ y, Ev (fun n => impl_PutItem.j1 n y false k a.f0 a.f1 a.f2 a.f3 a.f4 a.f5 a.f6 a.f7 l.f0 l.f1 l.f2 l.f3 l.f4 l.f5 l.f6) [] := fun y => ev_step (fun n => impl_PutItem.j1.eq_2 ..) (ev_neg (by simp) (ev_now _))
  have p2 : Ev (fun n => impl_PutItem.j1 n [2] true k a.f0 a.f1 a.f2 a.f3 a.f4 a.f5 a.f6 a.f7 l.f0 l.f1 l.f2 l.f3 l.f4 l.f5 l.f6) (lineV l) := by
    have t1 := putTextV_len (putWordV [2] l.f0 ++ [l.f3 % 256]) l.f1
    simp only [putWordV_len, List.length_append, List.length_cons, List.length_nil] at t1
    refine ev_step (fun n => impl_PutItem.j1.eq_2 ..) (ev_pos rfl ?_)
    refine ev_bind1 (impl_PutWord_eq _ _ (by simp)) (ev_bind1 rfl (ev_pos (by simp only [putWordV_len, List.length_cons, List.length_nil]; omega) ?_))
    refine ev_bind (impl_PutText_ev _ _ (by simp only [putWordV_len, List.length_append, List.length_cons, List.length_nil]; omega) (by omega)) ?_
    refine ev_bind1 (impl_PutWord_eq _ _ (by omega)) (ev_bind1 (impl_putSince_eq _ _ (by rw [putWordV_len]; omega)) ?_)
    exact ev_bind1 (impl_PutWord_eq _ _ (by simp only [sinceV_len, putWordV_len]; omega)) (ev_bind1 (impl_PutWord_eq _ _ (by simp only [sinceV_len, putWordV_len]; omega)) (ev_now _))
  have p1 : Ev (fun n => impl_PutItem.j0 n [1] true k a.f0 a.f1 a.f2 a.f3 a.f4 a.f5 a.f6 a.f7 l.f0 l.f1 l.f2 l.f3 l.f4 l.f5 l.f6) (askV a) := by
    have t1 := putTextV_len (putWordV [1] a.f0 ++ [a.f2 % 256]) a.f1
    have t2 := putTextV_len (sinceV (putWordV (putTextV (putWordV [1] a.f0 ++ [a.f2 % 256]) a.f1) a.f3) a.f4) a.f5
    simp only [putWordV_len, sinceV_len, List.length_append, List.length_cons, List.length_nil] at t1 t2
    refine ev_step (fun n => impl_PutItem.j0.eq_2 ..) (ev_pos rfl ?_)
    refine ev_bind1 (impl_PutWord_eq _ _ (by simp)) (ev_bind1 rfl (ev_pos (by simp only [putWordV_len, List.length_cons, List.length_nil]; omega) ?_))
    refine ev_bind (impl_PutText_ev _ _ (by simp only [putWordV_len, List.length_append, List.length_cons, List.length_nil]; omega) (by omega)) ?_
    refine ev_bind1 (impl_PutWord_eq _ _ (by omega)) (ev_bind1 (impl_putSince_eq _ _ (by rw [putWordV_len]; omega)) ?_)
    refine ev_bind (impl_PutText_ev _ _ (by simp only [sinceV_len, putWordV_len]; omega) (by omega)) ?_
    exact ev_bind1 (impl_PutWord_eq _ _ (by omega)) (ev_bind1 (impl_PutWord_eq _ _ (by rw [putWordV_len]; omega)) (ev_now _))
  have z1 : (l.f0 == 0 && (l.f1.toList == ([] : List UInt8) && (l.f2 == 0 && (l.f3 == 0 && (l.f4 == 0 && (l.f5 == 0 && (l.f6 == 0))))))) = zeroL l := rfl
  have z2 : (a.f0 == 0 && (a.f1.toList == ([] : List UInt8) && (a.f2 == 0 && (a.f3 == 0 && (a.f4 == 0 && (a.f5.toList == ([] : List UInt8) && (a.f6 == 0 && (a.f7 == 0)))))))) = zeroA a := rfl
  have q : ∀ y, (k = 2 → y = [2]) → k ≠ 1 → Ev (fun n => impl_PutItem.j0 n y false k a.f0 a.f1 a.f2 a.f3 a.f4 a.f5 a.f6 a.f7 l.f0 l.f1 l.f2 l.f3 l.f4 l.f5 l.f6) (itemV k a l) := by
    intro y hy c
    refine ev_step (fun n => impl_PutItem.j0.eq_2 ..) (ev_neg (by simp) ?_)
    unfold itemV itemB
    rw [z2]
    refine ev_ite (fun c' => ?_) (fun c' => ?_)
    · obtain rfl := hy c'
      refine ev_bind (impl_LineOk_ev l (by omega)) (ev_ite (fun d => ev_ite (fun e => ?_) (fun e => ?_)) (fun d => ?_))
      · refine ev_bind1 (impl_wordOk_eq _) ?_
        have h0 := lineB_lease _ _ _ _ _ _ _ d
        by_cases f : l.f6 > 65535
        · rw [(inB_false _ _ _).2 (.inr (by omega))]
          exact ev_as (n2 _) (by rw [if_neg]; rw [if_neg c, if_pos c', d]; simp [f])
        · rw [(inB_iff _ _ _).2 ⟨h0, by omega⟩]
          exact ev_as p2 (by rw [if_pos, if_neg c]; rw [if_neg c, if_pos c', d, e]; simp; omega)
      · exact ev_as (n2 _) (by rw [if_neg]; rw [if_neg c, if_pos c', d]; simp at e; simp [e])
      · exact ev_as (n2 _) (by rw [if_neg]; rw [if_neg c, if_pos c']; simp [d])
    · exact ev_as (n2 _) (by rw [if_neg]; rw [if_neg c, if_neg c']; simp)
  have q1 : ∀ y, k = 1 → itemB k a l = false → Ev (fun n => impl_PutItem.j0 n y false k a.f0 a.f1 a.f2 a.f3 a.f4 a.f5 a.f6 a.f7 l.f0 l.f1 l.f2 l.f3 l.f4 l.f5 l.f6) (itemV k a l) := by
    intro y c hf
    unfold itemV
    rw [hf]
    exact ev_step (fun n => impl_PutItem.j0.eq_2 ..) (ev_neg (by simp) (ev_neg (by omega) (ev_as (n2 _) (by simp))))
  unfold impl_PutItem.f
  rw [z1]
  refine ev_bind1 rfl (ev_ite (fun c => ?_) (fun c => q _ (fun e => by rw [e]; rfl) c))
  have hy : ([k % 256] : List Int) = [1] := by rw [c]; rfl
  rw [hy]
  refine ev_bind (impl_AskerOk_core _ _ _ _ _ _ _ _ (by omega) (by omega)) (ev_ite (fun d => ev_ite (fun e => ?_) (fun e => ?_)) (fun d => ?_))
  · refine ev_bind1 (impl_wordOk_eq _) ?_
    have h0 := askerB_lease _ _ _ _ _ _ _ _ d
    by_cases f : a.f7 > 65535
    · rw [(inB_false _ _ _).2 (.inr (by omega))]
      exact q1 _ c (by unfold itemB; rw [if_pos c, d]; simp [f])
    · rw [(inB_iff _ _ _).2 ⟨h0, by omega⟩]
      exact ev_as p1 (by unfold itemV itemB; rw [if_pos, if_pos c]; rw [if_pos c, d, e]; simp; omega)
  · exact q1 _ c (by unfold itemB; rw [if_pos c, d]; simp at e; simp [e])
  · exact q1 _ c (by unfold itemB; rw [if_pos c]; simp [d])

/-! ### impl_CtlOk -/
theorem impl_CtlOk_l0 (ki fr id n of : Int) (pa : Bool) (ti : Int) (l : List S29) (hl : l.length ≤ 1000000000) (hz : ∀ x ∈ l, x.f1.f1.size ≤ 1000000000 ∧ x.f1.f5.size ≤ 1000000000 ∧ x.f2.f1.size ≤ 1000000000) (d : Nat) : ∀ i : Nat, i + d = l.length → Ev (fun k => impl_CtlOk.l0 k l (l.length : Int) (i : Int) ki fr id n of pa ti l) ((l.drop i).all itemOkB && partB n of ti l.length) := by
  induction d with
  | zero =>
    intro i hi
    refine ev_step (fun k => impl_CtlOk.l0.eq_2 ..) (ev_neg (by omega) ?_)
    have hd : l.drop i = [] := List.drop_of_length_le (by omega)
    rw [hd]
    unfold partB
    refine ev_bind1 (impl_isIn_eq _ _ _) (ev_ite (fun c => ev_bind1 (impl_isIn_eq _ _ _) (ev_ite (fun c1 => ev_bind1 (impl_wordOk_eq _) (ev_ite (fun c2 => ?_) (fun c2 => ?_))) (fun c1 => ?_))) (fun c => ?_))
    · exact ev_as (ev_now _) (by simp [c, c1, c2]; omega)
    · exact ev_as (ev_now _) (by simp [c2])
    · exact ev_as (ev_now _) (by simp [c1])
    · exact ev_as (ev_now _) (by simp [c])
  | succ d ih =>
    intro i hi
    have hn := ih (i + 1) (by omega)
    have hlt : i < l.length := by omega
    have hr : rd_T29 l (i : Int) = l[i] := getD_nth _ l i hlt
    have hd : l.drop i = l[i] :: l.drop (i + 1) := List.drop_eq_getElem_cons hlt
    have h := hz l[i] (List.getElem_mem hlt)
    rw [hd, List.all_cons]
    refine ev_step (fun k => impl_CtlOk.l0.eq_2 ..) (ev_pos (by omega) (ev_pos (by omega) (ev_pos (by omega) (?_))))
    simp only [hr]
    rw [w64 (by omega) (by omega)]
    refine ev_bind (impl_PutItem_ev l[i].f0 l[i].f1 l[i].f2 h.1 h.2.1 h.2.2) (ev_ite (fun c => ?_) (fun c => ?_))
    · have := (itemV_nil l[i].f0 l[i].f1 l[i].f2).1 (by omega)
      exact ev_as (ev_now _) (by unfold itemOkB; rw [this]; rfl)
    · have : itemB l[i].f0 l[i].f1 l[i].f2 = true := by
        rw [← Bool.not_eq_false]
        exact fun e => c (by have := (itemV_nil l[i].f0 l[i].f1 l[i].f2).2 e; omega)
      exact ev_as hn (by unfold itemOkB; rw [this]; simp)
theorem impl_CtlOk_ev (ki fr id n of : Int) (pa : Bool) (ti : Int) (l : List S29) (hl : l.length ≤ 1000000000) (hz : ∀ x ∈ l, x.f1.f1.size ≤ 1000000000 ∧ x.f1.f5.size ≤ 1000000000 ∧ x.f2.f1.size ≤ 1000000000) : Ev (fun k => impl_CtlOk.f k ki fr id n of pa ti l) (ctlB ki fr id n of pa ti l) := by
  have h0 := impl_CtlOk_l0 ki fr id n of pa ti l hl hz l.length 0 (by omega)
  have hL : ((l.length : Int) == 0) = decide (l.length = 0) := by
    by_cases e : l.length = 0
    · rw [e]; rfl
    · rw [decide_eq_false e]
      exact beq_eq_false_iff_ne.2 (by omega)
  unfold impl_CtlOk.f ctlB
  refine ev_bind1 (impl_isIn_eq _ _ _) (ev_ite (fun c => ev_bind1 (impl_isIn_eq _ _ _) (ev_step (fun k => impl_CtlOk.j0.eq_2 ..) (ev_ite (fun c1 => ?_) (fun c1 => ev_ite (fun c2 => ?_) (fun c2 => ev_ite (fun c3 => ?_) (fun c3 => ev_ite (fun c4 => ?_) (fun c4 => ?_))))))) (fun c => ev_step (fun k => impl_CtlOk.j0.eq_2 ..) (ev_pos rfl (ev_as (ev_now _) (by simp [c])))))
  · exact ev_as (ev_now _) (by simp at c1; simp [c1])
  · exact ev_as h0 (by simp at c1; simp [c, c1, c2])
  · simp only [hL]
    simp at c1
    refine ev_bind1 (impl_isIn_eq _ _ _) (ev_ite (fun d => ev_ite (fun d1 => ev_ite (fun d2 => ?_) (fun d2 => ev_ite (fun d3 => ?_) (fun d3 => ?_))) (fun d1 => ?_)) (fun d => ?_))
    · exact ev_as (ev_now _) (by simp [c3, d2])
    · exact ev_as (ev_now _) (by simp at d2; simp [c, c1, c3, d, d1, d2, d3])
    · exact ev_as (ev_now _) (by simp [c3, d3])
    · exact ev_as (ev_now _) (by simp [c3, d1])
    · exact ev_as (ev_now _) (by simp [c3, d])
  · simp only [hL]
    simp at c1
    refine ev_bind1 (impl_isIn_eq _ _ _) (ev_ite (fun d => ev_ite (fun d0 => ev_ite (fun d1 => ev_ite (fun d2 => ?_) (fun d2 => ev_ite (fun d3 => ?_) (fun d3 => ?_))) (fun d1 => ?_)) (fun d0 => ?_)) (fun d => ?_))
    · exact ev_as (ev_now _) (by simp [c4, d2])
    · exact ev_as (ev_now _) (by simp at d2; simp [c, c1, c4, d0, d1, d2, d3])
    · exact ev_as (ev_now _) (by simp [c4, d3])
    · exact ev_as (ev_now _) (by simp [c4, d1])
    · exact ev_as (ev_now _) (by simp [c4, d0])
    · have : ¬ n = 0 := by
        intro e
        rw [e] at d
        exact d (by decide)
      exact ev_as (ev_now _) (by simp [c4, this])
  · exact ev_as (ev_now _) (by simp [c2, c3, c4])

/-! ### impl_Sum -/
theorem impl_Sum_l1 (l : List Int) (i : Nat) (hi : i < 1000000000000) (r : Int) (d : Nat) : ∀ (j : Nat) (s : Int), j + d = 8 → Ev (fun k => impl_Sum.l0 k (itS d s) l (l.length : Int) ((i : Int) + 1)) r → Ev (fun k => impl_Sum.l1 k s l (l.length : Int) (i : Int) (j : Int)) r := by
  induction d with
  | zero =>
    intro j s hj h
    refine ev_step (fun k => impl_Sum.l1.eq_2 ..) (ev_neg (by omega) ?_)
    rw [w64 (by omega) (by omega)]
    exact h
  | succ d ih =>
    intro j s hj h
    have e : wrap64 ((j : Int) + 1) = ((j + 1 : Nat) : Int) := by rw [w64 (by omega) (by omega)]; omega
    refine ev_step (fun k => impl_Sum.l1.eq_2 ..) (ev_pos (by omega) ?_)
    rw [e]
    have h' := ih (j + 1) (crcS s) (by omega) h
    unfold crcS at h'
    refine ev_ite (fun c => ?_) (fun c => ?_)
    · rw [if_pos c] at h'
      exact h'
    · rw [if_neg c] at h'
      exact h'
theorem impl_Sum_l0 (l : List Int) (hl : l.length ≤ 1000000000) (d : Nat) : ∀ (i : Nat) (s : Int), i + d = l.length → Ev (fun k => impl_Sum.l0 k s l (l.length : Int) (i : Int)) (Go.bits .and .i64 ((l.drop i).foldl sumS s) 65535) := by
  induction d with
  | zero =>
    intro i s hi
    rw [List.drop_of_length_le (by omega)]
    exact ev_step (fun k => impl_Sum.l0.eq_2 ..) (ev_neg (by omega) (ev_now _))
  | succ d ih =>
    intro i s hi
    have hlt : i < l.length := by omega
    have hr : rd l (i : Int) = l[i] := rd_nth l i hlt
    rw [List.drop_eq_getElem_cons hlt, List.foldl_cons]
    refine ev_step (fun k => impl_Sum.l0.eq_2 ..) (ev_pos (by omega) (ev_pos (by omega) (ev_pos (by omega) ?_)))
    rw [hr]
    have h := ih (i + 1) (sumS s l[i]) (by omega)
    rw [show ((i + 1 : Nat) : Int) = (i : Int) + 1 by omega] at h
    rw [Int.mul_comm 256]
    exact impl_Sum_l1 l i (by omega) _ 8 0 _ rfl h
theorem impl_Sum_ev (l : List Int) (hl : l.length ≤ 1000000000) : Ev (fun k => impl_Sum.f k l) (sumV l) := by
  have h := impl_Sum_l0 l hl l.length 0 65535 (by omega)
  rw [List.drop_zero] at h
  exact h

/-! ### impl_PutCtl -/
theorem impl_PutCtl_l0 (l : List S29) (hl : l.length ≤ 2000000) (hz : ∀ x ∈ l, x.f1.f1.size ≤ 1000000000 ∧ x.f1.f5.size ≤ 1000000000 ∧ x.f2.f1.size ≤ 1000000000) (d : Nat) : ∀ (i : Nat) (b : List Int), i + d = l.length → b.length + 300 * d ≤ 700000000 → Ev (fun k => impl_PutCtl.l0 k b l (l.length : Int) (i : Int)) (putWordV ((l.drop i).foldl itemsS b) (sumV ((l.drop i).foldl itemsS b))) := by
  induction d with
  | zero =>
    intro i b hi hb
    rw [List.drop_of_length_le (by omega)]
    exact ev_step (fun k => impl_PutCtl.l0.eq_2 ..) (ev_neg (by omega) (ev_bind (impl_Sum_ev b (by omega)) (ev_bind1 (impl_PutWord_eq b _ (by omega)) (ev_now _))))
  | succ d ih =>
    intro i b hi hb
    have hlt : i < l.length := by omega
    have hr : rd_T29 l (i : Int) = l[i] := getD_nth _ l i hlt
    have h := hz l[i] (List.getElem_mem hlt)
    have hv := itemV_len l[i].f0 l[i].f1 l[i].f2
    have hq : (itemsS b l[i]).length = b.length + 1 + (itemV l[i].f0 l[i].f1 l[i].f2).length := by unfold itemsS; simp only [List.length_append, List.length_cons, List.length_nil]
    have hn := ih (i + 1) (itemsS b l[i]) (by omega) (by omega)
    rw [List.drop_eq_getElem_cons hlt, List.foldl_cons]
    refine ev_step (fun k => impl_PutCtl.l0.eq_2 ..) (ev_pos (by omega) (ev_pos (by omega) (ev_pos (by omega) ?_)))
    simp only [hr]
    rw [w64 (by omega) (by omega)]
    refine ev_bind (impl_PutItem_ev l[i].f0 l[i].f1 l[i].f2 h.1 h.2.1 h.2.2) (ev_bind1 rfl (ev_pos (by simp only [List.length_cons, List.length_nil]; omega) (ev_bind1 rfl (ev_pos (by simp only [List.length_append, List.length_cons, List.length_nil]; omega) ?_))))
    rw [show (i : Int) + 1 = ((i + 1 : Nat) : Int) by omega]
    exact hn
theorem impl_PutCtl_ev (ki fr id n of : Int) (pa : Bool) (ti : Int) (l : List S29) (hl : l.length ≤ 2000000) (hz : ∀ x ∈ l, x.f1.f1.size ≤ 1000000000 ∧ x.f1.f5.size ≤ 1000000000 ∧ x.f2.f1.size ≤ 1000000000) : Ev (fun k => impl_PutCtl.f k ki fr id n of pa ti l) (ctlV ki fr id n of pa ti l) := by
  have h0 : ∀ p : Int, Ev (fun k => impl_PutCtl.j0 k p ki fr id n of pa ti l) (ctlX ki fr id n of (p) ti l) := by
    intro p
    refine ev_step (fun k => impl_PutCtl.j0.eq_2 ..) (ev_bind1 (impl_PutWord_eq _ _ (by simp)) (ev_bind1 rfl (ev_pos (by simp only [putWordV_len, List.length_cons, List.length_nil]; omega) (ev_bind1 (impl_PutWord_eq _ _ (by simp only [putWordV_len, List.length_append, List.length_cons, List.length_nil]; omega)) (ev_bind1 rfl (ev_pos (by simp only [putWordV_len, List.length_append, List.length_cons, List.length_nil]; omega) ?_))))))
    exact impl_PutCtl_l0 l hl hz l.length 0 _ (by omega) (by simp only [putWordV_len, List.length_append, List.length_cons, List.length_nil]; omega)
  unfold impl_PutCtl.f ctlV
  refine ev_bind (impl_CtlOk_ev ki fr id n of pa ti l (by omega) hz) (ev_ite (fun c => ev_ite (fun c1 => ?_) (fun c1 => ?_)) (fun c => ?_))
  · exact ev_as (h0 1) (by rw [if_pos c, if_pos c1])
  · exact ev_as (h0 0) (by rw [if_pos c, if_neg c1])
  · exact ev_as (ev_now _) (by rw [if_neg c])

/-! ### impl_Send -/
theorem impl_Send_ev (l : List S68) (hl : l.length ≤ 1000000000000) (hx : ∀ x ∈ l, x.f1.length ≤ 1000000000000) (ki fr id n of : Int) (pa : Bool) (ti : Int) (it : List S29) (hi : it.length ≤ 2000000) (hz : ∀ x ∈ it, x.f1.f1.size ≤ 1000000000 ∧ x.f1.f5.size ≤ 1000000000 ∧ x.f2.f1.size ≤ 1000000000) : Ev (fun k => impl_Send.f k l ki fr id n of pa ti it) (sendV l ki fr id n of pa ti it) := by
  unfold impl_Send.f sendV
  refine ev_bind (impl_wayCopy_ev l hl hx) (ev_bind (impl_CtlOk_ev ki fr id n of pa ti it (by omega) hz) ?_)
  by_cases h2 : ctlB ki fr id n of pa ti it = true
  · simp only [if_pos h2]
    refine ev_bind (impl_WayOk_ev l (by omega)) ?_
    by_cases h1 : wayB l = true
    · simp only [if_pos h1]
      by_cases h3 : (l.length : Int) = 12
      · simp only [if_pos h3]; exact ev_now _
      simp only [if_neg h3]
      exact ev_bind (impl_PutCtl_ev ki fr id n of pa ti it hi hz) (ev_pos (by omega) (ev_now _))
    · simp only [if_neg h1]; exact ev_now _
  · simp only [if_neg h2]
    exact ev_as (ev_now _) (by split <;> rfl)

/-! ### laws_samePacks -/
theorem laws_samePacks_l0 (l : List S68) (hl : l.length ≤ 4611686018427387904) (d : Nat) : ∀ i : Nat, i + d = l.length → Ev (fun k => laws_samePacks.l0 k l l (i : Int)) true := by
  induction d with
  | zero =>
    intro i hi
    exact ev_step (fun k => laws_samePacks.l0.eq_2 ..) (ev_neg (by omega) (ev_now _))
  | succ d ih =>
    intro i hi
    have e := ih (i + 1) (by omega)
    refine ev_step (fun k => laws_samePacks.l0.eq_2 ..) (ev_pos (by omega) (ev_pos (by omega) (ev_pos (by omega) (ev_pos rfl (ev_bind1 (laws_same_eq _) (ev_pos rfl ?_))))))
    rw [w64 (by omega) (by omega)]
    exact e
theorem laws_samePacks_ev (l : List S68) (hl : l.length ≤ 4611686018427387904) : Ev (fun k => laws_samePacks.f k l l) true := ev_pos rfl (laws_samePacks_l0 l hl l.length 0 (by omega))

theorem tko_list (l : List S68) (j : Nat) (hj : j < l.length) : (l.eraseIdx j).take j = l.take j ∧ (l.eraseIdx j).drop j = l.drop (j + 1) := by
  have e : l.eraseIdx j = l.take j ++ l.drop (j + 1) := List.eraseIdx_eq_take_drop_succ ..
  have hl : (l.take j).length = j := by rw [List.length_take]; omega
  rw [e]
  exact ⟨by rw [List.take_append_of_le_length (by omega), List.take_of_length_le (by omega)], by rw [List.drop_append_of_le_length (by omega), List.drop_of_length_le (by omega), List.nil_append]⟩
theorem ways_j1 (l : List S68) (hl : l.length ≤ 20) (i : Int) : Ev (fun k => laws_FnWays.j1 k l i (tko l i).1 (tko l i).2.2.2 false (tko l i).2.1 (tko l i).2.2.1) true := by
  refine ev_step (fun k => laws_FnWays.j1.eq_2 ..) (ev_neg (by simp) ?_)
  unfold tko
  by_cases c0 : (l.length : Int) = 0
  · simp only [if_pos c0]
    exact ev_neg (by simp) (ev_bind (laws_samePacks_ev l (by omega)) (ev_now _))
  by_cases c1 : i < 0
  · simp only [if_neg c0, if_pos c1]
    exact ev_neg (by simp) (ev_bind (laws_samePacks_ev l (by omega)) (ev_now _))
  simp only [if_neg c0, if_neg c1]
  have m0 : 0 ≤ Int.tmod i (l.length : Int) := Int.tmod_nonneg _ (by omega)
  have m1 : Int.tmod i (l.length : Int) < (l.length : Int) := Int.tmod_lt_of_pos _ (by omega)
  generalize Int.tmod i (l.length : Int) = m at m0 m1
  obtain ⟨t1, t2⟩ := tko_list l m.toNat (by omega)
  have tl : (l.eraseIdx m.toNat).length = l.length - 1 := List.length_eraseIdx_of_lt (by omega)
  have hw : wrap64 (m + 1) = m + 1 := w64 (by omega) (by omega)
  have e1 : (m + 1).toNat = m.toNat + 1 := by omega
  refine ev_pos trivial (ev_pos m0 (ev_pos (by rw [tl]; omega) (ev_pos (by omega) ?_)))
  rw [t1, t2, hw, e1]
  refine ev_bind (laws_samePacks_ev _ (by rw [List.length_take]; omega)) (ev_pos rfl (ev_pos (by omega) (ev_pos (by omega) ?_)))
  exact ev_bind (laws_samePacks_ev _ (by rw [List.length_drop]; omega)) (ev_pos rfl (ev_pos (by omega) (ev_pos trivial (ev_bind1 (laws_same_eq _) (ev_now _)))))
theorem ways_j0 (l : List S68) (hl : l.length ≤ 20) (i : Int) (d : List S68) (hd : d.length ≤ 20) (j : Int) : Ev (fun k => laws_FnWays.j0 k l i (tko l i).1 (tko l i).2.2.2 d j (tw d j).1 (tw d j).2 false (tko l i).2.1 (tko l i).2.2.1) true := by
  have hj := ways_j1 l hl i
  refine ev_step (fun k => laws_FnWays.j0.eq_2 ..) (ev_neg (by simp) ?_)
  have no : Ev (fun k => (laws_samePacks.f k d d).bind fun t => laws_FnWays.j1 k l i (tko l i).1 (tko l i).2.2.2 (!t) (tko l i).2.1 (tko l i).2.2.1) true := ev_bind (laws_samePacks_ev d (by omega)) hj
  unfold tw
  by_cases c0 : (d.length : Int) = 0
  · simp only [if_pos c0]
    exact ev_neg (by simp) no
  by_cases c1 : j < 0
  · simp only [if_neg c0, if_pos c1]
    exact ev_neg (by simp) no
  by_cases c2 : wayB d = true
  · by_cases c3 : (d.length : Int) = 12
    · simp only [if_neg c0, if_neg c1, if_pos c2, if_pos c3]
      exact ev_neg (by simp) no
    simp only [if_neg c0, if_neg c1, if_pos c2, if_neg c3]
    have m0 : 0 ≤ Int.tmod j (d.length : Int) := Int.tmod_nonneg _ (by omega)
    have m1 : Int.tmod j (d.length : Int) < (d.length : Int) := Int.tmod_lt_of_pos _ (by omega)
    have hr : rd_T68 (d ++ [rd_T68 d (Int.tmod j (d.length : Int))]) (d.length : Int) = rd_T68 d (Int.tmod j (d.length : Int)) := by
      generalize rd_T68 d (Int.tmod j (d.length : Int)) = y
      unfold rd_T68
      rw [Int.toNat_natCast, List.getD_eq_getElem?_getD, List.getElem?_concat_length]
      rfl
    generalize rd_T68 d (Int.tmod j (d.length : Int)) = y at hr ⊢
    have hlen : ((d ++ [y]).length : Int) = (d.length : Int) + 1 := by rw [List.length_append, List.length_singleton]; omega
    refine ev_pos trivial (ev_pos (by rw [hlen, w64 (by omega) (by omega)]) (ev_pos (by omega) (ev_pos (by omega) ?_)))
    rw [Int.toNat_natCast, List.take_append_of_le_length (Nat.le_refl _), List.take_length]
    refine ev_bind (laws_samePacks_ev d (by omega)) (ev_pos rfl (ev_pos (by omega) (ev_pos m0 (ev_pos m1 ?_))))
    rw [hr]
    exact ev_bind1 (laws_same_eq _) (ev_pos rfl hj)
  · simp only [if_neg c0, if_neg c1, if_neg c2]
    exact ev_neg (by simp) no
theorem FnWays : laws_FnWays.Pure := by
  intro b _ hm hw
  refine ev_rounds ?_
  have hb : b.length ≤ 4611686018427387904 := by omega
  unfold laws_FnWays.f
  refine ev_bind1 (laws_big_eq b) (ev_ite (fun _ => ev_now _) (fun cb => ?_))
  obtain ⟨l, i, e1, o1⟩ := spec_DrawTakeOut_some b hb
  obtain ⟨d, j, e2, o2⟩ := spec_DrawTwice_some b hb
  obtain ⟨s, ki, fr, id, n, of, pa, ti, it, e3, o3, oi, li⟩ := spec_DrawSend_some b hb
  have z : ∀ {q : List S68}, okP q 20 → q.length ≤ 1000000000000 ∧ ∀ x ∈ q, x.f1.length ≤ 1000000000000 := fun h => ⟨by have := h.1; omega, fun x hx => by have := h.2 x hx; omega⟩
  have hj := ways_j0 l o1.1 i d o2.1 j
  have hs := sendV_okP o3 ki fr id n of pa ti it (by omega)
  refine ev_bind e1 (ev_bind (impl_TakeOut_ev l i (z o1).1 (z o1).2) (ev_bind e2 (ev_bind (impl_Twice_ev d j (z o2).1 (z o2).2) (ev_bind (spec_Twice_ev d j (z o2).1 (z o2).2) (ev_bind e3 (ev_bind (impl_Send_ev s (z o3).1 (z o3).2 ki fr id n of pa ti it (by omega) (okI_sz it oi)) ?_))))))
  refine ev_bind (impl_WayOk_ev l (by have := o1.1; omega)) (ev_bind (spec_WayOk_ev l (by have := o1.1; omega)) (ev_neg (by simp) (ev_neg (by simp) ?_)))
  refine ev_bind (spec_Send_ev s (z o3).1 (z o3).2 ki fr id n of pa ti it (by omega) (okI_sz it oi)) (ev_bind (laws_samePacks_ev _ (by have := hs.1; omega)) (ev_pos rfl ?_))
  have hf : (tko l i).2.2.2 = (decide ((l.length : Int) > 0) && decide (i ≥ 0)) := by
    unfold tko
    by_cases c0 : (l.length : Int) = 0
    · rw [if_pos c0]; simp [c0]
    by_cases c1 : i < 0
    · rw [if_neg c0, if_pos c1]; simp [c1]
    · rw [if_neg c0, if_neg c1]
      rw [decide_eq_true (show (l.length : Int) > 0 by omega), decide_eq_true (show i ≥ 0 by omega)]
      rfl
  refine ev_ite (fun h => ?_) (fun h => ?_)
  · have e : ((tko l i).2.2.2 != decide (i ≥ 0)) = false := by rw [hf, decide_eq_true h, Bool.true_and]; exact bne_self_eq_false _
    simp only [e]
    exact hj
  · have e : ((tko l i).2.2.2 != false) = false := by rw [hf, decide_eq_false h, Bool.false_and]; rfl
    simp only [e]
    exact hj
end Go.Proofs.Ytiffahfpfgnjnaa.Pure
