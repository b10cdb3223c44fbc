-- Written by a program of this session (myprint.py, over the kit's print): contracts of FnExactTakeOut
import Derived.Test.YthmfmpmljndjhaaPFnExactTakeOutx0
import Derived.Test.YthmfmpmljndjhaaPFnExactTakeOutx1
namespace Go.Proofs.Ythmfmpmljndjhaa.PFnExactTakeOut
open Go.RowKit Go.Proofs.YthmfmpmljndjhaaW.PrintWords Go.Proofs.YthmfmpmljndjhaaW.PrintLast Go.Proofs.YthmfmpmljndjhaaW.PrintMore Go.Proofs.YthmfmpmljndjhaaV
attribute [local go_sem] max2_int min2_int max_two min_two max_three min_three max_four min_four   -- for this text's walks alone
set_option linter.unusedVariables false
set_option linter.unusedSimpArgs false

/-! ### laws_eqPackS: function 58 -/
def laws_eqPackS.l0 : Nat → List (S74) → List (S74) → Int → Option (Bool)
 | 0, _, _, _ => none
 | k + 1, x0, x1, x5 => if x5 < (x0.length : Int) then (if 0 ≤ x5 then (if x5 < (x1.length : Int) then ((laws_eqPack.f k ((rd_T74 x0 x5).f0) ((rd_T74 x0 x5).f1) ((rd_T74 x1 x5).f0) ((rd_T74 x1 x5).f1)).bind fun t132 => (if t132 = true then (laws_eqPackS.l0 k x0 x1 (wrap64 (x5 + 1))) else (some false))) else (none)) else (none)) else (some true)
def laws_eqPackS.f (k : Nat) (l0 : List (S74)) (l1 : List (S74)) : Option (Bool) := if (l0.length : Int) = (l1.length : Int) then (laws_eqPackS.l0 k l0 l1 0) else (some false)
theorem laws_eqPackS.mono_l : ∀ k, (∀ y0 y1 y2, LeO (laws_eqPackS.l0 k y0 y1 y2) (laws_eqPackS.l0 (k + 1) y0 y1 y2))
 | 0 => fun _ _ _ r h => by simp [laws_eqPackS.l0] at h
 | k + 1 => by
  have ih0 := laws_eqPackS.mono_l k
  ·
   intro y0 y1 y2
   unfold laws_eqPackS.l0
   repeat' first
   | (with_reducible exact ih0 _ _ _)
   | (with_reducible exact laws_eqPack.mono _ _ _ _ _)
   | (with_reducible exact LeO.refl _)
   | (with_reducible exact LeO.none _)
   | (with_reducible refine LeO.ite ?_ ?_)
   | (with_reducible refine LeO.bind ?_ (fun _ => ?_))
   | exact ih0 _ _ _
   | exact laws_eqPack.mono _ _ _ _ _
   | exact LeO.none _
   | refine LeO.ite ?_ ?_
   | refine LeO.bind ?_ (fun _ => ?_)
theorem laws_eqPackS.mono : ∀ a0 a1 k, LeO (laws_eqPackS.f k a0 a1) (laws_eqPackS.f (k + 1) a0 a1) := by
 intro a0 a1 k
 have ih0 := laws_eqPackS.mono_l k
 unfold laws_eqPackS.f
 repeat' first
   | (with_reducible exact ih0 _ _ _)
   | (with_reducible exact laws_eqPack.mono _ _ _ _ _)
   | (with_reducible exact LeO.refl _)
   | (with_reducible exact LeO.none _)
   | (with_reducible refine LeO.ite ?_ ?_)
   | (with_reducible refine LeO.bind ?_ (fun _ => ?_))
   | exact ih0 _ _ _
   | exact laws_eqPack.mono _ _ _ _ _
   | exact LeO.none _
   | refine LeO.ite ?_ ?_
   | refine LeO.bind ?_ (fun _ => ?_)
def laws_eqPackS.T6 : Bool × List (List Nat × List Nat) := (true, [([], []), ([], []), ([0, 1], [0, 1]), ([2], [2]), ([], []), ([], []), ([4, 5], [4, 5]), ([6], [6]), ([3, 7], [3, 7]), ([8], [8])])
def laws_eqPackS.B6 : List Nat := [0, 0, 3, 7, 0, 0, 48, 112, 255, 511]
theorem laws_eqPackS.tab6 : rtab .any (opsOf Try.f58 6) = laws_eqPackS.T6 := by kernel_rfl
theorem laws_eqPackS.bits6 : waitsOk laws_eqPackS.T6.2 laws_eqPackS.B6 = true := by kernel_rfl
set_option maxHeartbeats 8000000 in
set_option maxRecDepth 100000 in
theorem laws_eqPackS.calls (k : Nat) (A0 : Option Addr) (c0 : Nat) (l0 : List (S74)) (A1 : Option Addr) (c1 : Nat) (l1 : List (S74)) (r : Bool) (w : World) (hr0 : Kd.C k74 w A0 l0.length l0) (hc0 : l0.length ≤ c0) (hr1 : Kd.C k74 w A1 l1.length l1) (hc1 : l1.length ≤ c1) (hr_ : Aside0 (r = true)) (h : laws_eqPackS.f k l0 l1 = some r) :
  Calls Try.prog 58 #[.slice A0 l0.length c0, .slice A1 l1.length c1] w fun e w' => e = .returned (.bool r) ∧ Below w.heap.size w w' := by
 have hu74 := Try.underlying74
 have HR0 := Aside0.mk hr0
 have HC0 := Aside0.mk hc0
 clear hr0 hc0
 have HR1 := Aside0.mk hr1
 have HC1 := Aside0.mk hc1
 clear hr1 hc1
 have HB := Aside0.mk (Below.refl w.heap.size w)
 have H : (if (l0.length : Int) = (l1.length : Int) then (laws_eqPackS.l0 k l0 l1 0) else (some false)) = some r := h
 clear h
 by_cases c3 : (l0.length : Int) = (l1.length : Int)
 ·
  rw [if_pos c3] at H
  have c3b0 : ((l0.length : Int) == (l1.length : Int)) = true := beq_iff_eq.mpr c3
  have c3b1 : ((l0.length : Int) != (l1.length : Int)) = false := bne_eq_false_iff_eq.mpr c3
  have c3b2 : (l0.length == l1.length) = true := by first | simpa using c3 | (simp at c3 ⊢; omega)
  clear c3
  have H' := Aside0.mk H
  clear H
  go_enter Try.func58, Try.ntmps58
  go_wp2
  go_loopg [5] k (fun kq v5 w' => ∃ (x5_1 : Int), v5 = .int .i64 x5_1 ∧ Aside0 (laws_eqPackS.l0 kq l0 l1 x5_1 = some r) ∧ Aside0 (kq ≤ k) ∧ Aside0 (Below w.heap.size w w'))
  case atStart => exact ⟨(0), eqq_, H', ⟨Nat.le_refl _⟩, ⟨qB HB⟩⟩
  case round =>
   clear H'
   try clear c1
   try clear p2
   try clear c3
   try clear c3b0
   try clear c3b1
   try clear c3b2
   obtain ⟨x5_1, rfl, HA, HK1, HB⟩ := hrel
   cases gk with
   | zero => exact absurd HA.out (by simp [laws_eqPackS.l0])
   | succ k1 =>
    have H := HA.out
    clear HA
    simp only [laws_eqPackS.l0] at H
    by_cases c4 : x5_1 < (l0.length : Int)
    ·
     rw [if_pos c4] at H
     have c4b0 : decide (x5_1 < (l0.length : Int)) = true := decide_eq_true c4
     clear c4
     by_cases c5 : 0 ≤ x5_1
     ·
      rw [if_pos c5] at H
      have c5b0 : decide (0 ≤ x5_1) = true := decide_eq_true c5
      clear c5
      by_cases c6 : x5_1 < (l1.length : Int)
      ·
       rw [if_pos c6] at H
       have c6b0 : decide (x5_1 < (l1.length : Int)) = true := decide_eq_true c6
       clear c6
       obtain ⟨t132, A7, H⟩ := bd_ H
       by_cases c8 : t132 = true
       ·
        subst c8
        rw [if_pos rfl] at H
        have H' := Aside0.mk H
        clear H
        try go_wp2
        replace HB := am_ (below_drew1 HB.out)
        have p130 : 0 ≤ (x5_1 : Int) := od_
        have q130 : x5_1 < (l0.length : Int) := od_
        obtain ⟨ad130, A130_1, c130_1, e130, hx130_0, hx130_1, hl130_1, hi130_1⟩ := at_T74 HR0.out x5_1 p130 q130
        have hw130_1 := hx130_1
        have hw130_0 := hx130_0
        cases e130
        replace hx130_0 := lb_ HB hx130_0
        replace hx130_1 := lb_ HB hx130_1
        have HR130_1 := Aside0.mk hi130_1
        have HC130_1 := Aside0.mk hl130_1
        clear hi130_1 hl130_1
        replace p130 := eq_true p130
        replace q130 := eq_true q130
        have p131 : 0 ≤ (x5_1 : Int) := od_
        have q131 : x5_1 < (l1.length : Int) := od_
        obtain ⟨ad131, A131_1, c131_1, e131, hx131_0, hx131_1, hl131_1, hi131_1⟩ := at_T74 HR1.out x5_1 p131 q131
        have hw131_1 := hx131_1
        have hw131_0 := hx131_0
        cases e131
        replace hx131_0 := lb_ HB hx131_0
        replace hx131_1 := lb_ HB hx131_1
        have HR131_1 := Aside0.mk hi131_1
        have HC131_1 := Aside0.mk hl131_1
        clear hi131_1 hl131_1
        replace p131 := eq_true p131
        replace q131 := eq_true q131
        refine start_ (n := 10) (S := fun w' => w'.cell? (ad130.add ((x5_1).toNat * 2)) = some (.int .i64 ((rd_T74 l0 x5_1).f0)) ∧ w'.cell? ⟨(ad130.add ((x5_1).toNat * 2)).block, (ad130.add ((x5_1).toNat * 2)).off + 1, none⟩ = some (.slice A130_1 ((rd_T74 l0 x5_1).f1).length c130_1) ∧ w'.cell? (ad131.add ((x5_1).toNat * 2)) = some (.int .i64 ((rd_T74 l1 x5_1).f0)) ∧ w'.cell? ⟨(ad131.add ((x5_1).toNat * 2)).block, (ad131.add ((x5_1).toNat * 2)).off + 1, none⟩ = some (.slice A131_1 ((rd_T74 l1 x5_1).f1).length c131_1)) (ds := []) #[oo,oo,oo,oo,oo,oo,oo,oo,oo,oo] (by kernel_rfl) rfl rfl ⟨(lb_ HB hw130_0 :), (lb_ HB hw130_1 :), (lb_ HB hw131_0 :), (lb_ HB hw131_1 :)⟩ (fun hHeld => ?_); refine with_tabW laws_eqPackS.tab6 laws_eqPackS.bits6 (fun HT_ HW_ => ?_)
        generalize wr.drew = w9 at HB HR130_1 HR131_1 hx130_0 hx130_1 hx131_0 hx131_1 hHeld ⊢
        refine pz_ (i := 0) (N := some 17) HT_ #[ii,oo,oo,oo,oo,oo,oo,oo,oo,oo] rfl rfl ?_
        refine pz_ (i := 1) (N := some 18) HT_ #[ii,ii,oo,oo,oo,oo,oo,oo,oo,oo] rfl rfl ?_
        refine pz_ (i := 2) (N := some 19) HT_ #[ii,ii,ii,oo,oo,oo,oo,oo,oo,oo] rfl rfl ?_
        refine pz_ (i := 4) (N := some 21) HT_ #[ii,ii,ii,oo,ii,oo,oo,oo,oo,oo] rfl rfl ?_
        refine pz_ (i := 5) (N := some 22) HT_ #[ii,ii,ii,oo,ii,ii,oo,oo,oo,oo] rfl rfl ?_
        refine pz_ (i := 6) (N := some 23) HT_ #[ii,ii,ii,oo,ii,ii,ii,oo,oo,oo] rfl rfl ?_
        refine take_ (i := 3) (N := some 20) (v := ?_) (a' := ?_) #[ii,ii,ii,ii,ii,ii,ii,oo,oo,oo] rfl rfl (take_ofW HT_.out HW_.out (by kernel_rfl)) (fun _ _ _ h => h) (Or.inl ⟨by rfl, ?_⟩) hHeld ?_ ?_
        rotate_left
        ·
         rintro w' ⟨s0, s1, s2, s3⟩
         go_simp
         with_reducible rfl
        rotate_left
        ·
         exact ap_
        refine take_ (i := 7) (N := some 24) (v := ?_) (a' := ?_) #[ii,ii,ii,ii,ii,ii,ii,ii,oo,oo] rfl rfl (take_ofW HT_.out HW_.out (by kernel_rfl)) (fun _ _ _ h => h) (Or.inl ⟨by rfl, ?_⟩) hHeld ?_ ?_
        rotate_left
        ·
         rintro w' ⟨s0, s1, s2, s3⟩
         go_simp
         with_reducible rfl
        rotate_left
        ·
         exact ap_
        refine one_ (i := 8) (N := some 25) #[ii,ii,ii,ii,ii,ii,ii,ii,ii,oo] rfl rfl (one_of HT_.out (by kernel_rfl)) (by decide) (fun K hK => ?_)
        refine goes_ Try.func63 (by kernel_rfl) rfl #[.agg #[.int .i64 ((rd_T74 l0 x5_1).f0), .slice A130_1 ((rd_T74 l0 x5_1).f1).length c130_1], .agg #[.int .i64 ((rd_T74 l1 x5_1).f0), .slice A131_1 ((rd_T74 l1 x5_1).f1).length c131_1]] (by rfl) rfl rfl la_ ?_
        with_reducible refine (laws_eqPack.calls k1 ((rd_T74 l0 x5_1).f0) _ _ ((rd_T74 l0 x5_1).f1) ((rd_T74 l1 x5_1).f0) _ _ ((rd_T74 l1 x5_1).f1) true _ ?side1 ?side2 ?side3 ?side4 ⟨rfl⟩ A7.out).mono ?_
        (case side1 => exact qC (Kd.C_below HR130_1.out HB.out))
        (case side2 => exact HC130_1.out)
        (case side3 => exact qC (Kd.C_below HR131_1.out HB.out))
        (case side4 => exact HC131_1.out)
        rintro e w10 ⟨rfl, hb⟩
        refine ⟨_, rfl, ?_⟩
        replace HB := am_ (below_step (qB HB) hb)
        (try clear hb)
        refine hK.out _ _ ⟨(lb_ HB hw130_0 :), (lb_ HB hw130_1 :), (lb_ HB hw131_0 :), (lb_ HB hw131_1 :)⟩ (fun hHeld => ?_)
        clear hK K
        refine norm_ (a' := ?_) ?_ ?_
        rotate_left
        ·
         show Act.put _ (some 25) _ = _
         exact ap_
        refine pz_ (i := 9) (N := some 26) HT_ #[ii,ii,ii,ii,ii,ii,ii,ii,ii,ii] rfl rfl ?_
        refine done_ (done_of HT_.out (by kernel_rfl)) ?_
        try go_wp2
        go_roundg k1
        case measure => have := HK1.out; omega
        case rel => exact ⟨(wrap64 (x5_1 + 1)), eqq_, H', ⟨by have := HK1.out; omega⟩, ⟨qB HB⟩⟩
       ·
        replace c8 := Bool.eq_false_iff.mpr c8
        subst c8
        rw [if_neg (show ¬ (false = true) by decide)] at H
        exact absurd (hr_.out ▸ H) (by simp)
      ·
       rw [if_neg c6] at H
       exact absurd H (by simp)
     ·
      rw [if_neg c5] at H
      exact absurd H (by simp)
    ·
     rw [if_neg c4] at H
     have c4b0 : decide (x5_1 < (l0.length : Int)) = false := decide_eq_false c4
     clear c4
     obtain rfl := Option.some.inj H
     go_wp2
     go_ret
     exact ⟨by first | rfl | (simp [errW_none, errW_some] <;> rfl) | (simp [*, errW_none, errW_some] <;> rfl), qB HB⟩
 ·
  rw [if_neg c3] at H
  have c3b0 : ((l0.length : Int) == (l1.length : Int)) = false := beq_eq_false_iff_ne.mpr c3
  have c3b1 : ((l0.length : Int) != (l1.length : Int)) = true := bne_iff_ne.mpr c3
  have c3b2 : (l0.length == l1.length) = false := by first | simpa using c3 | (simp at c3 ⊢; omega)
  exact absurd (hr_.out ▸ H) (by simp)

/-! ### laws_markByteS: function 47 -/
def laws_markByteS.l0 : Nat → List Int → Int → Int → Option (Int × List Int)
 | 0, _, _, _ => none
 | k + 1, x0, x1, x5 => if x5 < (x0.length : Int) then (if 0 ≤ x5 then (laws_markByteS.l0 k (x0.set (x5 : Int).toNat ((x1) % 256)) (wrap64 (x1 + 1)) (wrap64 (x5 + 1))) else (none)) else (some (x1, x0))
def laws_markByteS.f (k : Nat) (l0 : List Int) (a1 : Int) : Option (Int × List Int) := laws_markByteS.l0 k l0 a1 0
theorem laws_markByteS.mono_l : ∀ k, (∀ y0 y1 y2, LeO (laws_markByteS.l0 k y0 y1 y2) (laws_markByteS.l0 (k + 1) y0 y1 y2))
 | 0 => fun _ _ _ r h => by simp [laws_markByteS.l0] at h
 | k + 1 => by
  have ih0 := laws_markByteS.mono_l k
  ·
   intro y0 y1 y2
   unfold laws_markByteS.l0
   repeat' first
   | (with_reducible exact ih0 _ _ _)
   | (with_reducible exact LeO.refl _)
   | (with_reducible exact LeO.none _)
   | (with_reducible refine LeO.ite ?_ ?_)
   | (with_reducible refine LeO.bind ?_ (fun _ => ?_))
   | exact ih0 _ _ _
   | exact LeO.none _
   | refine LeO.ite ?_ ?_
   | refine LeO.bind ?_ (fun _ => ?_)
theorem laws_markByteS.mono : ∀ a0 a1 k, LeO (laws_markByteS.f k a0 a1) (laws_markByteS.f (k + 1) a0 a1) := by
 intro a0 a1 k
 have ih0 := laws_markByteS.mono_l k
 unfold laws_markByteS.f
 repeat' first
   | (with_reducible exact ih0 _ _ _)
   | (with_reducible exact LeO.refl _)
   | (with_reducible exact LeO.none _)
   | (with_reducible refine LeO.ite ?_ ?_)
   | (with_reducible refine LeO.bind ?_ (fun _ => ?_))
   | exact ih0 _ _ _
   | exact LeO.none _
   | refine LeO.ite ?_ ?_
   | refine LeO.bind ?_ (fun _ => ?_)
set_option maxHeartbeats 8000000 in
set_option maxRecDepth 100000 in
theorem laws_markByteS.calls (k : Nat) (P0_ : Nat → Prop) (u9000_ : Value) (l0 : List Int) (a1 : Int) (r1 : Int) (r2 : List Int) (w0 w : World) (hB : Below w0.heap.size w0 w) (ho0 : Kd.R (Kd.int .u8) 5 w w0.heap.size P0_ u9000_ l0) (h : laws_markByteS.f k l0 a1 = some (r1, r2)) :
  Calls Try.prog 47 #[u9000_, .int .i64 a1] w fun e w' => e = .returned (.int .i64 r1) ∧ Kd.R (Kd.int .u8) 5 w' w0.heap.size (fun k_ => (P0_ k_ ∨ w.heap.size ≤ k_)) u9000_ r2 ∧ Below w0.heap.size w0 w' ∧ Kept w w' (fun k_ => P0_ k_) := by
 have HO0 := Aside0.mk (show Kd.R (Kd.int .u8) 5 w w0.heap.size (fun k_ => (P0_ k_ ∨ w.heap.size ≤ k_)) u9000_ l0 from Kd.R_mono ho0 (fun k_ hk => (.inl hk)))
 have HK := Aside0.mk (Kept.refl w (fun k_ => P0_ k_))
 have HW0 := Aside0.mk hB.size
 have HB := Aside0.mk hB
 clear hB
 have H : (laws_markByteS.l0 k l0 a1 0) = some (r1, r2) := h
 clear h
 have H' := Aside0.mk H
 clear H
 go_enter Try.func47, Try.ntmps47
 go_wp2
 go_loopg [1, 5] k (fun kq v1 v5 w' => ∃ (x0_1 : List Int) (x1_1 : Int) (x5_1 : Int), v1 = .int .i64 x1_1 ∧ v5 = .int .i64 x5_1 ∧ Aside0 (laws_markByteS.l0 kq x0_1 x1_1 x5_1 = some (r1, r2)) ∧ Aside0 (kq ≤ k) ∧ Aside0 (Kd.R (Kd.int .u8) 5 w' w0.heap.size (fun k_ => (P0_ k_ ∨ w.heap.size ≤ k_)) u9000_ x0_1) ∧ Aside0 (Kept w w' (fun k_ => P0_ k_)) ∧ Aside0 (Below w0.heap.size w0 w'))
 case atStart => exact ⟨(l0), (a1), (0), eqq_, eqq_, H', ⟨Nat.le_refl _⟩, ⟨qR HO0⟩, ⟨by repeat (first | (with_reducible first | exact HK.out | apply Kept.alloc | apply Kept.drewN | apply Kept.drew) | exact HK.out)⟩, ⟨qB HB⟩⟩
 case round =>
  clear H'
  try clear p2
  obtain ⟨x0_1, x1_1, x5_1, rfl, rfl, HA, HK1, HO_0, HK, HB⟩ := hrel
  cases gk with
  | zero => exact absurd HA.out (by simp [laws_markByteS.l0])
  | succ k1 =>
   have H := HA.out
   clear HA
   simp only [laws_markByteS.l0] at H
   by_cases c3 : x5_1 < (x0_1.length : Int)
   ·
    rw [if_pos c3] at H
    have c3b0 : decide (x5_1 < (x0_1.length : Int)) = true := decide_eq_true c3
    clear c3
    by_cases c4 : 0 ≤ x5_1
    ·
     rw [if_pos c4] at H
     have c4b0 : decide (0 ≤ x5_1) = true := decide_eq_true c4
     clear c4
     obtain ⟨y133, hy133⟩ : ∃ y_ : List Int, y_ = (x0_1.set (x5_1 : Int).toNat ((x1_1) % 256)) := ⟨_, rfl⟩
     rw [← hy133] at H
     have Ny133 := Aside0.mk hy133
     clear hy133
     have H' := Aside0.mk H
     clear H
     obtain ⟨Ao6, co6, eo6⟩ := Kd.R_slice HO_0.out
     subst eo6
     have p5 : 0 ≤ (x5_1 : Int) := od_
     have q5 : (x5_1 : Int) < ((x0_1.length : Int) : Int) := od_
     obtain ⟨go5, co5, eo5, gb5, gl5, cl5, HG5⟩ := Kd.R_form HO_0.out (by omega)
     (first | cases eo5 | (injection eo5 with ea_ en_ ec_; (first | subst ea_ | (injection ea_ with ea_; subst ea_)); subst ec_; clear en_))
     have GB5 := Aside0.mk gb5
     have GG5 := Aside0.mk HG5
     clear gb5 gl5 HG5
     have HMgo5 := Aside0.mk (show (P0_ go5 ∨ w.heap.size ≤ go5) from (HO_0.out.1 _ rfl))
     obtain ⟨hx5_0, hf5_0⟩ := Kd.R_celln 0 HO_0.out (x5_1 : Int) p5 q5
     replace p5 := eq_true p5
     replace q5 := eq_true q5
     have HP7 := Kd.R_putg HO_0.out (x5_1 : Int) ((x1_1) % 256)
     go_wp2_with (first | ((with_reducible refine gate_store (t := 5) (p := 16) rfl ?_); refine store_event (t := 5) (p := 16) (v := ?vo_w8) (w1 := (wr.setCell ⟨go5, (x5_1 : Int).toNat, none⟩ (.int .u8 ((x1_1) % 256)))) ?hg ?ho ?hn ?hr ?_; (case ho => rfl); (case hg => rfl); (case hn => rfl); (case hr => first | (go_simp; done) | (go_simp; rfl)); intro w8 hw; have hg : wr.grownBy w8 (some go5) := (by rw [hw]; exact HP7.2); have hp_ : Kd.R (Kd.int .u8) 5 w8 w0.heap.size (fun k_ => (P0_ k_ ∨ w.heap.size ≤ k_)) (.slice (some ⟨go5, 0, none⟩) x0_1.length co6) y133 := (by rw [hw, Ny133.out]; exact HP7.1); clear HP7; replace HB := am_ ((by rw [hw]; exact below_set (HB.out) GB5.out : Below w0.heap.size w0 w8)); replace HK := am_ (Kept.of_grown (S := (fun k_ => P0_ k_)) hg (by repeat (first | (with_reducible first | exact HK.out | apply Kept.alloc | apply Kept.drewN | apply Kept.drew) | exact HK.out)) (fun k_ e_ => (HO_0.out.1 k_ e_))); replace HO_0 := am_ (hp_); clear hg hw hp_))
     go_roundg k1
     case measure => have := HK1.out; omega
     case rel => exact ⟨(y133), (wrap64 (x1_1 + 1)), (wrap64 (x5_1 + 1)), eqq_, eqq_, H', ⟨by have := HK1.out; omega⟩, ⟨qR HO_0⟩, ⟨by repeat (first | (with_reducible first | exact HK.out | apply Kept.alloc | apply Kept.drewN | apply Kept.drew) | exact HK.out)⟩, ⟨qB HB⟩⟩
    ·
     rw [if_neg c4] at H
     exact absurd H (by simp)
   ·
    rw [if_neg c3] at H
    have c3b0 : decide (x5_1 < (x0_1.length : Int)) = false := decide_eq_false c3
    clear c3
    simp only [Option.some.injEq, Prod.mk.injEq] at H
    obtain ⟨rfl, rfl⟩ := H
    obtain ⟨Ao9, co9, eo9⟩ := Kd.R_slice HO_0.out
    subst eo9
    go_wp2
    go_ret
    exact ⟨by first | rfl | (simp [errW_none, errW_some] <;> rfl) | (simp [*, errW_none, errW_some] <;> rfl), qR HO_0, qB HB, by repeat (first | (with_reducible first | exact HK.out | apply Kept.alloc | apply Kept.drewN | apply Kept.drew) | exact HK.out)⟩

/-! ### laws_markPackS: function 59, by hand: each element's row is lent to laws_markByteS and put back -/
def laws_markPackS.f (k : Nat) : List (S74) → Int → Option (Int × List (S74))
 | [], a => some (a, [])
 | x :: l, a => (laws_markByteS.f k x.f1 (wrap64 (a + 1))).bind fun b => (laws_markPackS.f k l b.1).bind fun c => some (c.1, (⟨a, b.2⟩ : S74) :: c.2)
theorem laws_markPackS.mono : ∀ l a k, LeO (laws_markPackS.f k l a) (laws_markPackS.f (k + 1) l a) := by
 intro l
 induction l with
 | nil => intro a k; exact LeO.refl _
 | cons x l ih => intro a k; exact LeO.bind (laws_markByteS.mono _ _ _) (fun _ => LeO.bind (ih _ _) (fun _ => LeO.refl _))
set_option maxHeartbeats 8000000 in
set_option maxRecDepth 100000 in
theorem laws_markPackS.calls (k : Nat) (P0_ : Nat → Prop) (u9000_ : Value) (l0 : List (S74)) (a1 : Int) (r1 : Int) (r2 : List (S74)) (w0 w : World) (hB : Below w0.heap.size w0 w) (ho0 : Kd.S k74 74 w w0.heap.size P0_ u9000_ l0) (h : laws_markPackS.f k l0 a1 = some (r1, r2)) :
  Calls Try.prog 59 #[u9000_, .int .i64 a1] w fun e w' => e = .returned (.int .i64 r1) ∧ Kd.S k74 74 w' w0.heap.size P0_ u9000_ r2 ∧ Below w0.heap.size w0 w' ∧ Kept w w' P0_ := by
 have hu74 := Try.underlying74
 obtain ⟨A0, c0, e0⟩ := Kd.S_slice ho0
 subst e0
 have hbig : l0.length ≤ 9223372036854775807 := (Kd.S_reads' ho0).2.2.2.1
 have hlen0 := (Kd.S_reads' ho0).1
 have HBIG := Aside0.mk hbig
 have HO := Aside0.mk ho0
 have HB := Aside0.mk hB
 have HK := Aside0.mk (Kept.refl w P0_)
 have HI := Aside0.mk (show (laws_markPackS.f k (l0.drop (0 : Int).toNat) a1).map (fun p => (p.1, l0.take (0 : Int).toNat ++ p.2)) = some (r1, r2) by
  simp [h])
 clear ho0 hB h hbig hlen0
 go_enter Try.func59, Try.ntmps59
 go_wp2
 go_loopg [1, 5] l0.length (fun gg v1 v5 wr => ∃ (xs : List (S74)) (kk i : Int), v1 = .int .i64 kk ∧ v5 = .int .i64 i ∧ Aside0 (0 ≤ i ∧ i ≤ (l0.length : Int) ∧ ((l0.length : Int) - i).toNat ≤ gg ∧ xs.length = l0.length) ∧ Aside0 ((laws_markPackS.f k (xs.drop i.toNat) kk).map (fun p => (p.1, xs.take i.toNat ++ p.2)) = some (r1, r2)) ∧ Aside0 (Kd.S k74 74 wr w0.heap.size P0_ (.slice A0 l0.length c0) xs) ∧ Aside0 (Below w0.heap.size w0 wr) ∧ Aside0 (Kept w wr P0_))
 case atStart => exact ⟨l0, a1, 0, rfl, rfl, ⟨by omega, by omega, by omega, rfl⟩, HI, HO, HB, HK⟩
 case round =>
  clear HI HO HB HK
  obtain ⟨xs, kk, i, rfl, rfl, HR, HI, HO, HB, HK⟩ := hrel
  obtain ⟨h0, h1, hg, hl⟩ := HR.out
  by_cases hlt : i < (l0.length : Int)
  ·
   have c3 : decide (i < (l0.length : Int)) = true := decide_eq_true hlt
   obtain ⟨g, cap, eg, hgb, hgl, _⟩ := Kd.S_form HO.out (by omega)
   injection eg with eg1 eg2 eg3
   subst eg1
   clear eg2 eg3
   obtain ⟨oki, ce, hcl, hM, hcc, hfr, hoki, hH⟩ := Kd.S_elem HO.out z74 i h0 hlt
   obtain ⟨ve1, rfl, ge1⟩ := k74_openM hM
   have hx0 : wr.cell? ⟨g, i.toNat * 2, none⟩ = some (.int .i64 ((rd_T74 xs i).f0)) := hcc 0 _ rfl
   have hx1 : wr.cell? ⟨g, i.toNat * 2 + 1, none⟩ = some ve1 := hcc 1 _ rfl
   have hf0 : wr.frozen? ⟨g, i.toNat * 2, none⟩ = false := hfr 0
   have hdrop : xs.drop i.toNat = rd_T74 xs i :: xs.drop (i + 1).toNat := by
    have hi : i.toNat < xs.length := by omega
    rw [List.drop_eq_getElem_cons hi, show (i + 1).toNat = i.toNat + 1 by omega]
    congr 1
    simp [rd_T74, List.getD_eq_getElem?_getD, List.getElem?_eq_getElem hi]
   have hi1 := HI.out
   rw [hdrop] at hi1
   simp only [laws_markPackS.f, Option.map_eq_some_iff, Option.bind_eq_some_iff] at hi1
   obtain ⟨p, ⟨⟨b1, b2⟩, hb, ⟨q1, q2⟩, hq, hp⟩, hr⟩ := hi1
   obtain rfl := Option.some.inj hp
   clear hp
   obtain ⟨hH1, hg1⟩ := Kd.H_seg hH h0 hlt (seg := [.int .i64 kk]) (j := 0) (show 0 + 1 ≤ 2 by decide) (by intro q hq; simp only [List.mem_singleton] at hq; subst hq; rfl)
   have hge : (Kd.int .u8).R 5 (wr.setCell ⟨g, i.toNat * 2, none⟩ (.int .i64 kk)) w0.heap.size oki ve1 (rd_T74 xs i).f1 := Kd.R_far (p := ⟨g, i.toNat * 2, none⟩) ge1 (fun k hk => (hoki k hk).2) _
   have hne := fun k hk => (hoki k hk)
   have hB1 : Below w0.heap.size w0 (wr.setCell ⟨g, i.toNat * 2, none⟩ (.int .i64 kk)) := below_set HB.out hgb
   have hK1 : Kept w (wr.setCell ⟨g, i.toNat * 2, none⟩ (.int .i64 kk)) P0_ := Kept.setCell (p := ⟨g, i.toNat * 2, none⟩) HK.out (.inl (HO.out.elim fun f hf => hf.1 g (by simp [Value.ownBlock]))) _
   have hcall := laws_markByteS.calls k oki ve1 _ _ b1 b2 w0 _ hB1 hge hb
   have hm : Aside0 (((l0.length : Int) - (i + 1)).toNat < gk ∧ 0 ≤ i + 1 ∧ i + 1 ≤ (l0.length : Int) ∧ wrap64 (i + 1) = i + 1) := ⟨by omega, by omega, by omega, by have := HBIG.out; unfold wrap64; omega⟩
   have HN := Aside0.mk (show (laws_markPackS.f k ((xs.set i.toNat (⟨kk, b2⟩ : S74)).drop (i + 1).toNat) b1).map (fun p => (p.1, (xs.set i.toNat (⟨kk, b2⟩ : S74)).take (i + 1).toNat ++ p.2)) = some (r1, r2) by
    have e1 : (xs.set i.toNat (⟨kk, b2⟩ : S74)).drop (i + 1).toNat = xs.drop (i + 1).toNat := by
     rw [show (i + 1).toNat = i.toNat + 1 by omega, List.drop_set_of_lt (by omega)]
    have e2 : (xs.set i.toNat (⟨kk, b2⟩ : S74)).take (i + 1).toNat = xs.take i.toNat ++ [(⟨kk, b2⟩ : S74)] := by
     have hi : i.toNat < xs.length := by omega
     rw [show (i + 1).toNat = i.toNat + 1 by omega, List.take_add_one, List.getElem?_set_self hi, List.take_set_of_le (by omega)]
     rfl
    rw [e1, e2, hq]
    simp only [Option.map_some, List.append_assoc, List.singleton_append]
    exact congrArg some hr)
   have HCALL := Aside0.mk hcall
   have HH1 := Aside0.mk hH1
   have HK1 := Aside0.mk hK1
   have HOKI := Aside0.mk hoki
   have HGE := Aside0.mk hge
   have HL := Aside0.mk hl
   have H01 := Aside0.mk (And.intro h0 hlt)
   clear hcall hH1 hK1 hoki hge hl hr hq hb hH hcc hfr hM ge1 hg1 hne hB1 hgb hgl hdrop HR HI hcl h1 hg
   replace h0 := eq_true h0
   replace hlt := eq_true hlt
   go_wp2_with (first | ((with_reducible refine gate_store (t := 3) (p := 16) rfl ?_); refine store_event (t := 3) (p := 16) (v := ?vo) (w1 := (wr.setCell ⟨g, i.toNat * 2, none⟩ (.int .i64 kk))) ?hg ?ho ?hn ?hr ?_; (case ho => rfl); (case hg => rfl); (case hn => rfl); (case hr => first | (go_simp; done) | (go_simp; rfl)); intro w16 hw; subst hw) | (go_at_call 47; refine HCALL.out.mono ?_; rintro e w' ⟨rfl, hR', hB', hK'⟩))
   have hw := hm.out.2.2.2
   have HO2 := Kd.H_back (x' := (⟨kk, b2⟩ : S74)) (Kd.H_kept HH1.out hK' (fun k _ hn => hn)) (k74_mkM _ _ _ (⟨kk, b2⟩ : S74) (Kd.R_reok rfl hR' (fun k hk => HGE.out.1 k hk))) (fun _ hk => hk)
   go_roundg (((l0.length : Int) - (i + 1)).toNat)
   case measure => exact hm.out.1
   case rel => exact ⟨xs.set i.toNat (⟨kk, b2⟩ : S74), b1, i + 1, rfl, by rw [hw], ⟨hm.out.2.1, hm.out.2.2.1, Nat.le_refl _, by rw [List.length_set]; exact HL.out⟩, HN, ⟨HO2⟩, ⟨hB'⟩, ⟨Kept.then_ HK1.out hK' (fun k hk => .inl (HOKI.out k hk).1)⟩⟩
  ·
   have c3 : decide (i < (l0.length : Int)) = false := decide_eq_false hlt
   go_wp2
   go_ret
   have hi := HI.out
   rw [List.drop_eq_nil_of_le (by omega), List.take_of_length_le (by omega)] at hi
   simp only [laws_markPackS.f, Option.map_some, List.append_nil] at hi
   obtain ⟨rfl, rfl⟩ := Prod.mk.inj (Option.some.inj hi)
   exact ⟨rfl, HO.out, HB.out, HK.out⟩


/-! ### laws_heldByteS: function 99 -/
def laws_heldByteS.l0 : Nat → List Int → Int → Int → Option (Int)
 | 0, _, _, _ => none
 | k + 1, x0, x1, x5 => if x5 < (x0.length : Int) then (if 0 ≤ x5 then (if (rd x0 x5) = ((x1) % 256) then (laws_heldByteS.l0 k x0 (wrap64 (x1 + 1)) (wrap64 (x5 + 1))) else (some (-1))) else (none)) else (some x1)
def laws_heldByteS.f (k : Nat) (l0 : List Int) (a1 : Int) : Option (Int) := laws_heldByteS.l0 k l0 a1 0
theorem laws_heldByteS.mono_l : ∀ k, (∀ y0 y1 y2, LeO (laws_heldByteS.l0 k y0 y1 y2) (laws_heldByteS.l0 (k + 1) y0 y1 y2))
 | 0 => fun _ _ _ r h => by simp [laws_heldByteS.l0] at h
 | k + 1 => by
  have ih0 := laws_heldByteS.mono_l k
  ·
   intro y0 y1 y2
   unfold laws_heldByteS.l0
   repeat' first
   | (with_reducible exact ih0 _ _ _)
   | (with_reducible exact LeO.refl _)
   | (with_reducible exact LeO.none _)
   | (with_reducible refine LeO.ite ?_ ?_)
   | (with_reducible refine LeO.bind ?_ (fun _ => ?_))
   | exact ih0 _ _ _
   | exact LeO.none _
   | refine LeO.ite ?_ ?_
   | refine LeO.bind ?_ (fun _ => ?_)
theorem laws_heldByteS.mono : ∀ a0 a1 k, LeO (laws_heldByteS.f k a0 a1) (laws_heldByteS.f (k + 1) a0 a1) := by
 intro a0 a1 k
 have ih0 := laws_heldByteS.mono_l k
 unfold laws_heldByteS.f
 repeat' first
   | (with_reducible exact ih0 _ _ _)
   | (with_reducible exact LeO.refl _)
   | (with_reducible exact LeO.none _)
   | (with_reducible refine LeO.ite ?_ ?_)
   | (with_reducible refine LeO.bind ?_ (fun _ => ?_))
   | exact ih0 _ _ _
   | exact LeO.none _
   | refine LeO.ite ?_ ?_
   | refine LeO.bind ?_ (fun _ => ?_)
set_option maxHeartbeats 8000000 in
set_option maxRecDepth 100000 in
theorem laws_heldByteS.calls (k : Nat) (A0 : Option Addr) (c0 : Nat) (l0 : List Int) (a1 : Int) (r : Int) (w : World) (hr0 : Kd.C (Kd.int .u8) w A0 l0.length l0) (hc0 : l0.length ≤ c0) (h : laws_heldByteS.f k l0 a1 = some r) :
  Calls Try.prog 99 #[.slice A0 l0.length c0, .int .i64 a1] w fun e w' => e = .returned (.int .i64 r) ∧ Drawn0 w w' := by
 have HR0 := Aside0.mk hr0
 have HC0 := Aside0.mk hc0
 clear hr0 hc0
 have H : (laws_heldByteS.l0 k l0 a1 0) = some r := h
 clear h
 have H' := Aside0.mk H
 clear H
 go_enter Try.func99, Try.ntmps99
 go_wp2
 go_loopg [1, 5] k (fun kq v1 v5 w' => ∃ (x1_1 : Int) (x5_1 : Int), v1 = .int .i64 x1_1 ∧ v5 = .int .i64 x5_1 ∧ Aside0 (laws_heldByteS.l0 kq l0 x1_1 x5_1 = some r) ∧ Aside0 (kq ≤ k) ∧ Drawn0 w w')
 case atStart => exact ⟨(a1), (0), eqq_, eqq_, H', ⟨Nat.le_refl _⟩, by repeat (first | exact Drawn0.refl _ | apply Drawn0.step)⟩
 case round =>
  clear H'
  try clear p2
  obtain ⟨x1_1, x5_1, rfl, rfl, HA, HK1, ⟨m1, rfl⟩⟩ := hrel
  cases gk with
  | zero => exact absurd HA.out (by simp [laws_heldByteS.l0])
  | succ k1 =>
   have H := HA.out
   clear HA
   simp only [laws_heldByteS.l0] at H
   by_cases c3 : x5_1 < (l0.length : Int)
   ·
    rw [if_pos c3] at H
    have c3b0 : decide (x5_1 < (l0.length : Int)) = true := decide_eq_true c3
    clear c3
    by_cases c4 : 0 ≤ x5_1
    ·
     rw [if_pos c4] at H
     have c4b0 : decide (0 ≤ x5_1) = true := decide_eq_true c4
     clear c4
     by_cases c5 : (rd l0 x5_1) = ((x1_1) % 256)
     ·
      rw [if_pos c5] at H
      have c5b0 : ((rd l0 x5_1) == ((x1_1) % 256)) = true := beq_iff_eq.mpr c5
      have c5b1 : ((rd l0 x5_1) != ((x1_1) % 256)) = false := bne_eq_false_iff_eq.mpr c5
      clear c5
      have H' := Aside0.mk H
      clear H
      have p134 : 0 ≤ (x5_1 : Int) := od_
      have q134 : x5_1 < (l0.length : Int) := od_
      obtain ⟨ad134, e134, hx134_0⟩ := Kd.at_int HR0.out x5_1 p134 q134
      cases e134
      replace p134 := eq_true p134
      replace q134 := eq_true q134
      go_wp2
      go_roundg k1
      case measure => have := HK1.out; omega
      case rel => exact ⟨(wrap64 (x1_1 + 1)), (wrap64 (x5_1 + 1)), eqq_, eqq_, H', ⟨by have := HK1.out; omega⟩, by repeat (first | exact Drawn0.refl _ | apply Drawn0.step)⟩
     ·
      rw [if_neg c5] at H
      have c5b0 : ((rd l0 x5_1) == ((x1_1) % 256)) = false := beq_eq_false_iff_ne.mpr c5
      have c5b1 : ((rd l0 x5_1) != ((x1_1) % 256)) = true := bne_iff_ne.mpr c5
      obtain rfl := Option.some.inj H
      have p134 : 0 ≤ (x5_1 : Int) := od_
      have q134 : x5_1 < (l0.length : Int) := od_
      obtain ⟨ad134, e134, hx134_0⟩ := Kd.at_int HR0.out x5_1 p134 q134
      cases e134
      replace p134 := eq_true p134
      replace q134 := eq_true q134
      go_wp2
      go_ret
      exact ⟨by first | rfl | (simp; done) | (simp [*]; done), by repeat (first | exact Drawn0.refl _ | apply Drawn0.step)⟩
    ·
     rw [if_neg c4] at H
     exact absurd H (by simp)
   ·
    rw [if_neg c3] at H
    have c3b0 : decide (x5_1 < (l0.length : Int)) = false := decide_eq_false c3
    clear c3
    obtain rfl := Option.some.inj H
    go_wp2
    go_ret
    exact ⟨by first | rfl | (simp; done) | (simp [*]; done), by repeat (first | exact Drawn0.refl _ | apply Drawn0.step)⟩

/-! ### laws_heldPackS: function 60 -/
def laws_heldPackS.l0 : Nat → List (S74) → Int → Int → Option (Int)
 | 0, _, _, _ => none
 | k + 1, x0, x1, x5 => if x5 < (x0.length : Int) then (if 0 ≤ x5 then (if ((rd_T74 x0 x5).f0) = x1 then ((laws_heldByteS.f k ((rd_T74 x0 x5).f1) (wrap64 (x1 + 1))).bind fun t137 => (if t137 < 0 then (some (-1)) else (laws_heldPackS.l0 k x0 t137 (wrap64 (x5 + 1))))) else (some (-1))) else (none)) else (some x1)
def laws_heldPackS.f (k : Nat) (l0 : List (S74)) (a1 : Int) : Option (Int) := laws_heldPackS.l0 k l0 a1 0
theorem laws_heldPackS.mono_l : ∀ k, (∀ y0 y1 y2, LeO (laws_heldPackS.l0 k y0 y1 y2) (laws_heldPackS.l0 (k + 1) y0 y1 y2))
 | 0 => fun _ _ _ r h => by simp [laws_heldPackS.l0] at h
 | k + 1 => by
  have ih0 := laws_heldPackS.mono_l k
  ·
   intro y0 y1 y2
   unfold laws_heldPackS.l0
   repeat' first
   | (with_reducible exact ih0 _ _ _)
   | (with_reducible exact laws_heldByteS.mono _ _ _)
   | (with_reducible exact LeO.refl _)
   | (with_reducible exact LeO.none _)
   | (with_reducible refine LeO.ite ?_ ?_)
   | (with_reducible refine LeO.bind ?_ (fun _ => ?_))
   | exact ih0 _ _ _
   | exact laws_heldByteS.mono _ _ _
   | exact LeO.none _
   | refine LeO.ite ?_ ?_
   | refine LeO.bind ?_ (fun _ => ?_)
theorem laws_heldPackS.mono : ∀ a0 a1 k, LeO (laws_heldPackS.f k a0 a1) (laws_heldPackS.f (k + 1) a0 a1) := by
 intro a0 a1 k
 have ih0 := laws_heldPackS.mono_l k
 unfold laws_heldPackS.f
 repeat' first
   | (with_reducible exact ih0 _ _ _)
   | (with_reducible exact laws_heldByteS.mono _ _ _)
   | (with_reducible exact LeO.refl _)
   | (with_reducible exact LeO.none _)
   | (with_reducible refine LeO.ite ?_ ?_)
   | (with_reducible refine LeO.bind ?_ (fun _ => ?_))
   | exact ih0 _ _ _
   | exact laws_heldByteS.mono _ _ _
   | exact LeO.none _
   | refine LeO.ite ?_ ?_
   | refine LeO.bind ?_ (fun _ => ?_)
set_option maxHeartbeats 8000000 in
set_option maxRecDepth 100000 in
theorem laws_heldPackS.calls (k : Nat) (A0 : Option Addr) (c0 : Nat) (l0 : List (S74)) (a1 : Int) (r : Int) (w : World) (hr0 : Kd.C k74 w A0 l0.length l0) (hc0 : l0.length ≤ c0) (h : laws_heldPackS.f k l0 a1 = some r) :
  Calls Try.prog 60 #[.slice A0 l0.length c0, .int .i64 a1] w fun e w' => e = .returned (.int .i64 r) ∧ Drawn0 w w' := by
 have HR0 := Aside0.mk hr0
 have HC0 := Aside0.mk hc0
 clear hr0 hc0
 have H : (laws_heldPackS.l0 k l0 a1 0) = some r := h
 clear h
 have H' := Aside0.mk H
 clear H
 go_enter Try.func60, Try.ntmps60
 go_wp2
 go_loopg [1, 5] k (fun kq v1 v5 w' => ∃ (x1_1 : Int) (x5_1 : Int), v1 = .int .i64 x1_1 ∧ v5 = .int .i64 x5_1 ∧ Aside0 (laws_heldPackS.l0 kq l0 x1_1 x5_1 = some r) ∧ Aside0 (kq ≤ k) ∧ Drawn0 w w')
 case atStart => exact ⟨(a1), (0), eqq_, eqq_, H', ⟨Nat.le_refl _⟩, by repeat (first | exact Drawn0.refl _ | apply Drawn0.step)⟩
 case round =>
  clear H'
  try clear p2
  obtain ⟨x1_1, x5_1, rfl, rfl, HA, HK1, ⟨m1, rfl⟩⟩ := hrel
  cases gk with
  | zero => exact absurd HA.out (by simp [laws_heldPackS.l0])
  | succ k1 =>
   have H := HA.out
   clear HA
   simp only [laws_heldPackS.l0] at H
   by_cases c3 : x5_1 < (l0.length : Int)
   ·
    rw [if_pos c3] at H
    have c3b0 : decide (x5_1 < (l0.length : Int)) = true := decide_eq_true c3
    clear c3
    by_cases c4 : 0 ≤ x5_1
    ·
     rw [if_pos c4] at H
     have c4b0 : decide (0 ≤ x5_1) = true := decide_eq_true c4
     clear c4
     by_cases c5 : ((rd_T74 l0 x5_1).f0) = x1_1
     ·
      rw [if_pos c5] at H
      have c5b0 : (((rd_T74 l0 x5_1).f0) == x1_1) = true := beq_iff_eq.mpr c5
      have c5b1 : (((rd_T74 l0 x5_1).f0) != x1_1) = false := bne_eq_false_iff_eq.mpr c5
      clear c5
      obtain ⟨t137, A6, H⟩ := bd_ H
      have HC7 := Aside0.mk H
      clear H
      have p135 : 0 ≤ (x5_1 : Int) := od_
      have q135 : x5_1 < (l0.length : Int) := od_
      obtain ⟨ad135, A135_1, c135_1, e135, hx135_0, hx135_1, hl135_1, hi135_1⟩ := at_T74 HR0.out x5_1 p135 q135
      cases e135
      have HR135_1 := Aside0.mk hi135_1
      have HC135_1 := Aside0.mk hl135_1
      clear hi135_1 hl135_1
      replace p135 := eq_true p135
      replace q135 := eq_true q135
      have p136 : 0 ≤ (x5_1 : Int) := od_
      have q136 : x5_1 < (l0.length : Int) := od_
      obtain ⟨ad136, A136_1, c136_1, e136, hx136_0, hx136_1, hl136_1, hi136_1⟩ := at_T74 HR0.out x5_1 p136 q136
      obtain rfl : ad135 = ad136 := (by injection e136)
      have HR136_1 := Aside0.mk hi136_1
      have HC136_1 := Aside0.mk hl136_1
      clear hi136_1 hl136_1
      replace p136 := eq_true p136
      replace q136 := eq_true q136
      have ea_ := Option.some.inj (hx135_1.symm.trans hx136_1)
      injection ea_ with ea_ en_ ec_
      subst ea_
      subst ec_
      clear en_
      go_upto_if 29 with (first | ((with_reducible refine gate_callee (f := 99) rfl ?_); refine goesL_ (some 27) rfl rfl Try.func99 (by kernel_rfl) rfl #[.slice A135_1 ((rd_T74 l0 x5_1).f1).length c135_1, .int .i64 (wrap64 (x1_1 + 1))] rfl la_ ?_; (with_reducible refine (laws_heldByteS.calls k1 _ _ ((rd_T74 l0 x5_1).f1) (wrap64 (x1_1 + 1)) t137 _ ?side1 ?side2 A6.out).mono ?_); (case side1 => exact qC (HR136_1.out)); (case side2 => exact HC136_1.out); rintro e w' ⟨rfl, ⟨nd, rfl⟩⟩; refine ⟨_, rfl, ?_⟩))
      (try simp only [Act.put, List.setIfInBounds_toArray, List.set_cons_zero, List.set_cons_succ])
      have H := HC7.out
      clear HC7
      by_cases c8 : t137 < 0
      ·
       rw [if_pos c8] at H
       have c8b0 : decide (t137 < 0) = true := decide_eq_true c8
       clear c8
       (first | rw [c8b0] | (simp only [i64_w, i32_w]; rw [c8b0]) | skip)
       obtain rfl := Option.some.inj H
       go_wp2
       go_ret
       exact ⟨by first | rfl | (simp; done) | (simp [*]; done), by repeat (first | exact Drawn0.refl _ | apply Drawn0.step)⟩
      ·
       rw [if_neg c8] at H
       have c8b0 : decide (t137 < 0) = false := decide_eq_false c8
       clear c8
       (first | rw [c8b0] | (simp only [i64_w, i32_w]; rw [c8b0]) | skip)
       have H' := Aside0.mk H
       clear H
       go_wp2
       go_roundg k1
       case measure => have := HK1.out; omega
       case rel => exact ⟨(t137), (wrap64 (x5_1 + 1)), eqq_, eqq_, H', ⟨by have := HK1.out; omega⟩, by repeat (first | exact Drawn0.refl _ | apply Drawn0.step)⟩
     ·
      rw [if_neg c5] at H
      have c5b0 : (((rd_T74 l0 x5_1).f0) == x1_1) = false := beq_eq_false_iff_ne.mpr c5
      have c5b1 : (((rd_T74 l0 x5_1).f0) != x1_1) = true := bne_iff_ne.mpr c5
      obtain rfl := Option.some.inj H
      have p135 : 0 ≤ (x5_1 : Int) := od_
      have q135 : x5_1 < (l0.length : Int) := od_
      obtain ⟨ad135, A135_1, c135_1, e135, hx135_0, hx135_1, hl135_1, hi135_1⟩ := at_T74 HR0.out x5_1 p135 q135
      cases e135
      have HR135_1 := Aside0.mk hi135_1
      have HC135_1 := Aside0.mk hl135_1
      clear hi135_1 hl135_1
      replace p135 := eq_true p135
      replace q135 := eq_true q135
      go_wp2
      go_ret
      exact ⟨by first | rfl | (simp; done) | (simp [*]; done), by repeat (first | exact Drawn0.refl _ | apply Drawn0.step)⟩
    ·
     rw [if_neg c4] at H
     exact absurd H (by simp)
   ·
    rw [if_neg c3] at H
    have c3b0 : decide (x5_1 < (l0.length : Int)) = false := decide_eq_false c3
    clear c3
    obtain rfl := Option.some.inj H
    go_wp2
    go_ret
    exact ⟨by first | rfl | (simp; done) | (simp [*]; done), by repeat (first | exact Drawn0.refl _ | apply Drawn0.step)⟩

/-! ### spec_l12Pack: function 105 -/
def spec_l12Pack.f (a0_0 : Int) (l0_1 : List Int) : Option (Int × List Int) := (some (([] : List Int) : List Int)).bind fun y140 => (if y140.length + l0_1.length < 140737488355328 then (some (a0_0, (y140 ++ l0_1))) else (none))
def spec_l12Pack.T1 : Bool × List (List Nat × List Nat) := (true, [([], []), ([0], [0]), ([], []), ([], []), ([3], [3]), ([2, 4], [2, 4]), ([1, 5], [1, 5]), ([6, 5, 0, 1, 2, 3, 4, 5, 6], [6])])
def spec_l12Pack.B1 : List Nat := [0, 1, 0, 0, 8, 28, 63, 127]
theorem spec_l12Pack.tab1 : rtab .any (opsOf Try.f105 1) = spec_l12Pack.T1 := by kernel_rfl
theorem spec_l12Pack.bits1 : waitsOk spec_l12Pack.T1.2 spec_l12Pack.B1 = true := by kernel_rfl
set_option maxHeartbeats 8000000 in
set_option maxRecDepth 100000 in
theorem spec_l12Pack.calls (a0_0 : Int) (A0_1 : Option Addr) (c0_1 : Nat) (l0_1 : List Int) (r1 : Int) (r2 : List Int) (w : World) (hr0_1 : Kd.C (Kd.int .u8) w A0_1 l0_1.length l0_1) (hc0_1 : l0_1.length ≤ c0_1) (h : spec_l12Pack.f a0_0 l0_1 = some (r1, r2)) :
  Calls Try.prog 105 #[.agg #[.int .i64 a0_0, .slice A0_1 l0_1.length c0_1]] w fun e w' => ∃ v1_ : Value, e = .returned (.agg #[.int .i64 r1, v1_]) ∧ Kd.R (Kd.int .u8) 5 w' w.heap.size (fun _ => True) v1_ r2 ∧ Below w.heap.size w w' := by
 have hu74 := Try.underlying74
 have HR0_1 := Aside0.mk hr0_1
 have HC0_1 := Aside0.mk hc0_1
 clear hr0_1 hc0_1
 have HB := Aside0.mk (Below.refl w.heap.size w)
 have H : ((some (([] : List Int) : List Int)).bind fun y140 => (if y140.length + l0_1.length < 140737488355328 then (some (a0_0, (y140 ++ l0_1))) else (none))) = some (r1, r2) := h
 clear h
 obtain ⟨y140, hy140⟩ : ∃ y_ : List Int, y_ = (([] : List Int)) := ⟨_, rfl⟩
 replace H := mk_ H hy140
 (try dsimp only at H)
 have Ny140 := Aside0.mk hy140
 clear hy140
 by_cases c2 : y140.length + l0_1.length < 140737488355328
 ·
  rw [if_pos c2] at H
  have LMc2 := Aside0.mk c2
  clear c2
  obtain ⟨y143, hy143⟩ : ∃ y_ : List Int, y_ = (y140 ++ l0_1) := ⟨_, rfl⟩
  replace H : (some (a0_0, y143)) = some (r1, r2) := by first | (rw [hy143]; with_reducible exact H) | (have H2_ := (Option.bind_some _ _).symm.trans H; rw [hy143]; with_reducible exact H2_) | (have H2_ := (Option.bind_some _ _).symm.trans H; with_reducible exact H2_) | with_reducible exact H | (rw [hy143]; exact H) | exact H
  have Ny143 := Aside0.mk hy143
  clear hy143
  simp only [Option.some.injEq, Prod.mk.injEq] at H
  obtain ⟨rfl, rfl⟩ := H
  go_enter Try.func105, Try.ntmps105
  try go_wp2_with (first | ((with_reducible refine gate_dst (N := 1) rfl ?_); refine box_event ?hg (N := 1) ?hd (cs := #[.int .i64 a0_0, .slice A0_1 l0_1.length c0_1]) (t := 74) ?hr ?_; (case hd => rfl); (case hg => rfl); (case hr => first | (go_simp; done) | (go_simp; rfl)); intro gb138 hg w3 hbox hb; have BK138 := am_ (hbox); have GW138 := am_ ((gG_ hg (qB HB))); have IGW138 := gI_ GW138; have GE138 := am_ ((gG_ hg (qB HB))); have IGE138 := gI_ GE138; replace HB := am_ (below_step (qB HB) hb); clear hb hbox hg) | ((with_reducible refine gate_dst (N := 2) rfl ?_); refine box_event ?hg (N := 2) ?hd (cs := #[.int .i64 0, .slice none 0 0]) (t := 74) ?hr ?_; (case hd => rfl); (case hg => rfl); (case hr => first | (go_simp; done) | (go_simp; rfl)); intro gb139 hg w4 hbox hb; have BK139 := am_ (hbox); have GW139 := am_ ((gG_ hg (qB HB))); have IGW139 := gI_ GW139; have GE139 := am_ ((gG_ hg (qB HB))); have IGE139 := gI_ GE139; replace HB := am_ (below_step (qB HB) hb); have NB138_139 := am_ ((gN_ hg (qK BK138))); have NB139_138 := am_ ((gM_ hg (qK BK138))); replace BK138 := am_ (blk_below (qK BK138) hb); clear hb hbox hg))
  replace BK138 := am_ (blk_drew BK138.out)
  replace BK139 := am_ (blk_drew BK139.out)
  replace HB := am_ (below_drew1 HB.out)
  refine start_ (n := 8) (S := fun w' => w'.cell? ⟨gb138, 0, none⟩ = some (.int .i64 a0_0) ∧ w'.cell? ⟨gb138, 1, none⟩ = some (.slice A0_1 l0_1.length c0_1)) (ds := []) #[oo,oo,oo,oo,oo,oo,oo,oo] (by kernel_rfl) rfl rfl (cz2 BK138.out) (fun hHeld => ?_); refine with_tabW spec_l12Pack.tab1 spec_l12Pack.bits1 (fun HT_ HW_ => ?_)
  generalize w4.drew = w5 at BK138 BK139 HB hHeld ⊢
  refine pz_ (i := 0) (N := some 3) HT_ #[ii,oo,oo,oo,oo,oo,oo,oo] rfl rfl ?_
  refine pz_ (i := 3) (N := some 6) HT_ #[ii,oo,oo,ii,oo,oo,oo,oo] rfl rfl ?_
  refine take_ (i := 1) (N := some 4) (v := ?_) (a' := ?_) #[ii,ii,oo,ii,oo,oo,oo,oo] rfl rfl (take_ofW HT_.out HW_.out (by kernel_rfl)) (fun _ _ _ h => h) (Or.inl ⟨by rfl, ?_⟩) hHeld ?_ ?_
  rotate_left
  ·
   rintro w' ⟨s0, s1⟩
   go_simp
   with_reducible rfl
  rotate_left
  ·
   exact ap_
  refine take_ (i := 4) (N := some 7) (v := ?_) (a' := ?_) #[ii,ii,oo,ii,ii,oo,oo,oo] rfl rfl (take_ofW HT_.out HW_.out (by kernel_rfl)) (fun _ _ _ h => h) (Or.inl ⟨by rfl, ?_⟩) hHeld ?_ ?_
  rotate_left
  ·
   rintro w' ⟨s0, s1⟩
   go_simp
   with_reducible rfl
  rotate_left
  ·
   exact ap_
  refine one_ (i := 2) (N := some 5) #[ii,ii,ii,ii,ii,oo,oo,oo] rfl rfl (one_of HT_.out (by kernel_rfl)) (by decide) (fun K hK => ?_)
  refine Kd.R_lit_step (Kd.int .u8) _ 5 ?hg (N := 5) ?hd (xs := ([] : List Int)) (inner := []) (ok := fun _ => True) (okp := fun _ => True) ?hr ?hp (fun _ hk => hk) trivial (Below.refl _ _) (Nat.le_refl _) (by simp) ?_; (case hd => rfl); (case hg => rfl); (case hr => first | (go_simp; done) | (go_simp; rfl)); (case hp => exact (Reps.none _ _))
  intro v141 w6 ho7 hb hg_ hnew_
  clear hg_ hnew_
  (first | rw [← Ny140.out] at ho7 | (simp only [Int.reduceToNat] at ho7; rw [← Ny140.out] at ho7))
  have HO142 := am_ (Kd.R_lower ho7 (below_size (qB HB)))
  replace BK138 := am_ (blk_below (qK BK138) hb)
  replace BK139 := am_ (blk_below (qK BK139) hb)
  replace HB := am_ (below_step (qB HB) hb)
  clear hb ho7
  refine hK.out _ _ (cz2 BK138.out) (fun hHeld => ?_)
  clear hK K
  refine norm_ (a' := ?_) ?_ ?_
  rotate_left
  ·
   show Act.put _ (some 5) _ = _
   exact ap_
  refine one_ (i := 5) (N := some 8) #[ii,ii,ii,ii,ii,ii,oo,oo] rfl rfl (one_of HT_.out (by kernel_rfl)) (by decide) (fun K hK => ?_)
  refine Kd.R_append_rows_step (Kd.int .u8) (w0 := w) w.heap.size (by rfl) (.tmp 5) (.tmp 7) 22 5 (.int .u8 0) 1 rfl Try.underlying22 info5 rfl (by decide) (by omega) v141 y140 l0_1 _ _ _ (fun _ => True) (fun _ => False) rfl rfl ?aO ?aR (fun _ _ h => h) (fun _ h => h.elim) ?aF ?aB ?aS ?aL ?_
  (case aR => exact qC (Kd.C_below HR0_1.out HB.out))
  (case aB => exact (qB HB))
  (case aF => exact (fun _ _ => trivial))
  (case aO => exact (qR HO142))
  (case aS => exact (below_size (qB HB)))
  (case aL => have := LMc2.out; omega)
  intro v144 w8 ho hb hg hat
  rw [← Ny143.out] at ho
  replace BK138 := am_ (blk_grown (qK BK138) hg (Kd.R_ne HO142.out BK138.out (by decide)))
  replace BK139 := am_ (blk_grown (qK BK139) hg (Kd.R_ne HO142.out BK139.out (by decide)))
  replace HB := am_ (hb)
  have HO145 := am_ (ho)
  clear HO142
  clear ho hb hg hat
  obtain ⟨Ao9, co9, eo9⟩ := Kd.R_slice HO145.out
  (first | subst eo9 | (injection eo9 with f1_ f2_ f3_; have f4_ := f1_.symm; have f5_ := f3_.symm; clear f1_ f2_ f3_; subst f4_; subst f5_))
  refine hK.out _ _ (cz2 BK138.out) (fun hHeld => ?_)
  clear hK K
  refine norm_ (a' := ?_) ?_ ?_
  rotate_left
  ·
   show Act.put _ (some 8) _ = _
   exact ap_
  refine pz_ (i := 6) (N := some 9) HT_ #[ii,ii,ii,ii,ii,ii,ii,oo] rfl rfl ?_
  refine one_ (i := 7) (N := none) #[ii,ii,ii,ii,ii,ii,ii,ii] rfl rfl (one_of HT_.out (by kernel_rfl)) (by decide) (fun K hK => ?_)
  have hs10 : w8.cell? ⟨gb139, 0, none⟩ = some (.int .i64 0) := (blk_cell BK139.out 0).trans rfl
  have hfs10 := blk_frozen BK139.out 0
  have hns10_0 := NB138_139.out
  have hms10_0 := NB139_138.out
  have hs11 : w8.cell? ⟨gb139, 1, none⟩ = some (.slice none 0 0) := (blk_cell BK139.out 1).trans rfl
  have hfs11 := blk_frozen BK139.out 1
  have hns11_0 := NB138_139.out
  have hms11_0 := NB139_138.out
  refine skip_ (w1 := ?_) (by rfl) rfl ?_ ?_
  rotate_left
  ·
   go_simp
   rfl
  refine hK.out _ _ ⟨((cell_far (p := ⟨gb139, _, none⟩) NB138_139.out _).trans (((cell_far (p := ⟨gb139, _, none⟩) NB138_139.out _).trans (hHeld.1)))), ((cell_far (p := ⟨gb139, _, none⟩) NB138_139.out _).trans (((cell_far (p := ⟨gb139, _, none⟩) NB138_139.out _).trans (hHeld.2))))⟩ (fun hHeld => ?_)
  clear hK K
  refine done_ (done_of HT_.out (by kernel_rfl)) ?_
  try go_wp2
  refine bodyPost_ret (results_cell_row rfl _ _ gb139 74 #[.int .i64 a0_0, .slice Ao9 y143.length co9] (0, 0) _ rfl (by (with_reducible repeat (first | refine blk_drewN ?_ _ | refine blk_drew ?_ | refine blk_alloc ?_ _)); refine blk_put (cs := #[.int .i64 a0_0, .slice none 0 0]) ?_ 1 _ rfl; (with_reducible repeat (first | refine blk_drewN ?_ _ | refine blk_drew ?_ | refine blk_alloc ?_ _)); refine blk_put (cs := #[.int .i64 0, .slice none 0 0]) ?_ 0 _ rfl; (with_reducible repeat (first | refine blk_drewN ?_ _ | refine blk_drew ?_ | refine blk_alloc ?_ _)); exact BK139.out) Try.underlying74 rfl (by kernel_rfl)) rfl ?_
  exact ⟨_, by first | rfl | (simp [errW_none, errW_some] <;> rfl) | (simp [*, errW_none, errW_some] <;> rfl), by (with_reducible repeat (first | apply Kd.R_alloc | apply Kd.R_drewN | apply Kd.R_drew)); exact Kd.R_mono (Go.Proofs.YthmfmpmljndjhaaV.R_far2 (g := gb139) (Kd.R_types HO145.out BK139.out (by decide)) (fun _ hk => hk.2)) (fun _ hk => trivial), qB HB⟩
 ·
  rw [if_neg c2] at H
  exact absurd H (by simp)

end Go.Proofs.Ythmfmpmljndjhaa.PFnExactTakeOut
