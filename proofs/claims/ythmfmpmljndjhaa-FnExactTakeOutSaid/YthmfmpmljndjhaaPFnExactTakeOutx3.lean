-- Written by a program of this session (myprint.py, over the kit's print): contracts of FnExactTakeOut
import Derived.Test.YthmfmpmljndjhaaPFnExactTakeOutx0
import Derived.Test.YthmfmpmljndjhaaPFnExactTakeOutx2
namespace Go.Proofs.Ythmfmpmljndjhaa.PFnExactTakeOut
open Go.RowKit Go.Proofs.YthmfmpmljndjhaaW.PrintWords Go.Proofs.YthmfmpmljndjhaaW.PrintLast Go.Proofs.YthmfmpmljndjhaaW.PrintMore Go.Proofs.YthmfmpmljndjhaaV
attribute [local go_sem] max2_int min2_int max_two min_two max_three min_three max_four min_four   -- for this text's walks alone
set_option linter.unusedVariables false
set_option linter.unusedSimpArgs false

/-! ### spec_l12Copy: function 103 -/
def spec_l12Copy.l0 : Nat → List (S74) → List (S74) → Int → Option ((List (S74)))
 | 0, _, _, _ => none
 | k + 1, x0, x3, x4 => if x4 < (x0.length : Int) then (if 0 ≤ x4 then ((spec_l12Pack.f ((rd_T74 x0 x4).f0) ((rd_T74 x0 x4).f1)).bind fun bt150 => (if x3.length < 4398046511104 then (spec_l12Copy.l0 k x0 (x3 ++ [(⟨bt150.1, bt150.2⟩ : S74)]) (wrap64 (x4 + 1))) else (none))) else (none)) else (some x3)
def spec_l12Copy.f (k : Nat) (l0 : List (S74)) : Option ((List (S74))) := spec_l12Copy.l0 k l0 (([] : List (S74))) 0
theorem spec_l12Copy.mono_l : ∀ k, (∀ y0 y1 y2, LeO (spec_l12Copy.l0 k y0 y1 y2) (spec_l12Copy.l0 (k + 1) y0 y1 y2))
 | 0 => fun _ _ _ r h => by simp [spec_l12Copy.l0] at h
 | k + 1 => by
  have ih0 := spec_l12Copy.mono_l k
  ·
   intro y0 y1 y2
   unfold spec_l12Copy.l0
   repeat' first
   | (with_reducible exact ih0 _ _ _)
   | (with_reducible exact LeO.refl _)
   | (with_reducible exact LeO.none _)
   | (with_reducible refine LeO.ite ?_ ?_)
   | (with_reducible refine LeO.bind ?_ (fun _ => ?_))
   | exact ih0 _ _ _
   | exact LeO.none _
   | refine LeO.ite ?_ ?_
   | refine LeO.bind ?_ (fun _ => ?_)
theorem spec_l12Copy.mono : ∀ a0 k, LeO (spec_l12Copy.f k a0) (spec_l12Copy.f (k + 1) a0) := by
 intro a0 k
 have ih0 := spec_l12Copy.mono_l k
 unfold spec_l12Copy.f
 repeat' first
   | (with_reducible exact ih0 _ _ _)
   | (with_reducible exact LeO.refl _)
   | (with_reducible exact LeO.none _)
   | (with_reducible refine LeO.ite ?_ ?_)
   | (with_reducible refine LeO.bind ?_ (fun _ => ?_))
   | exact ih0 _ _ _
   | exact LeO.none _
   | refine LeO.ite ?_ ?_
   | refine LeO.bind ?_ (fun _ => ?_)
set_option maxHeartbeats 8000000 in
set_option maxRecDepth 100000 in
theorem spec_l12Copy.calls (k : Nat) (A0 : Option Addr) (c0 : Nat) (l0 : List (S74)) (r : List (S74)) (w : World) (hr0 : Kd.C k74 w A0 l0.length l0) (hc0 : l0.length ≤ c0) (h : spec_l12Copy.f k l0 = some r) :
  Calls Try.prog 103 #[.slice A0 l0.length c0] w fun e w' => ∃ v0_ : Value, e = .returned (v0_) ∧ Kd.S k74 74 w' w.heap.size (fun _ => True) v0_ r ∧ Below w.heap.size w w' := by
 have hu74 := Try.underlying74
 have HR0 := Aside0.mk hr0
 have HC0 := Aside0.mk hc0
 clear hr0 hc0
 have HB := Aside0.mk (Below.refl w.heap.size w)
 have H : (spec_l12Copy.l0 k l0 (([] : List (S74))) 0) = some r := h
 clear h
 obtain ⟨y146, hy146⟩ : ∃ y_ : List (S74), y_ = (([] : List (S74))) := ⟨_, rfl⟩
 rw [← hy146] at H
 have Ny146 := Aside0.mk hy146
 clear hy146
 have H' := Aside0.mk H
 clear H
 go_enter Try.func103, Try.ntmps103
 go_wp2_with (first | ((with_reducible refine gate_dst (N := 5) rfl ?_); refine Kd.S_lit k74 _ 74 ?hg (N := 5) ?hd (xs := ([] : List (S74))) (inner := []) (ok := fun _ => True) (okp := fun _ => True) ?hr ?hp (fun _ hk => hk) trivial (Below.refl _ _) (Nat.le_refl _) (by simp) ?_; (case hd => rfl); (case hg => rfl); (case hr => first | (go_simp; done) | (go_simp; rfl)); (case hp => exact (Reps.none _ _)); intro v147 w2 ho3 hb hg_ hnew_; clear hg_ hnew_; (first | rw [← Ny146.out] at ho3 | (simp only [Int.reduceToNat] at ho3; rw [← Ny146.out] at ho3)); have HO148 := am_ (Kd.S_lower ho3 (below_size (qB HB))); replace HB := am_ (below_step (qB HB) hb); clear hb ho3))
 go_loopg [3, 4] k (fun kq v3 v4 w' => ∃ (x3_1 : List (S74)) (x4_1 : Int), v4 = .int .i64 x4_1 ∧ Aside0 (spec_l12Copy.l0 kq l0 x3_1 x4_1 = some r) ∧ Aside0 (kq ≤ k) ∧ Aside0 (Kd.S k74 74 w' w.heap.size (fun _ => True) v3 x3_1) ∧ Aside0 (Below w.heap.size w w'))
 case atStart => exact ⟨(y146), (0), eqq_, H', ⟨Nat.le_refl _⟩, ⟨qS HO148⟩, ⟨qB HB⟩⟩
 case round =>
  clear H'
  try clear c1
  try clear p2
  obtain ⟨x3_1, x4_1, rfl, HA, HK1, HO_3, HB⟩ := hrel
  cases gk with
  | zero => exact absurd HA.out (by simp [spec_l12Copy.l0])
  | succ k1 =>
   have H := HA.out
   clear HA
   simp only [spec_l12Copy.l0] at H
   by_cases c4 : x4_1 < (l0.length : Int)
   ·
    rw [if_pos c4] at H
    have c4b0 : decide (x4_1 < (l0.length : Int)) = true := decide_eq_true c4
    clear c4
    by_cases c5 : 0 ≤ x4_1
    ·
     rw [if_pos c5] at H
     have c5b0 : decide (0 ≤ x4_1) = true := decide_eq_true c5
     clear c5
     obtain ⟨⟨t150, t151⟩, A6, H⟩ := bd_ H
     (try dsimp only at H)
     by_cases c7 : x3_1.length < 4398046511104
     ·
      rw [if_pos c7] at H
      have LMc7 := Aside0.mk c7
      clear c7
      obtain ⟨y154, hy154⟩ : ∃ y_ : List (S74), y_ = (x3_1 ++ [(⟨t150, t151⟩ : S74)]) := ⟨_, rfl⟩
      rw [← hy154] at H
      have Ny154 := Aside0.mk hy154
      clear hy154
      have H' := Aside0.mk H
      clear H
      have p149 : 0 ≤ (x4_1 : Int) := od_
      have q149 : x4_1 < (l0.length : Int) := od_
      obtain ⟨ad149, A149_1, c149_1, e149, hx149_0, hx149_1, hl149_1, hi149_1⟩ := at_T74 HR0.out x4_1 p149 q149
      cases e149
      replace hx149_0 := lb_ HB hx149_0
      replace hx149_1 := lb_ HB hx149_1
      have HR149_1 := Aside0.mk hi149_1
      have HC149_1 := Aside0.mk hl149_1
      clear hi149_1 hl149_1
      replace p149 := eq_true p149
      replace q149 := eq_true q149
      go_wp2_with (first | ((with_reducible refine gate_callee (f := 105) rfl ?_); refine goesL_ (some 17) rfl rfl Try.func105 (by kernel_rfl) rfl #[.agg #[.int .i64 ((rd_T74 l0 x4_1).f0), .slice A149_1 ((rd_T74 l0 x4_1).f1).length c149_1]] rfl la_ ?_; (with_reducible refine (spec_l12Pack.calls ((rd_T74 l0 x4_1).f0) _ _ ((rd_T74 l0 x4_1).f1) t150 t151 _ ?side1 ?side2 A6.out).mono ?_); (case side1 => exact qC (Kd.C_below HR149_1.out HB.out)); (case side2 => exact HC149_1.out); rintro e w8 ⟨v152, rfl, ho0, hb⟩; refine ⟨_, rfl, ?_⟩; replace HO_3 := am_ (Kd.S_elder' (qS HO_3) (Kd.R_base ho0) hb); have HO153 := am_ (Kd.R_lower ho0 (below_size (qB HB))); replace HB := am_ (below_step (qB HB) hb); (try clear hb); (try clear hb2); (try clear hk); (try clear hi); (try clear ho0); obtain ⟨Ao10, co10, eo10⟩ := Kd.R_slice HO153.out; subst eo10) | ((with_reducible refine gate_builtin (b := .append) (xs := #[.tmp 12, .tmp 18]) rfl ?_); at_builtin; refine Kd.S_append k74 (w0 := w) w.heap.size rfl (.tmp 12) (.tmp 18) 66 74 (.agg #[(.int .i64 0), (.slice none 0 0)]) 32 rfl Try.underlying66 info74 rfl (by decide) (by omega) u3 x3_1 (⟨t150, t151⟩ : S74) [.int .i64 t150, .slice Ao10 t151.length co10] (fun _ => True) (fun k_ => some k_ = (.slice Ao10 t151.length co10 : Value).ownBlock) rfl rfl ?aP (fun k_ hk_ => ((Kd.R_mono (ok' := fun k_ => ((fun _ => True)) k_ ∧ some k_ ≠ (u3 : Value).ownBlock) (Kd.R_apart' (HO153.out) (Kd.S_typed HO_3.out) (by decide)) (fun k_ hk => ⟨trivial, hk.2⟩))).1 k_ hk_.symm) ?aF ?aO ?aB ?aS ?aL ?_; (case aP => exact k74_mkM _ _ _ (⟨t150, t151⟩ : S74) (Kd.R_mono (Kd.R_tight rfl (Kd.R_mono (ok' := fun k_ => ((fun _ => True)) k_ ∧ some k_ ≠ (u3 : Value).ownBlock) (Kd.R_apart' (HO153.out) (Kd.S_typed HO_3.out) (by decide)) (fun k_ hk => ⟨trivial, hk.2⟩))) (fun _ h_ => h_))); (case aB => exact (qB HB)); (case aF => exact (fun _ _ => trivial)); (case aO => exact (tS (Kd.S_mono HO_3.out (fun k_ hk => ⟨trivial, fun e_ => hk.2 e_⟩)))); (case aS => exact (below_size (qB HB))); (case aL => have := LMc7.out; omega); intro v155 w9 ho hb hg hat; rw [← Ny154.out] at ho; replace HB := am_ (hb); have HO156 := am_ (ho); clear HO_3 HO153; clear ho hb hg hat))
      go_roundg k1
      case measure => have := HK1.out; omega
      case rel => exact ⟨(y154), (wrap64 (x4_1 + 1)), eqq_, H', ⟨by have := HK1.out; omega⟩, ⟨qS HO156⟩, ⟨qB HB⟩⟩
     ·
      rw [if_neg c7] at H
      exact absurd H (by simp)
    ·
     rw [if_neg c5] at H
     exact absurd H (by simp)
   ·
    rw [if_neg c4] at H
    have c4b0 : decide (x4_1 < (l0.length : Int)) = false := decide_eq_false c4
    clear c4
    obtain rfl := Option.some.inj H
    go_wp2
    go_ret
    exact ⟨_, by first | rfl | (simp [errW_none, errW_some] <;> rfl) | (simp [*, errW_none, errW_some] <;> rfl), qS HO_3, qB HB⟩

/-! ### spec_TakeOut: function 61 -/
def spec_TakeOut.j0 : Nat → List (S74) → Int → Bool → Option ((List (S74)) × Int × List Int × Bool)
 | 0, _, _, _ => none
 | k + 1, x0, x1, x15 => if x15 = true then ((spec_l12Copy.f k x0).bind fun t158 => (some (t158, 0, ([] : List Int), false))) else (if (x0.length : Int) = 0 then (none) else (if 0 ≤ (Int.tmod x1 (x0.length : Int)) then (if (Int.tmod x1 (x0.length : Int)) ≤ (x0.length : Int) then ((spec_l12Copy.f k (x0.take ((Int.tmod x1 (x0.length : Int)) : Int).toNat)).bind fun t165 => (if 0 ≤ (wrap64 ((Int.tmod x1 (x0.length : Int)) + 1)) then (if (wrap64 ((Int.tmod x1 (x0.length : Int)) + 1)) ≤ (x0.length : Int) then ((spec_l12Copy.f k (x0.drop ((wrap64 ((Int.tmod x1 (x0.length : Int)) + 1)) : Int).toNat)).bind fun t172 => (if t165.length + t172.length < 4398046511104 then (if (Int.tmod x1 (x0.length : Int)) < (x0.length : Int) then ((spec_l12Pack.f ((rd_T74 x0 (Int.tmod x1 (x0.length : Int))).f0) ((rd_T74 x0 (Int.tmod x1 (x0.length : Int))).f1)).bind fun bt179 => (some ((t165 ++ t172), bt179.1, bt179.2, true))) else (none)) else (none))) else (none)) else (none))) else (none)) else (none)))
def spec_TakeOut.f (k : Nat) (l0 : List (S74)) (a1 : Int) : Option ((List (S74)) × Int × List Int × Bool) := if (l0.length : Int) = 0 then (spec_TakeOut.j0 k l0 a1 true) else (spec_TakeOut.j0 k l0 a1 (decide (a1 < 0)))
theorem spec_TakeOut.mono_l : ∀ k, (∀ y0 y1 y2, LeO (spec_TakeOut.j0 k y0 y1 y2) (spec_TakeOut.j0 (k + 1) y0 y1 y2))
 | 0 => fun _ _ _ r h => by simp [spec_TakeOut.j0] at h
 | k + 1 => by
  have ih0 := spec_TakeOut.mono_l k
  ·
   intro y0 y1 y2
   unfold spec_TakeOut.j0
   repeat' first
   | (with_reducible exact ih0 _ _ _)
   | (with_reducible exact spec_l12Copy.mono _ _)
   | (with_reducible exact LeO.refl _)
   | (with_reducible exact LeO.none _)
   | (with_reducible refine LeO.ite ?_ ?_)
   | (with_reducible refine LeO.bind ?_ (fun _ => ?_))
   | exact ih0 _ _ _
   | exact spec_l12Copy.mono _ _
   | exact LeO.none _
   | refine LeO.ite ?_ ?_
   | refine LeO.bind ?_ (fun _ => ?_)
theorem spec_TakeOut.mono : ∀ a0 a1 k, LeO (spec_TakeOut.f k a0 a1) (spec_TakeOut.f (k + 1) a0 a1) := by
 intro a0 a1 k
 have ih0 := spec_TakeOut.mono_l k
 unfold spec_TakeOut.f
 repeat' first
   | (with_reducible exact ih0 _ _ _)
   | (with_reducible exact spec_l12Copy.mono _ _)
   | (with_reducible exact LeO.refl _)
   | (with_reducible exact LeO.none _)
   | (with_reducible refine LeO.ite ?_ ?_)
   | (with_reducible refine LeO.bind ?_ (fun _ => ?_))
   | exact ih0 _ _ _
   | exact spec_l12Copy.mono _ _
   | exact LeO.none _
   | refine LeO.ite ?_ ?_
   | refine LeO.bind ?_ (fun _ => ?_)
def spec_TakeOut.T5 : Bool × List (List Nat × List Nat) := (true, [([], []), ([], []), ([], []), ([2], [2]), ([1, 3], [1, 3]), ([4], [4]), ([0, 5, 5], [0, 5]), ([], []), ([], []), ([7, 8], [7, 8]), ([9], [9]), ([10, 6], [10]), ([6, 11, 0, 1, 2, 3, 4, 5, 6], [6]), ([11, 12, 0, 1, 2, 3, 4, 5, 6, 7, 8, 9, 10, 11, 12], [11]), ([13, 0, 1, 2, 3, 4, 5, 6, 7, 8, 9, 10, 11, 12, 13], [])])
def spec_TakeOut.B5 : List Nat := [0, 0, 0, 4, 14, 30, 63, 0, 0, 384, 896, 2047, 4095, 8191, 16383]
theorem spec_TakeOut.tab5 : rtab .any (opsOf Try.f61 5) = spec_TakeOut.T5 := by kernel_rfl
theorem spec_TakeOut.bits5 : waitsOk spec_TakeOut.T5.2 spec_TakeOut.B5 = true := by kernel_rfl
set_option maxHeartbeats 8000000 in
set_option maxRecDepth 100000 in
theorem spec_TakeOut.calls (k : Nat) (A0 : Option Addr) (c0 : Nat) (l0 : List (S74)) (a1 : Int) (r1 : List (S74)) (r2 : Int) (r3 : List Int) (r4 : Bool) (w : World) (hr0 : Kd.C k74 w A0 l0.length l0) (hc0 : l0.length ≤ c0) (h : spec_TakeOut.f k l0 a1 = some (r1, r2, r3, r4)) :
  Calls Try.prog 61 #[.slice A0 l0.length c0, .int .i64 a1] w fun e w' => ∃ v0_ v2_ : Value, e = .returned (.tuple #[v0_, .agg #[.int .i64 r2, v2_], .bool r4]) ∧ Kd.N k74 74 w' w.heap.size (fun k_ => (w.heap.size ≤ k_) ∧ some k_ ≠ (v2_ : Value).ownBlock) v0_ r1 ∧ Kd.R (Kd.int .u8) 5 w' w.heap.size (fun k_ => (w.heap.size ≤ k_)) v2_ r3 ∧ Below w.heap.size w w' := by
 have hu74 := Try.underlying74
 have HR0 := Aside0.mk hr0
 have HC0 := Aside0.mk hc0
 clear hr0 hc0
 have HB := Aside0.mk (Below.refl w.heap.size w)
 have H : (if (l0.length : Int) = 0 then (spec_TakeOut.j0 k l0 a1 true) else (spec_TakeOut.j0 k l0 a1 (decide (a1 < 0)))) = some (r1, r2, r3, r4) := h
 clear h
 have HC3 := Aside0.mk H
 clear H
 go_enter Try.func61, Try.ntmps61
 go_upto_region 1 with (first | ((with_reducible refine gate_dst (N := 5) rfl ?_); refine box_event ?hg (N := 5) ?hd (cs := #[.int .i64 0, .slice none 0 0]) (t := 74) ?hr ?_; (case hd => rfl); (case hg => rfl); (case hr => first | (go_simp; done) | (go_simp; rfl)); intro gb157 hg w4 hbox hb; have BK157 := am_ (hbox); have GW157 := am_ ((gG_ hg (qB HB))); have IGW157 := gI_ GW157; have GE157 := am_ ((gG_ hg (qB HB))); have IGE157 := gI_ GE157; replace HB := am_ (below_step (qB HB) hb); clear hb hbox hg))
 (try simp only [Act.put, List.setIfInBounds_toArray, List.set_cons_zero, List.set_cons_succ])
 go_cut [15] (fun v15 wc => ∃ (kq : Nat) (x15_2 : Bool), v15 = .bool x15_2 ∧ Aside0 (spec_TakeOut.j0 kq l0 a1 x15_2 = some (r1, r2, r3, r4)) ∧ Aside0 (kq ≤ k) ∧ Aside0 (wc.heap[gb157]? = some (.cells #[.int .i64 0, (.slice none 0 0)] 74 (0, 0))) ∧ Aside0 (Below w.heap.size w wc))
 case first =>
  have H := HC3.out
  clear HC3
  by_cases c5 : (l0.length : Int) = 0
  ·
   rw [if_pos c5] at H
   have c5b0 : ((l0.length : Int) == 0) = true := beq_iff_eq.mpr c5
   have c5b1 : ((l0.length : Int) != 0) = false := bne_eq_false_iff_eq.mpr c5
   clear c5
   (first | rw [c5b0] | rw [c5b1] | (simp only [i64_w, i32_w]; rw [c5b0]) | skip)
   have H' := Aside0.mk H
   clear H
   go_wp2
   go_meet
   case rel => exact ⟨_, (true), eqq_, H', ⟨by first | omega | exact Nat.le_refl _⟩, ⟨qK BK157⟩, ⟨qB HB⟩⟩
  ·
   rw [if_neg c5] at H
   have c5b0 : ((l0.length : Int) == 0) = false := beq_eq_false_iff_ne.mpr c5
   have c5b1 : ((l0.length : Int) != 0) = true := bne_iff_ne.mpr c5
   have c5b2 : ¬ (l0 = []) := fun h_ => c5 (by rw [h_]; rfl)
   (first | rw [c5b0] | rw [c5b1] | rw [c5b2] | (simp only [i64_w, i32_w]; rw [c5b0]) | skip)
   have H' := Aside0.mk H
   clear H
   go_wp2
   go_meet
   case rel => exact ⟨_, (decide (a1 < 0)), eqq_, H', ⟨by first | omega | exact Nat.le_refl _⟩, ⟨qK BK157⟩, ⟨qB HB⟩⟩
 case rest =>
  clear HC3
  try clear p2
  try clear c5
  try clear c5b0
  try clear c5b1
  try clear c5b2
  obtain ⟨kq, x15_2, rfl, HA, HJ2, BK157, HB⟩ := hcut
  cases kq with
  | zero => exact absurd HA.out (by simp [spec_TakeOut.j0])
  | succ kj2 =>
   have H := HA.out
   clear HA
   simp only [spec_TakeOut.j0] at H
   by_cases c6 : x15_2 = true
   ·
    subst c6
    rw [if_pos rfl] at H
    obtain ⟨t158, A7, H⟩ := bd_ H
    simp only [Option.some.injEq, Prod.mk.injEq] at H
    obtain ⟨rfl, rfl, rfl, rfl⟩ := H
    go_wp2_with (first | ((with_reducible refine gate_callee (f := 103) rfl ?_); refine goesL_ (some 17) rfl rfl Try.func103 (by kernel_rfl) rfl #[.slice A0 l0.length c0] rfl la_ ?_; (with_reducible refine (spec_l12Copy.calls kj2 _ _ l0 t158 _ ?side1 ?side2 A7.out).mono ?_); (case side1 => exact qC (Kd.C_below HR0.out HB.out)); (case side2 => exact HC0.out); rintro e w8 ⟨v159, rfl, ho0, hb⟩; refine ⟨_, rfl, ?_⟩; have HO160 := am_ (Kd.N_lower (Kd.N_mono (ok' := fun k_ => (w.heap.size ≤ k_) ∧ k_ ≠ gb157) (Kd.S_N (Kd.S_bound ho0)) (fun k_ hk_ => ⟨(Nat.le_trans (below_size (qB HB)) hk_.2.1), (Kd.freshB (qK BK157) k_ hk_.2.1)⟩)) (below_size (qB HB))); replace BK157 := am_ (blk_below (qK BK157) hb); replace HB := am_ (below_step (qB HB) hb); (try clear hb); (try clear hb2); (try clear hk); (try clear hi); (try clear ho0); obtain ⟨z9_0, z9_1⟩ := cz2 BK157.out; obtain ⟨f9_0, f9_1⟩ := fz2 BK157.out))
    refine bodyPost_ret (results_list (rs := [.tmp 4, .cell 5 74, .tmp 6]) rfl (by simp) (.tmp (.cell gb157 74 #[.int .i64 0, .slice none 0 0] (0, 0) _ rfl (by (with_reducible repeat (first | refine blk_drewN ?_ _ | refine blk_drew ?_ | refine blk_alloc ?_ _)); refine blk_put (cs := #[.int .i64 0, .slice none 0 0]) ?_ 1 _ rfl; (with_reducible repeat (first | refine blk_drewN ?_ _ | refine blk_drew ?_ | refine blk_alloc ?_ _)); refine blk_put (cs := #[.int .i64 0, .slice none 0 0]) ?_ 0 _ rfl; (with_reducible repeat (first | refine blk_drewN ?_ _ | refine blk_drew ?_ | refine blk_alloc ?_ _)); exact BK157.out) Try.underlying74 rfl (by kernel_rfl) (.tmp .nil)))) rfl ?_
    exact ⟨_, _, by first | rfl | (simp [errW_none, errW_some] <;> rfl) | (simp [*, errW_none, errW_some] <;> rfl), by (with_reducible repeat (first | apply Kd.N_alloc | apply Kd.N_drewN | apply Kd.N_drew)); exact Kd.N_mono (Kd.N_far (p := ⟨gb157, 1, none⟩) (Kd.N_far (p := ⟨gb157, 0, none⟩) (Kd.N_mono HO160.out (fun k_ hk => (⟨hk, hk.2⟩ : _ ∧ k_ ≠ gb157))) (fun _ hk => hk.2) (.int .i64 0)) (fun _ hk => hk.2) (.slice none 0 0)) (fun _ hk => ⟨hk.1.1, (by simp [Value.ownBlock])⟩), by first | exact Kd.R_nil _ _ _ _ _ | exact Kd.N_nil _ _ _ _ _ | exact Kd.V_nil _ _ _ _ _ | exact Kd.Q_nil _ _ _ _ _ | exact Kd.S_nil _ _ _ _ _, qB HB⟩
   ·
    replace c6 := Bool.eq_false_iff.mpr c6
    subst c6
    rw [if_neg (show ¬ (false = true) by decide)] at H
    by_cases c10 : (l0.length : Int) = 0
    ·
     rw [if_pos c10] at H
     exact absurd H (by simp)
    ·
     rw [if_neg c10] at H
     have c10b0 : ((l0.length : Int) == 0) = false := beq_eq_false_iff_ne.mpr c10
     have c10b1 : ((l0.length : Int) != 0) = true := bne_iff_ne.mpr c10
     have c10b2 : ¬ (l0 = []) := fun h_ => c10 (by rw [h_]; rfl)
     obtain ⟨ji11, hji11⟩ : ∃ j_ : Int, (Int.tmod a1 (l0.length : Int)) = j_ := ⟨_, rfl⟩
     replace H : (if 0 ≤ (ji11) then (if (ji11) ≤ (l0.length : Int) then ((spec_l12Copy.f kj2 (l0.take ((ji11) : Int).toNat)).bind fun t165 => (if 0 ≤ (wrap64 ((ji11) + 1)) then (if (wrap64 ((ji11) + 1)) ≤ (l0.length : Int) then ((spec_l12Copy.f kj2 (l0.drop ((wrap64 ((ji11) + 1)) : Int).toNat)).bind fun t172 => (if t165.length + t172.length < 4398046511104 then (if (ji11) < (l0.length : Int) then ((spec_l12Pack.f ((rd_T74 l0 (ji11)).f0) ((rd_T74 l0 (ji11)).f1)).bind fun bt179 => (some ((t165 ++ t172), bt179.1, bt179.2, true))) else (none)) else (none))) else (none)) else (none))) else (none)) else (none)) = some (r1, r2, r3, r4) := by first | (rw [hji11] at H; exact H) | (simp only [hji11] at H ⊢; exact H)
     by_cases c12 : 0 ≤ (ji11)
     ·
      rw [if_pos c12] at H
      have c12b0 := eq_true c12
      have c12b1 : decide (0 ≤ (ji11)) = true := decide_eq_true c12
      clear c12
      by_cases c13 : (ji11) ≤ (l0.length : Int)
      ·
       rw [if_pos c13] at H
       have c13b0 := eq_true c13
       have c13b1 : decide ((ji11) ≤ (l0.length : Int)) = true := decide_eq_true c13
       clear c13
       obtain ⟨y161, hy161⟩ : ∃ y_ : List (S74), y_ = (l0.take ((ji11) : Int).toNat) := ⟨_, rfl⟩
       rw [← hy161] at H
       have Ny161 := Aside0.mk hy161
       clear hy161
       obtain ⟨t165, A14, H⟩ := bd_ H
       obtain ⟨ji15, hji15⟩ : ∃ j_ : Int, (wrap64 ((ji11) + 1)) = j_ := ⟨_, rfl⟩
       replace H : (if 0 ≤ (ji15) then (if (ji15) ≤ (l0.length : Int) then ((spec_l12Copy.f kj2 (l0.drop ((ji15) : Int).toNat)).bind fun t172 => (if t165.length + t172.length < 4398046511104 then (if (ji11) < (l0.length : Int) then ((spec_l12Pack.f ((rd_T74 l0 (ji11)).f0) ((rd_T74 l0 (ji11)).f1)).bind fun bt179 => (some ((t165 ++ t172), bt179.1, bt179.2, true))) else (none)) else (none))) else (none)) else (none)) = some (r1, r2, r3, r4) := by first | (rw [hji15] at H; exact H) | (simp only [hji15] at H ⊢; exact H)
       (try rw [hji15] at A14)
       have hji15w : (IntKind.i64.wrap ((ji11) + 1)) = ji15 := (i64_w _).trans hji15
       by_cases c16 : 0 ≤ (ji15)
       ·
        rw [if_pos c16] at H
        have c16b0 := eq_true c16
        have c16b1 : decide (0 ≤ (ji15)) = true := decide_eq_true c16
        clear c16
        by_cases c17 : (ji15) ≤ (l0.length : Int)
        ·
         rw [if_pos c17] at H
         have c17b0 := eq_true c17
         have c17b1 : decide ((ji15) ≤ (l0.length : Int)) = true := decide_eq_true c17
         clear c17
         obtain ⟨y168, hy168⟩ : ∃ y_ : List (S74), y_ = (l0.drop ((ji15) : Int).toNat) := ⟨_, rfl⟩
         rw [← hy168] at H
         have Ny168 := Aside0.mk hy168
         clear hy168
         obtain ⟨t172, A18, H⟩ := bd_ H
         by_cases c19 : t165.length + t172.length < 4398046511104
         ·
          rw [if_pos c19] at H
          have LMc19 := Aside0.mk c19
          clear c19
          obtain ⟨y175, hy175⟩ : ∃ y_ : List (S74), y_ = (t165 ++ t172) := ⟨_, rfl⟩
          replace H : (if (ji11) < (l0.length : Int) then ((spec_l12Pack.f ((rd_T74 l0 (ji11)).f0) ((rd_T74 l0 (ji11)).f1)).bind fun bt179 => (some (y175, bt179.1, bt179.2, true))) else (none)) = some (r1, r2, r3, r4) := by first | (rw [hy175]; with_reducible exact H) | (have H2_ := (Option.bind_some _ _).symm.trans H; rw [hy175]; with_reducible exact H2_) | (have H2_ := (Option.bind_some _ _).symm.trans H; with_reducible exact H2_) | with_reducible exact H | (rw [hy175]; exact H) | exact H
          have Ny175 := Aside0.mk hy175
          clear hy175
          by_cases c20 : (ji11) < (l0.length : Int)
          ·
           rw [if_pos c20] at H
           have c20b0 : decide ((ji11) < (l0.length : Int)) = true := decide_eq_true c20
           clear c20
           obtain ⟨⟨t179, t180⟩, A21, H⟩ := bd_ H
           (try dsimp only at H)
           simp only [Option.some.injEq, Prod.mk.injEq] at H
           obtain ⟨rfl, rfl, rfl, rfl⟩ := H
           have q22 : ((ji11) : Int) ≤ ((l0.length : Int) : Int) := od_
           obtain ⟨i022, hi022, _, hsz22, _⟩ := info_parts info74
           have hroom22 : l0.length ≤ c0 := HC0.out
           have hC22 : Kd.C k74 _ A0 l0.length l0 := HR0.out
           have hcut22 := cut_to (P := Try.prog) 66 74 .i64 Try.underlying66 hi022 A0 l0.length c0 (ji11) od_ q22 hroom22
           have hr22 := Kd.C_take (m := ((ji11) : Int).toNat) hC22 (by omega)
           have hy22 : y161.length = ((ji11) : Int).toNat := (by rw [Ny161.out, List.length_take]; omega)
           rw [← Ny161.out] at hr22
           rw [← hy22] at hcut22
           have HR164 := Aside0.mk hr22
           have HC164 := Aside0.mk (show y161.length ≤ c0 from by omega)
           clear hr22 hC22 hroom22 hi022 hsz22
           have KY22 := Aside0.mk hy22
           clear hy22
           replace q22 := eq_true q22
           try go_wp2_with (first | ((with_reducible refine gate_callee (f := 103) rfl ?_); refine goesL_ (some 26) rfl rfl Try.func103 (by kernel_rfl) rfl #[.slice A0 y161.length c0] rfl la_ ?_; (with_reducible refine (spec_l12Copy.calls kj2 _ _ y161 t165 _ ?side1 ?side2 A14.out).mono ?_); (case side1 => exact qC (Kd.C_below HR164.out HB.out)); (case side2 => exact HC164.out); rintro e w23 ⟨v166, rfl, ho0, hb⟩; refine ⟨_, rfl, ?_⟩; have HO167 := am_ (Kd.N_lower (Kd.N_mono (ok' := fun k_ => (w.heap.size ≤ k_) ∧ k_ ≠ gb157) (Kd.S_N (Kd.S_bound ho0)) (fun k_ hk_ => ⟨(Nat.le_trans (below_size (qB HB)) hk_.2.1), (Kd.freshB (qK BK157) k_ hk_.2.1)⟩)) (below_size (qB HB))); replace BK157 := am_ (blk_below (qK BK157) hb); replace HB := am_ (below_step (qB HB) hb); (try clear hb); (try clear hb2); (try clear hk); (try clear hi); (try clear ho0)))
           replace HO167 := am_ (Kd.N_drew HO167.out)
           replace BK157 := am_ (blk_drew BK157.out)
           replace HB := am_ (below_drew1 HB.out)
           have q25 : ((ji15) : Int) ≤ ((l0.length : Int) : Int) := od_
           obtain ⟨i025, hi025, _, hsz25, _⟩ := info_parts info74
           have hroom25 : l0.length ≤ c0 := HC0.out
           have hC25 : Kd.C k74 _ A0 l0.length l0 := HR0.out
           have q025 : (0 : Int) ≤ ((ji15) : Int) := od_
           have hcut25 := cut_from (P := Try.prog) 66 74 .i64 Try.underlying66 hi025 2 hsz25 A0 l0.length c0 (ji15) q025 q25
           have hr25 := Kd.C_drop (m := ((ji15) : Int).toNat) (c := c0) hC25 (by omega) hroom25
           obtain ⟨A25, hA25⟩ : ∃ A1, A1 = (if c0 = ((ji15) : Int).toNat then A0 else (A0 : Option Addr).map (·.add (((ji15) : Int).toNat * 2))) := ⟨_, rfl⟩
           obtain ⟨c25, hc25⟩ : ∃ c1, c1 = c0 - ((ji15) : Int).toNat := ⟨_, rfl⟩
           have hy25 : y168.length = l0.length - ((ji15) : Int).toNat := (by rw [Ny168.out, List.length_drop] <;> omega)
           rw [show (l0).drop ((ji15) : Int).toNat = y168 from Ny168.out.symm] at hr25
           replace hr25 : Kd.C k74 _ A25 y168.length y168 := (by rw [hA25]; exact hr25)
           rw [← hy25, ← hA25, ← hc25] at hcut25
           have HR171 := Aside0.mk hr25
           have HC171 := Aside0.mk (show y168.length ≤ c25 from by rw [hy25, hc25]; exact Nat.sub_le_sub_right hroom25 _)
           clear hr25 hC25 hroom25 hi025 hsz25 hc25
           have KY25 := Aside0.mk hy25
           have KA25 := Aside0.mk hA25
           clear hy25 hA25
           replace q25 := eq_true q25
           have p178 : 0 ≤ ((ji11) : Int) := od_
           have q178 : (ji11) < (l0.length : Int) := od_
           obtain ⟨ad178, A178_1, c178_1, e178, hx178_0, hx178_1, hl178_1, hi178_1⟩ := at_T74 HR0.out (ji11) p178 q178
           have hw178_1 := hx178_1
           have hw178_0 := hx178_0
           cases e178
           replace hx178_0 := lb_ HB hx178_0
           replace hx178_1 := lb_ HB hx178_1
           have HR178_1 := Aside0.mk hi178_1
           have HC178_1 := Aside0.mk hl178_1
           clear hi178_1 hl178_1
           replace p178 := eq_true p178
           replace q178 := eq_true q178
           refine start_ (n := 15) (S := fun w' => w'.cell? (ad178.add (((ji11)).toNat * 2)) = some (.int .i64 ((rd_T74 l0 (ji11)).f0)) ∧ w'.cell? ⟨(ad178.add (((ji11)).toNat * 2)).block, (ad178.add (((ji11)).toNat * 2)).off + 1, none⟩ = some (.slice A178_1 ((rd_T74 l0 (ji11)).f1).length c178_1)) (ds := []) (rl [0,15]) (by kernel_rfl) rfl rfl ⟨(lb_ HB hw178_0 :), (lb_ HB hw178_1 :)⟩ (fun hHeld => ?_); refine with_tabW spec_TakeOut.tab5 spec_TakeOut.bits5 (fun HT_ HW_ => ?_)
           generalize w23.drew = w24 at HO167 BK157 HB HR171 HR178_1 hx178_0 hx178_1 hHeld ⊢
           refine pz_ (i := 0) (N := some 27) HT_ (rl [1,14]) rfl rfl ?_
           refine pz_ (i := 1) (N := some 28) HT_ (rl [2,13]) rfl rfl ?_
           refine pz_ (i := 2) (N := some 29) HT_ (rl [3,12]) rfl rfl ?_
           refine pz_ (i := 3) (N := some 30) HT_ (rl [4,11]) rfl rfl ?_
           refine pz_ (i := 4) (N := some 31) HT_ (rl [5,10]) rfl rfl ?_
           refine pz_ (i := 7) (N := some 34) HT_ (rl [5,2,1,7]) rfl rfl ?_
           refine pz_ (i := 8) (N := some 35) HT_ (rl [5,2,2,6]) rfl rfl ?_
           refine pz_ (i := 9) (N := some 36) HT_ (rl [5,2,3,5]) rfl rfl ?_
           refine take_ (i := 10) (N := some 37) (v := ?_) (a' := ?_) (rl [5,2,4,4]) rfl rfl (take_ofW HT_.out HW_.out (by kernel_rfl)) (fun _ _ _ h => h) (Or.inl ⟨by rfl, ?_⟩) hHeld ?_ ?_
           rotate_left
           ·
            rintro w' ⟨s0, s1⟩
            go_simp
            with_reducible rfl
           rotate_left
           ·
            exact ap_
           refine one_ (i := 5) (N := some 32) (rl [6,1,4,4]) rfl rfl (one_of HT_.out (by kernel_rfl)) (by decide) (fun K hK => ?_)
           refine goes_ Try.func103 (by kernel_rfl) rfl #[.slice A25 y168.length c25] (by rfl) rfl rfl la_ ?_
           with_reducible refine (spec_l12Copy.calls kj2 _ _ y168 t172 _ ?side1 ?side2 A18.out).mono ?_
           (case side1 => exact qC (Kd.C_below HR171.out HB.out))
           (case side2 => exact HC171.out)
           rintro e w26 ⟨v173, rfl, ho0, hb⟩
           refine ⟨_, rfl, ?_⟩
           have HO174 := am_ (Kd.N_lower (Kd.N_mono (ok' := fun k_ => (w.heap.size ≤ k_) ∧ some k_ ≠ (v166 : Value).ownBlock ∧ k_ ≠ gb157) (Kd.S_N (Kd.S_bound ho0)) (fun k_ hk_ => ⟨(Nat.le_trans (below_size (qB HB)) hk_.2.1), (Kd.fresh' (Kd.N_lt (qN HO167)) k_ hk_.2.1), (Kd.freshB (qK BK157) k_ hk_.2.1)⟩)) (below_size (qB HB)))
           replace HO167 := am_ (Kd.N_elder' (qN HO167) (by first | exact Kd.N_base ho0 | exact Kd.S_base ho0 | exact Kd.R_base ho0) hb)
           replace BK157 := am_ (blk_below (qK BK157) hb)
           replace HB := am_ (below_step (qB HB) hb)
           (try clear hb ho0)
           obtain ⟨Ao28, co28, eo28⟩ := Kd.N_slice HO174.out
           (first | subst eo28 | (injection eo28 with f1_ f2_ f3_; have f4_ := f1_.symm; have f5_ := f3_.symm; clear f1_ f2_ f3_; subst f4_; subst f5_))
           refine hK.out _ _ ⟨(lb_ HB hw178_0 :), (lb_ HB hw178_1 :)⟩ (fun hHeld => ?_)
           clear hK K
           refine norm_ (a' := ?_) ?_ ?_
           rotate_left
           ·
            show Act.put _ (some 32) _ = _
            exact ap_
           refine one_ (i := 6) (N := some 33) (rl [11,4]) rfl rfl (one_of HT_.out (by kernel_rfl)) (by decide) (fun K hK => ?_)
           refine Kd.N_append_rows_step k74 (w0 := w) w.heap.size (by rfl) (.tmp 27) (.tmp 32) 66 74 (.agg #[(.int .i64 0), (.slice none 0 0)]) 32 rfl Try.underlying66 info74 rfl (by decide) (by omega) v166 t165 t172 _ _ _ (fun k_ => (w.heap.size ≤ k_) ∧ k_ ≠ gb157) (fun k_ => ((fun k_ => (w.heap.size ≤ k_) ∧ k_ ≠ gb157)) k_ ∧ some k_ ≠ (v166 : Value).ownBlock) rfl rfl ?aO ?aR (fun _ hk => hk) ?aF ?aB ?aS ?aL ?_
           (case aR => exact (by skip; exact Kd.N_F (Kd.N_mono (ok' := (fun k_ => ((fun k_ => (w.heap.size ≤ k_) ∧ k_ ≠ gb157)) k_ ∧ some k_ ≠ (v166 : Value).ownBlock)) (HO174.out) (fun k_ hk => ⟨⟨hk.1, hk.2.2⟩, hk.2.1⟩))))
           (case aB => exact (qB HB))
           (case aF => exact (fun k_ hk => ⟨(Nat.le_trans (below_size (qB HB)) hk), Kd.freshB (qK BK157) k_ hk⟩))
           (case aO => exact (tN (Kd.N_mono HO167.out (fun _ hk => ⟨hk.1.1, hk.1.2⟩))))
           (case aS => exact (below_size (qB HB)))
           (case aL => have := LMc19.out; omega)
           intro v176 w27 ho hb hg hat
           rw [← Ny175.out] at ho
           replace BK157 := am_ (blk_grown (qK BK157) hg (Kd.N_away HO167.out (fun _ hk => hk.1.2)))
           replace HO174 := am_ (Kd.N_afterv (ok := (fun k_ => (w.heap.size ≤ k_) ∧ k_ ≠ gb157)) (tN (Kd.N_mono HO174.out (fun _ hk => ⟨⟨hk.1, hk.2.2⟩, hk.2.1⟩))) hg hat)
           replace HB := am_ (hb)
           have HO177 := am_ (ho)
           clear HO167
           clear ho hb hg hat
           refine hK.out _ _ ⟨(lb_ HB hw178_0 :), (lb_ HB hw178_1 :)⟩ (fun hHeld => ?_)
           clear hK K
           refine norm_ (a' := ?_) ?_ ?_
           rotate_left
           ·
            show Act.put _ (some 33) _ = _
            exact ap_
           refine one_ (i := 11) (N := some 38) (rl [12,3]) rfl rfl (one_of HT_.out (by kernel_rfl)) (by decide) (fun K hK => ?_)
           refine goes_ Try.func105 (by kernel_rfl) rfl #[.agg #[.int .i64 ((rd_T74 l0 (ji11)).f0), .slice A178_1 ((rd_T74 l0 (ji11)).f1).length c178_1]] (by rfl) rfl rfl (by (try simp only [List.map_toArray, List.map_cons, List.map_nil]); first | done | (simp only [hji11]; rfl) | rfl | (simp only [List.length_drop, List.length_take]; rfl)) ?_
           with_reducible refine (spec_l12Pack.calls ((rd_T74 l0 (ji11)).f0) _ _ ((rd_T74 l0 (ji11)).f1) t179 t180 _ ?side1 ?side2 A21.out).mono ?_
           (case side1 => exact qC (Kd.C_below HR178_1.out HB.out))
           (case side2 => exact HC178_1.out)
           rintro e w29 ⟨v181, rfl, ho0, hb⟩
           refine ⟨_, rfl, ?_⟩
           replace HO174 := am_ (Kd.N_elder' (qN HO174) (Kd.R_base ho0) hb)
           replace HO177 := am_ (Kd.N_elder' (qN HO177) (Kd.R_base ho0) hb)
           have HO182 := am_ (Kd.R_lower (Kd.R_newM (M := fun k_ => (w.heap.size ≤ k_)) ho0 (below_size (qB HB)) (fun k_ h_ => h_)) (below_size (qB HB)))
           replace BK157 := am_ (blk_below (qK BK157) hb)
           replace HB := am_ (below_step (qB HB) hb)
           (try clear hb ho0)
           obtain ⟨Ao31, co31, eo31⟩ := Kd.R_slice HO182.out
           (first | subst eo31 | (injection eo31 with f1_ f2_ f3_; have f4_ := f1_.symm; have f5_ := f3_.symm; clear f1_ f2_ f3_; subst f4_; subst f5_))
           refine hK.out _ _ ⟨(lb_ HB hw178_0 :), (lb_ HB hw178_1 :)⟩ (fun hHeld => ?_)
           clear hK K
           refine norm_ (a' := ?_) ?_ ?_
           rotate_left
           ·
            show Act.put _ (some 38) _ = _
            exact ap_
           refine pz_ (i := 12) (N := some 4) HT_ (rl [13,2]) rfl rfl ?_
           refine one_ (i := 13) (N := none) (rl [14,1]) rfl rfl (one_of HT_.out (by kernel_rfl)) (by decide) (fun K hK => ?_)
           have hs30 : w29.cell? ⟨gb157, 0, none⟩ = some (.int .i64 0) := (blk_cell BK157.out 0).trans rfl
           have hfs30 := blk_frozen BK157.out 0
           have hs32 : w29.cell? ⟨gb157, 1, none⟩ = some (.slice none 0 0) := (blk_cell BK157.out 1).trans rfl
           have hfs32 := blk_frozen BK157.out 1
           refine skip_ (w1 := ?_) (by rfl) rfl ?_ ?_
           rotate_left
           ·
            go_simp
            rfl
           refine hK.out _ _ ⟨((cell_far (p := ⟨gb157, _, none⟩) (by first | exact Nat.ne_of_lt (Nat.lt_of_lt_of_le (by have := World.block_lt_of_cell? _ _ hw178_0; first | rwa [add_block] at this | exact this) GW157.out) | (rw [add_block]; exact Nat.ne_of_lt (Nat.lt_of_lt_of_le (by have := World.block_lt_of_cell? _ _ hw178_0; first | rwa [add_block] at this | exact this) GW157.out)) | (show (Addr.add _ _).block ≠ _; rw [add_block]; exact Nat.ne_of_lt (Nat.lt_of_lt_of_le (by have := World.block_lt_of_cell? _ _ hw178_0; first | rwa [add_block] at this | exact this) GW157.out)) | (dsimp only; exact Nat.ne_of_lt (Nat.lt_of_lt_of_le (by have := World.block_lt_of_cell? _ _ hw178_0; first | rwa [add_block] at this | exact this) GW157.out))) _).trans (((cell_far (p := ⟨gb157, _, none⟩) (by first | exact Nat.ne_of_lt (Nat.lt_of_lt_of_le (by have := World.block_lt_of_cell? _ _ hw178_0; first | rwa [add_block] at this | exact this) GW157.out) | (rw [add_block]; exact Nat.ne_of_lt (Nat.lt_of_lt_of_le (by have := World.block_lt_of_cell? _ _ hw178_0; first | rwa [add_block] at this | exact this) GW157.out)) | (show (Addr.add _ _).block ≠ _; rw [add_block]; exact Nat.ne_of_lt (Nat.lt_of_lt_of_le (by have := World.block_lt_of_cell? _ _ hw178_0; first | rwa [add_block] at this | exact this) GW157.out)) | (dsimp only; exact Nat.ne_of_lt (Nat.lt_of_lt_of_le (by have := World.block_lt_of_cell? _ _ hw178_0; first | rwa [add_block] at this | exact this) GW157.out))) _).trans (hHeld.1)))), ((cell_far (p := ⟨gb157, _, none⟩) (by first | exact Nat.ne_of_lt (Nat.lt_of_lt_of_le (by have := World.block_lt_of_cell? _ _ hw178_1; first | rwa [add_block] at this | exact this) GW157.out) | (rw [add_block]; exact Nat.ne_of_lt (Nat.lt_of_lt_of_le (by have := World.block_lt_of_cell? _ _ hw178_1; first | rwa [add_block] at this | exact this) GW157.out)) | (show (Addr.add _ _).block ≠ _; rw [add_block]; exact Nat.ne_of_lt (Nat.lt_of_lt_of_le (by have := World.block_lt_of_cell? _ _ hw178_1; first | rwa [add_block] at this | exact this) GW157.out)) | (dsimp only; exact Nat.ne_of_lt (Nat.lt_of_lt_of_le (by have := World.block_lt_of_cell? _ _ hw178_1; first | rwa [add_block] at this | exact this) GW157.out))) _).trans (((cell_far (p := ⟨gb157, _, none⟩) (by first | exact Nat.ne_of_lt (Nat.lt_of_lt_of_le (by have := World.block_lt_of_cell? _ _ hw178_1; first | rwa [add_block] at this | exact this) GW157.out) | (rw [add_block]; exact Nat.ne_of_lt (Nat.lt_of_lt_of_le (by have := World.block_lt_of_cell? _ _ hw178_1; first | rwa [add_block] at this | exact this) GW157.out)) | (show (Addr.add _ _).block ≠ _; rw [add_block]; exact Nat.ne_of_lt (Nat.lt_of_lt_of_le (by have := World.block_lt_of_cell? _ _ hw178_1; first | rwa [add_block] at this | exact this) GW157.out)) | (dsimp only; exact Nat.ne_of_lt (Nat.lt_of_lt_of_le (by have := World.block_lt_of_cell? _ _ hw178_1; first | rwa [add_block] at this | exact this) GW157.out))) _).trans (hHeld.2))))⟩ (fun hHeld => ?_)
           clear hK K
           refine pz_ (i := 14) (N := some 6) HT_ (rl [15]) rfl rfl ?_
           refine done_ (done_of HT_.out (by kernel_rfl)) ?_
           try go_wp2
           refine bodyPost_ret (results_list (rs := [.tmp 4, .cell 5 74, .tmp 6]) rfl (by simp) (.tmp (.cell gb157 74 #[.int .i64 t179, .slice Ao31 t180.length co31] (0, 0) _ rfl (by (with_reducible repeat (first | refine blk_drewN ?_ _ | refine blk_drew ?_ | refine blk_alloc ?_ _)); refine blk_put (cs := #[.int .i64 t179, .slice none 0 0]) ?_ 1 _ rfl; (with_reducible repeat (first | refine blk_drewN ?_ _ | refine blk_drew ?_ | refine blk_alloc ?_ _)); refine blk_put (cs := #[.int .i64 0, .slice none 0 0]) ?_ 0 _ rfl; (with_reducible repeat (first | refine blk_drewN ?_ _ | refine blk_drew ?_ | refine blk_alloc ?_ _)); exact BK157.out) Try.underlying74 rfl (by kernel_rfl) (.tmp .nil)))) rfl ?_
           exact ⟨_, _, by first | rfl | (simp [errW_none, errW_some] <;> rfl) | (simp only [← hji11, ← hji15]; first | rfl | (simp [errW_none, errW_some] <;> rfl)) | (simp [*, errW_none, errW_some] <;> rfl), by (with_reducible repeat (first | apply Kd.N_alloc | apply Kd.N_drewN | apply Kd.N_drew)); exact Kd.N_mono (Kd.N_far (p := ⟨gb157, 1, none⟩) (Kd.N_far (p := ⟨gb157, 0, none⟩) (Kd.N_mono HO177.out (fun k_ hk => (⟨hk, hk.1.2⟩ : _ ∧ k_ ≠ gb157))) (fun _ hk => hk.2) (.int .i64 t179)) (fun _ hk => hk.2) (.slice Ao31 t180.length co31)) (fun _ hk => ⟨hk.1.1.1, hk.1.2⟩), by (with_reducible repeat (first | apply Kd.R_alloc | apply Kd.R_drewN | apply Kd.R_drew)); exact Kd.R_mono (Go.Proofs.YthmfmpmljndjhaaV.R_far2 (g := gb157) (Kd.R_types HO182.out BK157.out (by decide)) (fun _ hk => hk.2)) (fun _ hk => hk.1.1), qB HB⟩
          ·
           rw [if_neg c20] at H
           exact absurd H (by simp)
         ·
          rw [if_neg c19] at H
          exact absurd H (by simp)
        ·
         rw [if_neg c17] at H
         exact absurd H (by simp)
       ·
        rw [if_neg c16] at H
        exact absurd H (by simp)
      ·
       rw [if_neg c13] at H
       exact absurd H (by simp)
     ·
      rw [if_neg c12] at H
      exact absurd H (by simp)

/-! ### slices_Clone_byte: function 122 -/
def slices_Clone_byte.f (l0 : List Int) : Option (List Int) := (some (([] : List Int) : List Int)).bind fun y183 => (if y183.length + l0.length < 140737488355328 then (some (y183 ++ l0)) else (none))
set_option maxHeartbeats 8000000 in
set_option maxRecDepth 100000 in
theorem slices_Clone_byte.calls_some (a0_ : Addr) (c0 : Nat) (l0 : List Int) (r : List Int) (w : World) (hr0 : Kd.C (Kd.int .u8) w (some a0_) l0.length l0) (hc0 : l0.length ≤ c0) (h : slices_Clone_byte.f l0 = some r) :
  Calls Try.prog 122 #[.slice (some a0_) l0.length c0] w fun e w' => ∃ v0_ : Value, e = .returned (v0_) ∧ Kd.R (Kd.int .u8) 5 w' w.heap.size (fun _ => True) v0_ r ∧ Below w.heap.size w w' := by
 have HR0 := Aside0.mk hr0
 have HC0 := Aside0.mk hc0
 clear hr0 hc0
 have HB := Aside0.mk (Below.refl w.heap.size w)
 have H : ((some (([] : List Int) : List Int)).bind fun y183 => (if y183.length + l0.length < 140737488355328 then (some (y183 ++ l0)) else (none))) = some r := h
 clear h
 obtain ⟨y183, hy183⟩ : ∃ y_ : List Int, y_ = (([] : List Int)) := ⟨_, rfl⟩
 replace H := mk_ H hy183
 (try dsimp only at H)
 have Ny183 := Aside0.mk hy183
 clear hy183
 by_cases c2 : y183.length + l0.length < 140737488355328
 ·
  rw [if_pos c2] at H
  have LMc2 := Aside0.mk c2
  clear c2
  obtain ⟨y186, hy186⟩ : ∃ y_ : List Int, y_ = (y183 ++ l0) := ⟨_, rfl⟩
  replace H : (some y186) = some r := by first | (rw [hy186]; with_reducible exact H) | (have H2_ := (Option.bind_some _ _).symm.trans H; rw [hy186]; with_reducible exact H2_) | (have H2_ := (Option.bind_some _ _).symm.trans H; with_reducible exact H2_) | with_reducible exact H | (rw [hy186]; exact H) | exact H
  have Ny186 := Aside0.mk hy186
  clear hy186
  obtain rfl := Option.some.inj H
  have hnil := fun (W : World) => Lib.run_eql_slice_nil (P := Try.prog) W 22 5 (some a0_) l0.length c0 0 0 Try.underlying22
  go_enter Try.func122, Try.ntmps122
  go_wp2_with (first | ((with_reducible refine gate_dst (N := 5) rfl ?_); refine Kd.R_lit (Kd.int .u8) _ 5 ?hg (N := 5) ?hd (xs := ([] : List Int)) (inner := []) (ok := fun _ => True) (okp := fun _ => True) ?hr ?hp (fun _ hk => hk) trivial (Below.refl _ _) (Nat.le_refl _) (by simp) ?_; (case hd => rfl); (case hg => rfl); (case hr => first | (go_simp; done) | (go_simp; rfl)); (case hp => exact (Reps.none _ _)); intro v184 w3 ho4 hb hg_ hnew_; clear hg_ hnew_; (first | rw [← Ny183.out] at ho4 | (simp only [Int.reduceToNat] at ho4; rw [← Ny183.out] at ho4)); have HO185 := am_ (Kd.R_lower ho4 (below_size (qB HB))); replace HB := am_ (below_step (qB HB) hb); clear hb ho4) | ((with_reducible refine gate_builtin (b := .append) (xs := #[.tmp 5, .tmp 6]) rfl ?_); at_builtin; refine Kd.R_append_rows (Kd.int .u8) (w0 := w) w.heap.size rfl (.tmp 5) (.tmp 6) 22 5 (.int .u8 0) 1 rfl Try.underlying22 info5 rfl (by decide) (by omega) v184 y183 l0 _ _ _ (fun _ => True) (fun _ => False) rfl rfl ?aO ?aR (fun _ _ h => h) (fun _ h => h.elim) ?aF ?aB ?aS ?aL ?_; (case aR => exact qC (Kd.C_below HR0.out HB.out)); (case aB => exact (qB HB)); (case aF => exact (fun _ _ => trivial)); (case aO => exact (qR HO185)); (case aS => exact (below_size (qB HB))); (case aL => have := LMc2.out; omega); intro v187 w5 ho hb hg hat; rw [← Ny186.out] at ho; replace HB := am_ (hb); have HO188 := am_ (ho); clear HO185; clear ho hb hg hat))
  go_ret
  exact ⟨_, by first | rfl | (simp [errW_none, errW_some] <;> rfl) | (simp [*, errW_none, errW_some] <;> rfl), qR HO188, qB HB⟩
 ·
  rw [if_neg c2] at H
  exact absurd H (by simp)
set_option maxHeartbeats 4000000 in
set_option maxRecDepth 100000 in
theorem slices_Clone_byte.calls_nil (c0 : Nat) (w : World) : Calls Try.prog 122 #[.slice none 0 c0] w fun e w' => e = .returned (.slice none 0 0) ∧ Below w.heap.size w w' := by
 have hnil := fun (W : World) => Lib.run_eql_slice_nil (P := Try.prog) W 22 5 none 0 c0 0 0 Try.underlying22
 go_enter Try.func122, Try.ntmps122
 go_wp2
 go_ret
 exact ⟨rfl, Below.refl _ _⟩
theorem slices_Clone_byte.calls (A0 : Option Addr) (c0 : Nat) (l0 : List Int) (r : List Int) (w : World) (hr0 : Kd.C (Kd.int .u8) w A0 l0.length l0) (hc0 : l0.length ≤ c0) (h : slices_Clone_byte.f l0 = some r) :
  Calls Try.prog 122 #[.slice A0 l0.length c0] w fun e w' => ∃ v0_ : Value, e = .returned (v0_) ∧ Kd.R (Kd.int .u8) 5 w' w.heap.size (fun _ => True) v0_ r ∧ Below w.heap.size w w' := by
 cases A0 with
 | some a0_ => exact slices_Clone_byte.calls_some a0_ c0 l0 r w hr0 hc0 h
 | none =>
  obtain rfl : l0 = [] := by
   rcases l0 with _ | ⟨x_, l_⟩
   ·
    rfl
   ·
    obtain ⟨_, e_, _⟩ := hr0.2.2 (by simp)
    cases e_
  obtain rfl : r = [] := by
   have h' := h
   simp [slices_Clone_byte.f] at h'
   exact h'
  refine (slices_Clone_byte.calls_nil c0 w).mono ?_
  rintro e w' ⟨rfl, hb⟩
  exact ⟨_, rfl, Kd.R_nil _ _ _ _ _, hb⟩

/-! ### impl_packCopy: function 109 -/
def impl_packCopy.f (a0_0 : Int) (l0_1 : List Int) : Option (Int × List Int) := (slices_Clone_byte.f l0_1).bind fun t191 => (some (a0_0, t191))
set_option maxHeartbeats 8000000 in
set_option maxRecDepth 100000 in
theorem impl_packCopy.calls (a0_0 : Int) (A0_1 : Option Addr) (c0_1 : Nat) (l0_1 : List Int) (r1 : Int) (r2 : List Int) (w : World) (hr0_1 : Kd.C (Kd.int .u8) w A0_1 l0_1.length l0_1) (hc0_1 : l0_1.length ≤ c0_1) (h : impl_packCopy.f a0_0 l0_1 = some (r1, r2)) :
  Calls Try.prog 109 #[.agg #[.int .i64 a0_0, .slice A0_1 l0_1.length c0_1]] w fun e w' => ∃ v1_ : Value, e = .returned (.agg #[.int .i64 r1, v1_]) ∧ Kd.R (Kd.int .u8) 5 w' w.heap.size (fun _ => True) v1_ r2 ∧ Below w.heap.size w w' := by
 have hu74 := Try.underlying74
 have HR0_1 := Aside0.mk hr0_1
 have HC0_1 := Aside0.mk hc0_1
 clear hr0_1 hc0_1
 have HB := Aside0.mk (Below.refl w.heap.size w)
 have H : ((slices_Clone_byte.f l0_1).bind fun t191 => (some (a0_0, t191))) = some (r1, r2) := h
 clear h
 obtain ⟨t191, A2, H⟩ := bd_ H
 simp only [Option.some.injEq, Prod.mk.injEq] at H
 obtain ⟨rfl, rfl⟩ := H
 go_enter Try.func109, Try.ntmps109
 try go_wp2_with (first | ((with_reducible refine gate_dst (N := 1) rfl ?_); refine box_event ?hg (N := 1) ?hd (cs := #[.int .i64 a0_0, .slice A0_1 l0_1.length c0_1]) (t := 74) ?hr ?_; (case hd => rfl); (case hg => rfl); (case hr => first | (go_simp; done) | (go_simp; rfl)); intro gb189 hg w3 hbox hb; have BK189 := am_ (hbox); have GW189 := am_ ((gG_ hg (qB HB))); have IGW189 := gI_ GW189; have GE189 := am_ ((gG_ hg (qB HB))); have IGE189 := gI_ GE189; replace HB := am_ (below_step (qB HB) hb); clear hb hbox hg) | ((with_reducible refine gate_dst (N := 2) rfl ?_); refine box_event ?hg (N := 2) ?hd (cs := #[.int .i64 0, .slice none 0 0]) (t := 74) ?hr ?_; (case hd => rfl); (case hg => rfl); (case hr => first | (go_simp; done) | (go_simp; rfl)); intro gb190 hg w4 hbox hb; have BK190 := am_ (hbox); have GW190 := am_ ((gG_ hg (qB HB))); have IGW190 := gI_ GW190; have GE190 := am_ ((gG_ hg (qB HB))); have IGE190 := gI_ GE190; replace HB := am_ (below_step (qB HB) hb); have NB189_190 := am_ ((gN_ hg (qK BK189))); have NB190_189 := am_ ((gM_ hg (qK BK189))); replace BK189 := am_ (blk_below (qK BK189) hb); clear hb hbox hg))
 replace BK189 := am_ (blk_drew BK189.out)
 replace BK190 := am_ (blk_drew BK190.out)
 replace HB := am_ (below_drew1 HB.out)
 refine start_ (n := 7) (S := fun w' => w'.cell? ⟨gb189, 0, none⟩ = some (.int .i64 a0_0) ∧ w'.cell? ⟨gb189, 1, none⟩ = some (.slice A0_1 l0_1.length c0_1)) (ds := []) #[oo,oo,oo,oo,oo,oo,oo] (by kernel_rfl) rfl rfl (cz2 BK189.out) (fun hHeld => ?_)
 generalize w4.drew = w5 at BK189 BK190 HB hHeld ⊢
 refine pure_ (i := 0) (N := some 3) (v := ?_) (a' := ?_) #[ii,oo,oo,oo,oo,oo,oo] rfl rfl (by kernel_rfl) (fun _ _ _ h => h) (Or.inl ⟨by rfl, ?_⟩) ?_ ?_
 rotate_left
 ·
  intro w'
  go_simp
  with_reducible rfl
 rotate_left
 ·
  exact ap_
 refine pure_ (i := 2) (N := some 5) (v := ?_) (a' := ?_) #[ii,oo,ii,oo,oo,oo,oo] rfl rfl (by kernel_rfl) (fun _ _ _ h => h) (Or.inl ⟨by rfl, ?_⟩) ?_ ?_
 rotate_left
 ·
  intro w'
  go_simp
  with_reducible rfl
 rotate_left
 ·
  exact ap_
 refine take_ (i := 1) (N := some 4) (v := ?_) (a' := ?_) #[ii,ii,ii,oo,oo,oo,oo] rfl rfl (by kernel_rfl) (fun _ _ _ h => h) (Or.inl ⟨by rfl, ?_⟩) hHeld ?_ ?_
 rotate_left
 ·
  rintro w' ⟨s0, s1⟩
  go_simp
  with_reducible rfl
 rotate_left
 ·
  exact ap_
 refine take_ (i := 3) (N := some 6) (v := ?_) (a' := ?_) #[ii,ii,ii,ii,oo,oo,oo] rfl rfl (by kernel_rfl) (fun _ _ _ h => h) (Or.inl ⟨by rfl, ?_⟩) hHeld ?_ ?_
 rotate_left
 ·
  rintro w' ⟨s0, s1⟩
  go_simp
  with_reducible rfl
 rotate_left
 ·
  exact ap_
 refine one_ (i := 4) (N := some 7) #[ii,ii,ii,ii,ii,oo,oo] rfl rfl (by kernel_rfl) (by decide) (fun K hK => ?_)
 refine goes_ Try.func122 (by kernel_rfl) rfl #[.slice A0_1 l0_1.length c0_1] (by rfl) rfl rfl la_ ?_
 with_reducible refine (slices_Clone_byte.calls _ _ l0_1 t191 _ ?side1 ?side2 A2.out).mono ?_
 (case side1 => exact qC (Kd.C_below HR0_1.out HB.out))
 (case side2 => exact HC0_1.out)
 rintro e w6 ⟨v192, rfl, ho0, hb⟩
 refine ⟨_, rfl, ?_⟩
 have HO193 := am_ (Kd.R_lower ho0 (below_size (qB HB)))
 replace BK189 := am_ (blk_below (qK BK189) hb)
 replace BK190 := am_ (blk_below (qK BK190) hb)
 replace HB := am_ (below_step (qB HB) hb)
 (try clear hb ho0)
 obtain ⟨Ao7, co7, eo7⟩ := Kd.R_slice HO193.out
 (first | subst eo7 | (injection eo7 with f1_ f2_ f3_; have f4_ := f1_.symm; have f5_ := f3_.symm; clear f1_ f2_ f3_; subst f4_; subst f5_))
 refine hK.out _ _ (cz2 BK189.out) (fun hHeld => ?_)
 clear hK K
 refine norm_ (a' := ?_) ?_ ?_
 rotate_left
 ·
  show Act.put _ (some 7) _ = _
  exact ap_
 refine pure_ (i := 5) (N := some 8) (v := ?_) (a' := ?_) #[ii,ii,ii,ii,ii,ii,oo] rfl rfl (by kernel_rfl) (fun _ _ _ h => h) (Or.inl ⟨by rfl, ?_⟩) ?_ ?_
 rotate_left
 ·
  intro w'
  go_simp
  with_reducible rfl
 rotate_left
 ·
  exact ap_
 refine one_ (i := 6) (N := none) #[ii,ii,ii,ii,ii,ii,ii] rfl rfl (by kernel_rfl) (by decide) (fun K hK => ?_)
 have hs8 : w6.cell? ⟨gb190, 0, none⟩ = some (.int .i64 0) := (blk_cell BK190.out 0).trans rfl
 have hfs8 := blk_frozen BK190.out 0
 have hns8_0 := NB189_190.out
 have hms8_0 := NB190_189.out
 have hs9 : w6.cell? ⟨gb190, 1, none⟩ = some (.slice none 0 0) := (blk_cell BK190.out 1).trans rfl
 have hfs9 := blk_frozen BK190.out 1
 have hns9_0 := NB189_190.out
 have hms9_0 := NB190_189.out
 refine skip_ (w1 := ?_) (by rfl) rfl ?_ ?_
 rotate_left
 ·
  go_simp
  rfl
 refine hK.out _ _ ⟨((cell_far (p := ⟨gb190, _, none⟩) NB189_190.out _).trans (((cell_far (p := ⟨gb190, _, none⟩) NB189_190.out _).trans (hHeld.1)))), ((cell_far (p := ⟨gb190, _, none⟩) NB189_190.out _).trans (((cell_far (p := ⟨gb190, _, none⟩) NB189_190.out _).trans (hHeld.2))))⟩ (fun hHeld => ?_)
 clear hK K
 refine done_ (by kernel_rfl) ?_
 try go_wp2
 refine bodyPost_ret (results_cell_row rfl _ _ gb190 74 #[.int .i64 a0_0, .slice Ao7 t191.length co7] (0, 0) _ rfl (by (with_reducible repeat (first | refine blk_drewN ?_ _ | refine blk_drew ?_ | refine blk_alloc ?_ _)); refine blk_put (cs := #[.int .i64 a0_0, .slice none 0 0]) ?_ 1 _ rfl; (with_reducible repeat (first | refine blk_drewN ?_ _ | refine blk_drew ?_ | refine blk_alloc ?_ _)); refine blk_put (cs := #[.int .i64 0, .slice none 0 0]) ?_ 0 _ rfl; (with_reducible repeat (first | refine blk_drewN ?_ _ | refine blk_drew ?_ | refine blk_alloc ?_ _)); exact BK190.out) Try.underlying74 rfl (by kernel_rfl)) rfl ?_
 exact ⟨_, by first | rfl | (simp [errW_none, errW_some] <;> rfl) | (simp [*, errW_none, errW_some] <;> rfl), by (with_reducible repeat (first | apply Kd.R_alloc | apply Kd.R_drewN | apply Kd.R_drew)); exact Kd.R_mono (Go.Proofs.YthmfmpmljndjhaaV.R_far2 (g := gb190) (Kd.R_types HO193.out BK190.out (by decide)) (fun _ hk => hk.2)) (fun _ hk => trivial), qB HB⟩

/-! ### impl_wayCopy: function 107 -/
def impl_wayCopy.l0 : Nat → List (S74) → List (S74) → Int → Int → Option ((List (S74)))
 | 0, _, _, _, _ => none
 | k + 1, x3, x7, x8, x9 => if x9 < x8 then (if 0 ≤ x9 then (if x9 < (x7.length : Int) then ((impl_packCopy.f ((rd_T74 x7 x9).f0) ((rd_T74 x7 x9).f1)).bind fun bt199 => (if x3.length < 4398046511104 then (impl_wayCopy.l0 k (x3 ++ [(⟨bt199.1, bt199.2⟩ : S74)]) x7 x8 (wrap64 (x9 + 1))) else (none))) else (none)) else (none)) else (some x3)
def impl_wayCopy.f (k : Nat) (l0 : List (S74)) : Option ((List (S74))) := impl_wayCopy.l0 k (([] : List (S74))) l0 (l0.length : Int) 0
theorem impl_wayCopy.mono_l : ∀ k, (∀ y0 y1 y2 y3, LeO (impl_wayCopy.l0 k y0 y1 y2 y3) (impl_wayCopy.l0 (k + 1) y0 y1 y2 y3))
 | 0 => fun _ _ _ _ r h => by simp [impl_wayCopy.l0] at h
 | k + 1 => by
  have ih0 := impl_wayCopy.mono_l k
  ·
   intro y0 y1 y2 y3
   unfold impl_wayCopy.l0
   repeat' first
   | (with_reducible exact ih0 _ _ _ _)
   | (with_reducible exact LeO.refl _)
   | (with_reducible exact LeO.none _)
   | (with_reducible refine LeO.ite ?_ ?_)
   | (with_reducible refine LeO.bind ?_ (fun _ => ?_))
   | exact ih0 _ _ _ _
   | exact LeO.none _
   | refine LeO.ite ?_ ?_
   | refine LeO.bind ?_ (fun _ => ?_)
theorem impl_wayCopy.mono : ∀ a0 k, LeO (impl_wayCopy.f k a0) (impl_wayCopy.f (k + 1) a0) := by
 intro a0 k
 have ih0 := impl_wayCopy.mono_l k
 unfold impl_wayCopy.f
 repeat' first
   | (with_reducible exact ih0 _ _ _ _)
   | (with_reducible exact LeO.refl _)
   | (with_reducible exact LeO.none _)
   | (with_reducible refine LeO.ite ?_ ?_)
   | (with_reducible refine LeO.bind ?_ (fun _ => ?_))
   | exact ih0 _ _ _ _
   | exact LeO.none _
   | refine LeO.ite ?_ ?_
   | refine LeO.bind ?_ (fun _ => ?_)
set_option maxHeartbeats 8000000 in
set_option maxRecDepth 100000 in
theorem impl_wayCopy.calls (k : Nat) (A0 : Option Addr) (c0 : Nat) (l0 : List (S74)) (r : List (S74)) (w : World) (hr0 : Kd.C k74 w A0 l0.length l0) (hc0 : l0.length ≤ c0) (h : impl_wayCopy.f k l0 = some r) :
  Calls Try.prog 107 #[.slice A0 l0.length c0] w fun e w' => ∃ v0_ : Value, e = .returned (v0_) ∧ Kd.S k74 74 w' w.heap.size (fun _ => True) v0_ r ∧ Below w.heap.size w w' := by
 have hu74 := Try.underlying74
 have HR0 := Aside0.mk hr0
 have HC0 := Aside0.mk hc0
 clear hr0 hc0
 have HB := Aside0.mk (Below.refl w.heap.size w)
 have H : (impl_wayCopy.l0 k (([] : List (S74))) l0 (l0.length : Int) 0) = some r := h
 clear h
 obtain ⟨y194, hy194⟩ : ∃ y_ : List (S74), y_ = (([] : List (S74))) := ⟨_, rfl⟩
 rw [← hy194] at H
 have Ny194 := Aside0.mk hy194
 clear hy194
 have H' := Aside0.mk H
 clear H
 go_enter Try.func107, Try.ntmps107
 go_wp2_with (first | ((with_reducible refine gate_dst (N := 6) rfl ?_); refine Kd.S_lit k74 _ 74 ?hg (N := 6) ?hd (xs := ([] : List (S74))) (inner := []) (ok := fun _ => True) (okp := fun _ => True) ?hr ?hp (fun _ hk => hk) trivial (Below.refl _ _) (Nat.le_refl _) (by simp) ?_; (case hd => rfl); (case hg => rfl); (case hr => first | (go_simp; done) | (go_simp; rfl)); (case hp => exact (Reps.none _ _)); intro v195 w2 ho3 hb hg_ hnew_; clear hg_ hnew_; (first | rw [← Ny194.out] at ho3 | (simp only [Int.reduceToNat] at ho3; rw [← Ny194.out] at ho3)); have HO196 := am_ (Kd.S_lower ho3 (below_size (qB HB))); replace HB := am_ (below_step (qB HB) hb); clear hb ho3))
 go_loopg [3, 9] k (fun kq v3 v9 w' => ∃ (x3_1 : List (S74)) (x9_1 : Int), v9 = .int .i64 x9_1 ∧ Aside0 (impl_wayCopy.l0 kq x3_1 l0 (l0.length : Int) x9_1 = some r) ∧ Aside0 (kq ≤ k) ∧ Aside0 (Kd.S k74 74 w' w.heap.size (fun _ => True) v3 x3_1) ∧ Aside0 (Below w.heap.size w w'))
 case atStart => exact ⟨(y194), (0), eqq_, H', ⟨Nat.le_refl _⟩, ⟨qS HO196⟩, ⟨qB HB⟩⟩
 case round =>
  clear H'
  try clear c1
  try clear p2
  obtain ⟨x3_1, x9_1, rfl, HA, HK1, HO_3, HB⟩ := hrel
  cases gk with
  | zero => exact absurd HA.out (by simp [impl_wayCopy.l0])
  | succ k1 =>
   have H := HA.out
   clear HA
   simp only [impl_wayCopy.l0] at H
   by_cases c4 : x9_1 < (l0.length : Int)
   ·
    rw [if_pos c4] at H
    have c4b0 : decide (x9_1 < (l0.length : Int)) = true := decide_eq_true c4
    clear c4
    by_cases c5 : 0 ≤ x9_1
    ·
     rw [if_pos c5] at H
     have c5b0 : decide (0 ≤ x9_1) = true := decide_eq_true c5
     clear c5
     by_cases c6 : x9_1 < (l0.length : Int)
     ·
      rw [if_pos c6] at H
      have c6b0 : decide (x9_1 < (l0.length : Int)) = true := decide_eq_true c6
      clear c6
      obtain ⟨⟨t199, t200⟩, A7, H⟩ := bd_ H
      (try dsimp only at H)
      by_cases c8 : x3_1.length < 4398046511104
      ·
       rw [if_pos c8] at H
       have LMc8 := Aside0.mk c8
       clear c8
       obtain ⟨y203, hy203⟩ : ∃ y_ : List (S74), y_ = (x3_1 ++ [(⟨t199, t200⟩ : S74)]) := ⟨_, rfl⟩
       rw [← hy203] at H
       have Ny203 := Aside0.mk hy203
       clear hy203
       have H' := Aside0.mk H
       clear H
       have p197 : 0 ≤ (x9_1 : Int) := od_
       have q197 : x9_1 < (l0.length : Int) := od_
       obtain ⟨ad197, A197_1, c197_1, e197, hx197_0, hx197_1, hl197_1, hi197_1⟩ := at_T74 HR0.out x9_1 p197 q197
       cases e197
       replace hx197_0 := lb_ HB hx197_0
       replace hx197_1 := lb_ HB hx197_1
       have HR197_1 := Aside0.mk hi197_1
       have HC197_1 := Aside0.mk hl197_1
       clear hi197_1 hl197_1
       replace p197 := eq_true p197
       replace q197 := eq_true q197
       go_wp2_with (first | ((with_reducible refine gate_dst (N := 5) rfl ?_); refine box_event ?hg (N := 5) ?hd (cs := #[.int .i64 0, .slice none 0 0]) (t := 74) ?hr ?_; (case hd => rfl); (case hg => rfl); (case hr => first | (go_simp; done) | (go_simp; rfl)); intro gb198 hg w9 hbox hb; replace HO_3 := am_ (Kd.S_below (Kd.S_elderB (qS HO_3) gb198 (Nat.le_of_eq hg.symm)) hb); have BK198 := am_ (hbox); have GW198 := am_ ((gG_ hg (qB HB))); have IGW198 := gI_ GW198; have GE198 := am_ ((gG_ hg (qB HB))); have IGE198 := gI_ GE198; replace HB := am_ (below_step (qB HB) hb); clear hb hbox hg; obtain ⟨z10_0, z10_1⟩ := cz2 BK198.out; obtain ⟨f10_0, f10_1⟩ := fz2 BK198.out) | ((with_reducible refine gate_callee (f := 109) rfl ?_); refine goesL_ (some 15) rfl rfl Try.func109 (by kernel_rfl) rfl #[.agg #[.int .i64 ((rd_T74 l0 x9_1).f0), .slice A197_1 ((rd_T74 l0 x9_1).f1).length c197_1]] rfl la_ ?_; (with_reducible refine (impl_packCopy.calls ((rd_T74 l0 x9_1).f0) _ _ ((rd_T74 l0 x9_1).f1) t199 t200 _ ?side1 ?side2 A7.out).mono ?_); (case side1 => exact Kd.C_below HR197_1.out (qB HB)); (case side2 => exact HC197_1.out); rintro e w11 ⟨v201, rfl, ho0, hb⟩; refine ⟨_, rfl, ?_⟩; replace HO_3 := am_ (Kd.S_elder' (by (with_reducible repeat (first | apply Kd.S_alloc | apply Kd.S_drewN | apply Kd.S_drew)); exact (Kd.S_mono (Kd.S_far (p := ⟨gb198, 1, none⟩) (Kd.S_far (p := ⟨gb198, 0, none⟩) (Kd.S_mono HO_3.out (fun k_ hk => (⟨hk, hk.2⟩ : _ ∧ k_ ≠ gb198))) (fun _ hk => hk.2) (.int .i64 ((rd_T74 l0 x9_1).f0))) (fun _ hk => hk.2) (.slice A197_1 ((rd_T74 l0 x9_1).f1).length c197_1)) (fun _ h_ => h_.1))) (Kd.R_base ho0) hb); have HO202 := am_ (Kd.R_lower ho0 (below_size (qB HB))); replace BK198 := am_ (blk_below (g := gb198) (o := .cells #[.int .i64 ((rd_T74 l0 x9_1).f0), .slice A197_1 ((rd_T74 l0 x9_1).f1).length c197_1] 74 (0, 0)) (by (with_reducible repeat (first | refine blk_drewN ?_ _ | refine blk_drew ?_ | refine blk_alloc ?_ _)); refine Go.Proofs.YthmfmpmljndjhaaV.blk_all2 (show _ = some (Go.Obj.cells #[.int .i64 0, .slice none 0 0] _ (0, 0)) from ?_); (with_reducible repeat (first | refine blk_drewN ?_ _ | refine blk_drew ?_ | refine blk_alloc ?_ _)); exact BK198.out) hb); replace HB := am_ (below_step (qB HB) hb); (try clear hb); (try clear hb2); (try clear hk); (try clear hi); (try clear ho0); obtain ⟨Ao13, co13, eo13⟩ := Kd.R_slice HO202.out; subst eo13) | ((with_reducible refine gate_builtin (b := .append) (xs := #[.tmp 13, .tmp 16]) rfl ?_); at_builtin; refine Kd.S_append k74 (w0 := w) w.heap.size rfl (.tmp 13) (.tmp 16) 66 74 (.agg #[(.int .i64 0), (.slice none 0 0)]) 32 rfl Try.underlying66 info74 rfl (by decide) (by omega) u3 x3_1 (⟨t199, t200⟩ : S74) [.int .i64 t199, .slice Ao13 t200.length co13] (fun k_ => k_ ≠ gb198) (fun k_ => some k_ = (.slice Ao13 t200.length co13 : Value).ownBlock) rfl rfl ?aP (fun k_ hk_ => ((Kd.R_mono (ok' := fun k_ => ((fun k_ => k_ ≠ gb198)) k_ ∧ some k_ ≠ (u3 : Value).ownBlock) (Kd.R_types (Kd.R_apart' (HO202.out) (Kd.S_typed HO_3.out) (by decide)) BK198.out (by decide)) (fun k_ hk => ⟨hk.2, hk.1.2⟩))).1 k_ hk_.symm) ?aF ?aO ?aB ?aS ?aL ?_; (case aP => exact k74_mkM _ _ _ (⟨t199, t200⟩ : S74) (Kd.R_mono (Kd.R_tight rfl (Kd.R_mono (ok' := fun k_ => ((fun k_ => k_ ≠ gb198)) k_ ∧ some k_ ≠ (u3 : Value).ownBlock) (Kd.R_types (Kd.R_apart' (HO202.out) (Kd.S_typed HO_3.out) (by decide)) BK198.out (by decide)) (fun k_ hk => ⟨hk.2, hk.1.2⟩))) (fun _ h_ => h_))); (case aB => exact (qB HB)); (case aF => exact (fun k_ hk => Kd.freshB (qK BK198) k_ hk)); (case aO => exact (tS (Kd.S_mono HO_3.out (fun k_ hk => ⟨hk.1.2, fun e_ => hk.2 e_⟩)))); (case aS => exact (below_size (qB HB))); (case aL => have := LMc8.out; omega); intro v204 w12 ho hb hg hat; rw [← Ny203.out] at ho; replace BK198 := am_ (blk_grown (qK BK198) hg (Kd.S_away HO_3.out (fun _ hk => hk.1.2))); replace HB := am_ (hb); have HO205 := am_ (ho); clear HO_3 HO202; clear ho hb hg hat))
       go_roundg k1
       case measure => have := HK1.out; omega
       case rel => exact ⟨(y203), (wrap64 (x9_1 + 1)), eqq_, H', ⟨by have := HK1.out; omega⟩, ⟨by (with_reducible repeat (first | apply Kd.S_alloc | apply Kd.S_drewN | apply Kd.S_drew)); exact Kd.S_mono HO205.out (fun _ hk => trivial)⟩, ⟨qB HB⟩⟩
      ·
       rw [if_neg c8] at H
       exact absurd H (by simp)
     ·
      rw [if_neg c6] at H
      exact absurd H (by simp)
    ·
     rw [if_neg c5] at H
     exact absurd H (by simp)
   ·
    rw [if_neg c4] at H
    have c4b0 : decide (x9_1 < (l0.length : Int)) = false := decide_eq_false c4
    clear c4
    obtain rfl := Option.some.inj H
    go_wp2
    go_ret
    exact ⟨_, by first | rfl | (simp [errW_none, errW_some] <;> rfl) | (simp [*, errW_none, errW_some] <;> rfl), qS HO_3, qB HB⟩

end Go.Proofs.Ythmfmpmljndjhaa.PFnExactTakeOut
