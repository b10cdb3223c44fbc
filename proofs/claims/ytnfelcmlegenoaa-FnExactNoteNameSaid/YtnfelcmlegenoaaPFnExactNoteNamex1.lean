-- Written by a program of this session (myprint.py, over the kit's print): contracts of FnExactNoteName
import Derived.Test.YtnfelcmlegenoaaPFnExactNoteNamex0
namespace Go.Proofs.Ytnfelcmlegenoaa.PFnExactNoteName
open Go.RowKit Go.Proofs.YtnfelcmlegenoaaW.PrintWords Go.Proofs.YtnfelcmlegenoaaW.PrintLast Go.Proofs.YtnfelcmlegenoaaW.PrintMore
attribute [local go_sem] max2_int min2_int max_two min_two max_three min_three max_four min_four   -- for this text's walks alone
set_option linter.unusedVariables false
set_option linter.unusedSimpArgs false

/-! ### spec_l1In: function 62 -/
def spec_l1In.f (a0 : Int) (a1 : Int) (a2 : Int) : Option (Bool) := if a0 ≥ a1 then (some (decide (a0 ≤ a2))) else (some false)
set_option maxHeartbeats 8000000 in
set_option maxRecDepth 100000 in
theorem spec_l1In.calls (a0 : Int) (a1 : Int) (a2 : Int) (r : Bool) (w : World) (h : spec_l1In.f a0 a1 a2 = some r) :
    Calls Try.prog 62 #[.int .i64 a0, .int .i64 a1, .int .i64 a2] w fun e w' => e = .returned (.bool r) ∧ Drawn0 w w' := by
  have H : (if a0 ≥ a1 then (some (decide (a0 ≤ a2))) else (some false)) = some r := h
  clear h
  by_cases c4 : a0 ≥ a1
  · rw [if_pos c4] at H
    have c4b0 : decide (a1 ≤ a0) = true := decide_eq_true c4
    clear c4
    obtain rfl := Option.some.inj H
    go_enter Try.func62, Try.ntmps62
    go_wp2
    go_ret
    exact ⟨by first | rfl | (simp; done) | (simp [*]; done), by repeat (first | exact Drawn0.refl _ | apply Drawn0.step)⟩
  · rw [if_neg c4] at H
    have c4b0 : decide (a1 ≤ a0) = false := decide_eq_false c4
    clear c4
    obtain rfl := Option.some.inj H
    go_enter Try.func62, Try.ntmps62
    go_wp2
    go_ret
    exact ⟨by first | rfl | (simp; done) | (simp [*]; done), by repeat (first | exact Drawn0.refl _ | apply Drawn0.step)⟩

/-! ### spec_NoteName: function 15 -/
def spec_NoteName.f (a0 : Int) : Option (ByteArray) := (some (([(⟨#[108, 101, 110, 100]⟩ : ByteArray), (⟨#[102, 111, 114, 119, 97, 114, 100]⟩ : ByteArray), (⟨#[98, 97, 99, 107]⟩ : ByteArray), (⟨#[101, 110, 100]⟩ : ByteArray), (⟨#[99, 117, 116]⟩ : ByteArray), (⟨#[115, 97, 121]⟩ : ByteArray), (⟨#[100, 111, 110, 101]⟩ : ByteArray), (⟨#[111, 119, 110]⟩ : ByteArray), (⟨#[103, 111, 110, 101]⟩ : ByteArray)] : List ByteArray) : List ByteArray)).bind fun y101 => ((spec_l1In.f a0 1 9).bind fun t104 => (if t104 = true then (if 0 ≤ (wrap64 (a0 - 1)) then (if (wrap64 (a0 - 1)) < (y101.length : Int) then (some (rdOf ByteArray.empty y101 (wrap64 (a0 - 1)))) else (none)) else (none)) else (some (⟨#[]⟩ : ByteArray))))
set_option maxHeartbeats 8000000 in
set_option maxRecDepth 100000 in
theorem spec_NoteName.calls (a0 : Int) (r : ByteArray) (w : World) (h : spec_NoteName.f a0 = some r) :
    Calls Try.prog 15 #[.int .i64 a0] w fun e w' => e = .returned (.string r) ∧ Below w.heap.size w w' := by
  have HB := Aside0.mk (Below.refl w.heap.size w)
  have H : ((some (([(⟨#[108, 101, 110, 100]⟩ : ByteArray), (⟨#[102, 111, 114, 119, 97, 114, 100]⟩ : ByteArray), (⟨#[98, 97, 99, 107]⟩ : ByteArray), (⟨#[101, 110, 100]⟩ : ByteArray), (⟨#[99, 117, 116]⟩ : ByteArray), (⟨#[115, 97, 121]⟩ : ByteArray), (⟨#[100, 111, 110, 101]⟩ : ByteArray), (⟨#[111, 119, 110]⟩ : ByteArray), (⟨#[103, 111, 110, 101]⟩ : ByteArray)] : List ByteArray) : List ByteArray)).bind fun y101 => ((spec_l1In.f a0 1 9).bind fun t104 => (if t104 = true then (if 0 ≤ (wrap64 (a0 - 1)) then (if (wrap64 (a0 - 1)) < (y101.length : Int) then (some (rdOf ByteArray.empty y101 (wrap64 (a0 - 1)))) else (none)) else (none)) else (some (⟨#[]⟩ : ByteArray))))) = some r := h
  clear h
  obtain ⟨y101, hy101⟩ : ∃ y_ : List ByteArray, y_ = (([(⟨#[108, 101, 110, 100]⟩ : ByteArray), (⟨#[102, 111, 114, 119, 97, 114, 100]⟩ : ByteArray), (⟨#[98, 97, 99, 107]⟩ : ByteArray), (⟨#[101, 110, 100]⟩ : ByteArray), (⟨#[99, 117, 116]⟩ : ByteArray), (⟨#[115, 97, 121]⟩ : ByteArray), (⟨#[100, 111, 110, 101]⟩ : ByteArray), (⟨#[111, 119, 110]⟩ : ByteArray), (⟨#[103, 111, 110, 101]⟩ : ByteArray)] : List ByteArray)) := ⟨_, rfl⟩
  replace H : ((spec_l1In.f a0 1 9).bind fun t104 => (if t104 = true then (if 0 ≤ (wrap64 (a0 - 1)) then (if (wrap64 (a0 - 1)) < (y101.length : Int) then (some (rdOf ByteArray.empty y101 (wrap64 (a0 - 1)))) else (none)) else (none)) else (some (⟨#[]⟩ : ByteArray)))) = some r := by first | (rw [hy101]; with_reducible exact H) | (have H2_ := (Option.bind_some _ _).symm.trans H; rw [hy101]; with_reducible exact H2_) | (have H2_ := (Option.bind_some _ _).symm.trans H; with_reducible exact H2_) | with_reducible exact H | (rw [hy101]; exact H) | exact H
  have Ny101 := Aside0.mk hy101
  clear hy101
  replace H := Option.bind_eq_some_iff.mp H
  obtain ⟨t104, A20, H⟩ := H
  replace H : (if t104 = true then (if 0 ≤ (wrap64 (a0 - 1)) then (if (wrap64 (a0 - 1)) < (y101.length : Int) then (some (rdOf ByteArray.empty y101 (wrap64 (a0 - 1)))) else (none)) else (none)) else (some (⟨#[]⟩ : ByteArray))) = some r := H
  have A2 := Aside0.mk A20
  clear A20
  by_cases c3 : t104 = true
  · subst c3
    have H1 : (if 0 ≤ (wrap64 (a0 - 1)) then (if (wrap64 (a0 - 1)) < (y101.length : Int) then (some (rdOf ByteArray.empty y101 (wrap64 (a0 - 1)))) else (none)) else (none)) = some r := by rw [if_pos rfl] at H; exact H
    clear H
    have H := H1
    clear H1
    obtain ⟨ji4, hji4⟩ : ∃ j_ : Int, (wrap64 (a0 - 1)) = j_ := ⟨_, rfl⟩
    replace H : (if 0 ≤ (ji4) then (if (ji4) < (y101.length : Int) then (some (rdOf ByteArray.empty y101 (ji4))) else (none)) else (none)) = some r := by first | (rw [hji4] at H; exact H) | (simp only [hji4] at H ⊢; exact H)
    (try rw [hji4] at A2)
    have hji4w : (IntKind.i64.wrap (a0 - 1)) = ji4 := (i64_w _).trans hji4
    by_cases c5 : 0 ≤ (ji4)
    · rw [if_pos c5] at H
      have c5b0 : decide (0 ≤ (ji4)) = true := decide_eq_true c5
      clear c5
      by_cases c6 : (ji4) < (y101.length : Int)
      · rw [if_pos c6] at H
        have c6b0 : decide ((ji4) < (y101.length : Int)) = true := decide_eq_true c6
        clear c6
        obtain rfl := Option.some.inj H
        go_enter Try.func15, Try.ntmps15
        go_wp2_with (first | ((with_reducible refine gate_dst (N := 4) rfl ?_); refine Kd.R_lit Kd.string _ 9 ?hg (N := 4) ?hd (xs := ([(⟨#[108, 101, 110, 100]⟩ : ByteArray), (⟨#[102, 111, 114, 119, 97, 114, 100]⟩ : ByteArray), (⟨#[98, 97, 99, 107]⟩ : ByteArray), (⟨#[101, 110, 100]⟩ : ByteArray), (⟨#[99, 117, 116]⟩ : ByteArray), (⟨#[115, 97, 121]⟩ : ByteArray), (⟨#[100, 111, 110, 101]⟩ : ByteArray), (⟨#[111, 119, 110]⟩ : ByteArray), (⟨#[103, 111, 110, 101]⟩ : ByteArray)] : List ByteArray)) (inner := [.string (⟨#[108, 101, 110, 100]⟩ : ByteArray), .string (⟨#[102, 111, 114, 119, 97, 114, 100]⟩ : ByteArray), .string (⟨#[98, 97, 99, 107]⟩ : ByteArray), .string (⟨#[101, 110, 100]⟩ : ByteArray), .string (⟨#[99, 117, 116]⟩ : ByteArray), .string (⟨#[115, 97, 121]⟩ : ByteArray), .string (⟨#[100, 111, 110, 101]⟩ : ByteArray), .string (⟨#[111, 119, 110]⟩ : ByteArray), .string (⟨#[103, 111, 110, 101]⟩ : ByteArray)]) (ok := fun _ => True) (okp := fun _ => True) ?hr ?hp (fun _ hk => hk) trivial (Below.refl _ _) (Nat.le_refl _) (by simp) ?_; (case hd => rfl); (case hg => rfl); (case hr => first | (go_simp; done) | (go_simp; rfl)); (case hp => exact (Reps.one (show Kd.M Kd.string _ _ _ (⟨#[108, 101, 110, 100]⟩ : ByteArray) [.string (⟨#[108, 101, 110, 100]⟩ : ByteArray)] from rfl) (Reps.one (show Kd.M Kd.string _ _ _ (⟨#[102, 111, 114, 119, 97, 114, 100]⟩ : ByteArray) [.string (⟨#[102, 111, 114, 119, 97, 114, 100]⟩ : ByteArray)] from rfl) (Reps.one (show Kd.M Kd.string _ _ _ (⟨#[98, 97, 99, 107]⟩ : ByteArray) [.string (⟨#[98, 97, 99, 107]⟩ : ByteArray)] from rfl) (Reps.one (show Kd.M Kd.string _ _ _ (⟨#[101, 110, 100]⟩ : ByteArray) [.string (⟨#[101, 110, 100]⟩ : ByteArray)] from rfl) (Reps.one (show Kd.M Kd.string _ _ _ (⟨#[99, 117, 116]⟩ : ByteArray) [.string (⟨#[99, 117, 116]⟩ : ByteArray)] from rfl) (Reps.one (show Kd.M Kd.string _ _ _ (⟨#[115, 97, 121]⟩ : ByteArray) [.string (⟨#[115, 97, 121]⟩ : ByteArray)] from rfl) (Reps.one (show Kd.M Kd.string _ _ _ (⟨#[100, 111, 110, 101]⟩ : ByteArray) [.string (⟨#[100, 111, 110, 101]⟩ : ByteArray)] from rfl) (Reps.one (show Kd.M Kd.string _ _ _ (⟨#[111, 119, 110]⟩ : ByteArray) [.string (⟨#[111, 119, 110]⟩ : ByteArray)] from rfl) (Reps.one (show Kd.M Kd.string _ _ _ (⟨#[103, 111, 110, 101]⟩ : ByteArray) [.string (⟨#[103, 111, 110, 101]⟩ : ByteArray)] from rfl) (Reps.none _ _))))))))))); intro v102 w7 ho8 hb hg_ hnew_; clear hg_ hnew_; (first | rw [← Ny101.out] at ho8 | (simp only [Int.reduceToNat] at ho8; rw [← Ny101.out] at ho8)); have n0_ := Aside0.mk (Kd.R_lower ho8 (below_size (by repeat (first | (with_reducible first | exact HB.out | apply below_alloc | apply pw_below_drewN | apply below_drew1) | exact HB.out)))); have n1_ := Aside0.mk (below_step (by repeat (first | (with_reducible first | exact HB.out | apply below_alloc | apply pw_below_drewN | apply below_drew1) | exact HB.out)) hb); clear HB; have HO103 := n0_; have HB := n1_; clear n0_ n1_; clear hb ho8) | ((with_reducible refine gate_callee (f := 62) rfl ?_); refine goesL_ (some 6) rfl rfl Try.func62 (by kernel_rfl) rfl #[.int .i64 a0, .int .i64 1, .int .i64 9] rfl (by (try simp only [List.map_toArray, List.map_cons, List.map_nil]); first | done | rfl | (simp only [List.length_drop, List.length_take]; rfl)) ?_; (with_reducible refine (spec_l1In.calls a0 1 9 true _ A2.out).mono ?_); rintro e w' ⟨rfl, ⟨nd, rfl⟩⟩; refine ⟨_, rfl, ?_⟩; obtain ⟨Ao9, co9, eo9⟩ := Kd.R_slice HO103.out; subst eo9; have p105 : 0 ≤ ((ji4) : Int) := of_decide_eq_true (by first | (with_reducible assumption) | assumption); have q105 : (ji4) < (y101.length : Int) := of_decide_eq_true (by first | (with_reducible assumption) | assumption); obtain ⟨ad105, e105, hx105_0⟩ := Kd.at_string (Kd.R_reads' HO103.out).2.2 (ji4) p105 q105; cases e105; replace p105 := eq_true p105; replace q105 := eq_true q105))
        go_ret
        exact ⟨by first | rfl | (simp [errW_none, errW_some] <;> rfl) | (simp only [← hji4]; first | rfl | (simp [errW_none, errW_some] <;> rfl)) | (simp [*, errW_none, errW_some] <;> rfl), by repeat (first | (with_reducible first | exact HB.out | apply below_alloc | apply pw_below_drewN | apply below_drew1) | exact HB.out)⟩
      · rw [if_neg c6] at H
        exact absurd H (by simp)
    · rw [if_neg c5] at H
      exact absurd H (by simp)
  · replace c3 := Bool.eq_false_iff.mpr c3
    subst c3
    have H1 : (some (⟨#[]⟩ : ByteArray)) = some r := by rw [if_neg (show ¬ (false = true) by decide)] at H; exact H
    clear H
    have H := H1
    clear H1
    obtain rfl := Option.some.inj H
    go_enter Try.func15, Try.ntmps15
    go_wp2_with (first | ((with_reducible refine gate_dst (N := 4) rfl ?_); refine Kd.R_lit Kd.string _ 9 ?hg (N := 4) ?hd (xs := ([(⟨#[108, 101, 110, 100]⟩ : ByteArray), (⟨#[102, 111, 114, 119, 97, 114, 100]⟩ : ByteArray), (⟨#[98, 97, 99, 107]⟩ : ByteArray), (⟨#[101, 110, 100]⟩ : ByteArray), (⟨#[99, 117, 116]⟩ : ByteArray), (⟨#[115, 97, 121]⟩ : ByteArray), (⟨#[100, 111, 110, 101]⟩ : ByteArray), (⟨#[111, 119, 110]⟩ : ByteArray), (⟨#[103, 111, 110, 101]⟩ : ByteArray)] : List ByteArray)) (inner := [.string (⟨#[108, 101, 110, 100]⟩ : ByteArray), .string (⟨#[102, 111, 114, 119, 97, 114, 100]⟩ : ByteArray), .string (⟨#[98, 97, 99, 107]⟩ : ByteArray), .string (⟨#[101, 110, 100]⟩ : ByteArray), .string (⟨#[99, 117, 116]⟩ : ByteArray), .string (⟨#[115, 97, 121]⟩ : ByteArray), .string (⟨#[100, 111, 110, 101]⟩ : ByteArray), .string (⟨#[111, 119, 110]⟩ : ByteArray), .string (⟨#[103, 111, 110, 101]⟩ : ByteArray)]) (ok := fun _ => True) (okp := fun _ => True) ?hr ?hp (fun _ hk => hk) trivial (Below.refl _ _) (Nat.le_refl _) (by simp) ?_; (case hd => rfl); (case hg => rfl); (case hr => first | (go_simp; done) | (go_simp; rfl)); (case hp => exact (Reps.one (show Kd.M Kd.string _ _ _ (⟨#[108, 101, 110, 100]⟩ : ByteArray) [.string (⟨#[108, 101, 110, 100]⟩ : ByteArray)] from rfl) (Reps.one (show Kd.M Kd.string _ _ _ (⟨#[102, 111, 114, 119, 97, 114, 100]⟩ : ByteArray) [.string (⟨#[102, 111, 114, 119, 97, 114, 100]⟩ : ByteArray)] from rfl) (Reps.one (show Kd.M Kd.string _ _ _ (⟨#[98, 97, 99, 107]⟩ : ByteArray) [.string (⟨#[98, 97, 99, 107]⟩ : ByteArray)] from rfl) (Reps.one (show Kd.M Kd.string _ _ _ (⟨#[101, 110, 100]⟩ : ByteArray) [.string (⟨#[101, 110, 100]⟩ : ByteArray)] from rfl) (Reps.one (show Kd.M Kd.string _ _ _ (⟨#[99, 117, 116]⟩ : ByteArray) [.string (⟨#[99, 117, 116]⟩ : ByteArray)] from rfl) (Reps.one (show Kd.M Kd.string _ _ _ (⟨#[115, 97, 121]⟩ : ByteArray) [.string (⟨#[115, 97, 121]⟩ : ByteArray)] from rfl) (Reps.one (show Kd.M Kd.string _ _ _ (⟨#[100, 111, 110, 101]⟩ : ByteArray) [.string (⟨#[100, 111, 110, 101]⟩ : ByteArray)] from rfl) (Reps.one (show Kd.M Kd.string _ _ _ (⟨#[111, 119, 110]⟩ : ByteArray) [.string (⟨#[111, 119, 110]⟩ : ByteArray)] from rfl) (Reps.one (show Kd.M Kd.string _ _ _ (⟨#[103, 111, 110, 101]⟩ : ByteArray) [.string (⟨#[103, 111, 110, 101]⟩ : ByteArray)] from rfl) (Reps.none _ _))))))))))); intro v102 w10 ho11 hb hg_ hnew_; clear hg_ hnew_; (first | rw [← Ny101.out] at ho11 | (simp only [Int.reduceToNat] at ho11; rw [← Ny101.out] at ho11)); have n0_ := Aside0.mk (Kd.R_lower ho11 (below_size (by repeat (first | (with_reducible first | exact HB.out | apply below_alloc | apply pw_below_drewN | apply below_drew1) | exact HB.out)))); have n1_ := Aside0.mk (below_step (by repeat (first | (with_reducible first | exact HB.out | apply below_alloc | apply pw_below_drewN | apply below_drew1) | exact HB.out)) hb); clear HB; have HO103 := n0_; have HB := n1_; clear n0_ n1_; clear hb ho11) | ((with_reducible refine gate_callee (f := 62) rfl ?_); refine goesL_ (some 6) rfl rfl Try.func62 (by kernel_rfl) rfl #[.int .i64 a0, .int .i64 1, .int .i64 9] rfl (by (try simp only [List.map_toArray, List.map_cons, List.map_nil]); first | done | rfl | (simp only [List.length_drop, List.length_take]; rfl)) ?_; (with_reducible refine (spec_l1In.calls a0 1 9 false _ A2.out).mono ?_); rintro e w' ⟨rfl, ⟨nd, rfl⟩⟩; refine ⟨_, rfl, ?_⟩))
    go_ret
    exact ⟨by first | rfl | (simp [errW_none, errW_some] <;> rfl) | (simp [*, errW_none, errW_some] <;> rfl), by repeat (first | (with_reducible first | exact HB.out | apply below_alloc | apply pw_below_drewN | apply below_drew1) | exact HB.out)⟩

/-! ### impl_isIn: function 63 -/
def impl_isIn.f (a0 : Int) (a1 : Int) (a2 : Int) : Option (Bool) := if a1 ≤ a0 then (some (decide (a0 ≤ a2))) else (some false)
set_option maxHeartbeats 8000000 in
set_option maxRecDepth 100000 in
theorem impl_isIn.calls (a0 : Int) (a1 : Int) (a2 : Int) (r : Bool) (w : World) (h : impl_isIn.f a0 a1 a2 = some r) :
    Calls Try.prog 63 #[.int .i64 a0, .int .i64 a1, .int .i64 a2] w fun e w' => e = .returned (.bool r) ∧ Drawn0 w w' := by
  have H : (if a1 ≤ a0 then (some (decide (a0 ≤ a2))) else (some false)) = some r := h
  clear h
  by_cases c4 : a1 ≤ a0
  · rw [if_pos c4] at H
    have c4b0 : decide (a1 ≤ a0) = true := decide_eq_true c4
    clear c4
    obtain rfl := Option.some.inj H
    go_enter Try.func63, Try.ntmps63
    go_wp2
    go_ret
    exact ⟨by first | rfl | (simp; done) | (simp [*]; done), by repeat (first | exact Drawn0.refl _ | apply Drawn0.step)⟩
  · rw [if_neg c4] at H
    have c4b0 : decide (a1 ≤ a0) = false := decide_eq_false c4
    clear c4
    obtain rfl := Option.some.inj H
    go_enter Try.func63, Try.ntmps63
    go_wp2
    go_ret
    exact ⟨by first | rfl | (simp; done) | (simp [*]; done), by repeat (first | exact Drawn0.refl _ | apply Drawn0.step)⟩

def impl_NoteName.f (a0 : Int) : Option (ByteArray) := some (if a0 = 1 then (⟨#[108, 101, 110, 100]⟩ : ByteArray) else if a0 = 2 then (⟨#[102, 111, 114, 119, 97, 114, 100]⟩ : ByteArray) else if a0 = 3 then (⟨#[98, 97, 99, 107]⟩ : ByteArray) else if a0 = 4 then (⟨#[101, 110, 100]⟩ : ByteArray) else if a0 = 5 then (⟨#[99, 117, 116]⟩ : ByteArray) else if a0 = 6 then (⟨#[115, 97, 121]⟩ : ByteArray) else if a0 = 7 then (⟨#[100, 111, 110, 101]⟩ : ByteArray) else if a0 = 8 then (⟨#[111, 119, 110]⟩ : ByteArray) else if a0 = 9 then (⟨#[103, 111, 110, 101]⟩ : ByteArray) else (⟨#[]⟩ : ByteArray))
set_option maxHeartbeats 8000000 in
set_option maxRecDepth 100000 in
theorem impl_NoteName.at1 (w : World) : Calls Try.prog 16 #[.int .i64 1] w fun e w' => e = .returned (.string (⟨#[108, 101, 110, 100]⟩ : ByteArray)) ∧ Below w.heap.size w w' := by
  have A := Aside0.mk (show impl_isIn.f 1 1 9 = some true from rfl)
  go_enter Try.func16, Try.ntmps16
  go_wp2_with (go_at_call 63; (with_reducible refine (impl_isIn.calls 1 1 9 true _ A.out).mono ?_); rintro e w' ⟨rfl, ⟨nd, rfl⟩⟩)
  go_ret
  exact ⟨rfl, by repeat (first | exact Below.refl _ _ | apply below_alloc | apply pw_below_drewN | apply below_drew1)⟩
set_option maxHeartbeats 8000000 in
set_option maxRecDepth 100000 in
theorem impl_NoteName.at2 (w : World) : Calls Try.prog 16 #[.int .i64 2] w fun e w' => e = .returned (.string (⟨#[102, 111, 114, 119, 97, 114, 100]⟩ : ByteArray)) ∧ Below w.heap.size w w' := by
  have A := Aside0.mk (show impl_isIn.f 2 1 9 = some true from rfl)
  go_enter Try.func16, Try.ntmps16
  go_wp2_with (go_at_call 63; (with_reducible refine (impl_isIn.calls 2 1 9 true _ A.out).mono ?_); rintro e w' ⟨rfl, ⟨nd, rfl⟩⟩)
  go_ret
  exact ⟨rfl, by repeat (first | exact Below.refl _ _ | apply below_alloc | apply pw_below_drewN | apply below_drew1)⟩
set_option maxHeartbeats 8000000 in
set_option maxRecDepth 100000 in
theorem impl_NoteName.at3 (w : World) : Calls Try.prog 16 #[.int .i64 3] w fun e w' => e = .returned (.string (⟨#[98, 97, 99, 107]⟩ : ByteArray)) ∧ Below w.heap.size w w' := by
  have A := Aside0.mk (show impl_isIn.f 3 1 9 = some true from rfl)
  go_enter Try.func16, Try.ntmps16
  go_wp2_with (go_at_call 63; (with_reducible refine (impl_isIn.calls 3 1 9 true _ A.out).mono ?_); rintro e w' ⟨rfl, ⟨nd, rfl⟩⟩)
  go_ret
  exact ⟨rfl, by repeat (first | exact Below.refl _ _ | apply below_alloc | apply pw_below_drewN | apply below_drew1)⟩
set_option maxHeartbeats 8000000 in
set_option maxRecDepth 100000 in
theorem impl_NoteName.at4 (w : World) : Calls Try.prog 16 #[.int .i64 4] w fun e w' => e = .returned (.string (⟨#[101, 110, 100]⟩ : ByteArray)) ∧ Below w.heap.size w w' := by
  have A := Aside0.mk (show impl_isIn.f 4 1 9 = some true from rfl)
  go_enter Try.func16, Try.ntmps16
  go_wp2_with (go_at_call 63; (with_reducible refine (impl_isIn.calls 4 1 9 true _ A.out).mono ?_); rintro e w' ⟨rfl, ⟨nd, rfl⟩⟩)
  go_ret
  exact ⟨rfl, by repeat (first | exact Below.refl _ _ | apply below_alloc | apply pw_below_drewN | apply below_drew1)⟩
set_option maxHeartbeats 8000000 in
set_option maxRecDepth 100000 in
theorem impl_NoteName.at5 (w : World) : Calls Try.prog 16 #[.int .i64 5] w fun e w' => e = .returned (.string (⟨#[99, 117, 116]⟩ : ByteArray)) ∧ Below w.heap.size w w' := by
  have A := Aside0.mk (show impl_isIn.f 5 1 9 = some true from rfl)
  go_enter Try.func16, Try.ntmps16
  go_wp2_with (go_at_call 63; (with_reducible refine (impl_isIn.calls 5 1 9 true _ A.out).mono ?_); rintro e w' ⟨rfl, ⟨nd, rfl⟩⟩)
  go_ret
  exact ⟨rfl, by repeat (first | exact Below.refl _ _ | apply below_alloc | apply pw_below_drewN | apply below_drew1)⟩
set_option maxHeartbeats 8000000 in
set_option maxRecDepth 100000 in
theorem impl_NoteName.at6 (w : World) : Calls Try.prog 16 #[.int .i64 6] w fun e w' => e = .returned (.string (⟨#[115, 97, 121]⟩ : ByteArray)) ∧ Below w.heap.size w w' := by
  have A := Aside0.mk (show impl_isIn.f 6 1 9 = some true from rfl)
  go_enter Try.func16, Try.ntmps16
  go_wp2_with (go_at_call 63; (with_reducible refine (impl_isIn.calls 6 1 9 true _ A.out).mono ?_); rintro e w' ⟨rfl, ⟨nd, rfl⟩⟩)
  go_ret
  exact ⟨rfl, by repeat (first | exact Below.refl _ _ | apply below_alloc | apply pw_below_drewN | apply below_drew1)⟩
set_option maxHeartbeats 8000000 in
set_option maxRecDepth 100000 in
theorem impl_NoteName.at7 (w : World) : Calls Try.prog 16 #[.int .i64 7] w fun e w' => e = .returned (.string (⟨#[100, 111, 110, 101]⟩ : ByteArray)) ∧ Below w.heap.size w w' := by
  have A := Aside0.mk (show impl_isIn.f 7 1 9 = some true from rfl)
  go_enter Try.func16, Try.ntmps16
  go_wp2_with (go_at_call 63; (with_reducible refine (impl_isIn.calls 7 1 9 true _ A.out).mono ?_); rintro e w' ⟨rfl, ⟨nd, rfl⟩⟩)
  go_ret
  exact ⟨rfl, by repeat (first | exact Below.refl _ _ | apply below_alloc | apply pw_below_drewN | apply below_drew1)⟩
set_option maxHeartbeats 8000000 in
set_option maxRecDepth 100000 in
theorem impl_NoteName.at8 (w : World) : Calls Try.prog 16 #[.int .i64 8] w fun e w' => e = .returned (.string (⟨#[111, 119, 110]⟩ : ByteArray)) ∧ Below w.heap.size w w' := by
  have A := Aside0.mk (show impl_isIn.f 8 1 9 = some true from rfl)
  go_enter Try.func16, Try.ntmps16
  go_wp2_with (go_at_call 63; (with_reducible refine (impl_isIn.calls 8 1 9 true _ A.out).mono ?_); rintro e w' ⟨rfl, ⟨nd, rfl⟩⟩)
  go_ret
  exact ⟨rfl, by repeat (first | exact Below.refl _ _ | apply below_alloc | apply pw_below_drewN | apply below_drew1)⟩
set_option maxHeartbeats 8000000 in
set_option maxRecDepth 100000 in
theorem impl_NoteName.at9 (w : World) : Calls Try.prog 16 #[.int .i64 9] w fun e w' => e = .returned (.string (⟨#[103, 111, 110, 101]⟩ : ByteArray)) ∧ Below w.heap.size w w' := by
  have A := Aside0.mk (show impl_isIn.f 9 1 9 = some true from rfl)
  go_enter Try.func16, Try.ntmps16
  go_wp2_with (go_at_call 63; (with_reducible refine (impl_isIn.calls 9 1 9 true _ A.out).mono ?_); rintro e w' ⟨rfl, ⟨nd, rfl⟩⟩)
  go_ret
  exact ⟨rfl, by repeat (first | exact Below.refl _ _ | apply below_alloc | apply pw_below_drewN | apply below_drew1)⟩
set_option maxHeartbeats 8000000 in
set_option maxRecDepth 100000 in
theorem impl_NoteName.out (a0 : Int) (w : World) (h : impl_isIn.f a0 1 9 = some false) : Calls Try.prog 16 #[.int .i64 a0] w fun e w' => e = .returned (.string (⟨#[]⟩ : ByteArray)) ∧ Below w.heap.size w w' := by
  have A := Aside0.mk h
  go_enter Try.func16, Try.ntmps16
  go_wp2_with (go_at_call 63; (with_reducible refine (impl_isIn.calls a0 1 9 false _ A.out).mono ?_); rintro e w' ⟨rfl, ⟨nd, rfl⟩⟩)
  go_ret
  exact ⟨rfl, by repeat (first | exact Below.refl _ _ | apply below_alloc | apply pw_below_drewN | apply below_drew1)⟩
theorem impl_NoteName.calls (a0 : Int) (r : ByteArray) (w : World) (h : impl_NoteName.f a0 = some r) :
    Calls Try.prog 16 #[.int .i64 a0] w fun e w' => e = .returned (.string r) ∧ Below w.heap.size w w' := by
  obtain rfl := Option.some.inj h
  by_cases c1 : a0 = 1
  · subst c1
    exact impl_NoteName.at1 w
  by_cases c2 : a0 = 2
  · subst c2
    exact impl_NoteName.at2 w
  by_cases c3 : a0 = 3
  · subst c3
    exact impl_NoteName.at3 w
  by_cases c4 : a0 = 4
  · subst c4
    exact impl_NoteName.at4 w
  by_cases c5 : a0 = 5
  · subst c5
    exact impl_NoteName.at5 w
  by_cases c6 : a0 = 6
  · subst c6
    exact impl_NoteName.at6 w
  by_cases c7 : a0 = 7
  · subst c7
    exact impl_NoteName.at7 w
  by_cases c8 : a0 = 8
  · subst c8
    exact impl_NoteName.at8 w
  by_cases c9 : a0 = 9
  · subst c9
    exact impl_NoteName.at9 w
  simp only [c1, c2, c3, c4, c5, c6, c7, c8, c9, if_false]
  refine impl_NoteName.out a0 w ?_
  unfold impl_isIn.f
  by_cases d : 1 ≤ a0
  · rw [if_pos d, decide_eq_false (by omega)]
  · rw [if_neg d]


/-! ### laws_FnExactNoteName: function 3 -/
def laws_FnExactNoteName.f (a0 : Int) : Option (Bool) := (spec_NoteName.f a0).bind fun t106 => ((impl_NoteName.f a0).bind fun t107 => (if t107.toList = t106.toList then (some true) else (some false)))
set_option maxHeartbeats 8000000 in
set_option maxRecDepth 100000 in
theorem laws_FnExactNoteName.calls (a0 : Int) (r : Bool) (w : World) (hr_ : Aside0 (r = true)) (h : laws_FnExactNoteName.f a0 = some r) :
    Calls Try.prog 3 #[.int .i64 a0] w fun e w' => e = .returned (.bool r) ∧ Below w.heap.size w w' := by
  have HB := Aside0.mk (Below.refl w.heap.size w)
  have H : ((spec_NoteName.f a0).bind fun t106 => ((impl_NoteName.f a0).bind fun t107 => (if t107.toList = t106.toList then (some true) else (some false)))) = some r := h
  clear h
  replace H := Option.bind_eq_some_iff.mp H
  obtain ⟨t106, A20, H⟩ := H
  replace H : ((impl_NoteName.f a0).bind fun t107 => (if t107.toList = t106.toList then (some true) else (some false))) = some r := H
  have A2 := Aside0.mk A20
  clear A20
  replace H := Option.bind_eq_some_iff.mp H
  obtain ⟨t107, A30, H⟩ := H
  replace H : (if t107.toList = t106.toList then (some true) else (some false)) = some r := H
  have A3 := Aside0.mk A30
  clear A30
  by_cases c4 : t107.toList = t106.toList
  · rw [if_pos c4] at H
    have c4b0 : (t107.toList == t106.toList) = true := beq_iff_eq.mpr c4
    have c4b1 : (t107.toList != t106.toList) = false := bne_eq_false_iff_eq.mpr c4
    clear c4
    obtain rfl := Option.some.inj H
    go_enter Try.func3, Try.ntmps3
    go_wp2_with (first | ((with_reducible refine gate_callee (f := 15) rfl ?_); refine goesL_ (some 6) rfl rfl Try.func15 (by kernel_rfl) rfl #[.int .i64 a0] rfl (by (try simp only [List.map_toArray, List.map_cons, List.map_nil]); first | done | rfl | (simp only [List.length_drop, List.length_take]; rfl)) ?_; (with_reducible refine (spec_NoteName.calls a0 t106 _ A2.out).mono ?_); rintro e w5 ⟨rfl, hb⟩; refine ⟨_, rfl, ?_⟩; have n0_ := Aside0.mk (below_step (by repeat (first | (with_reducible first | exact HB.out | apply below_alloc | apply pw_below_drewN | apply below_drew1) | exact HB.out)) hb); clear HB; have HB := n0_; clear n0_; (try clear hb); (try clear hb2); (try clear hk); (try clear hi)) | ((with_reducible refine gate_callee (f := 16) rfl ?_); refine goesL_ (some 8) rfl rfl Try.func16 (by kernel_rfl) rfl #[.int .i64 a0] rfl (by (try simp only [List.map_toArray, List.map_cons, List.map_nil]); first | done | rfl | (simp only [List.length_drop, List.length_take]; rfl)) ?_; (with_reducible refine (impl_NoteName.calls a0 t107 _ A3.out).mono ?_); rintro e w6 ⟨rfl, hb⟩; refine ⟨_, rfl, ?_⟩; have n0_ := Aside0.mk (below_step (by repeat (first | (with_reducible first | exact HB.out | apply below_alloc | apply pw_below_drewN | apply below_drew1) | exact HB.out)) hb); clear HB; have HB := n0_; clear n0_; (try clear hb); (try clear hb2); (try clear hk); (try clear hi)))
    go_ret
    exact ⟨by first | rfl | (simp [errW_none, errW_some] <;> rfl) | (simp [*, errW_none, errW_some] <;> rfl), by repeat (first | (with_reducible first | exact HB.out | apply below_alloc | apply pw_below_drewN | apply below_drew1) | exact HB.out)⟩
  · rw [if_neg c4] at H
    have c4b0 : (t107.toList == t106.toList) = false := beq_eq_false_iff_ne.mpr c4
    have c4b1 : (t107.toList != t106.toList) = true := bne_iff_ne.mpr c4
    exact absurd (hr_.out ▸ H) (by simp)

/-- THE ONE PURE STATEMENT of laws_FnExactNoteName: yours. -/
def laws_FnExactNoteName.Pure : Prop := ∀ (a0 : Int), (Lit.int .i64 a0).wf = true → laws_FnExactNoteName.f a0 = some true
theorem laws_FnExactNoteName.walk (P : laws_FnExactNoteName.Pure) (a0 : Int) (w : World) (w0 : (Lit.int .i64 a0).wf = true) :
    Calls Try.prog 3 #[.int .i64 a0] w fun e w' => e = .returned (.bool true) ∧ Below w.heap.size w w' := by
  have h := P a0 w0
  refine (laws_FnExactNoteName.calls a0 true w ⟨rfl⟩ h).mono ?_
  rintro e w' ⟨rfl, hd⟩
  exact ⟨rfl, hd⟩

end Go.Proofs.Ytnfelcmlegenoaa.PFnExactNoteName
