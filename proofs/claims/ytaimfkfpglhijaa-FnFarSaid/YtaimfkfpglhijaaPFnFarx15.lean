-- Written by a program of this session (myprint.py, over the kit's print): contracts of FnFar
import Derived.Test.YtaimfkfpglhijaaPFnFarx0
import Derived.Test.YtaimfkfpglhijaaPFnFarx2
import Derived.Test.YtaimfkfpglhijaaPFnFarx14
namespace Go.Proofs.Ytaimfkfpglhijaa.PFnFar
open Go.RowKit Go.Proofs.YtaimfkfpglhijaaW.PrintWords Go.Proofs.YtaimfkfpglhijaaW.PrintLast Go.Proofs.YtaimfkfpglhijaaW.PrintMore Go.Proofs.YtaimfkfpglhijaaV
attribute [local go_sem] max2_int min2_int max_two min_two max_three min_three max_four min_four   -- for this text's walks alone
set_option linter.unusedVariables false
set_option linter.unusedSimpArgs false

/-! ### spec_AnswerTo: function 132 -/
mutual
def spec_AnswerTo.j0 : Nat → Int → ByteArray → Bool → Option ((List (S47)))
 | 0, _, _, _ => none
 | k + 1, x0, x1, x15 => if x15 = true then (some (([] : List (S47)))) else ((spec_WordOf.f x1).bind fun t577 => (if t577 = 2 then (spec_AnswerTo.j1 k x0 x1 t577 true) else (spec_AnswerTo.j1 k x0 x1 t577 (t577 == 3))))
def spec_AnswerTo.j1 : Nat → Int → ByteArray → Int → Bool → Option ((List (S47)))
 | 0, _, _, _, _ => none
 | k + 1, x0, x1, x5, x6 => if x0 = 2 then (spec_AnswerTo.j2 k x0 x5 (!x6) 4 x1 0) else (spec_AnswerTo.j2 k x0 x5 false 4 x1 0)
def spec_AnswerTo.j2 : Nat → Int → Int → Bool → Int → ByteArray → Int → Option ((List (S47)))
 | 0, _, _, _, _, _, _ => none
 | k + 1, x0, x5, x27, x579000, x579001, x579002 => if x27 = true then ((spec_NextSt.f k x0 x5).bind fun t579 => (some (([(⟨6, (⟨#[97, 98, 111, 114, 116, 101, 100]⟩ : ByteArray), 0⟩ : S47), (⟨5, (⟨#[]⟩ : ByteArray), t579⟩ : S47)] : List (S47))))) else (if x5 = 4 then ((spec_NextSt.f k x0 x5).bind fun t583 => (some (([(⟨6, (⟨#[102, 97, 105, 108, 101, 100]⟩ : ByteArray), 0⟩ : S47), (⟨5, (⟨#[]⟩ : ByteArray), t583⟩ : S47)] : List (S47))))) else (if x0 = 2 then (if x5 = 2 then ((spec_NextSt.f k x0 x5).bind fun t587 => (some (([(⟨x579000, (⟨#[114, 111, 108, 108, 98, 97, 99, 107]⟩ : ByteArray), x579002⟩ : S47), (⟨5, (⟨#[]⟩ : ByteArray), t587⟩ : S47)] : List (S47))))) else ((spec_NextSt.f k x0 x5).bind fun t591 => (some (([(⟨x579000, x579001, x579002⟩ : S47), (⟨5, (⟨#[]⟩ : ByteArray), t591⟩ : S47)] : List (S47)))))) else ((spec_NextSt.f k x0 x5).bind fun t595 => (some (([(⟨x579000, x579001, x579002⟩ : S47), (⟨5, (⟨#[]⟩ : ByteArray), t595⟩ : S47)] : List (S47)))))))
end
def spec_AnswerTo.f (k : Nat) (a0 : Int) (a1 : ByteArray) : Option ((List (S47))) := (spec_l1In.f a0 0 2).bind fun t572 => (if t572 = true then ((spec_TextOk.f k a1).bind fun t573 => (spec_AnswerTo.j0 k a0 a1 (!t573))) else (spec_AnswerTo.j0 k a0 a1 true))
theorem spec_AnswerTo.mono_l : ∀ k, (∀ y0 y1 y2, LeO (spec_AnswerTo.j0 k y0 y1 y2) (spec_AnswerTo.j0 (k + 1) y0 y1 y2)) ∧ (∀ y0 y1 y2 y3, LeO (spec_AnswerTo.j1 k y0 y1 y2 y3) (spec_AnswerTo.j1 (k + 1) y0 y1 y2 y3)) ∧ (∀ y0 y1 y2 y3 y4 y5, LeO (spec_AnswerTo.j2 k y0 y1 y2 y3 y4 y5) (spec_AnswerTo.j2 (k + 1) y0 y1 y2 y3 y4 y5))
 | 0 => ⟨fun _ _ _ r h => by simp [spec_AnswerTo.j0] at h, fun _ _ _ _ r h => by simp [spec_AnswerTo.j1] at h, fun _ _ _ _ _ _ r h => by simp [spec_AnswerTo.j2] at h⟩
 | k + 1 => by
  obtain ⟨ih0, ih1, ih2⟩ := spec_AnswerTo.mono_l k
  refine ⟨?_, ?_, ?_⟩
  ·
   intro y0 y1 y2
   unfold spec_AnswerTo.j0
   repeat' first
   | (with_reducible exact ih0 _ _ _)
   | (with_reducible exact ih1 _ _ _ _)
   | (with_reducible exact ih2 _ _ _ _ _ _)
   | (with_reducible exact spec_NextSt.mono _ _ _)
   | (with_reducible exact spec_TextOk.mono _ _)
   | (with_reducible exact LeO.refl _)
   | (with_reducible exact LeO.none _)
   | (with_reducible refine LeO.ite ?_ ?_)
   | (with_reducible refine LeO.bind ?_ (fun _ => ?_))
   | exact ih0 _ _ _
   | exact ih1 _ _ _ _
   | exact ih2 _ _ _ _ _ _
   | exact spec_NextSt.mono _ _ _
   | exact spec_TextOk.mono _ _
   | exact LeO.none _
   | refine LeO.ite ?_ ?_
   | refine LeO.bind ?_ (fun _ => ?_)
  ·
   intro y0 y1 y2 y3
   unfold spec_AnswerTo.j1
   repeat' first
   | (with_reducible exact ih0 _ _ _)
   | (with_reducible exact ih1 _ _ _ _)
   | (with_reducible exact ih2 _ _ _ _ _ _)
   | (with_reducible exact spec_NextSt.mono _ _ _)
   | (with_reducible exact spec_TextOk.mono _ _)
   | (with_reducible exact LeO.refl _)
   | (with_reducible exact LeO.none _)
   | (with_reducible refine LeO.ite ?_ ?_)
   | (with_reducible refine LeO.bind ?_ (fun _ => ?_))
   | exact ih0 _ _ _
   | exact ih1 _ _ _ _
   | exact ih2 _ _ _ _ _ _
   | exact spec_NextSt.mono _ _ _
   | exact spec_TextOk.mono _ _
   | exact LeO.none _
   | refine LeO.ite ?_ ?_
   | refine LeO.bind ?_ (fun _ => ?_)
  ·
   intro y0 y1 y2 y3 y4 y5
   unfold spec_AnswerTo.j2
   repeat' first
   | (with_reducible exact ih0 _ _ _)
   | (with_reducible exact ih1 _ _ _ _)
   | (with_reducible exact ih2 _ _ _ _ _ _)
   | (with_reducible exact spec_NextSt.mono _ _ _)
   | (with_reducible exact spec_TextOk.mono _ _)
   | (with_reducible exact LeO.refl _)
   | (with_reducible exact LeO.none _)
   | (with_reducible refine LeO.ite ?_ ?_)
   | (with_reducible refine LeO.bind ?_ (fun _ => ?_))
   | exact ih0 _ _ _
   | exact ih1 _ _ _ _
   | exact ih2 _ _ _ _ _ _
   | exact spec_NextSt.mono _ _ _
   | exact spec_TextOk.mono _ _
   | exact LeO.none _
   | refine LeO.ite ?_ ?_
   | refine LeO.bind ?_ (fun _ => ?_)
theorem spec_AnswerTo.mono : ∀ a0 a1 k, LeO (spec_AnswerTo.f k a0 a1) (spec_AnswerTo.f (k + 1) a0 a1) := by
 intro a0 a1 k
 obtain ⟨ih0, ih1, ih2⟩ := spec_AnswerTo.mono_l k
 unfold spec_AnswerTo.f
 repeat' first
   | (with_reducible exact ih0 _ _ _)
   | (with_reducible exact ih1 _ _ _ _)
   | (with_reducible exact ih2 _ _ _ _ _ _)
   | (with_reducible exact spec_NextSt.mono _ _ _)
   | (with_reducible exact spec_TextOk.mono _ _)
   | (with_reducible exact LeO.refl _)
   | (with_reducible exact LeO.none _)
   | (with_reducible refine LeO.ite ?_ ?_)
   | (with_reducible refine LeO.bind ?_ (fun _ => ?_))
   | exact ih0 _ _ _
   | exact ih1 _ _ _ _
   | exact ih2 _ _ _ _ _ _
   | exact spec_NextSt.mono _ _ _
   | exact spec_TextOk.mono _ _
   | exact LeO.none _
   | refine LeO.ite ?_ ?_
   | refine LeO.bind ?_ (fun _ => ?_)
set_option maxHeartbeats 8000000 in
set_option maxRecDepth 100000 in
theorem spec_AnswerTo.calls (k : Nat) (a0 : Int) (a1 : ByteArray) (r : List (S47)) (w : World) (h : spec_AnswerTo.f k a0 a1 = some r) :
  Calls Try.prog 132 #[.int .i64 a0, .string a1] w fun e w' => ∃ v0_ : Value, e = .returned (v0_) ∧ Kd.R k47 47 w' w.heap.size (fun _ => True) v0_ r ∧ Below w.heap.size w w' := by
 have hu47 := Try.underlying47
 have HB := Aside0.mk (Below.refl w.heap.size w)
 have H : ((spec_l1In.f a0 0 2).bind fun t572 => (if t572 = true then ((spec_TextOk.f k a1).bind fun t573 => (spec_AnswerTo.j0 k a0 a1 (!t573))) else (spec_AnswerTo.j0 k a0 a1 true))) = some r := h
 clear h
 have HC3 := Aside0.mk H
 clear H
 go_enter Try.func132, Try.ntmps132
 go_upto_region 1 with (fail)
 go_cut [15] (fun v15 wc => ∃ (kq : Nat) (x15_2 : Bool), v15 = .bool x15_2 ∧ Aside0 (spec_AnswerTo.j0 kq a0 a1 x15_2 = some r) ∧ Aside0 (kq ≤ k) ∧ Aside0 (Below w.heap.size w wc))
 case first =>
  have H := HC3.out
  clear HC3
  obtain ⟨t572, A4, H⟩ := bd_ H
  by_cases c5 : t572 = true
  ·
   subst c5
   rw [if_pos rfl] at H
   obtain ⟨t573, A6, H⟩ := bd_ H
   have H' := Aside0.mk H
   clear H
   go_wp2_with (first | ((with_reducible refine gate_callee (f := 117) rfl ?_); refine goesL_ (some 9) rfl rfl Try.func117 (by kernel_rfl) rfl #[.int .i64 a0, .int .i64 0, .int .i64 2] rfl la_ ?_; (with_reducible refine (spec_l1In.calls a0 0 2 true _ A4.out).mono ?_); rintro e w' ⟨rfl, ⟨nd, rfl⟩⟩; refine ⟨_, rfl, ?_⟩) | (go_at_call 120; (with_reducible refine (spec_TextOk.calls k a1 t573 _ A6.out).mono ?_); rintro e w' ⟨rfl, ⟨nd, rfl⟩⟩))
   go_meet
   case rel => exact ⟨_, (!t573), eqq_, H', ⟨by first | omega | exact Nat.le_refl _⟩, ⟨qB HB⟩⟩
  ·
   replace c5 := Bool.eq_false_iff.mpr c5
   subst c5
   rw [if_neg (show ¬ (false = true) by decide)] at H
   have H' := Aside0.mk H
   clear H
   go_wp2_with (first | ((with_reducible refine gate_callee (f := 117) rfl ?_); refine goesL_ (some 9) rfl rfl Try.func117 (by kernel_rfl) rfl #[.int .i64 a0, .int .i64 0, .int .i64 2] rfl la_ ?_; (with_reducible refine (spec_l1In.calls a0 0 2 false _ A4.out).mono ?_); rintro e w' ⟨rfl, ⟨nd, rfl⟩⟩; refine ⟨_, rfl, ?_⟩))
   go_meet
   case rel => exact ⟨_, (true), eqq_, H', ⟨by first | omega | exact Nat.le_refl _⟩, ⟨qB HB⟩⟩
 case rest =>
  clear HC3
  try clear c1
  try clear p2
  try clear c5
  obtain ⟨kq, x15_2, rfl, HA, HJ2, HB⟩ := hcut
  cases kq with
  | zero => exact absurd HA.out (by simp [spec_AnswerTo.j0])
  | succ kj2 =>
   have H := HA.out
   clear HA
   simp only [spec_AnswerTo.j0] at H
   by_cases c7 : x15_2 = true
   ·
    subst c7
    rw [if_pos rfl] at H
    obtain ⟨y574, hy574⟩ : ∃ y_ : List (S47), y_ = (([] : List (S47))) := ⟨_, rfl⟩
    rw [← hy574] at H
    have Ny574 := Aside0.mk hy574
    clear hy574
    obtain rfl := Option.some.inj H
    go_wp2_with (first | ((with_reducible refine gate_dst (N := 16) rfl ?_); refine Kd.R_lit k47 _ 47 ?hg (N := 16) ?hd (xs := ([] : List (S47))) (inner := []) (ok := fun _ => True) (okp := fun _ => True) ?hr ?hp (fun _ hk => hk) trivial (Below.refl _ _) (Nat.le_refl _) (by simp) ?_; (case hd => rfl); (case hg => rfl); (case hr => first | (go_simp; done) | (go_simp; rfl)); (case hp => exact (Reps.none _ _)); intro v575 w8 ho9 hb hg_ hnew_; clear hg_ hnew_; (first | rw [← Ny574.out] at ho9 | (simp only [Int.reduceToNat] at ho9; rw [← Ny574.out] at ho9)); have HO576 := am_ (Kd.R_lower ho9 (below_size (qB HB))); replace HB := am_ (below_step (qB HB) hb); clear hb ho9))
    go_ret
    exact ⟨_, er_, qR HO576, qB HB⟩
   ·
    replace c7 := Bool.eq_false_iff.mpr c7
    subst c7
    rw [if_neg (show ¬ (false = true) by decide)] at H
    obtain ⟨t577, A10, H⟩ := bd_ H
    have HC11 := Aside0.mk H
    clear H
    go_upto_region 4 with (first | ((with_reducible refine gate_callee (f := 134) rfl ?_); refine goesL_ (some 18) rfl rfl Try.func134 (by kernel_rfl) rfl #[.string a1] rfl la_ ?_; (with_reducible refine (spec_WordOf.calls a1 t577 _ A10.out).mono ?_); rintro e w' ⟨rfl, ⟨nd, rfl⟩⟩; refine ⟨_, rfl, ?_⟩))
    (try simp only [Act.put, List.setIfInBounds_toArray, List.set_cons_zero, List.set_cons_succ])
    go_cut [6] (fun v6 wc => ∃ (kq : Nat) (x6_10 : Bool), v6 = .bool x6_10 ∧ Aside0 (spec_AnswerTo.j1 kq a0 a1 t577 x6_10 = some r) ∧ Aside0 (kq ≤ kj2) ∧ Aside0 (Below w.heap.size w wc))
    case first =>
     have H := HC11.out
     clear HC11
     by_cases c12 : t577 = 2
     ·
      rw [if_pos c12] at H
      have c12b0 : (t577 == 2) = true := beq_iff_eq.mpr c12
      have c12b1 : (t577 != 2) = false := bne_eq_false_iff_eq.mpr c12
      clear c12
      (first | rw [c12b0] | rw [c12b1] | (simp only [i64_w, i32_w]; rw [c12b0]) | skip)
      have H' := Aside0.mk H
      clear H
      go_wp2
      go_meet
      case rel => exact ⟨_, (true), eqq_, H', ⟨by have := HJ2.out; first | omega | exact Nat.le_refl _⟩, ⟨qB HB⟩⟩
     ·
      rw [if_neg c12] at H
      have c12b0 : (t577 == 2) = false := beq_eq_false_iff_ne.mpr c12
      have c12b1 : (t577 != 2) = true := bne_iff_ne.mpr c12
      (first | rw [c12b0] | rw [c12b1] | (simp only [i64_w, i32_w]; rw [c12b0]) | skip)
      have H' := Aside0.mk H
      clear H
      go_wp2
      go_meet
      case rel => exact ⟨_, ((t577 == 3)), eqq_, H', ⟨by have := HJ2.out; first | omega | exact Nat.le_refl _⟩, ⟨qB HB⟩⟩
    case rest =>
     clear HC11
     try clear c1
     try clear p2
     try clear c5
     try clear c7
     try clear c11
     try clear c12
     try clear c12b0
     try clear c12b1
     try clear p2
     obtain ⟨kq, x6_10, rfl, HA, HJ10, HB⟩ := hcut
     cases kq with
     | zero => exact absurd HA.out (by simp [spec_AnswerTo.j1])
     | succ kj10 =>
      have H := HA.out
      clear HA
      simp only [spec_AnswerTo.j1] at H
      have HC13 := Aside0.mk H
      clear H
      go_upto_region 6 with (first | ((with_reducible refine gate_dst (N := 7) rfl ?_); refine box_event ?hg (N := 7) ?hd (cs := #[.int .i64 0, .string (⟨#[]⟩ : ByteArray), .int .i64 0]) (t := 47) ?hr ?_; (case hd => rfl); (case hg => rfl); (case hr => first | (go_simp; done) | (go_simp; rfl)); intro gb578 hg w14 hbox hb; have BK578 := am_ (hbox); have GW578 := am_ ((gG_ hg (qB HB))); have IGW578 := gI_ GW578; have GE578 := am_ ((gG_ hg (qB HB))); have IGE578 := gI_ GE578; replace HB := am_ (below_step (qB HB) hb); clear hb hbox hg; obtain ⟨z15_0, z15_1, z15_2⟩ := cz3 BK578.out; obtain ⟨f15_0, f15_1, f15_2⟩ := fz3 BK578.out))
      (try simp only [Act.put, List.setIfInBounds_toArray, List.set_cons_zero, List.set_cons_succ])
      go_cut [27] (fun v27 wc => ∃ (kq : Nat) (x27_12 : Bool), v27 = .bool x27_12 ∧ Aside0 (spec_AnswerTo.j2 kq a0 t577 x27_12 4 a1 0 = some r) ∧ Aside0 (kq ≤ kj10) ∧ Aside0 (wc.heap[gb578]? = some (.cells #[.int .i64 4, .string a1, .int .i64 0] 47 (0, 0))) ∧ Aside0 (Below w.heap.size w wc))
      case first =>
       have H := HC13.out
       clear HC13
       by_cases c16 : a0 = 2
       ·
        rw [if_pos c16] at H
        have c16b0 : (a0 == 2) = true := beq_iff_eq.mpr c16
        have c16b1 : (a0 != 2) = false := bne_eq_false_iff_eq.mpr c16
        clear c16
        (first | rw [c16b0] | rw [c16b1] | (simp only [i64_w, i32_w]; rw [c16b0]) | skip)
        have H' := Aside0.mk H
        clear H
        go_wp2
        go_meet
        case rel => exact ⟨_, (!x6_10), eqq_, H', ⟨by have := HJ2.out; have := HJ10.out; first | omega | exact Nat.le_refl _⟩, ⟨by (with_reducible repeat (first | refine blk_drewN ?_ _ | refine blk_drew ?_ | refine blk_alloc ?_ _)); refine Go.Proofs.YtaimfkfpglhijaaV.blk_all3 (show _ = some (Go.Obj.cells #[.int .i64 0, .string (⟨#[]⟩ : ByteArray), .int .i64 0] _ (0, 0)) from ?_); exact qK BK578⟩, ⟨qB HB⟩⟩
       ·
        rw [if_neg c16] at H
        have c16b0 : (a0 == 2) = false := beq_eq_false_iff_ne.mpr c16
        have c16b1 : (a0 != 2) = true := bne_iff_ne.mpr c16
        (first | rw [c16b0] | rw [c16b1] | (simp only [i64_w, i32_w]; rw [c16b0]) | skip)
        have H' := Aside0.mk H
        clear H
        go_wp2
        go_meet
        case rel => exact ⟨_, (false), eqq_, H', ⟨by have := HJ2.out; have := HJ10.out; first | omega | exact Nat.le_refl _⟩, ⟨by (with_reducible repeat (first | refine blk_drewN ?_ _ | refine blk_drew ?_ | refine blk_alloc ?_ _)); refine Go.Proofs.YtaimfkfpglhijaaV.blk_all3 (show _ = some (Go.Obj.cells #[.int .i64 0, .string (⟨#[]⟩ : ByteArray), .int .i64 0] _ (0, 0)) from ?_); exact qK BK578⟩, ⟨qB HB⟩⟩
      case rest =>
       clear HC13
       try clear c1
       try clear p2
       try clear c5
       try clear c7
       try clear c11
       try clear c12
       try clear c12b0
       try clear c12b1
       try clear c13
       try clear c16
       try clear c16b0
       try clear c16b1
       (try clear z15_0 z15_1 z15_2)
       (try clear f15_0 f15_1 f15_2)
       try clear p2
       obtain ⟨kq, x27_12, rfl, HA, HJ12, BK578, HB⟩ := hcut
       cases kq with
       | zero => exact absurd HA.out (by simp [spec_AnswerTo.j2])
       | succ kj12 =>
        have H := HA.out
        clear HA
        simp only [spec_AnswerTo.j2] at H
        by_cases c17 : x27_12 = true
        ·
         subst c17
         rw [if_pos rfl] at H
         obtain ⟨t579, A18, H⟩ := bd_ H
         obtain ⟨y580, hy580⟩ : ∃ y_ : List (S47), y_ = (([(⟨6, (⟨#[97, 98, 111, 114, 116, 101, 100]⟩ : ByteArray), 0⟩ : S47), (⟨5, (⟨#[]⟩ : ByteArray), t579⟩ : S47)] : List (S47))) := ⟨_, rfl⟩
         rw [← hy580] at H
         have Ny580 := Aside0.mk hy580
         clear hy580
         obtain rfl := Option.some.inj H
         obtain ⟨z19_0, z19_1, z19_2⟩ := cz3 BK578.out
         obtain ⟨f19_0, f19_1, f19_2⟩ := fz3 BK578.out
         try go_wp2
         have n0_ : Aside0 ((((wc.setCell ⟨gb578, 0, none⟩ (.int .i64 6)).setCell ⟨gb578, 1, none⟩ (.string (⟨#[97, 98, 111, 114, 116, 101, 100]⟩ : ByteArray))).setCell ⟨gb578, 2, none⟩ (.int .i64 0)).heap[gb578]? = some (.cells #[.int .i64 6, .string (⟨#[97, 98, 111, 114, 116, 101, 100]⟩ : ByteArray), .int .i64 0] 47 (0, 0))) := ⟨by (with_reducible repeat (first | refine blk_drewN ?_ _ | refine blk_drew ?_ | refine blk_alloc ?_ _)); refine Go.Proofs.YtaimfkfpglhijaaV.blk_all3 (show _ = some (Go.Obj.cells #[.int .i64 4, .string a1, .int .i64 0] _ (0, 0)) from ?_); exact qK BK578⟩
         have n1_ : Aside0 (Below w.heap.size w (((wc.setCell ⟨gb578, 0, none⟩ (.int .i64 6)).setCell ⟨gb578, 1, none⟩ (.string (⟨#[97, 98, 111, 114, 116, 101, 100]⟩ : ByteArray))).setCell ⟨gb578, 2, none⟩ (.int .i64 0))) := ⟨qB HB⟩
         (try clear BK578)
         (try clear HB)
         generalize (((wc.setCell ⟨gb578, 0, none⟩ (.int .i64 6)).setCell ⟨gb578, 1, none⟩ (.string (⟨#[97, 98, 111, 114, 116, 101, 100]⟩ : ByteArray))).setCell ⟨gb578, 2, none⟩ (.int .i64 0)) = w20 at n0_ n1_ ⊢
         have BK578 := n0_
         have HB := n1_
         clear n0_ n1_
         replace BK578 := am_ (blk_drew BK578.out)
         replace HB := am_ (below_drew1 HB.out)
         refine start_ (n := 7) (S := fun w' => w'.cell? ⟨gb578, 0, none⟩ = some (.int .i64 6) ∧ w'.cell? ⟨gb578, 1, none⟩ = some (.string (⟨#[97, 98, 111, 114, 116, 101, 100]⟩ : ByteArray)) ∧ w'.cell? ⟨gb578, 2, none⟩ = some (.int .i64 0)) (ds := []) #[oo,oo,oo,oo,oo,oo,oo] (by kernel_rfl) rfl rfl (cz3 BK578.out) (fun hHeld => ?_)
         generalize w20.drew = w21 at BK578 HB hHeld ⊢
         refine pure_ (i := 1) (N := some 48) (v := ?_) (a' := ?_) #[oo,ii,oo,oo,oo,oo,oo] rfl rfl (by kernel_rfl) (fun _ _ _ h => h) (Or.inl ⟨by rfl, ?_⟩) ?_ ?_
         rotate_left
         ·
          intro w'
          go_simp
          with_reducible rfl
         rotate_left
         ·
          exact ap_
         refine pure_ (i := 2) (N := some 49) (v := ?_) (a' := ?_) #[oo,ii,ii,oo,oo,oo,oo] rfl rfl (by kernel_rfl) (fun _ _ _ h => h) (Or.inl ⟨by rfl, ?_⟩) ?_ ?_
         rotate_left
         ·
          intro w'
          go_simp
          with_reducible rfl
         rotate_left
         ·
          exact ap_
         refine take_ (i := 0) (N := some 47) (v := ?_) (a' := ?_) #[ii,ii,ii,oo,oo,oo,oo] rfl rfl (by kernel_rfl) (fun _ _ _ h => h) (Or.inl ⟨by rfl, ?_⟩) hHeld ?_ ?_
         rotate_left
         ·
          rintro w' ⟨s0, s1, s2⟩
          go_simp
          with_reducible rfl
         rotate_left
         ·
          exact ap_
         refine one_ (i := 3) (N := some 50) #[ii,ii,ii,ii,oo,oo,oo] rfl rfl (by kernel_rfl) (by decide) (fun K hK => ?_)
         refine goes_ Try.func133 (by kernel_rfl) rfl #[.int .i64 a0, .int .i64 t577] (by rfl) rfl rfl la_ ?_
         with_reducible refine (spec_NextSt.calls kj12 a0 t577 t579 _ A18.out).mono ?_
         rintro e w' ⟨rfl, ⟨nd, rfl⟩⟩
         refine ⟨_, rfl, ?_⟩
         refine hK.out _ _ (cz3 BK578.out) (fun hHeld => ?_)
         clear hK K
         refine norm_ (a' := ?_) ?_ ?_
         rotate_left
         ·
          show Act.put _ (some 50) _ = _
          exact ap_
         refine pure_ (i := 4) (N := some 51) (v := ?_) (a' := ?_) #[ii,ii,ii,ii,ii,oo,oo] rfl rfl (by kernel_rfl) (fun _ _ _ h => h) (Or.inl ⟨by rfl, ?_⟩) ?_ ?_
         rotate_left
         ·
          intro w'
          go_simp
          with_reducible rfl
         rotate_left
         ·
          exact ap_
         refine one_ (i := 5) (N := some 52) #[ii,ii,ii,ii,ii,ii,oo] rfl rfl (by kernel_rfl) (by decide) (fun K hK => ?_)
         refine Kd.R_lit_step k47 _ 47 ?hg (N := 52) ?hd (xs := ([(⟨6, (⟨#[97, 98, 111, 114, 116, 101, 100]⟩ : ByteArray), 0⟩ : S47), (⟨5, (⟨#[]⟩ : ByteArray), t579⟩ : S47)] : List (S47))) (inner := [.int .i64 6, .string (⟨#[97, 98, 111, 114, 116, 101, 100]⟩ : ByteArray), .int .i64 0, .int .i64 5, .string (⟨#[]⟩ : ByteArray), .int .i64 t579]) (ok := fun _ => True) (okp := fun _ => True) ?hr ?hp (fun _ hk => hk) trivial (Below.refl _ _) (Nat.le_refl _) (by simp) ?_; (case hd => rfl); (case hg => rfl); (case hr => first | (go_simp; done) | (go_simp; rfl)); (case hp => exact (Reps.c3 (show Kd.M k47 _ _ _ (⟨6, (⟨#[97, 98, 111, 114, 116, 101, 100]⟩ : ByteArray), 0⟩ : S47) [.int .i64 6, .string (⟨#[97, 98, 111, 114, 116, 101, 100]⟩ : ByteArray), .int .i64 0] from (k47_mkM _ _ _ (⟨6, (⟨#[97, 98, 111, 114, 116, 101, 100]⟩ : ByteArray), 0⟩ : S47) )) (Reps.c3 (show Kd.M k47 _ _ _ (⟨5, (⟨#[]⟩ : ByteArray), t579⟩ : S47) [.int .i64 5, .string (⟨#[]⟩ : ByteArray), .int .i64 t579] from (k47_mkM _ _ _ (⟨5, (⟨#[]⟩ : ByteArray), t579⟩ : S47) )) (Reps.none _ _))))
         intro v581 w22 ho23 hb hg_ hnew_
         clear hg_ hnew_
         (first | rw [← Ny580.out] at ho23 | (simp only [Int.reduceToNat] at ho23; rw [← Ny580.out] at ho23))
         have HO582 := am_ (Kd.R_lower (Kd.R_newB ho23 (qK BK578)) (below_size (qB HB)))
         replace BK578 := am_ (blk_below (qK BK578) hb)
         replace HB := am_ (below_step (qB HB) hb)
         clear hb ho23
         refine hK.out _ _ (cz3 BK578.out) (fun hHeld => ?_)
         clear hK K
         refine norm_ (a' := ?_) ?_ ?_
         rotate_left
         ·
          show Act.put _ (some 52) _ = _
          exact ap_
         refine pure_ (i := 6) (N := some 4) (v := ?_) (a' := ?_) #[ii,ii,ii,ii,ii,ii,ii] rfl rfl (by kernel_rfl) (fun _ _ _ h => h) (Or.inl ⟨by rfl, ?_⟩) ?_ ?_
         rotate_left
         ·
          intro w'
          go_simp
          with_reducible rfl
         rotate_left
         ·
          exact ap_
         refine done_ (by kernel_rfl) ?_
         try go_wp2
         go_ret
         exact ⟨_, er_, by (with_reducible repeat (first | apply Kd.R_alloc | apply Kd.R_drewN | apply Kd.R_drew)); exact Kd.R_mono HO582.out (fun _ hk => trivial), qB HB⟩
        ·
         replace c17 := Bool.eq_false_iff.mpr c17
         subst c17
         rw [if_neg (show ¬ (false = true) by decide)] at H
         by_cases c24 : t577 = 4
         ·
          rw [if_pos c24] at H
          have c24b0 : (t577 == 4) = true := beq_iff_eq.mpr c24
          have c24b1 : (t577 != 4) = false := bne_eq_false_iff_eq.mpr c24
          clear c24
          obtain ⟨t583, A25, H⟩ := bd_ H
          obtain ⟨y584, hy584⟩ : ∃ y_ : List (S47), y_ = (([(⟨6, (⟨#[102, 97, 105, 108, 101, 100]⟩ : ByteArray), 0⟩ : S47), (⟨5, (⟨#[]⟩ : ByteArray), t583⟩ : S47)] : List (S47))) := ⟨_, rfl⟩
          rw [← hy584] at H
          have Ny584 := Aside0.mk hy584
          clear hy584
          obtain rfl := Option.some.inj H
          obtain ⟨z26_0, z26_1, z26_2⟩ := cz3 BK578.out
          obtain ⟨f26_0, f26_1, f26_2⟩ := fz3 BK578.out
          try go_wp2
          have n0_ : Aside0 ((((wc.setCell ⟨gb578, 0, none⟩ (.int .i64 6)).setCell ⟨gb578, 1, none⟩ (.string (⟨#[102, 97, 105, 108, 101, 100]⟩ : ByteArray))).setCell ⟨gb578, 2, none⟩ (.int .i64 0)).heap[gb578]? = some (.cells #[.int .i64 6, .string (⟨#[102, 97, 105, 108, 101, 100]⟩ : ByteArray), .int .i64 0] 47 (0, 0))) := ⟨by (with_reducible repeat (first | refine blk_drewN ?_ _ | refine blk_drew ?_ | refine blk_alloc ?_ _)); refine Go.Proofs.YtaimfkfpglhijaaV.blk_all3 (show _ = some (Go.Obj.cells #[.int .i64 4, .string a1, .int .i64 0] _ (0, 0)) from ?_); exact qK BK578⟩
          have n1_ : Aside0 (Below w.heap.size w (((wc.setCell ⟨gb578, 0, none⟩ (.int .i64 6)).setCell ⟨gb578, 1, none⟩ (.string (⟨#[102, 97, 105, 108, 101, 100]⟩ : ByteArray))).setCell ⟨gb578, 2, none⟩ (.int .i64 0))) := ⟨qB HB⟩
          generalize (((wc.setCell ⟨gb578, 0, none⟩ (.int .i64 6)).setCell ⟨gb578, 1, none⟩ (.string (⟨#[102, 97, 105, 108, 101, 100]⟩ : ByteArray))).setCell ⟨gb578, 2, none⟩ (.int .i64 0)) = w27 at n0_ n1_ ⊢
          have BK578 := n0_
          have HB := n1_
          clear n0_ n1_
          replace BK578 := am_ (blk_drew BK578.out)
          replace HB := am_ (below_drew1 HB.out)
          refine start_ (n := 7) (S := fun w' => w'.cell? ⟨gb578, 0, none⟩ = some (.int .i64 6) ∧ w'.cell? ⟨gb578, 1, none⟩ = some (.string (⟨#[102, 97, 105, 108, 101, 100]⟩ : ByteArray)) ∧ w'.cell? ⟨gb578, 2, none⟩ = some (.int .i64 0)) (ds := []) #[oo,oo,oo,oo,oo,oo,oo] (by kernel_rfl) rfl rfl (cz3 BK578.out) (fun hHeld => ?_)
          generalize w27.drew = w28 at BK578 HB hHeld ⊢
          refine pure_ (i := 1) (N := some 48) (v := ?_) (a' := ?_) #[oo,ii,oo,oo,oo,oo,oo] rfl rfl (by kernel_rfl) (fun _ _ _ h => h) (Or.inl ⟨by rfl, ?_⟩) ?_ ?_
          rotate_left
          ·
           intro w'
           go_simp
           with_reducible rfl
          rotate_left
          ·
           exact ap_
          refine pure_ (i := 2) (N := some 49) (v := ?_) (a' := ?_) #[oo,ii,ii,oo,oo,oo,oo] rfl rfl (by kernel_rfl) (fun _ _ _ h => h) (Or.inl ⟨by rfl, ?_⟩) ?_ ?_
          rotate_left
          ·
           intro w'
           go_simp
           with_reducible rfl
          rotate_left
          ·
           exact ap_
          refine take_ (i := 0) (N := some 47) (v := ?_) (a' := ?_) #[ii,ii,ii,oo,oo,oo,oo] rfl rfl (by kernel_rfl) (fun _ _ _ h => h) (Or.inl ⟨by rfl, ?_⟩) hHeld ?_ ?_
          rotate_left
          ·
           rintro w' ⟨s0, s1, s2⟩
           go_simp
           with_reducible rfl
          rotate_left
          ·
           exact ap_
          refine one_ (i := 3) (N := some 50) #[ii,ii,ii,ii,oo,oo,oo] rfl rfl (by kernel_rfl) (by decide) (fun K hK => ?_)
          refine goes_ Try.func133 (by kernel_rfl) rfl #[.int .i64 a0, .int .i64 t577] (by rfl) rfl rfl la_ ?_
          with_reducible refine (spec_NextSt.calls kj12 a0 t577 t583 _ A25.out).mono ?_
          rintro e w' ⟨rfl, ⟨nd, rfl⟩⟩
          refine ⟨_, rfl, ?_⟩
          refine hK.out _ _ (cz3 BK578.out) (fun hHeld => ?_)
          clear hK K
          refine norm_ (a' := ?_) ?_ ?_
          rotate_left
          ·
           show Act.put _ (some 50) _ = _
           exact ap_
          refine pure_ (i := 4) (N := some 51) (v := ?_) (a' := ?_) #[ii,ii,ii,ii,ii,oo,oo] rfl rfl (by kernel_rfl) (fun _ _ _ h => h) (Or.inl ⟨by rfl, ?_⟩) ?_ ?_
          rotate_left
          ·
           intro w'
           go_simp
           with_reducible rfl
          rotate_left
          ·
           exact ap_
          refine one_ (i := 5) (N := some 52) #[ii,ii,ii,ii,ii,ii,oo] rfl rfl (by kernel_rfl) (by decide) (fun K hK => ?_)
          refine Kd.R_lit_step k47 _ 47 ?hg (N := 52) ?hd (xs := ([(⟨6, (⟨#[102, 97, 105, 108, 101, 100]⟩ : ByteArray), 0⟩ : S47), (⟨5, (⟨#[]⟩ : ByteArray), t583⟩ : S47)] : List (S47))) (inner := [.int .i64 6, .string (⟨#[102, 97, 105, 108, 101, 100]⟩ : ByteArray), .int .i64 0, .int .i64 5, .string (⟨#[]⟩ : ByteArray), .int .i64 t583]) (ok := fun _ => True) (okp := fun _ => True) ?hr ?hp (fun _ hk => hk) trivial (Below.refl _ _) (Nat.le_refl _) (by simp) ?_; (case hd => rfl); (case hg => rfl); (case hr => first | (go_simp; done) | (go_simp; rfl)); (case hp => exact (Reps.c3 (show Kd.M k47 _ _ _ (⟨6, (⟨#[102, 97, 105, 108, 101, 100]⟩ : ByteArray), 0⟩ : S47) [.int .i64 6, .string (⟨#[102, 97, 105, 108, 101, 100]⟩ : ByteArray), .int .i64 0] from (k47_mkM _ _ _ (⟨6, (⟨#[102, 97, 105, 108, 101, 100]⟩ : ByteArray), 0⟩ : S47) )) (Reps.c3 (show Kd.M k47 _ _ _ (⟨5, (⟨#[]⟩ : ByteArray), t583⟩ : S47) [.int .i64 5, .string (⟨#[]⟩ : ByteArray), .int .i64 t583] from (k47_mkM _ _ _ (⟨5, (⟨#[]⟩ : ByteArray), t583⟩ : S47) )) (Reps.none _ _))))
          intro v585 w29 ho30 hb hg_ hnew_
          clear hg_ hnew_
          (first | rw [← Ny584.out] at ho30 | (simp only [Int.reduceToNat] at ho30; rw [← Ny584.out] at ho30))
          have HO586 := am_ (Kd.R_lower (Kd.R_newB ho30 (qK BK578)) (below_size (qB HB)))
          replace BK578 := am_ (blk_below (qK BK578) hb)
          replace HB := am_ (below_step (qB HB) hb)
          clear hb ho30
          refine hK.out _ _ (cz3 BK578.out) (fun hHeld => ?_)
          clear hK K
          refine norm_ (a' := ?_) ?_ ?_
          rotate_left
          ·
           show Act.put _ (some 52) _ = _
           exact ap_
          refine pure_ (i := 6) (N := some 4) (v := ?_) (a' := ?_) #[ii,ii,ii,ii,ii,ii,ii] rfl rfl (by kernel_rfl) (fun _ _ _ h => h) (Or.inl ⟨by rfl, ?_⟩) ?_ ?_
          rotate_left
          ·
           intro w'
           go_simp
           with_reducible rfl
          rotate_left
          ·
           exact ap_
          refine done_ (by kernel_rfl) ?_
          try go_wp2
          go_ret
          exact ⟨_, er_, by (with_reducible repeat (first | apply Kd.R_alloc | apply Kd.R_drewN | apply Kd.R_drew)); exact Kd.R_mono HO586.out (fun _ hk => trivial), qB HB⟩
         ·
          rw [if_neg c24] at H
          have c24b0 : (t577 == 4) = false := beq_eq_false_iff_ne.mpr c24
          have c24b1 : (t577 != 4) = true := bne_iff_ne.mpr c24
          by_cases c31 : a0 = 2
          ·
           rw [if_pos c31] at H
           have c31b0 : (a0 == 2) = true := beq_iff_eq.mpr c31
           have c31b1 : (a0 != 2) = false := bne_eq_false_iff_eq.mpr c31
           clear c31
           by_cases c32 : t577 = 2
           ·
            rw [if_pos c32] at H
            have c32b0 : (t577 == 2) = true := beq_iff_eq.mpr c32
            have c32b1 : (t577 != 2) = false := bne_eq_false_iff_eq.mpr c32
            clear c32
            obtain ⟨t587, A33, H⟩ := bd_ H
            obtain ⟨y588, hy588⟩ : ∃ y_ : List (S47), y_ = (([(⟨4, (⟨#[114, 111, 108, 108, 98, 97, 99, 107]⟩ : ByteArray), 0⟩ : S47), (⟨5, (⟨#[]⟩ : ByteArray), t587⟩ : S47)] : List (S47))) := ⟨_, rfl⟩
            rw [← hy588] at H
            have Ny588 := Aside0.mk hy588
            clear hy588
            obtain rfl := Option.some.inj H
            obtain ⟨z34_0, z34_1, z34_2⟩ := cz3 BK578.out
            obtain ⟨f34_0, f34_1, f34_2⟩ := fz3 BK578.out
            try go_wp2
            have n0_ : Aside0 ((wc.setCell ⟨gb578, 1, none⟩ (.string (⟨#[114, 111, 108, 108, 98, 97, 99, 107]⟩ : ByteArray))).heap[gb578]? = some (.cells #[.int .i64 4, .string (⟨#[114, 111, 108, 108, 98, 97, 99, 107]⟩ : ByteArray), .int .i64 0] 47 (0, 0))) := ⟨by (with_reducible repeat (first | refine blk_drewN ?_ _ | refine blk_drew ?_ | refine blk_alloc ?_ _)); refine blk_put (cs := #[.int .i64 4, .string a1, .int .i64 0]) ?_ 1 _ rfl; exact qK BK578⟩
            have n1_ : Aside0 (Below w.heap.size w (wc.setCell ⟨gb578, 1, none⟩ (.string (⟨#[114, 111, 108, 108, 98, 97, 99, 107]⟩ : ByteArray)))) := ⟨qB HB⟩
            generalize (wc.setCell ⟨gb578, 1, none⟩ (.string (⟨#[114, 111, 108, 108, 98, 97, 99, 107]⟩ : ByteArray))) = w35 at n0_ n1_ ⊢
            have BK578 := n0_
            have HB := n1_
            clear n0_ n1_
            replace BK578 := am_ (blk_drew BK578.out)
            replace HB := am_ (below_drew1 HB.out)
            refine start_ (n := 7) (S := fun w' => w'.cell? ⟨gb578, 0, none⟩ = some (.int .i64 4) ∧ w'.cell? ⟨gb578, 1, none⟩ = some (.string (⟨#[114, 111, 108, 108, 98, 97, 99, 107]⟩ : ByteArray)) ∧ w'.cell? ⟨gb578, 2, none⟩ = some (.int .i64 0)) (ds := []) #[oo,oo,oo,oo,oo,oo,oo] (by kernel_rfl) rfl rfl (cz3 BK578.out) (fun hHeld => ?_)
            generalize w35.drew = w36 at BK578 HB hHeld ⊢
            refine pure_ (i := 1) (N := some 48) (v := ?_) (a' := ?_) #[oo,ii,oo,oo,oo,oo,oo] rfl rfl (by kernel_rfl) (fun _ _ _ h => h) (Or.inl ⟨by rfl, ?_⟩) ?_ ?_
            rotate_left
            ·
             intro w'
             go_simp
             with_reducible rfl
            rotate_left
            ·
             exact ap_
            refine pure_ (i := 2) (N := some 49) (v := ?_) (a' := ?_) #[oo,ii,ii,oo,oo,oo,oo] rfl rfl (by kernel_rfl) (fun _ _ _ h => h) (Or.inl ⟨by rfl, ?_⟩) ?_ ?_
            rotate_left
            ·
             intro w'
             go_simp
             with_reducible rfl
            rotate_left
            ·
             exact ap_
            refine take_ (i := 0) (N := some 47) (v := ?_) (a' := ?_) #[ii,ii,ii,oo,oo,oo,oo] rfl rfl (by kernel_rfl) (fun _ _ _ h => h) (Or.inl ⟨by rfl, ?_⟩) hHeld ?_ ?_
            rotate_left
            ·
             rintro w' ⟨s0, s1, s2⟩
             go_simp
             with_reducible rfl
            rotate_left
            ·
             exact ap_
            refine one_ (i := 3) (N := some 50) #[ii,ii,ii,ii,oo,oo,oo] rfl rfl (by kernel_rfl) (by decide) (fun K hK => ?_)
            refine goes_ Try.func133 (by kernel_rfl) rfl #[.int .i64 a0, .int .i64 t577] (by rfl) rfl rfl la_ ?_
            with_reducible refine (spec_NextSt.calls kj12 a0 t577 t587 _ A33.out).mono ?_
            rintro e w' ⟨rfl, ⟨nd, rfl⟩⟩
            refine ⟨_, rfl, ?_⟩
            refine hK.out _ _ (cz3 BK578.out) (fun hHeld => ?_)
            clear hK K
            refine norm_ (a' := ?_) ?_ ?_
            rotate_left
            ·
             show Act.put _ (some 50) _ = _
             exact ap_
            refine pure_ (i := 4) (N := some 51) (v := ?_) (a' := ?_) #[ii,ii,ii,ii,ii,oo,oo] rfl rfl (by kernel_rfl) (fun _ _ _ h => h) (Or.inl ⟨by rfl, ?_⟩) ?_ ?_
            rotate_left
            ·
             intro w'
             go_simp
             with_reducible rfl
            rotate_left
            ·
             exact ap_
            refine one_ (i := 5) (N := some 52) #[ii,ii,ii,ii,ii,ii,oo] rfl rfl (by kernel_rfl) (by decide) (fun K hK => ?_)
            refine Kd.R_lit_step k47 _ 47 ?hg (N := 52) ?hd (xs := ([(⟨4, (⟨#[114, 111, 108, 108, 98, 97, 99, 107]⟩ : ByteArray), 0⟩ : S47), (⟨5, (⟨#[]⟩ : ByteArray), t587⟩ : S47)] : List (S47))) (inner := [.int .i64 4, .string (⟨#[114, 111, 108, 108, 98, 97, 99, 107]⟩ : ByteArray), .int .i64 0, .int .i64 5, .string (⟨#[]⟩ : ByteArray), .int .i64 t587]) (ok := fun _ => True) (okp := fun _ => True) ?hr ?hp (fun _ hk => hk) trivial (Below.refl _ _) (Nat.le_refl _) (by simp) ?_; (case hd => rfl); (case hg => rfl); (case hr => first | (go_simp; done) | (go_simp; rfl)); (case hp => exact (Reps.c3 (show Kd.M k47 _ _ _ (⟨4, (⟨#[114, 111, 108, 108, 98, 97, 99, 107]⟩ : ByteArray), 0⟩ : S47) [.int .i64 4, .string (⟨#[114, 111, 108, 108, 98, 97, 99, 107]⟩ : ByteArray), .int .i64 0] from (k47_mkM _ _ _ (⟨4, (⟨#[114, 111, 108, 108, 98, 97, 99, 107]⟩ : ByteArray), 0⟩ : S47) )) (Reps.c3 (show Kd.M k47 _ _ _ (⟨5, (⟨#[]⟩ : ByteArray), t587⟩ : S47) [.int .i64 5, .string (⟨#[]⟩ : ByteArray), .int .i64 t587] from (k47_mkM _ _ _ (⟨5, (⟨#[]⟩ : ByteArray), t587⟩ : S47) )) (Reps.none _ _))))
            intro v589 w37 ho38 hb hg_ hnew_
            clear hg_ hnew_
            (first | rw [← Ny588.out] at ho38 | (simp only [Int.reduceToNat] at ho38; rw [← Ny588.out] at ho38))
            have HO590 := am_ (Kd.R_lower (Kd.R_newB ho38 (qK BK578)) (below_size (qB HB)))
            replace BK578 := am_ (blk_below (qK BK578) hb)
            replace HB := am_ (below_step (qB HB) hb)
            clear hb ho38
            refine hK.out _ _ (cz3 BK578.out) (fun hHeld => ?_)
            clear hK K
            refine norm_ (a' := ?_) ?_ ?_
            rotate_left
            ·
             show Act.put _ (some 52) _ = _
             exact ap_
            refine pure_ (i := 6) (N := some 4) (v := ?_) (a' := ?_) #[ii,ii,ii,ii,ii,ii,ii] rfl rfl (by kernel_rfl) (fun _ _ _ h => h) (Or.inl ⟨by rfl, ?_⟩) ?_ ?_
            rotate_left
            ·
             intro w'
             go_simp
             with_reducible rfl
            rotate_left
            ·
             exact ap_
            refine done_ (by kernel_rfl) ?_
            try go_wp2
            go_ret
            exact ⟨_, er_, by (with_reducible repeat (first | apply Kd.R_alloc | apply Kd.R_drewN | apply Kd.R_drew)); exact Kd.R_mono HO590.out (fun _ hk => trivial), qB HB⟩
           ·
            rw [if_neg c32] at H
            have c32b0 : (t577 == 2) = false := beq_eq_false_iff_ne.mpr c32
            have c32b1 : (t577 != 2) = true := bne_iff_ne.mpr c32
            obtain ⟨t591, A39, H⟩ := bd_ H
            obtain ⟨y592, hy592⟩ : ∃ y_ : List (S47), y_ = (([(⟨4, a1, 0⟩ : S47), (⟨5, (⟨#[]⟩ : ByteArray), t591⟩ : S47)] : List (S47))) := ⟨_, rfl⟩
            rw [← hy592] at H
            have Ny592 := Aside0.mk hy592
            clear hy592
            obtain rfl := Option.some.inj H
            try go_wp2
            replace BK578 := am_ (blk_drew BK578.out)
            replace HB := am_ (below_drew1 HB.out)
            refine start_ (n := 7) (S := fun w' => w'.cell? ⟨gb578, 0, none⟩ = some (.int .i64 4) ∧ w'.cell? ⟨gb578, 1, none⟩ = some (.string a1) ∧ w'.cell? ⟨gb578, 2, none⟩ = some (.int .i64 0)) (ds := []) #[oo,oo,oo,oo,oo,oo,oo] (by kernel_rfl) rfl rfl (cz3 BK578.out) (fun hHeld => ?_)
            generalize wc.drew = w40 at BK578 HB hHeld ⊢
            refine pure_ (i := 1) (N := some 48) (v := ?_) (a' := ?_) #[oo,ii,oo,oo,oo,oo,oo] rfl rfl (by kernel_rfl) (fun _ _ _ h => h) (Or.inl ⟨by rfl, ?_⟩) ?_ ?_
            rotate_left
            ·
             intro w'
             go_simp
             with_reducible rfl
            rotate_left
            ·
             exact ap_
            refine pure_ (i := 2) (N := some 49) (v := ?_) (a' := ?_) #[oo,ii,ii,oo,oo,oo,oo] rfl rfl (by kernel_rfl) (fun _ _ _ h => h) (Or.inl ⟨by rfl, ?_⟩) ?_ ?_
            rotate_left
            ·
             intro w'
             go_simp
             with_reducible rfl
            rotate_left
            ·
             exact ap_
            refine take_ (i := 0) (N := some 47) (v := ?_) (a' := ?_) #[ii,ii,ii,oo,oo,oo,oo] rfl rfl (by kernel_rfl) (fun _ _ _ h => h) (Or.inl ⟨by rfl, ?_⟩) hHeld ?_ ?_
            rotate_left
            ·
             rintro w' ⟨s0, s1, s2⟩
             go_simp
             with_reducible rfl
            rotate_left
            ·
             exact ap_
            refine one_ (i := 3) (N := some 50) #[ii,ii,ii,ii,oo,oo,oo] rfl rfl (by kernel_rfl) (by decide) (fun K hK => ?_)
            refine goes_ Try.func133 (by kernel_rfl) rfl #[.int .i64 a0, .int .i64 t577] (by rfl) rfl rfl la_ ?_
            with_reducible refine (spec_NextSt.calls kj12 a0 t577 t591 _ A39.out).mono ?_
            rintro e w' ⟨rfl, ⟨nd, rfl⟩⟩
            refine ⟨_, rfl, ?_⟩
            refine hK.out _ _ (cz3 BK578.out) (fun hHeld => ?_)
            clear hK K
            refine norm_ (a' := ?_) ?_ ?_
            rotate_left
            ·
             show Act.put _ (some 50) _ = _
             exact ap_
            refine pure_ (i := 4) (N := some 51) (v := ?_) (a' := ?_) #[ii,ii,ii,ii,ii,oo,oo] rfl rfl (by kernel_rfl) (fun _ _ _ h => h) (Or.inl ⟨by rfl, ?_⟩) ?_ ?_
            rotate_left
            ·
             intro w'
             go_simp
             with_reducible rfl
            rotate_left
            ·
             exact ap_
            refine one_ (i := 5) (N := some 52) #[ii,ii,ii,ii,ii,ii,oo] rfl rfl (by kernel_rfl) (by decide) (fun K hK => ?_)
            refine Kd.R_lit_step k47 _ 47 ?hg (N := 52) ?hd (xs := ([(⟨4, a1, 0⟩ : S47), (⟨5, (⟨#[]⟩ : ByteArray), t591⟩ : S47)] : List (S47))) (inner := [.int .i64 4, .string a1, .int .i64 0, .int .i64 5, .string (⟨#[]⟩ : ByteArray), .int .i64 t591]) (ok := fun _ => True) (okp := fun _ => True) ?hr ?hp (fun _ hk => hk) trivial (Below.refl _ _) (Nat.le_refl _) (by simp) ?_; (case hd => rfl); (case hg => rfl); (case hr => first | (go_simp; done) | (go_simp; rfl)); (case hp => exact (Reps.c3 (show Kd.M k47 _ _ _ (⟨4, a1, 0⟩ : S47) [.int .i64 4, .string a1, .int .i64 0] from (k47_mkM _ _ _ (⟨4, a1, 0⟩ : S47) )) (Reps.c3 (show Kd.M k47 _ _ _ (⟨5, (⟨#[]⟩ : ByteArray), t591⟩ : S47) [.int .i64 5, .string (⟨#[]⟩ : ByteArray), .int .i64 t591] from (k47_mkM _ _ _ (⟨5, (⟨#[]⟩ : ByteArray), t591⟩ : S47) )) (Reps.none _ _))))
            intro v593 w41 ho42 hb hg_ hnew_
            clear hg_ hnew_
            (first | rw [← Ny592.out] at ho42 | (simp only [Int.reduceToNat] at ho42; rw [← Ny592.out] at ho42))
            have HO594 := am_ (Kd.R_lower (Kd.R_newB ho42 (qK BK578)) (below_size (qB HB)))
            replace BK578 := am_ (blk_below (qK BK578) hb)
            replace HB := am_ (below_step (qB HB) hb)
            clear hb ho42
            refine hK.out _ _ (cz3 BK578.out) (fun hHeld => ?_)
            clear hK K
            refine norm_ (a' := ?_) ?_ ?_
            rotate_left
            ·
             show Act.put _ (some 52) _ = _
             exact ap_
            refine pure_ (i := 6) (N := some 4) (v := ?_) (a' := ?_) #[ii,ii,ii,ii,ii,ii,ii] rfl rfl (by kernel_rfl) (fun _ _ _ h => h) (Or.inl ⟨by rfl, ?_⟩) ?_ ?_
            rotate_left
            ·
             intro w'
             go_simp
             with_reducible rfl
            rotate_left
            ·
             exact ap_
            refine done_ (by kernel_rfl) ?_
            try go_wp2
            go_ret
            exact ⟨_, er_, by (with_reducible repeat (first | apply Kd.R_alloc | apply Kd.R_drewN | apply Kd.R_drew)); exact Kd.R_mono HO594.out (fun _ hk => trivial), qB HB⟩
          ·
           rw [if_neg c31] at H
           have c31b0 : (a0 == 2) = false := beq_eq_false_iff_ne.mpr c31
           have c31b1 : (a0 != 2) = true := bne_iff_ne.mpr c31
           obtain ⟨t595, A43, H⟩ := bd_ H
           obtain ⟨y596, hy596⟩ : ∃ y_ : List (S47), y_ = (([(⟨4, a1, 0⟩ : S47), (⟨5, (⟨#[]⟩ : ByteArray), t595⟩ : S47)] : List (S47))) := ⟨_, rfl⟩
           rw [← hy596] at H
           have Ny596 := Aside0.mk hy596
           clear hy596
           obtain rfl := Option.some.inj H
           try go_wp2
           replace BK578 := am_ (blk_drew BK578.out)
           replace HB := am_ (below_drew1 HB.out)
           refine start_ (n := 7) (S := fun w' => w'.cell? ⟨gb578, 0, none⟩ = some (.int .i64 4) ∧ w'.cell? ⟨gb578, 1, none⟩ = some (.string a1) ∧ w'.cell? ⟨gb578, 2, none⟩ = some (.int .i64 0)) (ds := []) #[oo,oo,oo,oo,oo,oo,oo] (by kernel_rfl) rfl rfl (cz3 BK578.out) (fun hHeld => ?_)
           generalize wc.drew = w44 at BK578 HB hHeld ⊢
           refine pure_ (i := 1) (N := some 48) (v := ?_) (a' := ?_) #[oo,ii,oo,oo,oo,oo,oo] rfl rfl (by kernel_rfl) (fun _ _ _ h => h) (Or.inl ⟨by rfl, ?_⟩) ?_ ?_
           rotate_left
           ·
            intro w'
            go_simp
            with_reducible rfl
           rotate_left
           ·
            exact ap_
           refine pure_ (i := 2) (N := some 49) (v := ?_) (a' := ?_) #[oo,ii,ii,oo,oo,oo,oo] rfl rfl (by kernel_rfl) (fun _ _ _ h => h) (Or.inl ⟨by rfl, ?_⟩) ?_ ?_
           rotate_left
           ·
            intro w'
            go_simp
            with_reducible rfl
           rotate_left
           ·
            exact ap_
           refine take_ (i := 0) (N := some 47) (v := ?_) (a' := ?_) #[ii,ii,ii,oo,oo,oo,oo] rfl rfl (by kernel_rfl) (fun _ _ _ h => h) (Or.inl ⟨by rfl, ?_⟩) hHeld ?_ ?_
           rotate_left
           ·
            rintro w' ⟨s0, s1, s2⟩
            go_simp
            with_reducible rfl
           rotate_left
           ·
            exact ap_
           refine one_ (i := 3) (N := some 50) #[ii,ii,ii,ii,oo,oo,oo] rfl rfl (by kernel_rfl) (by decide) (fun K hK => ?_)
           refine goes_ Try.func133 (by kernel_rfl) rfl #[.int .i64 a0, .int .i64 t577] (by rfl) rfl rfl la_ ?_
           with_reducible refine (spec_NextSt.calls kj12 a0 t577 t595 _ A43.out).mono ?_
           rintro e w' ⟨rfl, ⟨nd, rfl⟩⟩
           refine ⟨_, rfl, ?_⟩
           refine hK.out _ _ (cz3 BK578.out) (fun hHeld => ?_)
           clear hK K
           refine norm_ (a' := ?_) ?_ ?_
           rotate_left
           ·
            show Act.put _ (some 50) _ = _
            exact ap_
           refine pure_ (i := 4) (N := some 51) (v := ?_) (a' := ?_) #[ii,ii,ii,ii,ii,oo,oo] rfl rfl (by kernel_rfl) (fun _ _ _ h => h) (Or.inl ⟨by rfl, ?_⟩) ?_ ?_
           rotate_left
           ·
            intro w'
            go_simp
            with_reducible rfl
           rotate_left
           ·
            exact ap_
           refine one_ (i := 5) (N := some 52) #[ii,ii,ii,ii,ii,ii,oo] rfl rfl (by kernel_rfl) (by decide) (fun K hK => ?_)
           refine Kd.R_lit_step k47 _ 47 ?hg (N := 52) ?hd (xs := ([(⟨4, a1, 0⟩ : S47), (⟨5, (⟨#[]⟩ : ByteArray), t595⟩ : S47)] : List (S47))) (inner := [.int .i64 4, .string a1, .int .i64 0, .int .i64 5, .string (⟨#[]⟩ : ByteArray), .int .i64 t595]) (ok := fun _ => True) (okp := fun _ => True) ?hr ?hp (fun _ hk => hk) trivial (Below.refl _ _) (Nat.le_refl _) (by simp) ?_; (case hd => rfl); (case hg => rfl); (case hr => first | (go_simp; done) | (go_simp; rfl)); (case hp => exact (Reps.c3 (show Kd.M k47 _ _ _ (⟨4, a1, 0⟩ : S47) [.int .i64 4, .string a1, .int .i64 0] from (k47_mkM _ _ _ (⟨4, a1, 0⟩ : S47) )) (Reps.c3 (show Kd.M k47 _ _ _ (⟨5, (⟨#[]⟩ : ByteArray), t595⟩ : S47) [.int .i64 5, .string (⟨#[]⟩ : ByteArray), .int .i64 t595] from (k47_mkM _ _ _ (⟨5, (⟨#[]⟩ : ByteArray), t595⟩ : S47) )) (Reps.none _ _))))
           intro v597 w45 ho46 hb hg_ hnew_
           clear hg_ hnew_
           (first | rw [← Ny596.out] at ho46 | (simp only [Int.reduceToNat] at ho46; rw [← Ny596.out] at ho46))
           have HO598 := am_ (Kd.R_lower (Kd.R_newB ho46 (qK BK578)) (below_size (qB HB)))
           replace BK578 := am_ (blk_below (qK BK578) hb)
           replace HB := am_ (below_step (qB HB) hb)
           clear hb ho46
           refine hK.out _ _ (cz3 BK578.out) (fun hHeld => ?_)
           clear hK K
           refine norm_ (a' := ?_) ?_ ?_
           rotate_left
           ·
            show Act.put _ (some 52) _ = _
            exact ap_
           refine pure_ (i := 6) (N := some 4) (v := ?_) (a' := ?_) #[ii,ii,ii,ii,ii,ii,ii] rfl rfl (by kernel_rfl) (fun _ _ _ h => h) (Or.inl ⟨by rfl, ?_⟩) ?_ ?_
           rotate_left
           ·
            intro w'
            go_simp
            with_reducible rfl
           rotate_left
           ·
            exact ap_
           refine done_ (by kernel_rfl) ?_
           try go_wp2
           go_ret
           exact ⟨_, er_, by (with_reducible repeat (first | apply Kd.R_alloc | apply Kd.R_drewN | apply Kd.R_drew)); exact Kd.R_mono HO598.out (fun _ hk => trivial), qB HB⟩

end Go.Proofs.Ytaimfkfpglhijaa.PFnFar
