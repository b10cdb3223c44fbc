-- Written by a program of this session (myprint.py, over the kit's print): contracts of FnExactAnswer
import Derived.Test.YtahfemlfdpbkkaaPFnExactAnswerx0
import Derived.Test.YtahfemlfdpbkkaaPFnExactAnswerx9
import Derived.Test.YtahfemlfdpbkkaaPFnExactAnswerx12
namespace Go.Proofs.Ytahfemlfdpbkkaa.PFnExactAnswer
open Go.RowKit Go.Proofs.YtahfemlfdpbkkaaW.PrintWords Go.Proofs.YtahfemlfdpbkkaaW.PrintLast Go.Proofs.YtahfemlfdpbkkaaW.PrintMore Go.Proofs.YtahfemlfdpbkkaaV
attribute [local go_sem] max2_int min2_int max_two min_two max_three min_three max_four min_four   -- for this text's walks alone
set_option linter.unusedVariables false
set_option linter.unusedSimpArgs false

/-! ### impl_AnswerTo: function 119 -/
mutual
def impl_AnswerTo.j0 : Nat → Int → ByteArray → Bool → Option ((List (S32)))
 | 0, _, _, _ => none
 | k + 1, x0, x1, x14 => if x14 = true then (some (([] : List (S32)))) else ((impl_WordOf.f x1).bind fun t347 => (if x0 = 2 then (if t347 = 2 then (impl_AnswerTo.j1 k x0 t347 false 4 x1 0) else (impl_AnswerTo.j1 k x0 t347 (t347 != 3) 4 x1 0)) else (impl_AnswerTo.j1 k x0 t347 false 4 x1 0)))
def impl_AnswerTo.j1 : Nat → Int → Int → Bool → Int → ByteArray → Int → Option ((List (S32)))
 | 0, _, _, _, _, _, _ => none
 | k + 1, x0, x5, x20, x349000, x349001, x349002 => if x20 = true then ((impl_NextSt.f k x0 x5).bind fun t349 => (some (([(⟨6, (⟨#[97, 98, 111, 114, 116, 101, 100]⟩ : ByteArray), 0⟩ : S32), (⟨5, (⟨#[]⟩ : ByteArray), t349⟩ : S32)] : List (S32))))) else (if x5 = 4 then ((impl_NextSt.f k x0 x5).bind fun t353 => (some (([(⟨6, (⟨#[102, 97, 105, 108, 101, 100]⟩ : ByteArray), 0⟩ : S32), (⟨5, (⟨#[]⟩ : ByteArray), t353⟩ : S32)] : List (S32))))) else (if x0 = 2 then (if x5 = 2 then ((impl_NextSt.f k x0 x5).bind fun t357 => (some (([(⟨x349000, (⟨#[114, 111, 108, 108, 98, 97, 99, 107]⟩ : ByteArray), x349002⟩ : S32), (⟨5, (⟨#[]⟩ : ByteArray), t357⟩ : S32)] : List (S32))))) else ((impl_NextSt.f k x0 x5).bind fun t361 => (some (([(⟨x349000, x349001, x349002⟩ : S32), (⟨5, (⟨#[]⟩ : ByteArray), t361⟩ : S32)] : List (S32)))))) else ((impl_NextSt.f k x0 x5).bind fun t365 => (some (([(⟨x349000, x349001, x349002⟩ : S32), (⟨5, (⟨#[]⟩ : ByteArray), t365⟩ : S32)] : List (S32)))))))
end
def impl_AnswerTo.f (k : Nat) (a0 : Int) (a1 : ByteArray) : Option ((List (S32))) := (impl_isIn.f a0 0 2).bind fun t342 => (if t342 = true then ((impl_TextOk.f k a1).bind fun t343 => (impl_AnswerTo.j0 k a0 a1 (!t343))) else (impl_AnswerTo.j0 k a0 a1 true))
theorem impl_AnswerTo.mono_l : ∀ k, (∀ y0 y1 y2, LeO (impl_AnswerTo.j0 k y0 y1 y2) (impl_AnswerTo.j0 (k + 1) y0 y1 y2)) ∧ (∀ y0 y1 y2 y3 y4 y5, LeO (impl_AnswerTo.j1 k y0 y1 y2 y3 y4 y5) (impl_AnswerTo.j1 (k + 1) y0 y1 y2 y3 y4 y5))
 | 0 => ⟨fun _ _ _ r h => by simp [impl_AnswerTo.j0] at h, fun _ _ _ _ _ _ r h => by simp [impl_AnswerTo.j1] at h⟩
 | k + 1 => by
  obtain ⟨ih0, ih1⟩ := impl_AnswerTo.mono_l k
  refine ⟨?_, ?_⟩
  ·
   intro y0 y1 y2
   unfold impl_AnswerTo.j0
   repeat' first
   | (with_reducible exact ih0 _ _ _)
   | (with_reducible exact ih1 _ _ _ _ _ _)
   | (with_reducible exact impl_NextSt.mono _ _ _)
   | (with_reducible exact impl_TextOk.mono _ _)
   | (with_reducible exact LeO.refl _)
   | (with_reducible exact LeO.none _)
   | (with_reducible refine LeO.ite ?_ ?_)
   | (with_reducible refine LeO.bind ?_ (fun _ => ?_))
   | exact ih0 _ _ _
   | exact ih1 _ _ _ _ _ _
   | exact impl_NextSt.mono _ _ _
   | exact impl_TextOk.mono _ _
   | exact LeO.none _
   | refine LeO.ite ?_ ?_
   | refine LeO.bind ?_ (fun _ => ?_)
  ·
   intro y0 y1 y2 y3 y4 y5
   unfold impl_AnswerTo.j1
   repeat' first
   | (with_reducible exact ih0 _ _ _)
   | (with_reducible exact ih1 _ _ _ _ _ _)
   | (with_reducible exact impl_NextSt.mono _ _ _)
   | (with_reducible exact impl_TextOk.mono _ _)
   | (with_reducible exact LeO.refl _)
   | (with_reducible exact LeO.none _)
   | (with_reducible refine LeO.ite ?_ ?_)
   | (with_reducible refine LeO.bind ?_ (fun _ => ?_))
   | exact ih0 _ _ _
   | exact ih1 _ _ _ _ _ _
   | exact impl_NextSt.mono _ _ _
   | exact impl_TextOk.mono _ _
   | exact LeO.none _
   | refine LeO.ite ?_ ?_
   | refine LeO.bind ?_ (fun _ => ?_)
theorem impl_AnswerTo.mono : ∀ a0 a1 k, LeO (impl_AnswerTo.f k a0 a1) (impl_AnswerTo.f (k + 1) a0 a1) := by
 intro a0 a1 k
 obtain ⟨ih0, ih1⟩ := impl_AnswerTo.mono_l k
 unfold impl_AnswerTo.f
 repeat' first
   | (with_reducible exact ih0 _ _ _)
   | (with_reducible exact ih1 _ _ _ _ _ _)
   | (with_reducible exact impl_NextSt.mono _ _ _)
   | (with_reducible exact impl_TextOk.mono _ _)
   | (with_reducible exact LeO.refl _)
   | (with_reducible exact LeO.none _)
   | (with_reducible refine LeO.ite ?_ ?_)
   | (with_reducible refine LeO.bind ?_ (fun _ => ?_))
   | exact ih0 _ _ _
   | exact ih1 _ _ _ _ _ _
   | exact impl_NextSt.mono _ _ _
   | exact impl_TextOk.mono _ _
   | exact LeO.none _
   | refine LeO.ite ?_ ?_
   | refine LeO.bind ?_ (fun _ => ?_)
set_option maxHeartbeats 8000000 in
set_option maxRecDepth 100000 in
theorem impl_AnswerTo.calls (k : Nat) (a0 : Int) (a1 : ByteArray) (r : List (S32)) (w : World) (h : impl_AnswerTo.f k a0 a1 = some r) :
  Calls Try.prog 119 #[.int .i64 a0, .string a1] w fun e w' => ∃ v0_ : Value, e = .returned (v0_) ∧ Kd.R k32 32 w' w.heap.size (fun _ => True) v0_ r ∧ Below w.heap.size w w' := by
 have hu32 := Try.underlying32
 have HB := Aside0.mk (Below.refl w.heap.size w)
 have H : ((impl_isIn.f a0 0 2).bind fun t342 => (if t342 = true then ((impl_TextOk.f k a1).bind fun t343 => (impl_AnswerTo.j0 k a0 a1 (!t343))) else (impl_AnswerTo.j0 k a0 a1 true))) = some r := h
 clear h
 have HC3 := Aside0.mk H
 clear H
 go_enter Try.func119, Try.ntmps119
 go_upto_region 1 with (fail)
 go_cut [14] (fun v14 wc => ∃ (kq : Nat) (x14_2 : Bool), v14 = .bool x14_2 ∧ Aside0 (impl_AnswerTo.j0 kq a0 a1 x14_2 = some r) ∧ Aside0 (kq ≤ k) ∧ Aside0 (Below w.heap.size w wc))
 case first =>
  have H := HC3.out
  clear HC3
  replace H := Option.bind_eq_some_iff.mp H
  obtain ⟨t342, A40, H⟩ := H
  replace H : (if t342 = true then ((impl_TextOk.f k a1).bind fun t343 => (impl_AnswerTo.j0 k a0 a1 (!t343))) else (impl_AnswerTo.j0 k a0 a1 true)) = some r := H
  have A4 := Aside0.mk A40
  clear A40
  by_cases c5 : t342 = true
  ·
   subst c5
   have H1 : ((impl_TextOk.f k a1).bind fun t343 => (impl_AnswerTo.j0 k a0 a1 (!t343))) = some r := by rw [if_pos rfl] at H; exact H
   clear H
   have H := H1
   clear H1
   replace H := Option.bind_eq_some_iff.mp H
   obtain ⟨t343, A60, H⟩ := H
   replace H : (impl_AnswerTo.j0 k a0 a1 (!t343)) = some r := H
   have A6 := Aside0.mk A60
   clear A60
   have H' := Aside0.mk H
   clear H
   go_wp2_with (first | ((with_reducible refine gate_callee (f := 112) rfl ?_); refine goesL_ (some 8) rfl rfl Try.func112 (by kernel_rfl) rfl #[.int .i64 a0, .int .i64 0, .int .i64 2] rfl (by (try simp only [List.map_toArray, List.map_cons, List.map_nil]); first | done | rfl | (simp only [List.length_drop, List.length_take]; rfl)) ?_; (with_reducible refine (impl_isIn.calls a0 0 2 true _ A4.out).mono ?_); rintro e w' ⟨rfl, ⟨nd, rfl⟩⟩; refine ⟨_, rfl, ?_⟩) | (go_at_call 147; (with_reducible refine (impl_TextOk.calls k a1 t343 _ A6.out).mono ?_); rintro e w' ⟨rfl, ⟨nd, rfl⟩⟩))
   go_meet
   case rel => exact ⟨_, (!t343), (by first | rfl | (simp; done) | (simp [*]; done) | (simp [Go.Proofs.YtahfemlfdpbkkaaV.bne_nil, Go.Proofs.YtahfemlfdpbkkaaV.beq_nil]; done)), H', ⟨by first | omega | exact Nat.le_refl _⟩, ⟨qB HB⟩⟩
  ·
   replace c5 := Bool.eq_false_iff.mpr c5
   subst c5
   have H1 : (impl_AnswerTo.j0 k a0 a1 true) = some r := by rw [if_neg (show ¬ (false = true) by decide)] at H; exact H
   clear H
   have H := H1
   clear H1
   have H' := Aside0.mk H
   clear H
   go_wp2_with (first | ((with_reducible refine gate_callee (f := 112) rfl ?_); refine goesL_ (some 8) rfl rfl Try.func112 (by kernel_rfl) rfl #[.int .i64 a0, .int .i64 0, .int .i64 2] rfl (by (try simp only [List.map_toArray, List.map_cons, List.map_nil]); first | done | rfl | (simp only [List.length_drop, List.length_take]; rfl)) ?_; (with_reducible refine (impl_isIn.calls a0 0 2 false _ A4.out).mono ?_); rintro e w' ⟨rfl, ⟨nd, rfl⟩⟩; refine ⟨_, rfl, ?_⟩))
   go_meet
   case rel => exact ⟨_, (true), (by first | rfl | (simp; done) | (simp [*]; done) | (simp [Go.Proofs.YtahfemlfdpbkkaaV.bne_nil, Go.Proofs.YtahfemlfdpbkkaaV.beq_nil]; done)), H', ⟨by first | omega | exact Nat.le_refl _⟩, ⟨qB HB⟩⟩
 case rest =>
  clear HC3
  try clear c1
  try clear p2
  try clear c5
  obtain ⟨kq, x14_2, rfl, HA, HJ2, HB⟩ := hcut
  cases kq with
  | zero => exact absurd HA.out (by simp [impl_AnswerTo.j0])
  | succ kj2 =>
   have H := HA.out
   clear HA
   simp only [impl_AnswerTo.j0] at H
   by_cases c7 : x14_2 = true
   ·
    subst c7
    have H1 : (some (([] : List (S32)))) = some r := by rw [if_pos rfl] at H; exact H
    clear H
    have H := H1
    clear H1
    obtain ⟨y344, hy344⟩ : ∃ y_ : List (S32), y_ = (([] : List (S32))) := ⟨_, rfl⟩
    replace H : (some y344) = some r := by first | (rw [hy344]; with_reducible exact H) | (have H2_ := (Option.bind_some _ _).symm.trans H; rw [hy344]; with_reducible exact H2_) | (have H2_ := (Option.bind_some _ _).symm.trans H; with_reducible exact H2_) | with_reducible exact H | (rw [hy344]; exact H) | exact H
    have Ny344 := Aside0.mk hy344
    clear hy344
    obtain rfl := Option.some.inj H
    go_wp2_with (first | ((with_reducible refine gate_dst (N := 15) rfl ?_); refine Kd.R_lit k32 _ 32 ?hg (N := 15) ?hd (xs := ([] : List (S32))) (inner := []) (ok := fun _ => True) (okp := fun _ => True) ?hr ?hp (fun _ hk => hk) trivial (Below.refl _ _) (Nat.le_refl _) (by simp) ?_; (case hd => rfl); (case hg => rfl); (case hr => first | (go_simp; done) | (go_simp; rfl)); (case hp => exact (Reps.none _ _)); intro v345 w8 ho9 hb hg_ hnew_; clear hg_ hnew_; (first | rw [← Ny344.out] at ho9 | (simp only [Int.reduceToNat] at ho9; rw [← Ny344.out] at ho9)); have HO346 := am_ (Kd.R_lower ho9 (below_size (qB HB))); replace HB := am_ (below_step (qB HB) hb); clear hb ho9))
    go_ret
    exact ⟨_, by first | rfl | (simp [errW_none, errW_some] <;> rfl) | (simp [*, errW_none, errW_some] <;> rfl), qR HO346, qB HB⟩
   ·
    replace c7 := Bool.eq_false_iff.mpr c7
    subst c7
    have H1 : ((impl_WordOf.f a1).bind fun t347 => (if a0 = 2 then (if t347 = 2 then (impl_AnswerTo.j1 kj2 a0 t347 false 4 a1 0) else (impl_AnswerTo.j1 kj2 a0 t347 (t347 != 3) 4 a1 0)) else (impl_AnswerTo.j1 kj2 a0 t347 false 4 a1 0))) = some r := by rw [if_neg (show ¬ (false = true) by decide)] at H; exact H
    clear H
    have H := H1
    clear H1
    replace H := Option.bind_eq_some_iff.mp H
    obtain ⟨t347, A100, H⟩ := H
    replace H : (if a0 = 2 then (if t347 = 2 then (impl_AnswerTo.j1 kj2 a0 t347 false 4 a1 0) else (impl_AnswerTo.j1 kj2 a0 t347 (t347 != 3) 4 a1 0)) else (impl_AnswerTo.j1 kj2 a0 t347 false 4 a1 0)) = some r := H
    have A10 := Aside0.mk A100
    clear A100
    have HC11 := Aside0.mk H
    clear H
    go_upto_region 5 with (first | ((with_reducible refine gate_callee (f := 121) rfl ?_); refine goesL_ (some 17) rfl rfl Try.func121 (by kernel_rfl) rfl #[.string a1] rfl (by (try simp only [List.map_toArray, List.map_cons, List.map_nil]); first | done | rfl | (simp only [List.length_drop, List.length_take]; rfl)) ?_; (with_reducible refine (impl_WordOf.calls a1 t347 _ A10.out).mono ?_); rintro e w' ⟨rfl, ⟨nd, rfl⟩⟩; refine ⟨_, rfl, ?_⟩; (try (rw [drewN_self wc]; generalize hq_ : World.drewN wc _ = wc; have n0_ : Aside0 (Below w.heap.size w wc) := ⟨by rw [← hq_]; exact (qB HB)⟩; clear HB hq_; have HB := n0_; clear n0_))) | ((with_reducible refine gate_dst (N := 6) rfl ?_); refine box_event ?hg (N := 6) ?hd (cs := #[.int .i64 0, .string (⟨#[]⟩ : ByteArray), .int .i64 0]) (t := 32) ?hr ?_; (case hd => rfl); (case hg => rfl); (case hr => first | (go_simp; done) | (go_simp; rfl)); intro gb348 hg w12 hbox hb; have BK348 := am_ (hbox); have GW348 := am_ ((gG_ hg (qB HB))); have IGW348 := gI_ GW348; have GE348 := am_ ((gG_ hg (qB HB))); have IGE348 := gI_ GE348; replace HB := am_ (below_step (qB HB) hb); clear hb hbox hg; obtain ⟨hcz13_0, hcz13_1, hcz13_2⟩ := cz3 BK348.out; obtain ⟨hfz13_0, hfz13_1, hfz13_2⟩ := fz3 BK348.out))
    (try simp only [Act.put, List.setIfInBounds_toArray, List.set_cons_zero, List.set_cons_succ])
    go_cut [20] (fun v20 wc => ∃ (kq : Nat) (x20_10 : Bool), v20 = .bool x20_10 ∧ Aside0 (impl_AnswerTo.j1 kq a0 t347 x20_10 4 a1 0 = some r) ∧ Aside0 (kq ≤ kj2) ∧ Aside0 (wc.heap[gb348]? = some (.cells #[.int .i64 4, .string a1, .int .i64 0] 32 (0, 0))) ∧ Aside0 (Below w.heap.size w wc))
    case first =>
     have H := HC11.out
     clear HC11
     by_cases c14 : a0 = 2
     ·
      rw [if_pos c14] at H
      have c14b0 : (a0 == 2) = true := beq_iff_eq.mpr c14
      have c14b1 : (a0 != 2) = false := bne_eq_false_iff_eq.mpr c14
      clear c14
      (first | rw [c14b0] | (simp only [i64_w, i32_w]; rw [c14b0]) | skip)
      by_cases c15 : t347 = 2
      ·
       rw [if_pos c15] at H
       have c15b0 : (t347 == 2) = true := beq_iff_eq.mpr c15
       have c15b1 : (t347 != 2) = false := bne_eq_false_iff_eq.mpr c15
       clear c15
       have H' := Aside0.mk H
       clear H
       go_wp2
       go_meet
       case rel => exact ⟨_, (false), (by first | rfl | (simp; done) | (simp [*]; done) | (simp [Go.Proofs.YtahfemlfdpbkkaaV.bne_nil, Go.Proofs.YtahfemlfdpbkkaaV.beq_nil]; done)), H', ⟨by have := HJ2.out; first | omega | exact Nat.le_refl _⟩, ⟨by (with_reducible repeat (first | refine blk_drewN ?_ _ | refine blk_drew ?_ | refine blk_alloc ?_ _)); refine Go.Proofs.YtahfemlfdpbkkaaV.blk_all3 (show _ = some (Go.Obj.cells #[.int .i64 0, .string (⟨#[]⟩ : ByteArray), .int .i64 0] _ (0, 0)) from ?_); (with_reducible repeat (first | refine blk_drewN ?_ _ | refine blk_drew ?_ | refine blk_alloc ?_ _)); exact BK348.out⟩, ⟨qB HB⟩⟩
      ·
       rw [if_neg c15] at H
       have c15b0 : (t347 == 2) = false := beq_eq_false_iff_ne.mpr c15
       have c15b1 : (t347 != 2) = true := bne_iff_ne.mpr c15
       have H' := Aside0.mk H
       clear H
       go_wp2
       go_meet
       case rel => exact ⟨_, ((t347 != 3)), (by first | rfl | (simp; done) | (simp [*]; done) | (simp [Go.Proofs.YtahfemlfdpbkkaaV.bne_nil, Go.Proofs.YtahfemlfdpbkkaaV.beq_nil]; done)), H', ⟨by have := HJ2.out; first | omega | exact Nat.le_refl _⟩, ⟨by (with_reducible repeat (first | refine blk_drewN ?_ _ | refine blk_drew ?_ | refine blk_alloc ?_ _)); refine Go.Proofs.YtahfemlfdpbkkaaV.blk_all3 (show _ = some (Go.Obj.cells #[.int .i64 0, .string (⟨#[]⟩ : ByteArray), .int .i64 0] _ (0, 0)) from ?_); (with_reducible repeat (first | refine blk_drewN ?_ _ | refine blk_drew ?_ | refine blk_alloc ?_ _)); exact BK348.out⟩, ⟨qB HB⟩⟩
     ·
      rw [if_neg c14] at H
      have c14b0 : (a0 == 2) = false := beq_eq_false_iff_ne.mpr c14
      have c14b1 : (a0 != 2) = true := bne_iff_ne.mpr c14
      (first | rw [c14b0] | (simp only [i64_w, i32_w]; rw [c14b0]) | skip)
      have H' := Aside0.mk H
      clear H
      go_wp2
      go_meet
      case rel => exact ⟨_, (false), (by first | rfl | (simp; done) | (simp [*]; done) | (simp [Go.Proofs.YtahfemlfdpbkkaaV.bne_nil, Go.Proofs.YtahfemlfdpbkkaaV.beq_nil]; done)), H', ⟨by have := HJ2.out; first | omega | exact Nat.le_refl _⟩, ⟨by (with_reducible repeat (first | refine blk_drewN ?_ _ | refine blk_drew ?_ | refine blk_alloc ?_ _)); refine Go.Proofs.YtahfemlfdpbkkaaV.blk_all3 (show _ = some (Go.Obj.cells #[.int .i64 0, .string (⟨#[]⟩ : ByteArray), .int .i64 0] _ (0, 0)) from ?_); (with_reducible repeat (first | refine blk_drewN ?_ _ | refine blk_drew ?_ | refine blk_alloc ?_ _)); exact BK348.out⟩, ⟨qB HB⟩⟩
    case rest =>
     clear HC11
     try clear c1
     try clear p2
     try clear c5
     try clear c7
     try clear c11
     try clear c12
     try clear c14
     try clear c14b0
     try clear c14b1
     try clear c15
     try clear c15b0
     try clear c15b1
     (try clear hcz13_0 hcz13_1 hcz13_2)
     (try clear hfz13_0 hfz13_1 hfz13_2)
     try clear p2
     obtain ⟨kq, x20_10, rfl, HA, HJ10, BK348, HB⟩ := hcut
     cases kq with
     | zero => exact absurd HA.out (by simp [impl_AnswerTo.j1])
     | succ kj10 =>
      have H := HA.out
      clear HA
      simp only [impl_AnswerTo.j1] at H
      by_cases c16 : x20_10 = true
      ·
       subst c16
       have H1 : ((impl_NextSt.f kj10 a0 t347).bind fun t349 => (some (([(⟨6, (⟨#[97, 98, 111, 114, 116, 101, 100]⟩ : ByteArray), 0⟩ : S32), (⟨5, (⟨#[]⟩ : ByteArray), t349⟩ : S32)] : List (S32))))) = some r := by rw [if_pos rfl] at H; exact H
       clear H
       have H := H1
       clear H1
       replace H := Option.bind_eq_some_iff.mp H
       obtain ⟨t349, A170, H⟩ := H
       replace H : (some (([(⟨6, (⟨#[97, 98, 111, 114, 116, 101, 100]⟩ : ByteArray), 0⟩ : S32), (⟨5, (⟨#[]⟩ : ByteArray), t349⟩ : S32)] : List (S32)))) = some r := H
       have A17 := Aside0.mk A170
       clear A170
       obtain ⟨y350, hy350⟩ : ∃ y_ : List (S32), y_ = (([(⟨6, (⟨#[97, 98, 111, 114, 116, 101, 100]⟩ : ByteArray), 0⟩ : S32), (⟨5, (⟨#[]⟩ : ByteArray), t349⟩ : S32)] : List (S32))) := ⟨_, rfl⟩
       replace H : (some y350) = some r := by first | (rw [hy350]; with_reducible exact H) | (have H2_ := (Option.bind_some _ _).symm.trans H; rw [hy350]; with_reducible exact H2_) | (have H2_ := (Option.bind_some _ _).symm.trans H; with_reducible exact H2_) | with_reducible exact H | (rw [hy350]; exact H) | exact H
       have Ny350 := Aside0.mk hy350
       clear hy350
       obtain rfl := Option.some.inj H
       obtain ⟨hcz18_0, hcz18_1, hcz18_2⟩ := cz3 BK348.out
       obtain ⟨hfz18_0, hfz18_1, hfz18_2⟩ := fz3 BK348.out
       try go_wp2
       have n0_ : Aside0 ((((wc.setCell ⟨gb348, 0, none⟩ (.int .i64 6)).setCell ⟨gb348, 1, none⟩ (.string (⟨#[97, 98, 111, 114, 116, 101, 100]⟩ : ByteArray))).setCell ⟨gb348, 2, none⟩ (.int .i64 0)).heap[gb348]? = some (.cells #[.int .i64 6, .string (⟨#[97, 98, 111, 114, 116, 101, 100]⟩ : ByteArray), .int .i64 0] 32 (0, 0))) := ⟨by (with_reducible repeat (first | refine blk_drewN ?_ _ | refine blk_drew ?_ | refine blk_alloc ?_ _)); refine Go.Proofs.YtahfemlfdpbkkaaV.blk_all3 (show _ = some (Go.Obj.cells #[.int .i64 4, .string a1, .int .i64 0] _ (0, 0)) from ?_); (with_reducible repeat (first | refine blk_drewN ?_ _ | refine blk_drew ?_ | refine blk_alloc ?_ _)); exact BK348.out⟩
       have n1_ : Aside0 (Below w.heap.size w (((wc.setCell ⟨gb348, 0, none⟩ (.int .i64 6)).setCell ⟨gb348, 1, none⟩ (.string (⟨#[97, 98, 111, 114, 116, 101, 100]⟩ : ByteArray))).setCell ⟨gb348, 2, none⟩ (.int .i64 0))) := ⟨qB HB⟩
       (try clear BK348)
       (try clear HB)
       generalize (((wc.setCell ⟨gb348, 0, none⟩ (.int .i64 6)).setCell ⟨gb348, 1, none⟩ (.string (⟨#[97, 98, 111, 114, 116, 101, 100]⟩ : ByteArray))).setCell ⟨gb348, 2, none⟩ (.int .i64 0)) = w19 at n0_ n1_ ⊢
       have BK348 := n0_
       have HB := n1_
       clear n0_ n1_
       replace BK348 := am_ (blk_drew BK348.out)
       replace HB := am_ (below_drew1 HB.out)
       refine start_ (n := 7) (S := fun w' => w'.cell? ⟨gb348, 0, none⟩ = some (.int .i64 6) ∧ w'.cell? ⟨gb348, 1, none⟩ = some (.string (⟨#[97, 98, 111, 114, 116, 101, 100]⟩ : ByteArray)) ∧ w'.cell? ⟨gb348, 2, none⟩ = some (.int .i64 0)) (ds := []) #[false, false, false, false, false, false, false] (by kernel_rfl) rfl rfl (cz3 BK348.out) (fun hHeld => ?_)
       generalize w19.drew = w20 at BK348 HB hHeld ⊢
       refine pure_ (i := 1) (N := some 45) (v := ?_) (a' := ?_) #[false, true, false, false, false, false, false] rfl rfl (by kernel_rfl) (fun _ _ _ h => h) (Or.inl ⟨by rfl, ?_⟩) ?_ ?_
       rotate_left
       ·
        intro w'
        go_simp
        with_reducible rfl
       rotate_left
       ·
        simp only [Act.put, List.setIfInBounds_toArray, List.set_cons_zero, List.set_cons_succ, i64_w, i32_w]
        rfl
       refine pure_ (i := 2) (N := some 46) (v := ?_) (a' := ?_) #[false, true, true, false, false, false, false] rfl rfl (by kernel_rfl) (fun _ _ _ h => h) (Or.inl ⟨by rfl, ?_⟩) ?_ ?_
       rotate_left
       ·
        intro w'
        go_simp
        with_reducible rfl
       rotate_left
       ·
        simp only [Act.put, List.setIfInBounds_toArray, List.set_cons_zero, List.set_cons_succ, i64_w, i32_w]
        rfl
       refine take_ (i := 0) (N := some 44) (v := ?_) (a' := ?_) #[true, true, true, false, false, false, false] rfl rfl (by kernel_rfl) (fun _ _ _ h => h) (Or.inl ⟨by rfl, ?_⟩) hHeld ?_ ?_
       rotate_left
       ·
        rintro w' ⟨s0, s1, s2⟩
        go_simp
        with_reducible rfl
       rotate_left
       ·
        simp only [Act.put, List.setIfInBounds_toArray, List.set_cons_zero, List.set_cons_succ, i64_w, i32_w]
        rfl
       refine one_ (i := 3) (N := some 47) #[true, true, true, true, false, false, false] rfl rfl (by kernel_rfl) (by decide) (fun K hK => ?_)
       refine goes_ Try.func120 (by kernel_rfl) rfl #[.int .i64 a0, .int .i64 t347] (by rfl) rfl rfl (by (try simp only [List.map_toArray, List.map_cons, List.map_nil]); first | done | rfl | (simp only [List.length_drop, List.length_take]; rfl)) ?_
       with_reducible refine (impl_NextSt.calls kj10 a0 t347 t349 _ A17.out).mono ?_
       rintro e w' ⟨rfl, ⟨nd, rfl⟩⟩
       refine ⟨_, rfl, ?_⟩
       refine hK.out _ _ (cz3 BK348.out) (fun hHeld => ?_)
       clear hK K
       refine norm_ (a' := ?_) ?_ ?_
       rotate_left
       ·
        show Act.put _ (some 47) _ = _
        simp only [Act.put, List.setIfInBounds_toArray, List.set_cons_zero, List.set_cons_succ, i64_w, i32_w]
        rfl
       refine pure_ (i := 4) (N := some 48) (v := ?_) (a' := ?_) #[true, true, true, true, true, false, false] rfl rfl (by kernel_rfl) (fun _ _ _ h => h) (Or.inl ⟨by rfl, ?_⟩) ?_ ?_
       rotate_left
       ·
        intro w'
        go_simp
        with_reducible rfl
       rotate_left
       ·
        simp only [Act.put, List.setIfInBounds_toArray, List.set_cons_zero, List.set_cons_succ, i64_w, i32_w]
        rfl
       refine one_ (i := 5) (N := some 49) #[true, true, true, true, true, true, false] rfl rfl (by kernel_rfl) (by decide) (fun K hK => ?_)
       refine Kd.R_lit_step k32 _ 32 ?hg (N := 49) ?hd (xs := ([(⟨6, (⟨#[97, 98, 111, 114, 116, 101, 100]⟩ : ByteArray), 0⟩ : S32), (⟨5, (⟨#[]⟩ : ByteArray), t349⟩ : S32)] : List (S32))) (inner := [.int .i64 6, .string (⟨#[97, 98, 111, 114, 116, 101, 100]⟩ : ByteArray), .int .i64 0, .int .i64 5, .string (⟨#[]⟩ : ByteArray), .int .i64 t349]) (ok := fun _ => True) (okp := fun _ => True) ?hr ?hp (fun _ hk => hk) trivial (Below.refl _ _) (Nat.le_refl _) (by simp) ?_; (case hd => rfl); (case hg => rfl); (case hr => first | (go_simp; done) | (go_simp; rfl)); (case hp => exact (Reps.c3 (show Kd.M k32 _ _ _ (⟨6, (⟨#[97, 98, 111, 114, 116, 101, 100]⟩ : ByteArray), 0⟩ : S32) [.int .i64 6, .string (⟨#[97, 98, 111, 114, 116, 101, 100]⟩ : ByteArray), .int .i64 0] from (k32_mkM _ _ _ (⟨6, (⟨#[97, 98, 111, 114, 116, 101, 100]⟩ : ByteArray), 0⟩ : S32) )) (Reps.c3 (show Kd.M k32 _ _ _ (⟨5, (⟨#[]⟩ : ByteArray), t349⟩ : S32) [.int .i64 5, .string (⟨#[]⟩ : ByteArray), .int .i64 t349] from (k32_mkM _ _ _ (⟨5, (⟨#[]⟩ : ByteArray), t349⟩ : S32) )) (Reps.none _ _))))
       intro v351 w21 ho22 hb hg_ hnew_
       clear hg_ hnew_
       (first | rw [← Ny350.out] at ho22 | (simp only [Int.reduceToNat] at ho22; rw [← Ny350.out] at ho22))
       have HO352 := am_ (Kd.R_lower (Kd.R_newB ho22 (qK BK348)) (below_size (qB HB)))
       replace BK348 := am_ (blk_below (qK BK348) hb)
       replace HB := am_ (below_step (qB HB) hb)
       clear hb ho22
       refine hK.out _ _ (cz3 BK348.out) (fun hHeld => ?_)
       clear hK K
       refine norm_ (a' := ?_) ?_ ?_
       rotate_left
       ·
        show Act.put _ (some 49) _ = _
        simp only [Act.put, List.setIfInBounds_toArray, List.set_cons_zero, List.set_cons_succ, i64_w, i32_w]
        rfl
       refine pure_ (i := 6) (N := some 4) (v := ?_) (a' := ?_) #[true, true, true, true, true, true, true] rfl rfl (by kernel_rfl) (fun _ _ _ h => h) (Or.inl ⟨by rfl, ?_⟩) ?_ ?_
       rotate_left
       ·
        intro w'
        go_simp
        with_reducible rfl
       rotate_left
       ·
        simp only [Act.put, List.setIfInBounds_toArray, List.set_cons_zero, List.set_cons_succ, i64_w, i32_w]
        rfl
       refine done_ (by kernel_rfl) ?_
       try go_wp2
       go_ret
       exact ⟨_, by first | rfl | (simp [errW_none, errW_some] <;> rfl) | (simp [*, errW_none, errW_some] <;> rfl), by (with_reducible repeat (first | apply Kd.R_alloc | apply Kd.R_drewN | apply Kd.R_drew)); exact Kd.R_mono HO352.out (fun _ hk => trivial), qB HB⟩
      ·
       replace c16 := Bool.eq_false_iff.mpr c16
       subst c16
       have H1 : (if t347 = 4 then ((impl_NextSt.f kj10 a0 t347).bind fun t353 => (some (([(⟨6, (⟨#[102, 97, 105, 108, 101, 100]⟩ : ByteArray), 0⟩ : S32), (⟨5, (⟨#[]⟩ : ByteArray), t353⟩ : S32)] : List (S32))))) else (if a0 = 2 then (if t347 = 2 then ((impl_NextSt.f kj10 a0 t347).bind fun t357 => (some (([(⟨4, (⟨#[114, 111, 108, 108, 98, 97, 99, 107]⟩ : ByteArray), 0⟩ : S32), (⟨5, (⟨#[]⟩ : ByteArray), t357⟩ : S32)] : List (S32))))) else ((impl_NextSt.f kj10 a0 t347).bind fun t361 => (some (([(⟨4, a1, 0⟩ : S32), (⟨5, (⟨#[]⟩ : ByteArray), t361⟩ : S32)] : List (S32)))))) else ((impl_NextSt.f kj10 a0 t347).bind fun t365 => (some (([(⟨4, a1, 0⟩ : S32), (⟨5, (⟨#[]⟩ : ByteArray), t365⟩ : S32)] : List (S32))))))) = some r := by rw [if_neg (show ¬ (false = true) by decide)] at H; exact H
       clear H
       have H := H1
       clear H1
       by_cases c23 : t347 = 4
       ·
        rw [if_pos c23] at H
        have c23b0 : (t347 == 4) = true := beq_iff_eq.mpr c23
        have c23b1 : (t347 != 4) = false := bne_eq_false_iff_eq.mpr c23
        clear c23
        replace H := Option.bind_eq_some_iff.mp H
        obtain ⟨t353, A240, H⟩ := H
        replace H : (some (([(⟨6, (⟨#[102, 97, 105, 108, 101, 100]⟩ : ByteArray), 0⟩ : S32), (⟨5, (⟨#[]⟩ : ByteArray), t353⟩ : S32)] : List (S32)))) = some r := H
        have A24 := Aside0.mk A240
        clear A240
        obtain ⟨y354, hy354⟩ : ∃ y_ : List (S32), y_ = (([(⟨6, (⟨#[102, 97, 105, 108, 101, 100]⟩ : ByteArray), 0⟩ : S32), (⟨5, (⟨#[]⟩ : ByteArray), t353⟩ : S32)] : List (S32))) := ⟨_, rfl⟩
        replace H : (some y354) = some r := by first | (rw [hy354]; with_reducible exact H) | (have H2_ := (Option.bind_some _ _).symm.trans H; rw [hy354]; with_reducible exact H2_) | (have H2_ := (Option.bind_some _ _).symm.trans H; with_reducible exact H2_) | with_reducible exact H | (rw [hy354]; exact H) | exact H
        have Ny354 := Aside0.mk hy354
        clear hy354
        obtain rfl := Option.some.inj H
        obtain ⟨hcz25_0, hcz25_1, hcz25_2⟩ := cz3 BK348.out
        obtain ⟨hfz25_0, hfz25_1, hfz25_2⟩ := fz3 BK348.out
        try go_wp2
        have n0_ : Aside0 ((((wc.setCell ⟨gb348, 0, none⟩ (.int .i64 6)).setCell ⟨gb348, 1, none⟩ (.string (⟨#[102, 97, 105, 108, 101, 100]⟩ : ByteArray))).setCell ⟨gb348, 2, none⟩ (.int .i64 0)).heap[gb348]? = some (.cells #[.int .i64 6, .string (⟨#[102, 97, 105, 108, 101, 100]⟩ : ByteArray), .int .i64 0] 32 (0, 0))) := ⟨by (with_reducible repeat (first | refine blk_drewN ?_ _ | refine blk_drew ?_ | refine blk_alloc ?_ _)); refine Go.Proofs.YtahfemlfdpbkkaaV.blk_all3 (show _ = some (Go.Obj.cells #[.int .i64 4, .string a1, .int .i64 0] _ (0, 0)) from ?_); (with_reducible repeat (first | refine blk_drewN ?_ _ | refine blk_drew ?_ | refine blk_alloc ?_ _)); exact BK348.out⟩
        have n1_ : Aside0 (Below w.heap.size w (((wc.setCell ⟨gb348, 0, none⟩ (.int .i64 6)).setCell ⟨gb348, 1, none⟩ (.string (⟨#[102, 97, 105, 108, 101, 100]⟩ : ByteArray))).setCell ⟨gb348, 2, none⟩ (.int .i64 0))) := ⟨qB HB⟩
        generalize (((wc.setCell ⟨gb348, 0, none⟩ (.int .i64 6)).setCell ⟨gb348, 1, none⟩ (.string (⟨#[102, 97, 105, 108, 101, 100]⟩ : ByteArray))).setCell ⟨gb348, 2, none⟩ (.int .i64 0)) = w26 at n0_ n1_ ⊢
        have BK348 := n0_
        have HB := n1_
        clear n0_ n1_
        replace BK348 := am_ (blk_drew BK348.out)
        replace HB := am_ (below_drew1 HB.out)
        refine start_ (n := 7) (S := fun w' => w'.cell? ⟨gb348, 0, none⟩ = some (.int .i64 6) ∧ w'.cell? ⟨gb348, 1, none⟩ = some (.string (⟨#[102, 97, 105, 108, 101, 100]⟩ : ByteArray)) ∧ w'.cell? ⟨gb348, 2, none⟩ = some (.int .i64 0)) (ds := []) #[false, false, false, false, false, false, false] (by kernel_rfl) rfl rfl (cz3 BK348.out) (fun hHeld => ?_)
        generalize w26.drew = w27 at BK348 HB hHeld ⊢
        refine pure_ (i := 1) (N := some 45) (v := ?_) (a' := ?_) #[false, true, false, false, false, false, false] rfl rfl (by kernel_rfl) (fun _ _ _ h => h) (Or.inl ⟨by rfl, ?_⟩) ?_ ?_
        rotate_left
        ·
         intro w'
         go_simp
         with_reducible rfl
        rotate_left
        ·
         simp only [Act.put, List.setIfInBounds_toArray, List.set_cons_zero, List.set_cons_succ, i64_w, i32_w]
         rfl
        refine pure_ (i := 2) (N := some 46) (v := ?_) (a' := ?_) #[false, true, true, false, false, false, false] rfl rfl (by kernel_rfl) (fun _ _ _ h => h) (Or.inl ⟨by rfl, ?_⟩) ?_ ?_
        rotate_left
        ·
         intro w'
         go_simp
         with_reducible rfl
        rotate_left
        ·
         simp only [Act.put, List.setIfInBounds_toArray, List.set_cons_zero, List.set_cons_succ, i64_w, i32_w]
         rfl
        refine take_ (i := 0) (N := some 44) (v := ?_) (a' := ?_) #[true, true, true, false, false, false, false] rfl rfl (by kernel_rfl) (fun _ _ _ h => h) (Or.inl ⟨by rfl, ?_⟩) hHeld ?_ ?_
        rotate_left
        ·
         rintro w' ⟨s0, s1, s2⟩
         go_simp
         with_reducible rfl
        rotate_left
        ·
         simp only [Act.put, List.setIfInBounds_toArray, List.set_cons_zero, List.set_cons_succ, i64_w, i32_w]
         rfl
        refine one_ (i := 3) (N := some 47) #[true, true, true, true, false, false, false] rfl rfl (by kernel_rfl) (by decide) (fun K hK => ?_)
        refine goes_ Try.func120 (by kernel_rfl) rfl #[.int .i64 a0, .int .i64 t347] (by rfl) rfl rfl (by (try simp only [List.map_toArray, List.map_cons, List.map_nil]); first | done | rfl | (simp only [List.length_drop, List.length_take]; rfl)) ?_
        with_reducible refine (impl_NextSt.calls kj10 a0 t347 t353 _ A24.out).mono ?_
        rintro e w' ⟨rfl, ⟨nd, rfl⟩⟩
        refine ⟨_, rfl, ?_⟩
        refine hK.out _ _ (cz3 BK348.out) (fun hHeld => ?_)
        clear hK K
        refine norm_ (a' := ?_) ?_ ?_
        rotate_left
        ·
         show Act.put _ (some 47) _ = _
         simp only [Act.put, List.setIfInBounds_toArray, List.set_cons_zero, List.set_cons_succ, i64_w, i32_w]
         rfl
        refine pure_ (i := 4) (N := some 48) (v := ?_) (a' := ?_) #[true, true, true, true, true, false, false] rfl rfl (by kernel_rfl) (fun _ _ _ h => h) (Or.inl ⟨by rfl, ?_⟩) ?_ ?_
        rotate_left
        ·
         intro w'
         go_simp
         with_reducible rfl
        rotate_left
        ·
         simp only [Act.put, List.setIfInBounds_toArray, List.set_cons_zero, List.set_cons_succ, i64_w, i32_w]
         rfl
        refine one_ (i := 5) (N := some 49) #[true, true, true, true, true, true, false] rfl rfl (by kernel_rfl) (by decide) (fun K hK => ?_)
        refine Kd.R_lit_step k32 _ 32 ?hg (N := 49) ?hd (xs := ([(⟨6, (⟨#[102, 97, 105, 108, 101, 100]⟩ : ByteArray), 0⟩ : S32), (⟨5, (⟨#[]⟩ : ByteArray), t353⟩ : S32)] : List (S32))) (inner := [.int .i64 6, .string (⟨#[102, 97, 105, 108, 101, 100]⟩ : ByteArray), .int .i64 0, .int .i64 5, .string (⟨#[]⟩ : ByteArray), .int .i64 t353]) (ok := fun _ => True) (okp := fun _ => True) ?hr ?hp (fun _ hk => hk) trivial (Below.refl _ _) (Nat.le_refl _) (by simp) ?_; (case hd => rfl); (case hg => rfl); (case hr => first | (go_simp; done) | (go_simp; rfl)); (case hp => exact (Reps.c3 (show Kd.M k32 _ _ _ (⟨6, (⟨#[102, 97, 105, 108, 101, 100]⟩ : ByteArray), 0⟩ : S32) [.int .i64 6, .string (⟨#[102, 97, 105, 108, 101, 100]⟩ : ByteArray), .int .i64 0] from (k32_mkM _ _ _ (⟨6, (⟨#[102, 97, 105, 108, 101, 100]⟩ : ByteArray), 0⟩ : S32) )) (Reps.c3 (show Kd.M k32 _ _ _ (⟨5, (⟨#[]⟩ : ByteArray), t353⟩ : S32) [.int .i64 5, .string (⟨#[]⟩ : ByteArray), .int .i64 t353] from (k32_mkM _ _ _ (⟨5, (⟨#[]⟩ : ByteArray), t353⟩ : S32) )) (Reps.none _ _))))
        intro v355 w28 ho29 hb hg_ hnew_
        clear hg_ hnew_
        (first | rw [← Ny354.out] at ho29 | (simp only [Int.reduceToNat] at ho29; rw [← Ny354.out] at ho29))
        have HO356 := am_ (Kd.R_lower (Kd.R_newB ho29 (qK BK348)) (below_size (qB HB)))
        replace BK348 := am_ (blk_below (qK BK348) hb)
        replace HB := am_ (below_step (qB HB) hb)
        clear hb ho29
        refine hK.out _ _ (cz3 BK348.out) (fun hHeld => ?_)
        clear hK K
        refine norm_ (a' := ?_) ?_ ?_
        rotate_left
        ·
         show Act.put _ (some 49) _ = _
         simp only [Act.put, List.setIfInBounds_toArray, List.set_cons_zero, List.set_cons_succ, i64_w, i32_w]
         rfl
        refine pure_ (i := 6) (N := some 4) (v := ?_) (a' := ?_) #[true, true, true, true, true, true, true] rfl rfl (by kernel_rfl) (fun _ _ _ h => h) (Or.inl ⟨by rfl, ?_⟩) ?_ ?_
        rotate_left
        ·
         intro w'
         go_simp
         with_reducible rfl
        rotate_left
        ·
         simp only [Act.put, List.setIfInBounds_toArray, List.set_cons_zero, List.set_cons_succ, i64_w, i32_w]
         rfl
        refine done_ (by kernel_rfl) ?_
        try go_wp2
        go_ret
        exact ⟨_, by first | rfl | (simp [errW_none, errW_some] <;> rfl) | (simp [*, errW_none, errW_some] <;> rfl), by (with_reducible repeat (first | apply Kd.R_alloc | apply Kd.R_drewN | apply Kd.R_drew)); exact Kd.R_mono HO356.out (fun _ hk => trivial), qB HB⟩
       ·
        rw [if_neg c23] at H
        have c23b0 : (t347 == 4) = false := beq_eq_false_iff_ne.mpr c23
        have c23b1 : (t347 != 4) = true := bne_iff_ne.mpr c23
        by_cases c30 : a0 = 2
        ·
         rw [if_pos c30] at H
         have c30b0 : (a0 == 2) = true := beq_iff_eq.mpr c30
         have c30b1 : (a0 != 2) = false := bne_eq_false_iff_eq.mpr c30
         clear c30
         by_cases c31 : t347 = 2
         ·
          rw [if_pos c31] at H
          have c31b0 : (t347 == 2) = true := beq_iff_eq.mpr c31
          have c31b1 : (t347 != 2) = false := bne_eq_false_iff_eq.mpr c31
          clear c31
          replace H := Option.bind_eq_some_iff.mp H
          obtain ⟨t357, A320, H⟩ := H
          replace H : (some (([(⟨4, (⟨#[114, 111, 108, 108, 98, 97, 99, 107]⟩ : ByteArray), 0⟩ : S32), (⟨5, (⟨#[]⟩ : ByteArray), t357⟩ : S32)] : List (S32)))) = some r := H
          have A32 := Aside0.mk A320
          clear A320
          obtain ⟨y358, hy358⟩ : ∃ y_ : List (S32), y_ = (([(⟨4, (⟨#[114, 111, 108, 108, 98, 97, 99, 107]⟩ : ByteArray), 0⟩ : S32), (⟨5, (⟨#[]⟩ : ByteArray), t357⟩ : S32)] : List (S32))) := ⟨_, rfl⟩
          replace H : (some y358) = some r := by first | (rw [hy358]; with_reducible exact H) | (have H2_ := (Option.bind_some _ _).symm.trans H; rw [hy358]; with_reducible exact H2_) | (have H2_ := (Option.bind_some _ _).symm.trans H; with_reducible exact H2_) | with_reducible exact H | (rw [hy358]; exact H) | exact H
          have Ny358 := Aside0.mk hy358
          clear hy358
          obtain rfl := Option.some.inj H
          obtain ⟨hcz33_0, hcz33_1, hcz33_2⟩ := cz3 BK348.out
          obtain ⟨hfz33_0, hfz33_1, hfz33_2⟩ := fz3 BK348.out
          try go_wp2
          have n0_ : Aside0 ((wc.setCell ⟨gb348, 1, none⟩ (.string (⟨#[114, 111, 108, 108, 98, 97, 99, 107]⟩ : ByteArray))).heap[gb348]? = some (.cells #[.int .i64 4, .string (⟨#[114, 111, 108, 108, 98, 97, 99, 107]⟩ : ByteArray), .int .i64 0] 32 (0, 0))) := ⟨by (with_reducible repeat (first | refine blk_drewN ?_ _ | refine blk_drew ?_ | refine blk_alloc ?_ _)); refine blk_put (cs := #[.int .i64 4, .string a1, .int .i64 0]) ?_ 1 _ rfl; (with_reducible repeat (first | refine blk_drewN ?_ _ | refine blk_drew ?_ | refine blk_alloc ?_ _)); exact BK348.out⟩
          have n1_ : Aside0 (Below w.heap.size w (wc.setCell ⟨gb348, 1, none⟩ (.string (⟨#[114, 111, 108, 108, 98, 97, 99, 107]⟩ : ByteArray)))) := ⟨qB HB⟩
          generalize (wc.setCell ⟨gb348, 1, none⟩ (.string (⟨#[114, 111, 108, 108, 98, 97, 99, 107]⟩ : ByteArray))) = w34 at n0_ n1_ ⊢
          have BK348 := n0_
          have HB := n1_
          clear n0_ n1_
          replace BK348 := am_ (blk_drew BK348.out)
          replace HB := am_ (below_drew1 HB.out)
          refine start_ (n := 7) (S := fun w' => w'.cell? ⟨gb348, 0, none⟩ = some (.int .i64 4) ∧ w'.cell? ⟨gb348, 1, none⟩ = some (.string (⟨#[114, 111, 108, 108, 98, 97, 99, 107]⟩ : ByteArray)) ∧ w'.cell? ⟨gb348, 2, none⟩ = some (.int .i64 0)) (ds := []) #[false, false, false, false, false, false, false] (by kernel_rfl) rfl rfl (cz3 BK348.out) (fun hHeld => ?_)
          generalize w34.drew = w35 at BK348 HB hHeld ⊢
          refine pure_ (i := 1) (N := some 45) (v := ?_) (a' := ?_) #[false, true, false, false, false, false, false] rfl rfl (by kernel_rfl) (fun _ _ _ h => h) (Or.inl ⟨by rfl, ?_⟩) ?_ ?_
          rotate_left
          ·
           intro w'
           go_simp
           with_reducible rfl
          rotate_left
          ·
           simp only [Act.put, List.setIfInBounds_toArray, List.set_cons_zero, List.set_cons_succ, i64_w, i32_w]
           rfl
          refine pure_ (i := 2) (N := some 46) (v := ?_) (a' := ?_) #[false, true, true, false, false, false, false] rfl rfl (by kernel_rfl) (fun _ _ _ h => h) (Or.inl ⟨by rfl, ?_⟩) ?_ ?_
          rotate_left
          ·
           intro w'
           go_simp
           with_reducible rfl
          rotate_left
          ·
           simp only [Act.put, List.setIfInBounds_toArray, List.set_cons_zero, List.set_cons_succ, i64_w, i32_w]
           rfl
          refine take_ (i := 0) (N := some 44) (v := ?_) (a' := ?_) #[true, true, true, false, false, false, false] rfl rfl (by kernel_rfl) (fun _ _ _ h => h) (Or.inl ⟨by rfl, ?_⟩) hHeld ?_ ?_
          rotate_left
          ·
           rintro w' ⟨s0, s1, s2⟩
           go_simp
           with_reducible rfl
          rotate_left
          ·
           simp only [Act.put, List.setIfInBounds_toArray, List.set_cons_zero, List.set_cons_succ, i64_w, i32_w]
           rfl
          refine one_ (i := 3) (N := some 47) #[true, true, true, true, false, false, false] rfl rfl (by kernel_rfl) (by decide) (fun K hK => ?_)
          refine goes_ Try.func120 (by kernel_rfl) rfl #[.int .i64 a0, .int .i64 t347] (by rfl) rfl rfl (by (try simp only [List.map_toArray, List.map_cons, List.map_nil]); first | done | rfl | (simp only [List.length_drop, List.length_take]; rfl)) ?_
          with_reducible refine (impl_NextSt.calls kj10 a0 t347 t357 _ A32.out).mono ?_
          rintro e w' ⟨rfl, ⟨nd, rfl⟩⟩
          refine ⟨_, rfl, ?_⟩
          refine hK.out _ _ (cz3 BK348.out) (fun hHeld => ?_)
          clear hK K
          refine norm_ (a' := ?_) ?_ ?_
          rotate_left
          ·
           show Act.put _ (some 47) _ = _
           simp only [Act.put, List.setIfInBounds_toArray, List.set_cons_zero, List.set_cons_succ, i64_w, i32_w]
           rfl
          refine pure_ (i := 4) (N := some 48) (v := ?_) (a' := ?_) #[true, true, true, true, true, false, false] rfl rfl (by kernel_rfl) (fun _ _ _ h => h) (Or.inl ⟨by rfl, ?_⟩) ?_ ?_
          rotate_left
          ·
           intro w'
           go_simp
           with_reducible rfl
          rotate_left
          ·
           simp only [Act.put, List.setIfInBounds_toArray, List.set_cons_zero, List.set_cons_succ, i64_w, i32_w]
           rfl
          refine one_ (i := 5) (N := some 49) #[true, true, true, true, true, true, false] rfl rfl (by kernel_rfl) (by decide) (fun K hK => ?_)
          refine Kd.R_lit_step k32 _ 32 ?hg (N := 49) ?hd (xs := ([(⟨4, (⟨#[114, 111, 108, 108, 98, 97, 99, 107]⟩ : ByteArray), 0⟩ : S32), (⟨5, (⟨#[]⟩ : ByteArray), t357⟩ : S32)] : List (S32))) (inner := [.int .i64 4, .string (⟨#[114, 111, 108, 108, 98, 97, 99, 107]⟩ : ByteArray), .int .i64 0, .int .i64 5, .string (⟨#[]⟩ : ByteArray), .int .i64 t357]) (ok := fun _ => True) (okp := fun _ => True) ?hr ?hp (fun _ hk => hk) trivial (Below.refl _ _) (Nat.le_refl _) (by simp) ?_; (case hd => rfl); (case hg => rfl); (case hr => first | (go_simp; done) | (go_simp; rfl)); (case hp => exact (Reps.c3 (show Kd.M k32 _ _ _ (⟨4, (⟨#[114, 111, 108, 108, 98, 97, 99, 107]⟩ : ByteArray), 0⟩ : S32) [.int .i64 4, .string (⟨#[114, 111, 108, 108, 98, 97, 99, 107]⟩ : ByteArray), .int .i64 0] from (k32_mkM _ _ _ (⟨4, (⟨#[114, 111, 108, 108, 98, 97, 99, 107]⟩ : ByteArray), 0⟩ : S32) )) (Reps.c3 (show Kd.M k32 _ _ _ (⟨5, (⟨#[]⟩ : ByteArray), t357⟩ : S32) [.int .i64 5, .string (⟨#[]⟩ : ByteArray), .int .i64 t357] from (k32_mkM _ _ _ (⟨5, (⟨#[]⟩ : ByteArray), t357⟩ : S32) )) (Reps.none _ _))))
          intro v359 w36 ho37 hb hg_ hnew_
          clear hg_ hnew_
          (first | rw [← Ny358.out] at ho37 | (simp only [Int.reduceToNat] at ho37; rw [← Ny358.out] at ho37))
          have HO360 := am_ (Kd.R_lower (Kd.R_newB ho37 (qK BK348)) (below_size (qB HB)))
          replace BK348 := am_ (blk_below (qK BK348) hb)
          replace HB := am_ (below_step (qB HB) hb)
          clear hb ho37
          refine hK.out _ _ (cz3 BK348.out) (fun hHeld => ?_)
          clear hK K
          refine norm_ (a' := ?_) ?_ ?_
          rotate_left
          ·
           show Act.put _ (some 49) _ = _
           simp only [Act.put, List.setIfInBounds_toArray, List.set_cons_zero, List.set_cons_succ, i64_w, i32_w]
           rfl
          refine pure_ (i := 6) (N := some 4) (v := ?_) (a' := ?_) #[true, true, true, true, true, true, true] rfl rfl (by kernel_rfl) (fun _ _ _ h => h) (Or.inl ⟨by rfl, ?_⟩) ?_ ?_
          rotate_left
          ·
           intro w'
           go_simp
           with_reducible rfl
          rotate_left
          ·
           simp only [Act.put, List.setIfInBounds_toArray, List.set_cons_zero, List.set_cons_succ, i64_w, i32_w]
           rfl
          refine done_ (by kernel_rfl) ?_
          try go_wp2
          go_ret
          exact ⟨_, by first | rfl | (simp [errW_none, errW_some] <;> rfl) | (simp [*, errW_none, errW_some] <;> rfl), by (with_reducible repeat (first | apply Kd.R_alloc | apply Kd.R_drewN | apply Kd.R_drew)); exact Kd.R_mono HO360.out (fun _ hk => trivial), qB HB⟩
         ·
          rw [if_neg c31] at H
          have c31b0 : (t347 == 2) = false := beq_eq_false_iff_ne.mpr c31
          have c31b1 : (t347 != 2) = true := bne_iff_ne.mpr c31
          replace H := Option.bind_eq_some_iff.mp H
          obtain ⟨t361, A380, H⟩ := H
          replace H : (some (([(⟨4, a1, 0⟩ : S32), (⟨5, (⟨#[]⟩ : ByteArray), t361⟩ : S32)] : List (S32)))) = some r := H
          have A38 := Aside0.mk A380
          clear A380
          obtain ⟨y362, hy362⟩ : ∃ y_ : List (S32), y_ = (([(⟨4, a1, 0⟩ : S32), (⟨5, (⟨#[]⟩ : ByteArray), t361⟩ : S32)] : List (S32))) := ⟨_, rfl⟩
          replace H : (some y362) = some r := by first | (rw [hy362]; with_reducible exact H) | (have H2_ := (Option.bind_some _ _).symm.trans H; rw [hy362]; with_reducible exact H2_) | (have H2_ := (Option.bind_some _ _).symm.trans H; with_reducible exact H2_) | with_reducible exact H | (rw [hy362]; exact H) | exact H
          have Ny362 := Aside0.mk hy362
          clear hy362
          obtain rfl := Option.some.inj H
          try go_wp2
          replace BK348 := am_ (blk_drew BK348.out)
          replace HB := am_ (below_drew1 HB.out)
          refine start_ (n := 7) (S := fun w' => w'.cell? ⟨gb348, 0, none⟩ = some (.int .i64 4) ∧ w'.cell? ⟨gb348, 1, none⟩ = some (.string a1) ∧ w'.cell? ⟨gb348, 2, none⟩ = some (.int .i64 0)) (ds := []) #[false, false, false, false, false, false, false] (by kernel_rfl) rfl rfl (cz3 BK348.out) (fun hHeld => ?_)
          generalize wc.drew = w39 at BK348 HB hHeld ⊢
          refine pure_ (i := 1) (N := some 45) (v := ?_) (a' := ?_) #[false, true, false, false, false, false, false] rfl rfl (by kernel_rfl) (fun _ _ _ h => h) (Or.inl ⟨by rfl, ?_⟩) ?_ ?_
          rotate_left
          ·
           intro w'
           go_simp
           with_reducible rfl
          rotate_left
          ·
           simp only [Act.put, List.setIfInBounds_toArray, List.set_cons_zero, List.set_cons_succ, i64_w, i32_w]
           rfl
          refine pure_ (i := 2) (N := some 46) (v := ?_) (a' := ?_) #[false, true, true, false, false, false, false] rfl rfl (by kernel_rfl) (fun _ _ _ h => h) (Or.inl ⟨by rfl, ?_⟩) ?_ ?_
          rotate_left
          ·
           intro w'
           go_simp
           with_reducible rfl
          rotate_left
          ·
           simp only [Act.put, List.setIfInBounds_toArray, List.set_cons_zero, List.set_cons_succ, i64_w, i32_w]
           rfl
          refine take_ (i := 0) (N := some 44) (v := ?_) (a' := ?_) #[true, true, true, false, false, false, false] rfl rfl (by kernel_rfl) (fun _ _ _ h => h) (Or.inl ⟨by rfl, ?_⟩) hHeld ?_ ?_
          rotate_left
          ·
           rintro w' ⟨s0, s1, s2⟩
           go_simp
           with_reducible rfl
          rotate_left
          ·
           simp only [Act.put, List.setIfInBounds_toArray, List.set_cons_zero, List.set_cons_succ, i64_w, i32_w]
           rfl
          refine one_ (i := 3) (N := some 47) #[true, true, true, true, false, false, false] rfl rfl (by kernel_rfl) (by decide) (fun K hK => ?_)
          refine goes_ Try.func120 (by kernel_rfl) rfl #[.int .i64 a0, .int .i64 t347] (by rfl) rfl rfl (by (try simp only [List.map_toArray, List.map_cons, List.map_nil]); first | done | rfl | (simp only [List.length_drop, List.length_take]; rfl)) ?_
          with_reducible refine (impl_NextSt.calls kj10 a0 t347 t361 _ A38.out).mono ?_
          rintro e w' ⟨rfl, ⟨nd, rfl⟩⟩
          refine ⟨_, rfl, ?_⟩
          refine hK.out _ _ (cz3 BK348.out) (fun hHeld => ?_)
          clear hK K
          refine norm_ (a' := ?_) ?_ ?_
          rotate_left
          ·
           show Act.put _ (some 47) _ = _
           simp only [Act.put, List.setIfInBounds_toArray, List.set_cons_zero, List.set_cons_succ, i64_w, i32_w]
           rfl
          refine pure_ (i := 4) (N := some 48) (v := ?_) (a' := ?_) #[true, true, true, true, true, false, false] rfl rfl (by kernel_rfl) (fun _ _ _ h => h) (Or.inl ⟨by rfl, ?_⟩) ?_ ?_
          rotate_left
          ·
           intro w'
           go_simp
           with_reducible rfl
          rotate_left
          ·
           simp only [Act.put, List.setIfInBounds_toArray, List.set_cons_zero, List.set_cons_succ, i64_w, i32_w]
           rfl
          refine one_ (i := 5) (N := some 49) #[true, true, true, true, true, true, false] rfl rfl (by kernel_rfl) (by decide) (fun K hK => ?_)
          refine Kd.R_lit_step k32 _ 32 ?hg (N := 49) ?hd (xs := ([(⟨4, a1, 0⟩ : S32), (⟨5, (⟨#[]⟩ : ByteArray), t361⟩ : S32)] : List (S32))) (inner := [.int .i64 4, .string a1, .int .i64 0, .int .i64 5, .string (⟨#[]⟩ : ByteArray), .int .i64 t361]) (ok := fun _ => True) (okp := fun _ => True) ?hr ?hp (fun _ hk => hk) trivial (Below.refl _ _) (Nat.le_refl _) (by simp) ?_; (case hd => rfl); (case hg => rfl); (case hr => first | (go_simp; done) | (go_simp; rfl)); (case hp => exact (Reps.c3 (show Kd.M k32 _ _ _ (⟨4, a1, 0⟩ : S32) [.int .i64 4, .string a1, .int .i64 0] from (k32_mkM _ _ _ (⟨4, a1, 0⟩ : S32) )) (Reps.c3 (show Kd.M k32 _ _ _ (⟨5, (⟨#[]⟩ : ByteArray), t361⟩ : S32) [.int .i64 5, .string (⟨#[]⟩ : ByteArray), .int .i64 t361] from (k32_mkM _ _ _ (⟨5, (⟨#[]⟩ : ByteArray), t361⟩ : S32) )) (Reps.none _ _))))
          intro v363 w40 ho41 hb hg_ hnew_
          clear hg_ hnew_
          (first | rw [← Ny362.out] at ho41 | (simp only [Int.reduceToNat] at ho41; rw [← Ny362.out] at ho41))
          have HO364 := am_ (Kd.R_lower (Kd.R_newB ho41 (qK BK348)) (below_size (qB HB)))
          replace BK348 := am_ (blk_below (qK BK348) hb)
          replace HB := am_ (below_step (qB HB) hb)
          clear hb ho41
          refine hK.out _ _ (cz3 BK348.out) (fun hHeld => ?_)
          clear hK K
          refine norm_ (a' := ?_) ?_ ?_
          rotate_left
          ·
           show Act.put _ (some 49) _ = _
           simp only [Act.put, List.setIfInBounds_toArray, List.set_cons_zero, List.set_cons_succ, i64_w, i32_w]
           rfl
          refine pure_ (i := 6) (N := some 4) (v := ?_) (a' := ?_) #[true, true, true, true, true, true, true] rfl rfl (by kernel_rfl) (fun _ _ _ h => h) (Or.inl ⟨by rfl, ?_⟩) ?_ ?_
          rotate_left
          ·
           intro w'
           go_simp
           with_reducible rfl
          rotate_left
          ·
           simp only [Act.put, List.setIfInBounds_toArray, List.set_cons_zero, List.set_cons_succ, i64_w, i32_w]
           rfl
          refine done_ (by kernel_rfl) ?_
          try go_wp2
          go_ret
          exact ⟨_, by first | rfl | (simp [errW_none, errW_some] <;> rfl) | (simp [*, errW_none, errW_some] <;> rfl), by (with_reducible repeat (first | apply Kd.R_alloc | apply Kd.R_drewN | apply Kd.R_drew)); exact Kd.R_mono HO364.out (fun _ hk => trivial), qB HB⟩
        ·
         rw [if_neg c30] at H
         have c30b0 : (a0 == 2) = false := beq_eq_false_iff_ne.mpr c30
         have c30b1 : (a0 != 2) = true := bne_iff_ne.mpr c30
         replace H := Option.bind_eq_some_iff.mp H
         obtain ⟨t365, A420, H⟩ := H
         replace H : (some (([(⟨4, a1, 0⟩ : S32), (⟨5, (⟨#[]⟩ : ByteArray), t365⟩ : S32)] : List (S32)))) = some r := H
         have A42 := Aside0.mk A420
         clear A420
         obtain ⟨y366, hy366⟩ : ∃ y_ : List (S32), y_ = (([(⟨4, a1, 0⟩ : S32), (⟨5, (⟨#[]⟩ : ByteArray), t365⟩ : S32)] : List (S32))) := ⟨_, rfl⟩
         replace H : (some y366) = some r := by first | (rw [hy366]; with_reducible exact H) | (have H2_ := (Option.bind_some _ _).symm.trans H; rw [hy366]; with_reducible exact H2_) | (have H2_ := (Option.bind_some _ _).symm.trans H; with_reducible exact H2_) | with_reducible exact H | (rw [hy366]; exact H) | exact H
         have Ny366 := Aside0.mk hy366
         clear hy366
         obtain rfl := Option.some.inj H
         try go_wp2
         replace BK348 := am_ (blk_drew BK348.out)
         replace HB := am_ (below_drew1 HB.out)
         refine start_ (n := 7) (S := fun w' => w'.cell? ⟨gb348, 0, none⟩ = some (.int .i64 4) ∧ w'.cell? ⟨gb348, 1, none⟩ = some (.string a1) ∧ w'.cell? ⟨gb348, 2, none⟩ = some (.int .i64 0)) (ds := []) #[false, false, false, false, false, false, false] (by kernel_rfl) rfl rfl (cz3 BK348.out) (fun hHeld => ?_)
         generalize wc.drew = w43 at BK348 HB hHeld ⊢
         refine pure_ (i := 1) (N := some 45) (v := ?_) (a' := ?_) #[false, true, false, false, false, false, false] rfl rfl (by kernel_rfl) (fun _ _ _ h => h) (Or.inl ⟨by rfl, ?_⟩) ?_ ?_
         rotate_left
         ·
          intro w'
          go_simp
          with_reducible rfl
         rotate_left
         ·
          simp only [Act.put, List.setIfInBounds_toArray, List.set_cons_zero, List.set_cons_succ, i64_w, i32_w]
          rfl
         refine pure_ (i := 2) (N := some 46) (v := ?_) (a' := ?_) #[false, true, true, false, false, false, false] rfl rfl (by kernel_rfl) (fun _ _ _ h => h) (Or.inl ⟨by rfl, ?_⟩) ?_ ?_
         rotate_left
         ·
          intro w'
          go_simp
          with_reducible rfl
         rotate_left
         ·
          simp only [Act.put, List.setIfInBounds_toArray, List.set_cons_zero, List.set_cons_succ, i64_w, i32_w]
          rfl
         refine take_ (i := 0) (N := some 44) (v := ?_) (a' := ?_) #[true, true, true, false, false, false, false] rfl rfl (by kernel_rfl) (fun _ _ _ h => h) (Or.inl ⟨by rfl, ?_⟩) hHeld ?_ ?_
         rotate_left
         ·
          rintro w' ⟨s0, s1, s2⟩
          go_simp
          with_reducible rfl
         rotate_left
         ·
          simp only [Act.put, List.setIfInBounds_toArray, List.set_cons_zero, List.set_cons_succ, i64_w, i32_w]
          rfl
         refine one_ (i := 3) (N := some 47) #[true, true, true, true, false, false, false] rfl rfl (by kernel_rfl) (by decide) (fun K hK => ?_)
         refine goes_ Try.func120 (by kernel_rfl) rfl #[.int .i64 a0, .int .i64 t347] (by rfl) rfl rfl (by (try simp only [List.map_toArray, List.map_cons, List.map_nil]); first | done | rfl | (simp only [List.length_drop, List.length_take]; rfl)) ?_
         with_reducible refine (impl_NextSt.calls kj10 a0 t347 t365 _ A42.out).mono ?_
         rintro e w' ⟨rfl, ⟨nd, rfl⟩⟩
         refine ⟨_, rfl, ?_⟩
         refine hK.out _ _ (cz3 BK348.out) (fun hHeld => ?_)
         clear hK K
         refine norm_ (a' := ?_) ?_ ?_
         rotate_left
         ·
          show Act.put _ (some 47) _ = _
          simp only [Act.put, List.setIfInBounds_toArray, List.set_cons_zero, List.set_cons_succ, i64_w, i32_w]
          rfl
         refine pure_ (i := 4) (N := some 48) (v := ?_) (a' := ?_) #[true, true, true, true, true, false, false] rfl rfl (by kernel_rfl) (fun _ _ _ h => h) (Or.inl ⟨by rfl, ?_⟩) ?_ ?_
         rotate_left
         ·
          intro w'
          go_simp
          with_reducible rfl
         rotate_left
         ·
          simp only [Act.put, List.setIfInBounds_toArray, List.set_cons_zero, List.set_cons_succ, i64_w, i32_w]
          rfl
         refine one_ (i := 5) (N := some 49) #[true, true, true, true, true, true, false] rfl rfl (by kernel_rfl) (by decide) (fun K hK => ?_)
         refine Kd.R_lit_step k32 _ 32 ?hg (N := 49) ?hd (xs := ([(⟨4, a1, 0⟩ : S32), (⟨5, (⟨#[]⟩ : ByteArray), t365⟩ : S32)] : List (S32))) (inner := [.int .i64 4, .string a1, .int .i64 0, .int .i64 5, .string (⟨#[]⟩ : ByteArray), .int .i64 t365]) (ok := fun _ => True) (okp := fun _ => True) ?hr ?hp (fun _ hk => hk) trivial (Below.refl _ _) (Nat.le_refl _) (by simp) ?_; (case hd => rfl); (case hg => rfl); (case hr => first | (go_simp; done) | (go_simp; rfl)); (case hp => exact (Reps.c3 (show Kd.M k32 _ _ _ (⟨4, a1, 0⟩ : S32) [.int .i64 4, .string a1, .int .i64 0] from (k32_mkM _ _ _ (⟨4, a1, 0⟩ : S32) )) (Reps.c3 (show Kd.M k32 _ _ _ (⟨5, (⟨#[]⟩ : ByteArray), t365⟩ : S32) [.int .i64 5, .string (⟨#[]⟩ : ByteArray), .int .i64 t365] from (k32_mkM _ _ _ (⟨5, (⟨#[]⟩ : ByteArray), t365⟩ : S32) )) (Reps.none _ _))))
         intro v367 w44 ho45 hb hg_ hnew_
         clear hg_ hnew_
         (first | rw [← Ny366.out] at ho45 | (simp only [Int.reduceToNat] at ho45; rw [← Ny366.out] at ho45))
         have HO368 := am_ (Kd.R_lower (Kd.R_newB ho45 (qK BK348)) (below_size (qB HB)))
         replace BK348 := am_ (blk_below (qK BK348) hb)
         replace HB := am_ (below_step (qB HB) hb)
         clear hb ho45
         refine hK.out _ _ (cz3 BK348.out) (fun hHeld => ?_)
         clear hK K
         refine norm_ (a' := ?_) ?_ ?_
         rotate_left
         ·
          show Act.put _ (some 49) _ = _
          simp only [Act.put, List.setIfInBounds_toArray, List.set_cons_zero, List.set_cons_succ, i64_w, i32_w]
          rfl
         refine pure_ (i := 6) (N := some 4) (v := ?_) (a' := ?_) #[true, true, true, true, true, true, true] rfl rfl (by kernel_rfl) (fun _ _ _ h => h) (Or.inl ⟨by rfl, ?_⟩) ?_ ?_
         rotate_left
         ·
          intro w'
          go_simp
          with_reducible rfl
         rotate_left
         ·
          simp only [Act.put, List.setIfInBounds_toArray, List.set_cons_zero, List.set_cons_succ, i64_w, i32_w]
          rfl
         refine done_ (by kernel_rfl) ?_
         try go_wp2
         go_ret
         exact ⟨_, by first | rfl | (simp [errW_none, errW_some] <;> rfl) | (simp [*, errW_none, errW_some] <;> rfl), by (with_reducible repeat (first | apply Kd.R_alloc | apply Kd.R_drewN | apply Kd.R_drew)); exact Kd.R_mono HO368.out (fun _ hk => trivial), qB HB⟩

end Go.Proofs.Ytahfemlfdpbkkaa.PFnExactAnswer
