-- Written by a program of this session (myprint.py, over the kit's print): contracts of FnExactSend
import Derived.Test.YtiffahfpfgnjnabPFnExactSendx0
import Derived.Test.YtiffahfpfgnjnabPFnExactSendx19
namespace Go.Proofs.Ytiffahfpfgnjnab.PFnExactSend
open Go.RowKit Go.Proofs.YtiffahfpfgnjnabW.PrintWords Go.Proofs.YtiffahfpfgnjnabW.PrintLast Go.Proofs.YtiffahfpfgnjnabW.PrintMore Go.Proofs.YtiffahfpfgnjnabV
attribute [local go_sem] max2_int min2_int max_two min_two max_three min_three max_four min_four   -- for this text's walks alone
set_option linter.unusedVariables false
set_option linter.unusedSimpArgs false

/-! ### laws_markItemS: function 79 -/
def laws_markItemS.l0 : Nat → List (S126) → Int → Int → Option (Int × (List (S126)))
 | 0, _, _, _ => none
 | k + 1, x0, x1, x5 => if x5 < (x0.length : Int) then (if 0 ≤ x5 then ((some (x0.set (x5 : Int).toNat (⟨x1, (⟨(rd_T126 x0 x5).f1.f0, (rd_T126 x0 x5).f1.f1, (rd_T126 x0 x5).f1.f2, (rd_T126 x0 x5).f1.f3, (rd_T126 x0 x5).f1.f4, (rd_T126 x0 x5).f1.f5, (rd_T126 x0 x5).f1.f6, (rd_T126 x0 x5).f1.f7⟩ : S90), (⟨(rd_T126 x0 x5).f2.f0, (rd_T126 x0 x5).f2.f1, (rd_T126 x0 x5).f2.f2, (rd_T126 x0 x5).f2.f3, (rd_T126 x0 x5).f2.f4, (rd_T126 x0 x5).f2.f5, (rd_T126 x0 x5).f2.f6⟩ : S124)⟩ : S126) : List (S126))).bind fun y626 => ((some (y626.set (x5 : Int).toNat (⟨(rd_T126 y626 x5).f0, (⟨wrap64 (x1 + 1), (rd_T126 y626 x5).f1.f1, (rd_T126 y626 x5).f1.f2, (rd_T126 y626 x5).f1.f3, (rd_T126 y626 x5).f1.f4, (rd_T126 y626 x5).f1.f5, (rd_T126 y626 x5).f1.f6, (rd_T126 y626 x5).f1.f7⟩ : S90), (⟨(rd_T126 y626 x5).f2.f0, (rd_T126 y626 x5).f2.f1, (rd_T126 y626 x5).f2.f2, (rd_T126 y626 x5).f2.f3, (rd_T126 y626 x5).f2.f4, (rd_T126 y626 x5).f2.f5, (rd_T126 y626 x5).f2.f6⟩ : S124)⟩ : S126) : List (S126))).bind fun y627 => ((laws_markText.f k (wrap64 ((wrap64 (x1 + 1)) + 1))).bind fun t628 => ((some (y627.set (x5 : Int).toNat (⟨(rd_T126 y627 x5).f0, (⟨(rd_T126 y627 x5).f1.f0, t628, (rd_T126 y627 x5).f1.f2, (rd_T126 y627 x5).f1.f3, (rd_T126 y627 x5).f1.f4, (rd_T126 y627 x5).f1.f5, (rd_T126 y627 x5).f1.f6, (rd_T126 y627 x5).f1.f7⟩ : S90), (⟨(rd_T126 y627 x5).f2.f0, (rd_T126 y627 x5).f2.f1, (rd_T126 y627 x5).f2.f2, (rd_T126 y627 x5).f2.f3, (rd_T126 y627 x5).f2.f4, (rd_T126 y627 x5).f2.f5, (rd_T126 y627 x5).f2.f6⟩ : S124)⟩ : S126) : List (S126))).bind fun y629 => ((some (y629.set (x5 : Int).toNat (⟨(rd_T126 y629 x5).f0, (⟨(rd_T126 y629 x5).f1.f0, (rd_T126 y629 x5).f1.f1, wrap64 ((wrap64 ((wrap64 (x1 + 1)) + 1)) + 1), (rd_T126 y629 x5).f1.f3, (rd_T126 y629 x5).f1.f4, (rd_T126 y629 x5).f1.f5, (rd_T126 y629 x5).f1.f6, (rd_T126 y629 x5).f1.f7⟩ : S90), (⟨(rd_T126 y629 x5).f2.f0, (rd_T126 y629 x5).f2.f1, (rd_T126 y629 x5).f2.f2, (rd_T126 y629 x5).f2.f3, (rd_T126 y629 x5).f2.f4, (rd_T126 y629 x5).f2.f5, (rd_T126 y629 x5).f2.f6⟩ : S124)⟩ : S126) : List (S126))).bind fun y630 => ((some (y630.set (x5 : Int).toNat (⟨(rd_T126 y630 x5).f0, (⟨(rd_T126 y630 x5).f1.f0, (rd_T126 y630 x5).f1.f1, (rd_T126 y630 x5).f1.f2, wrap64 ((wrap64 ((wrap64 ((wrap64 (x1 + 1)) + 1)) + 1)) + 1), (rd_T126 y630 x5).f1.f4, (rd_T126 y630 x5).f1.f5, (rd_T126 y630 x5).f1.f6, (rd_T126 y630 x5).f1.f7⟩ : S90), (⟨(rd_T126 y630 x5).f2.f0, (rd_T126 y630 x5).f2.f1, (rd_T126 y630 x5).f2.f2, (rd_T126 y630 x5).f2.f3, (rd_T126 y630 x5).f2.f4, (rd_T126 y630 x5).f2.f5, (rd_T126 y630 x5).f2.f6⟩ : S124)⟩ : S126) : List (S126))).bind fun y631 => ((some (y631.set (x5 : Int).toNat (⟨(rd_T126 y631 x5).f0, (⟨(rd_T126 y631 x5).f1.f0, (rd_T126 y631 x5).f1.f1, (rd_T126 y631 x5).f1.f2, (rd_T126 y631 x5).f1.f3, wrap64 ((wrap64 ((wrap64 ((wrap64 ((wrap64 (x1 + 1)) + 1)) + 1)) + 1)) + 1), (rd_T126 y631 x5).f1.f5, (rd_T126 y631 x5).f1.f6, (rd_T126 y631 x5).f1.f7⟩ : S90), (⟨(rd_T126 y631 x5).f2.f0, (rd_T126 y631 x5).f2.f1, (rd_T126 y631 x5).f2.f2, (rd_T126 y631 x5).f2.f3, (rd_T126 y631 x5).f2.f4, (rd_T126 y631 x5).f2.f5, (rd_T126 y631 x5).f2.f6⟩ : S124)⟩ : S126) : List (S126))).bind fun y632 => ((laws_markText.f k (wrap64 ((wrap64 ((wrap64 ((wrap64 ((wrap64 ((wrap64 (x1 + 1)) + 1)) + 1)) + 1)) + 1)) + 1))).bind fun t633 => ((some (y632.set (x5 : Int).toNat (⟨(rd_T126 y632 x5).f0, (⟨(rd_T126 y632 x5).f1.f0, (rd_T126 y632 x5).f1.f1, (rd_T126 y632 x5).f1.f2, (rd_T126 y632 x5).f1.f3, (rd_T126 y632 x5).f1.f4, t633, (rd_T126 y632 x5).f1.f6, (rd_T126 y632 x5).f1.f7⟩ : S90), (⟨(rd_T126 y632 x5).f2.f0, (rd_T126 y632 x5).f2.f1, (rd_T126 y632 x5).f2.f2, (rd_T126 y632 x5).f2.f3, (rd_T126 y632 x5).f2.f4, (rd_T126 y632 x5).f2.f5, (rd_T126 y632 x5).f2.f6⟩ : S124)⟩ : S126) : List (S126))).bind fun y634 => ((some (y634.set (x5 : Int).toNat (⟨(rd_T126 y634 x5).f0, (⟨(rd_T126 y634 x5).f1.f0, (rd_T126 y634 x5).f1.f1, (rd_T126 y634 x5).f1.f2, (rd_T126 y634 x5).f1.f3, (rd_T126 y634 x5).f1.f4, (rd_T126 y634 x5).f1.f5, wrap64 ((wrap64 ((wrap64 ((wrap64 ((wrap64 ((wrap64 ((wrap64 (x1 + 1)) + 1)) + 1)) + 1)) + 1)) + 1)) + 1), (rd_T126 y634 x5).f1.f7⟩ : S90), (⟨(rd_T126 y634 x5).f2.f0, (rd_T126 y634 x5).f2.f1, (rd_T126 y634 x5).f2.f2, (rd_T126 y634 x5).f2.f3, (rd_T126 y634 x5).f2.f4, (rd_T126 y634 x5).f2.f5, (rd_T126 y634 x5).f2.f6⟩ : S124)⟩ : S126) : List (S126))).bind fun y635 => ((some (y635.set (x5 : Int).toNat (⟨(rd_T126 y635 x5).f0, (⟨(rd_T126 y635 x5).f1.f0, (rd_T126 y635 x5).f1.f1, (rd_T126 y635 x5).f1.f2, (rd_T126 y635 x5).f1.f3, (rd_T126 y635 x5).f1.f4, (rd_T126 y635 x5).f1.f5, (rd_T126 y635 x5).f1.f6, wrap64 ((wrap64 ((wrap64 ((wrap64 ((wrap64 ((wrap64 ((wrap64 ((wrap64 (x1 + 1)) + 1)) + 1)) + 1)) + 1)) + 1)) + 1)) + 1)⟩ : S90), (⟨(rd_T126 y635 x5).f2.f0, (rd_T126 y635 x5).f2.f1, (rd_T126 y635 x5).f2.f2, (rd_T126 y635 x5).f2.f3, (rd_T126 y635 x5).f2.f4, (rd_T126 y635 x5).f2.f5, (rd_T126 y635 x5).f2.f6⟩ : S124)⟩ : S126) : List (S126))).bind fun y636 => ((some (y636.set (x5 : Int).toNat (⟨(rd_T126 y636 x5).f0, (⟨(rd_T126 y636 x5).f1.f0, (rd_T126 y636 x5).f1.f1, (rd_T126 y636 x5).f1.f2, (rd_T126 y636 x5).f1.f3, (rd_T126 y636 x5).f1.f4, (rd_T126 y636 x5).f1.f5, (rd_T126 y636 x5).f1.f6, (rd_T126 y636 x5).f1.f7⟩ : S90), (⟨wrap64 ((wrap64 ((wrap64 ((wrap64 ((wrap64 ((wrap64 ((wrap64 ((wrap64 ((wrap64 (x1 + 1)) + 1)) + 1)) + 1)) + 1)) + 1)) + 1)) + 1)) + 1), (rd_T126 y636 x5).f2.f1, (rd_T126 y636 x5).f2.f2, (rd_T126 y636 x5).f2.f3, (rd_T126 y636 x5).f2.f4, (rd_T126 y636 x5).f2.f5, (rd_T126 y636 x5).f2.f6⟩ : S124)⟩ : S126) : List (S126))).bind fun y637 => ((laws_markText.f k (wrap64 ((wrap64 ((wrap64 ((wrap64 ((wrap64 ((wrap64 ((wrap64 ((wrap64 ((wrap64 ((wrap64 (x1 + 1)) + 1)) + 1)) + 1)) + 1)) + 1)) + 1)) + 1)) + 1)) + 1))).bind fun t638 => ((some (y637.set (x5 : Int).toNat (⟨(rd_T126 y637 x5).f0, (⟨(rd_T126 y637 x5).f1.f0, (rd_T126 y637 x5).f1.f1, (rd_T126 y637 x5).f1.f2, (rd_T126 y637 x5).f1.f3, (rd_T126 y637 x5).f1.f4, (rd_T126 y637 x5).f1.f5, (rd_T126 y637 x5).f1.f6, (rd_T126 y637 x5).f1.f7⟩ : S90), (⟨(rd_T126 y637 x5).f2.f0, t638, (rd_T126 y637 x5).f2.f2, (rd_T126 y637 x5).f2.f3, (rd_T126 y637 x5).f2.f4, (rd_T126 y637 x5).f2.f5, (rd_T126 y637 x5).f2.f6⟩ : S124)⟩ : S126) : List (S126))).bind fun y639 => ((some (y639.set (x5 : Int).toNat (⟨(rd_T126 y639 x5).f0, (⟨(rd_T126 y639 x5).f1.f0, (rd_T126 y639 x5).f1.f1, (rd_T126 y639 x5).f1.f2, (rd_T126 y639 x5).f1.f3, (rd_T126 y639 x5).f1.f4, (rd_T126 y639 x5).f1.f5, (rd_T126 y639 x5).f1.f6, (rd_T126 y639 x5).f1.f7⟩ : S90), (⟨(rd_T126 y639 x5).f2.f0, (rd_T126 y639 x5).f2.f1, wrap64 ((wrap64 ((wrap64 ((wrap64 ((wrap64 ((wrap64 ((wrap64 ((wrap64 ((wrap64 ((wrap64 ((wrap64 (x1 + 1)) + 1)) + 1)) + 1)) + 1)) + 1)) + 1)) + 1)) + 1)) + 1)) + 1), (rd_T126 y639 x5).f2.f3, (rd_T126 y639 x5).f2.f4, (rd_T126 y639 x5).f2.f5, (rd_T126 y639 x5).f2.f6⟩ : S124)⟩ : S126) : List (S126))).bind fun y640 => ((some (y640.set (x5 : Int).toNat (⟨(rd_T126 y640 x5).f0, (⟨(rd_T126 y640 x5).f1.f0, (rd_T126 y640 x5).f1.f1, (rd_T126 y640 x5).f1.f2, (rd_T126 y640 x5).f1.f3, (rd_T126 y640 x5).f1.f4, (rd_T126 y640 x5).f1.f5, (rd_T126 y640 x5).f1.f6, (rd_T126 y640 x5).f1.f7⟩ : S90), (⟨(rd_T126 y640 x5).f2.f0, (rd_T126 y640 x5).f2.f1, (rd_T126 y640 x5).f2.f2, wrap64 ((wrap64 ((wrap64 ((wrap64 ((wrap64 ((wrap64 ((wrap64 ((wrap64 ((wrap64 ((wrap64 ((wrap64 ((wrap64 (x1 + 1)) + 1)) + 1)) + 1)) + 1)) + 1)) + 1)) + 1)) + 1)) + 1)) + 1)) + 1), (rd_T126 y640 x5).f2.f4, (rd_T126 y640 x5).f2.f5, (rd_T126 y640 x5).f2.f6⟩ : S124)⟩ : S126) : List (S126))).bind fun y641 => ((some (y641.set (x5 : Int).toNat (⟨(rd_T126 y641 x5).f0, (⟨(rd_T126 y641 x5).f1.f0, (rd_T126 y641 x5).f1.f1, (rd_T126 y641 x5).f1.f2, (rd_T126 y641 x5).f1.f3, (rd_T126 y641 x5).f1.f4, (rd_T126 y641 x5).f1.f5, (rd_T126 y641 x5).f1.f6, (rd_T126 y641 x5).f1.f7⟩ : S90), (⟨(rd_T126 y641 x5).f2.f0, (rd_T126 y641 x5).f2.f1, (rd_T126 y641 x5).f2.f2, (rd_T126 y641 x5).f2.f3, wrap64 ((wrap64 ((wrap64 ((wrap64 ((wrap64 ((wrap64 ((wrap64 ((wrap64 ((wrap64 ((wrap64 ((wrap64 ((wrap64 ((wrap64 (x1 + 1)) + 1)) + 1)) + 1)) + 1)) + 1)) + 1)) + 1)) + 1)) + 1)) + 1)) + 1)) + 1), (rd_T126 y641 x5).f2.f5, (rd_T126 y641 x5).f2.f6⟩ : S124)⟩ : S126) : List (S126))).bind fun y642 => ((some (y642.set (x5 : Int).toNat (⟨(rd_T126 y642 x5).f0, (⟨(rd_T126 y642 x5).f1.f0, (rd_T126 y642 x5).f1.f1, (rd_T126 y642 x5).f1.f2, (rd_T126 y642 x5).f1.f3, (rd_T126 y642 x5).f1.f4, (rd_T126 y642 x5).f1.f5, (rd_T126 y642 x5).f1.f6, (rd_T126 y642 x5).f1.f7⟩ : S90), (⟨(rd_T126 y642 x5).f2.f0, (rd_T126 y642 x5).f2.f1, (rd_T126 y642 x5).f2.f2, (rd_T126 y642 x5).f2.f3, (rd_T126 y642 x5).f2.f4, wrap64 ((wrap64 ((wrap64 ((wrap64 ((wrap64 ((wrap64 ((wrap64 ((wrap64 ((wrap64 ((wrap64 ((wrap64 ((wrap64 ((wrap64 ((wrap64 (x1 + 1)) + 1)) + 1)) + 1)) + 1)) + 1)) + 1)) + 1)) + 1)) + 1)) + 1)) + 1)) + 1)) + 1), (rd_T126 y642 x5).f2.f6⟩ : S124)⟩ : S126) : List (S126))).bind fun y643 => (laws_markItemS.l0 k (y643.set (x5 : Int).toNat (⟨(rd_T126 y643 x5).f0, (⟨(rd_T126 y643 x5).f1.f0, (rd_T126 y643 x5).f1.f1, (rd_T126 y643 x5).f1.f2, (rd_T126 y643 x5).f1.f3, (rd_T126 y643 x5).f1.f4, (rd_T126 y643 x5).f1.f5, (rd_T126 y643 x5).f1.f6, (rd_T126 y643 x5).f1.f7⟩ : S90), (⟨(rd_T126 y643 x5).f2.f0, (rd_T126 y643 x5).f2.f1, (rd_T126 y643 x5).f2.f2, (rd_T126 y643 x5).f2.f3, (rd_T126 y643 x5).f2.f4, (rd_T126 y643 x5).f2.f5, wrap64 ((wrap64 ((wrap64 ((wrap64 ((wrap64 ((wrap64 ((wrap64 ((wrap64 ((wrap64 ((wrap64 ((wrap64 ((wrap64 ((wrap64 ((wrap64 ((wrap64 (x1 + 1)) + 1)) + 1)) + 1)) + 1)) + 1)) + 1)) + 1)) + 1)) + 1)) + 1)) + 1)) + 1)) + 1)) + 1)⟩ : S124)⟩ : S126)) (wrap64 ((wrap64 ((wrap64 ((wrap64 ((wrap64 ((wrap64 ((wrap64 ((wrap64 ((wrap64 ((wrap64 ((wrap64 ((wrap64 ((wrap64 ((wrap64 ((wrap64 ((wrap64 (x1 + 1)) + 1)) + 1)) + 1)) + 1)) + 1)) + 1)) + 1)) + 1)) + 1)) + 1)) + 1)) + 1)) + 1)) + 1)) + 1)) (wrap64 (x5 + 1))))))))))))))))))))) else (none)) else (some (x1, x0))
def laws_markItemS.f (k : Nat) (l0 : List (S126)) (a1 : Int) : Option (Int × (List (S126))) := laws_markItemS.l0 k l0 a1 0
theorem laws_markItemS.mono_l : ∀ k, (∀ y0 y1 y2, LeO (laws_markItemS.l0 k y0 y1 y2) (laws_markItemS.l0 (k + 1) y0 y1 y2))
 | 0 => fun _ _ _ r h => by simp [laws_markItemS.l0] at h
 | k + 1 => by
  have ih0 := laws_markItemS.mono_l k
  ·
   intro y0 y1 y2
   unfold laws_markItemS.l0
   repeat' first
   | (with_reducible exact ih0 _ _ _)
   | (with_reducible exact laws_markText.mono _ _)
   | (with_reducible exact LeO.refl _)
   | (with_reducible exact LeO.none _)
   | (with_reducible refine LeO.ite ?_ ?_)
   | (with_reducible refine LeO.bind ?_ (fun _ => ?_))
theorem laws_markItemS.mono : ∀ a0 a1 k, LeO (laws_markItemS.f k a0 a1) (laws_markItemS.f (k + 1) a0 a1) := by
 intro a0 a1 k
 have ih0 := laws_markItemS.mono_l k
 unfold laws_markItemS.f
 repeat' first
   | (with_reducible exact ih0 _ _ _)
   | (with_reducible exact laws_markText.mono _ _)
   | (with_reducible exact LeO.refl _)
   | (with_reducible exact LeO.none _)
   | (with_reducible refine LeO.ite ?_ ?_)
   | (with_reducible refine LeO.bind ?_ (fun _ => ?_))
set_option maxHeartbeats 8000000 in
set_option maxRecDepth 100000 in
theorem laws_markItemS.calls (k : Nat) (P0_ : Nat → Prop) (u9000_ : Value) (l0 : List (S126)) (a1 : Int) (r1 : Int) (r2 : List (S126)) (w0 w : World) (hB : Below w0.heap.size w0 w) (ho0 : Kd.R k126 126 w w0.heap.size P0_ u9000_ l0) (h : laws_markItemS.f k l0 a1 = some (r1, r2)) :
  Calls Try.prog 79 #[u9000_, .int .i64 a1] w fun e w' => e = .returned (.int .i64 r1) ∧ Kd.R k126 126 w' w0.heap.size (fun k_ => (P0_ k_ ∨ w.heap.size ≤ k_)) u9000_ r2 ∧ Below w0.heap.size w0 w' ∧ Kept w w' (fun k_ => P0_ k_) := by
 have HO0 := Aside0.mk (show Kd.R k126 126 w w0.heap.size (fun k_ => (P0_ k_ ∨ w.heap.size ≤ k_)) u9000_ l0 from Kd.R_mono ho0 (fun k_ hk => (.inl hk)))
 have HK := Aside0.mk (Kept.refl w (fun k_ => P0_ k_))
 have HW0 := Aside0.mk hB.size
 have HB := Aside0.mk hB
 clear hB
 have H : (laws_markItemS.l0 k l0 a1 0) = some (r1, r2) := h
 clear h
 have H' := Aside0.mk H
 clear H
 go_enter Try.func79, Try.ntmps79
 go_wp2
 go_loopg [1, 5] k (fun kq v1 v5 w' => ∃ (x0_1 : List (S126)) (x1_1 : Int) (x5_1 : Int), v1 = .int .i64 x1_1 ∧ v5 = .int .i64 x5_1 ∧ Aside0 (laws_markItemS.l0 kq x0_1 x1_1 x5_1 = some (r1, r2)) ∧ Aside0 (kq ≤ k) ∧ Aside0 (Kd.R k126 126 w' w0.heap.size (fun k_ => (P0_ k_ ∨ w.heap.size ≤ k_)) u9000_ x0_1) ∧ Aside0 (Kept w w' (fun k_ => P0_ k_)) ∧ Aside0 (Below w0.heap.size w0 w'))
 case atStart => exact ⟨(l0), (a1), (0), eqq_, eqq_, H', ⟨Nat.le_refl _⟩, ⟨qR HO0⟩, ⟨by repeat (first | (with_reducible first | exact HK.out | apply Kept.alloc | apply Kept.drewN | apply Kept.drew) | exact HK.out)⟩, ⟨qB HB⟩⟩
 case round =>
  clear H'
  try clear p2
  obtain ⟨x0_1, x1_1, x5_1, rfl, rfl, HA, HK1, HO_0, HK, HB⟩ := hrel
  cases gk with
  | zero => exact absurd HA.out (by simp [laws_markItemS.l0])
  | succ k1 =>
   have H := HA.out
   clear HA
   simp only [laws_markItemS.l0] at H
   by_cases c3 : x5_1 < (x0_1.length : Int)
   rotate_left
   ·
    rw [if_neg c3] at H
    have c3b0 : decide (x5_1 < (x0_1.length : Int)) = false := decide_eq_false c3
    clear c3
    simp only [Option.some.injEq, Prod.mk.injEq] at H
    obtain ⟨rfl, rfl⟩ := H
    obtain ⟨Ao60, co60, eo60⟩ := Kd.R_slice HO_0.out
    subst eo60
    go_wp2
    go_ret
    exact ⟨er_, qR HO_0, qB HB, by repeat (first | (with_reducible first | exact HK.out | apply Kept.alloc | apply Kept.drewN | apply Kept.drew) | exact HK.out)⟩
   rw [if_pos c3] at H
   have c3b0 : decide (x5_1 < (x0_1.length : Int)) = true := decide_eq_true c3
   clear c3
   by_cases c4 : 0 ≤ x5_1
   case neg => exact nn_ c4 H
   rw [if_pos c4] at H
   have c4b0 : decide (0 ≤ x5_1) = true := decide_eq_true c4
   clear c4
   obtain ⟨y626, hy626⟩ : ∃ y_ : List (S126), y_ = (x0_1.set (x5_1 : Int).toNat (⟨x1_1, (⟨(rd_T126 x0_1 x5_1).f1.f0, (rd_T126 x0_1 x5_1).f1.f1, (rd_T126 x0_1 x5_1).f1.f2, (rd_T126 x0_1 x5_1).f1.f3, (rd_T126 x0_1 x5_1).f1.f4, (rd_T126 x0_1 x5_1).f1.f5, (rd_T126 x0_1 x5_1).f1.f6, (rd_T126 x0_1 x5_1).f1.f7⟩ : S90), (⟨(rd_T126 x0_1 x5_1).f2.f0, (rd_T126 x0_1 x5_1).f2.f1, (rd_T126 x0_1 x5_1).f2.f2, (rd_T126 x0_1 x5_1).f2.f3, (rd_T126 x0_1 x5_1).f2.f4, (rd_T126 x0_1 x5_1).f2.f5, (rd_T126 x0_1 x5_1).f2.f6⟩ : S124)⟩ : S126)) := ⟨_, rfl⟩
   replace H := mk_ H hy626
   (try dsimp only at H)
   have Ny626 := Aside0.mk hy626
   clear hy626
   obtain ⟨y627, hy627⟩ : ∃ y_ : List (S126), y_ = (y626.set (x5_1 : Int).toNat (⟨(rd_T126 y626 x5_1).f0, (⟨wrap64 (x1_1 + 1), (rd_T126 y626 x5_1).f1.f1, (rd_T126 y626 x5_1).f1.f2, (rd_T126 y626 x5_1).f1.f3, (rd_T126 y626 x5_1).f1.f4, (rd_T126 y626 x5_1).f1.f5, (rd_T126 y626 x5_1).f1.f6, (rd_T126 y626 x5_1).f1.f7⟩ : S90), (⟨(rd_T126 y626 x5_1).f2.f0, (rd_T126 y626 x5_1).f2.f1, (rd_T126 y626 x5_1).f2.f2, (rd_T126 y626 x5_1).f2.f3, (rd_T126 y626 x5_1).f2.f4, (rd_T126 y626 x5_1).f2.f5, (rd_T126 y626 x5_1).f2.f6⟩ : S124)⟩ : S126)) := ⟨_, rfl⟩
   replace H := mk_ H hy627
   (try dsimp only at H)
   have Ny627 := Aside0.mk hy627
   clear hy627
   replace H := bd_ H
   obtain ⟨t628, A7, H⟩ := H
   obtain ⟨y629, hy629⟩ : ∃ y_ : List (S126), y_ = (y627.set (x5_1 : Int).toNat (⟨(rd_T126 y627 x5_1).f0, (⟨(rd_T126 y627 x5_1).f1.f0, t628, (rd_T126 y627 x5_1).f1.f2, (rd_T126 y627 x5_1).f1.f3, (rd_T126 y627 x5_1).f1.f4, (rd_T126 y627 x5_1).f1.f5, (rd_T126 y627 x5_1).f1.f6, (rd_T126 y627 x5_1).f1.f7⟩ : S90), (⟨(rd_T126 y627 x5_1).f2.f0, (rd_T126 y627 x5_1).f2.f1, (rd_T126 y627 x5_1).f2.f2, (rd_T126 y627 x5_1).f2.f3, (rd_T126 y627 x5_1).f2.f4, (rd_T126 y627 x5_1).f2.f5, (rd_T126 y627 x5_1).f2.f6⟩ : S124)⟩ : S126)) := ⟨_, rfl⟩
   replace H := mk_ H hy629
   (try dsimp only at H)
   have Ny629 := Aside0.mk hy629
   clear hy629
   obtain ⟨y630, hy630⟩ : ∃ y_ : List (S126), y_ = (y629.set (x5_1 : Int).toNat (⟨(rd_T126 y629 x5_1).f0, (⟨(rd_T126 y629 x5_1).f1.f0, (rd_T126 y629 x5_1).f1.f1, wrap64 ((wrap64 ((wrap64 (x1_1 + 1)) + 1)) + 1), (rd_T126 y629 x5_1).f1.f3, (rd_T126 y629 x5_1).f1.f4, (rd_T126 y629 x5_1).f1.f5, (rd_T126 y629 x5_1).f1.f6, (rd_T126 y629 x5_1).f1.f7⟩ : S90), (⟨(rd_T126 y629 x5_1).f2.f0, (rd_T126 y629 x5_1).f2.f1, (rd_T126 y629 x5_1).f2.f2, (rd_T126 y629 x5_1).f2.f3, (rd_T126 y629 x5_1).f2.f4, (rd_T126 y629 x5_1).f2.f5, (rd_T126 y629 x5_1).f2.f6⟩ : S124)⟩ : S126)) := ⟨_, rfl⟩
   replace H := mk_ H hy630
   (try dsimp only at H)
   have Ny630 := Aside0.mk hy630
   clear hy630
   obtain ⟨y631, hy631⟩ : ∃ y_ : List (S126), y_ = (y630.set (x5_1 : Int).toNat (⟨(rd_T126 y630 x5_1).f0, (⟨(rd_T126 y630 x5_1).f1.f0, (rd_T126 y630 x5_1).f1.f1, (rd_T126 y630 x5_1).f1.f2, wrap64 ((wrap64 ((wrap64 ((wrap64 (x1_1 + 1)) + 1)) + 1)) + 1), (rd_T126 y630 x5_1).f1.f4, (rd_T126 y630 x5_1).f1.f5, (rd_T126 y630 x5_1).f1.f6, (rd_T126 y630 x5_1).f1.f7⟩ : S90), (⟨(rd_T126 y630 x5_1).f2.f0, (rd_T126 y630 x5_1).f2.f1, (rd_T126 y630 x5_1).f2.f2, (rd_T126 y630 x5_1).f2.f3, (rd_T126 y630 x5_1).f2.f4, (rd_T126 y630 x5_1).f2.f5, (rd_T126 y630 x5_1).f2.f6⟩ : S124)⟩ : S126)) := ⟨_, rfl⟩
   replace H := mk_ H hy631
   (try dsimp only at H)
   have Ny631 := Aside0.mk hy631
   clear hy631
   obtain ⟨y632, hy632⟩ : ∃ y_ : List (S126), y_ = (y631.set (x5_1 : Int).toNat (⟨(rd_T126 y631 x5_1).f0, (⟨(rd_T126 y631 x5_1).f1.f0, (rd_T126 y631 x5_1).f1.f1, (rd_T126 y631 x5_1).f1.f2, (rd_T126 y631 x5_1).f1.f3, wrap64 ((wrap64 ((wrap64 ((wrap64 ((wrap64 (x1_1 + 1)) + 1)) + 1)) + 1)) + 1), (rd_T126 y631 x5_1).f1.f5, (rd_T126 y631 x5_1).f1.f6, (rd_T126 y631 x5_1).f1.f7⟩ : S90), (⟨(rd_T126 y631 x5_1).f2.f0, (rd_T126 y631 x5_1).f2.f1, (rd_T126 y631 x5_1).f2.f2, (rd_T126 y631 x5_1).f2.f3, (rd_T126 y631 x5_1).f2.f4, (rd_T126 y631 x5_1).f2.f5, (rd_T126 y631 x5_1).f2.f6⟩ : S124)⟩ : S126)) := ⟨_, rfl⟩
   replace H := mk_ H hy632
   (try dsimp only at H)
   have Ny632 := Aside0.mk hy632
   clear hy632
   replace H := bd_ H
   obtain ⟨t633, A12, H⟩ := H
   obtain ⟨y634, hy634⟩ : ∃ y_ : List (S126), y_ = (y632.set (x5_1 : Int).toNat (⟨(rd_T126 y632 x5_1).f0, (⟨(rd_T126 y632 x5_1).f1.f0, (rd_T126 y632 x5_1).f1.f1, (rd_T126 y632 x5_1).f1.f2, (rd_T126 y632 x5_1).f1.f3, (rd_T126 y632 x5_1).f1.f4, t633, (rd_T126 y632 x5_1).f1.f6, (rd_T126 y632 x5_1).f1.f7⟩ : S90), (⟨(rd_T126 y632 x5_1).f2.f0, (rd_T126 y632 x5_1).f2.f1, (rd_T126 y632 x5_1).f2.f2, (rd_T126 y632 x5_1).f2.f3, (rd_T126 y632 x5_1).f2.f4, (rd_T126 y632 x5_1).f2.f5, (rd_T126 y632 x5_1).f2.f6⟩ : S124)⟩ : S126)) := ⟨_, rfl⟩
   replace H := mk_ H hy634
   (try dsimp only at H)
   have Ny634 := Aside0.mk hy634
   clear hy634
   obtain ⟨y635, hy635⟩ : ∃ y_ : List (S126), y_ = (y634.set (x5_1 : Int).toNat (⟨(rd_T126 y634 x5_1).f0, (⟨(rd_T126 y634 x5_1).f1.f0, (rd_T126 y634 x5_1).f1.f1, (rd_T126 y634 x5_1).f1.f2, (rd_T126 y634 x5_1).f1.f3, (rd_T126 y634 x5_1).f1.f4, (rd_T126 y634 x5_1).f1.f5, wrap64 ((wrap64 ((wrap64 ((wrap64 ((wrap64 ((wrap64 ((wrap64 (x1_1 + 1)) + 1)) + 1)) + 1)) + 1)) + 1)) + 1), (rd_T126 y634 x5_1).f1.f7⟩ : S90), (⟨(rd_T126 y634 x5_1).f2.f0, (rd_T126 y634 x5_1).f2.f1, (rd_T126 y634 x5_1).f2.f2, (rd_T126 y634 x5_1).f2.f3, (rd_T126 y634 x5_1).f2.f4, (rd_T126 y634 x5_1).f2.f5, (rd_T126 y634 x5_1).f2.f6⟩ : S124)⟩ : S126)) := ⟨_, rfl⟩
   replace H := mk_ H hy635
   (try dsimp only at H)
   have Ny635 := Aside0.mk hy635
   clear hy635
   obtain ⟨y636, hy636⟩ : ∃ y_ : List (S126), y_ = (y635.set (x5_1 : Int).toNat (⟨(rd_T126 y635 x5_1).f0, (⟨(rd_T126 y635 x5_1).f1.f0, (rd_T126 y635 x5_1).f1.f1, (rd_T126 y635 x5_1).f1.f2, (rd_T126 y635 x5_1).f1.f3, (rd_T126 y635 x5_1).f1.f4, (rd_T126 y635 x5_1).f1.f5, (rd_T126 y635 x5_1).f1.f6, wrap64 ((wrap64 ((wrap64 ((wrap64 ((wrap64 ((wrap64 ((wrap64 ((wrap64 (x1_1 + 1)) + 1)) + 1)) + 1)) + 1)) + 1)) + 1)) + 1)⟩ : S90), (⟨(rd_T126 y635 x5_1).f2.f0, (rd_T126 y635 x5_1).f2.f1, (rd_T126 y635 x5_1).f2.f2, (rd_T126 y635 x5_1).f2.f3, (rd_T126 y635 x5_1).f2.f4, (rd_T126 y635 x5_1).f2.f5, (rd_T126 y635 x5_1).f2.f6⟩ : S124)⟩ : S126)) := ⟨_, rfl⟩
   replace H := mk_ H hy636
   (try dsimp only at H)
   have Ny636 := Aside0.mk hy636
   clear hy636
   obtain ⟨y637, hy637⟩ : ∃ y_ : List (S126), y_ = (y636.set (x5_1 : Int).toNat (⟨(rd_T126 y636 x5_1).f0, (⟨(rd_T126 y636 x5_1).f1.f0, (rd_T126 y636 x5_1).f1.f1, (rd_T126 y636 x5_1).f1.f2, (rd_T126 y636 x5_1).f1.f3, (rd_T126 y636 x5_1).f1.f4, (rd_T126 y636 x5_1).f1.f5, (rd_T126 y636 x5_1).f1.f6, (rd_T126 y636 x5_1).f1.f7⟩ : S90), (⟨wrap64 ((wrap64 ((wrap64 ((wrap64 ((wrap64 ((wrap64 ((wrap64 ((wrap64 ((wrap64 (x1_1 + 1)) + 1)) + 1)) + 1)) + 1)) + 1)) + 1)) + 1)) + 1), (rd_T126 y636 x5_1).f2.f1, (rd_T126 y636 x5_1).f2.f2, (rd_T126 y636 x5_1).f2.f3, (rd_T126 y636 x5_1).f2.f4, (rd_T126 y636 x5_1).f2.f5, (rd_T126 y636 x5_1).f2.f6⟩ : S124)⟩ : S126)) := ⟨_, rfl⟩
   replace H := mk_ H hy637
   (try dsimp only at H)
   have Ny637 := Aside0.mk hy637
   clear hy637
   replace H := bd_ H
   obtain ⟨t638, A17, H⟩ := H
   obtain ⟨y639, hy639⟩ : ∃ y_ : List (S126), y_ = (y637.set (x5_1 : Int).toNat (⟨(rd_T126 y637 x5_1).f0, (⟨(rd_T126 y637 x5_1).f1.f0, (rd_T126 y637 x5_1).f1.f1, (rd_T126 y637 x5_1).f1.f2, (rd_T126 y637 x5_1).f1.f3, (rd_T126 y637 x5_1).f1.f4, (rd_T126 y637 x5_1).f1.f5, (rd_T126 y637 x5_1).f1.f6, (rd_T126 y637 x5_1).f1.f7⟩ : S90), (⟨(rd_T126 y637 x5_1).f2.f0, t638, (rd_T126 y637 x5_1).f2.f2, (rd_T126 y637 x5_1).f2.f3, (rd_T126 y637 x5_1).f2.f4, (rd_T126 y637 x5_1).f2.f5, (rd_T126 y637 x5_1).f2.f6⟩ : S124)⟩ : S126)) := ⟨_, rfl⟩
   replace H := mk_ H hy639
   (try dsimp only at H)
   have Ny639 := Aside0.mk hy639
   clear hy639
   obtain ⟨y640, hy640⟩ : ∃ y_ : List (S126), y_ = (y639.set (x5_1 : Int).toNat (⟨(rd_T126 y639 x5_1).f0, (⟨(rd_T126 y639 x5_1).f1.f0, (rd_T126 y639 x5_1).f1.f1, (rd_T126 y639 x5_1).f1.f2, (rd_T126 y639 x5_1).f1.f3, (rd_T126 y639 x5_1).f1.f4, (rd_T126 y639 x5_1).f1.f5, (rd_T126 y639 x5_1).f1.f6, (rd_T126 y639 x5_1).f1.f7⟩ : S90), (⟨(rd_T126 y639 x5_1).f2.f0, (rd_T126 y639 x5_1).f2.f1, wrap64 ((wrap64 ((wrap64 ((wrap64 ((wrap64 ((wrap64 ((wrap64 ((wrap64 ((wrap64 ((wrap64 ((wrap64 (x1_1 + 1)) + 1)) + 1)) + 1)) + 1)) + 1)) + 1)) + 1)) + 1)) + 1)) + 1), (rd_T126 y639 x5_1).f2.f3, (rd_T126 y639 x5_1).f2.f4, (rd_T126 y639 x5_1).f2.f5, (rd_T126 y639 x5_1).f2.f6⟩ : S124)⟩ : S126)) := ⟨_, rfl⟩
   replace H := mk_ H hy640
   (try dsimp only at H)
   have Ny640 := Aside0.mk hy640
   clear hy640
   obtain ⟨y641, hy641⟩ : ∃ y_ : List (S126), y_ = (y640.set (x5_1 : Int).toNat (⟨(rd_T126 y640 x5_1).f0, (⟨(rd_T126 y640 x5_1).f1.f0, (rd_T126 y640 x5_1).f1.f1, (rd_T126 y640 x5_1).f1.f2, (rd_T126 y640 x5_1).f1.f3, (rd_T126 y640 x5_1).f1.f4, (rd_T126 y640 x5_1).f1.f5, (rd_T126 y640 x5_1).f1.f6, (rd_T126 y640 x5_1).f1.f7⟩ : S90), (⟨(rd_T126 y640 x5_1).f2.f0, (rd_T126 y640 x5_1).f2.f1, (rd_T126 y640 x5_1).f2.f2, wrap64 ((wrap64 ((wrap64 ((wrap64 ((wrap64 ((wrap64 ((wrap64 ((wrap64 ((wrap64 ((wrap64 ((wrap64 ((wrap64 (x1_1 + 1)) + 1)) + 1)) + 1)) + 1)) + 1)) + 1)) + 1)) + 1)) + 1)) + 1)) + 1), (rd_T126 y640 x5_1).f2.f4, (rd_T126 y640 x5_1).f2.f5, (rd_T126 y640 x5_1).f2.f6⟩ : S124)⟩ : S126)) := ⟨_, rfl⟩
   replace H := mk_ H hy641
   (try dsimp only at H)
   have Ny641 := Aside0.mk hy641
   clear hy641
   obtain ⟨y642, hy642⟩ : ∃ y_ : List (S126), y_ = (y641.set (x5_1 : Int).toNat (⟨(rd_T126 y641 x5_1).f0, (⟨(rd_T126 y641 x5_1).f1.f0, (rd_T126 y641 x5_1).f1.f1, (rd_T126 y641 x5_1).f1.f2, (rd_T126 y641 x5_1).f1.f3, (rd_T126 y641 x5_1).f1.f4, (rd_T126 y641 x5_1).f1.f5, (rd_T126 y641 x5_1).f1.f6, (rd_T126 y641 x5_1).f1.f7⟩ : S90), (⟨(rd_T126 y641 x5_1).f2.f0, (rd_T126 y641 x5_1).f2.f1, (rd_T126 y641 x5_1).f2.f2, (rd_T126 y641 x5_1).f2.f3, wrap64 ((wrap64 ((wrap64 ((wrap64 ((wrap64 ((wrap64 ((wrap64 ((wrap64 ((wrap64 ((wrap64 ((wrap64 ((wrap64 ((wrap64 (x1_1 + 1)) + 1)) + 1)) + 1)) + 1)) + 1)) + 1)) + 1)) + 1)) + 1)) + 1)) + 1)) + 1), (rd_T126 y641 x5_1).f2.f5, (rd_T126 y641 x5_1).f2.f6⟩ : S124)⟩ : S126)) := ⟨_, rfl⟩
   replace H := mk_ H hy642
   (try dsimp only at H)
   have Ny642 := Aside0.mk hy642
   clear hy642
   obtain ⟨y643, hy643⟩ : ∃ y_ : List (S126), y_ = (y642.set (x5_1 : Int).toNat (⟨(rd_T126 y642 x5_1).f0, (⟨(rd_T126 y642 x5_1).f1.f0, (rd_T126 y642 x5_1).f1.f1, (rd_T126 y642 x5_1).f1.f2, (rd_T126 y642 x5_1).f1.f3, (rd_T126 y642 x5_1).f1.f4, (rd_T126 y642 x5_1).f1.f5, (rd_T126 y642 x5_1).f1.f6, (rd_T126 y642 x5_1).f1.f7⟩ : S90), (⟨(rd_T126 y642 x5_1).f2.f0, (rd_T126 y642 x5_1).f2.f1, (rd_T126 y642 x5_1).f2.f2, (rd_T126 y642 x5_1).f2.f3, (rd_T126 y642 x5_1).f2.f4, wrap64 ((wrap64 ((wrap64 ((wrap64 ((wrap64 ((wrap64 ((wrap64 ((wrap64 ((wrap64 ((wrap64 ((wrap64 ((wrap64 ((wrap64 ((wrap64 (x1_1 + 1)) + 1)) + 1)) + 1)) + 1)) + 1)) + 1)) + 1)) + 1)) + 1)) + 1)) + 1)) + 1)) + 1), (rd_T126 y642 x5_1).f2.f6⟩ : S124)⟩ : S126)) := ⟨_, rfl⟩
   replace H := mk_ H hy643
   (try dsimp only at H)
   have Ny643 := Aside0.mk hy643
   clear hy643
   obtain ⟨y644, hy644⟩ : ∃ y_ : List (S126), y_ = (y643.set (x5_1 : Int).toNat (⟨(rd_T126 y643 x5_1).f0, (⟨(rd_T126 y643 x5_1).f1.f0, (rd_T126 y643 x5_1).f1.f1, (rd_T126 y643 x5_1).f1.f2, (rd_T126 y643 x5_1).f1.f3, (rd_T126 y643 x5_1).f1.f4, (rd_T126 y643 x5_1).f1.f5, (rd_T126 y643 x5_1).f1.f6, (rd_T126 y643 x5_1).f1.f7⟩ : S90), (⟨(rd_T126 y643 x5_1).f2.f0, (rd_T126 y643 x5_1).f2.f1, (rd_T126 y643 x5_1).f2.f2, (rd_T126 y643 x5_1).f2.f3, (rd_T126 y643 x5_1).f2.f4, (rd_T126 y643 x5_1).f2.f5, wrap64 ((wrap64 ((wrap64 ((wrap64 ((wrap64 ((wrap64 ((wrap64 ((wrap64 ((wrap64 ((wrap64 ((wrap64 ((wrap64 ((wrap64 ((wrap64 ((wrap64 (x1_1 + 1)) + 1)) + 1)) + 1)) + 1)) + 1)) + 1)) + 1)) + 1)) + 1)) + 1)) + 1)) + 1)) + 1)) + 1)⟩ : S124)⟩ : S126)) := ⟨_, rfl⟩
   rw [← hy644] at H
   have Ny644 := Aside0.mk hy644
   clear hy644
   have H' := Aside0.mk H
   clear H
   obtain ⟨Ao24, co24, eo24⟩ := Kd.R_slice HO_0.out
   subst eo24
   have p5 : 0 ≤ (x5_1 : Int) := od_
   have q5 : (x5_1 : Int) < ((x0_1.length : Int) : Int) := od_
   obtain ⟨go5, co5, eo5, gb5, gl5, cl5, HG5⟩ := Kd.R_form HO_0.out (by omega)
   (first | cases eo5 | (injection eo5 with ea_ en_ ec_; (first | subst ea_ | (injection ea_ with ea_; subst ea_)); subst ec_; clear en_))
   have GB5 := Aside0.mk gb5
   have GG5 := Aside0.mk HG5
   clear gb5 gl5 HG5
   have HMgo5 := Aside0.mk (show (P0_ go5 ∨ w.heap.size ≤ go5) from (HO_0.out.1 _ rfl))
   obtain ⟨ce5, hcl5, hM5, hcc5, hfr5⟩ := Kd.R_elem HO_0.out z126 (x5_1 : Int) p5 q5
   obtain rfl := k126_openM hM5
   have hx5_0 : wr.cell? ⟨go5, (x5_1 : Int).toNat * 16, none⟩ = some (.int .i64 ((rd_T126 x0_1 x5_1).f0)) := hcc5 0 _ rfl
   have hx5_1 : wr.cell? ⟨go5, (x5_1 : Int).toNat * 16 + 1, none⟩ = some (.int .i64 ((rd_T126 x0_1 x5_1).f1.f0)) := hcc5 1 _ rfl
   have hx5_2 : wr.cell? ⟨go5, (x5_1 : Int).toNat * 16 + 2, none⟩ = some (.string ((rd_T126 x0_1 x5_1).f1.f1)) := hcc5 2 _ rfl
   have hx5_3 : wr.cell? ⟨go5, (x5_1 : Int).toNat * 16 + 3, none⟩ = some (.int .i64 ((rd_T126 x0_1 x5_1).f1.f2)) := hcc5 3 _ rfl
   have hx5_4 : wr.cell? ⟨go5, (x5_1 : Int).toNat * 16 + 4, none⟩ = some (.int .i64 ((rd_T126 x0_1 x5_1).f1.f3)) := hcc5 4 _ rfl
   have hx5_5 : wr.cell? ⟨go5, (x5_1 : Int).toNat * 16 + 5, none⟩ = some (.int .i64 ((rd_T126 x0_1 x5_1).f1.f4)) := hcc5 5 _ rfl
   have hx5_6 : wr.cell? ⟨go5, (x5_1 : Int).toNat * 16 + 6, none⟩ = some (.string ((rd_T126 x0_1 x5_1).f1.f5)) := hcc5 6 _ rfl
   have hx5_7 : wr.cell? ⟨go5, (x5_1 : Int).toNat * 16 + 7, none⟩ = some (.int .i64 ((rd_T126 x0_1 x5_1).f1.f6)) := hcc5 7 _ rfl
   have hx5_8 : wr.cell? ⟨go5, (x5_1 : Int).toNat * 16 + 8, none⟩ = some (.int .i64 ((rd_T126 x0_1 x5_1).f1.f7)) := hcc5 8 _ rfl
   have hx5_9 : wr.cell? ⟨go5, (x5_1 : Int).toNat * 16 + 9, none⟩ = some (.int .i64 ((rd_T126 x0_1 x5_1).f2.f0)) := hcc5 9 _ rfl
   have hx5_10 : wr.cell? ⟨go5, (x5_1 : Int).toNat * 16 + 10, none⟩ = some (.string ((rd_T126 x0_1 x5_1).f2.f1)) := hcc5 10 _ rfl
   have hx5_11 : wr.cell? ⟨go5, (x5_1 : Int).toNat * 16 + 11, none⟩ = some (.int .i64 ((rd_T126 x0_1 x5_1).f2.f2)) := hcc5 11 _ rfl
   have hx5_12 : wr.cell? ⟨go5, (x5_1 : Int).toNat * 16 + 12, none⟩ = some (.int .i64 ((rd_T126 x0_1 x5_1).f2.f3)) := hcc5 12 _ rfl
   have hx5_13 : wr.cell? ⟨go5, (x5_1 : Int).toNat * 16 + 13, none⟩ = some (.int .i64 ((rd_T126 x0_1 x5_1).f2.f4)) := hcc5 13 _ rfl
   have hx5_14 : wr.cell? ⟨go5, (x5_1 : Int).toNat * 16 + 14, none⟩ = some (.int .i64 ((rd_T126 x0_1 x5_1).f2.f5)) := hcc5 14 _ rfl
   have hx5_15 : wr.cell? ⟨go5, (x5_1 : Int).toNat * 16 + 15, none⟩ = some (.int .i64 ((rd_T126 x0_1 x5_1).f2.f6)) := hcc5 15 _ rfl
   have hf5_0 : wr.frozen? ⟨go5, (x5_1 : Int).toNat * 16, none⟩ = false := hfr5 0
   have hf5_1 : wr.frozen? ⟨go5, (x5_1 : Int).toNat * 16 + 1, none⟩ = false := hfr5 1
   have hf5_2 : wr.frozen? ⟨go5, (x5_1 : Int).toNat * 16 + 2, none⟩ = false := hfr5 2
   have hf5_3 : wr.frozen? ⟨go5, (x5_1 : Int).toNat * 16 + 3, none⟩ = false := hfr5 3
   have hf5_4 : wr.frozen? ⟨go5, (x5_1 : Int).toNat * 16 + 4, none⟩ = false := hfr5 4
   have hf5_5 : wr.frozen? ⟨go5, (x5_1 : Int).toNat * 16 + 5, none⟩ = false := hfr5 5
   have hf5_6 : wr.frozen? ⟨go5, (x5_1 : Int).toNat * 16 + 6, none⟩ = false := hfr5 6
   have hf5_7 : wr.frozen? ⟨go5, (x5_1 : Int).toNat * 16 + 7, none⟩ = false := hfr5 7
   have hf5_8 : wr.frozen? ⟨go5, (x5_1 : Int).toNat * 16 + 8, none⟩ = false := hfr5 8
   have hf5_9 : wr.frozen? ⟨go5, (x5_1 : Int).toNat * 16 + 9, none⟩ = false := hfr5 9
   have hf5_10 : wr.frozen? ⟨go5, (x5_1 : Int).toNat * 16 + 10, none⟩ = false := hfr5 10
   have hf5_11 : wr.frozen? ⟨go5, (x5_1 : Int).toNat * 16 + 11, none⟩ = false := hfr5 11
   have hf5_12 : wr.frozen? ⟨go5, (x5_1 : Int).toNat * 16 + 12, none⟩ = false := hfr5 12
   have hf5_13 : wr.frozen? ⟨go5, (x5_1 : Int).toNat * 16 + 13, none⟩ = false := hfr5 13
   have hf5_14 : wr.frozen? ⟨go5, (x5_1 : Int).toNat * 16 + 14, none⟩ = false := hfr5 14
   have hf5_15 : wr.frozen? ⟨go5, (x5_1 : Int).toNat * 16 + 15, none⟩ = false := hfr5 15
   clear hcl5 hcc5 hfr5 hM5
   replace p5 := eq_true p5
   replace q5 := eq_true q5
   have HX25 := Aside0.mk (show Kd.R k126 126 wr w0.heap.size (fun k_ => (P0_ k_ ∨ w.heap.size ≤ k_)) (.slice (some ⟨go5, 0, none⟩) x0_1.length co24) x0_1 from (qR HO_0))
   obtain ⟨ce25, hcl25, hM25, hcc25, hfr25⟩ := Kd.R_elem HX25.out z126 (x5_1 : Int) od_ (by have h_ : (x5_1 : Int) < ((x0_1.length : Int) : Int) := od_; first | exact h_ | (have e_ := (Kd.R_reads' HO_0.out).1; omega) | simpa using h_)
   obtain rfl := k126_openM hM25
   have HP25 := Kd.R_seg HX25.out (x5_1 : Int) od_ (by have h_ : (x5_1 : Int) < ((x0_1.length : Int) : Int) := od_; first | exact h_ | (have e_ := (Kd.R_reads' HO_0.out).1; omega) | simpa using h_) (seg := [.int .i64 x1_1]) (j := 0) hcl25 hcc25 (show 1 ≤ 16 from by decide) (x' := (⟨x1_1, (⟨(rd_T126 x0_1 x5_1).f1.f0, (rd_T126 x0_1 x5_1).f1.f1, (rd_T126 x0_1 x5_1).f1.f2, (rd_T126 x0_1 x5_1).f1.f3, (rd_T126 x0_1 x5_1).f1.f4, (rd_T126 x0_1 x5_1).f1.f5, (rd_T126 x0_1 x5_1).f1.f6, (rd_T126 x0_1 x5_1).f1.f7⟩ : S90), (⟨(rd_T126 x0_1 x5_1).f2.f0, (rd_T126 x0_1 x5_1).f2.f1, (rd_T126 x0_1 x5_1).f2.f2, (rd_T126 x0_1 x5_1).f2.f3, (rd_T126 x0_1 x5_1).f2.f4, (rd_T126 x0_1 x5_1).f2.f5, (rd_T126 x0_1 x5_1).f2.f6⟩ : S124)⟩ : S126)) (k126_mkM _ _ _ _ ) (fun _ hk => hk)
   have hx25_0 := hcc25 0 _ rfl
   (try simp only [show (k126).sz = 16 from rfl, Nat.mul_one, Nat.add_zero] at hx25_0)
   have hf25_0 := hfr25 0
   (try simp only [show (k126).sz = 16 from rfl, Nat.mul_one, Nat.add_zero] at hf25_0)
   clear hcl25 hcc25 hfr25 hM25
   go_wp2_with (first | ((with_reducible refine gate_store (t := 3) (p := 16) rfl ?_); refine store_event (t := 3) (p := 16) (v := ?vo_w26) (w1 := (wr.setCell ⟨go5, (x5_1 : Int).toNat * 16, none⟩ (.int .i64 x1_1))) ?hg ?ho ?hn ?hr ?_; (case ho => rfl); (case hg => rfl); (case hn => rfl); (case hr => first | (go_simp; done) | (go_simp; rfl)); intro w26 hw; have hg : wr.grownBy w26 (some go5) := (by rw [hw]; exact HP25.2); have hp_ : Kd.R k126 126 w26 w0.heap.size (fun k_ => (P0_ k_ ∨ w.heap.size ≤ k_)) (.slice (some ⟨go5, 0, none⟩) x0_1.length co24) y626 := (by rw [hw, Ny626.out]; exact HP25.1); clear HP25; replace HB := am_ ((by rw [hw]; exact below_set (HB.out) GB5.out : Below w0.heap.size w0 w26)); replace HK := am_ (Kept.of_grown (S := (fun k_ => P0_ k_)) hg (by repeat (first | (with_reducible first | exact HK.out | apply Kept.alloc | apply Kept.drewN | apply Kept.drew) | exact HK.out)) (fun k_ e_ => (HO_0.out.1 k_ e_))); replace HO_0 := am_ (hp_); clear hg hw hp_; have p6 : 0 ≤ (x5_1 : Int) := od_; have q6 : (x5_1 : Int) < ((x0_1.length : Int) : Int) := od_; obtain ⟨ce6, hcl6, hM6, hcc6, hfr6⟩ := Kd.R_elem HO_0.out z126 (x5_1 : Int) p6 q6; obtain rfl := k126_openM hM6; clear hcl6 hcc6 hfr6 hM6; replace p6 := eq_true p6; replace q6 := eq_true q6; have HX27 := Aside0.mk (show Kd.R k126 126 w26 w0.heap.size (fun k_ => (P0_ k_ ∨ w.heap.size ≤ k_)) (.slice (some ⟨go5, 0, none⟩) x0_1.length co24) y626 from (qR HO_0)); obtain ⟨ce27, hcl27, hM27, hcc27, hfr27⟩ := Kd.R_elem HX27.out z126 (x5_1 : Int) od_ (by have h_ : (x5_1 : Int) < ((x0_1.length : Int) : Int) := od_; first | exact h_ | (have e_ := (Kd.R_reads' HO_0.out).1; omega) | simpa using h_); obtain rfl := k126_openM hM27; have HP27 := Kd.R_seg HX27.out (x5_1 : Int) od_ (by have h_ : (x5_1 : Int) < ((x0_1.length : Int) : Int) := od_; first | exact h_ | (have e_ := (Kd.R_reads' HO_0.out).1; omega) | simpa using h_) (seg := [.int .i64 (wrap64 (x1_1 + 1))]) (j := 1) hcl27 hcc27 (show 2 ≤ 16 from by decide) (x' := (⟨(rd_T126 y626 x5_1).f0, (⟨wrap64 (x1_1 + 1), (rd_T126 y626 x5_1).f1.f1, (rd_T126 y626 x5_1).f1.f2, (rd_T126 y626 x5_1).f1.f3, (rd_T126 y626 x5_1).f1.f4, (rd_T126 y626 x5_1).f1.f5, (rd_T126 y626 x5_1).f1.f6, (rd_T126 y626 x5_1).f1.f7⟩ : S90), (⟨(rd_T126 y626 x5_1).f2.f0, (rd_T126 y626 x5_1).f2.f1, (rd_T126 y626 x5_1).f2.f2, (rd_T126 y626 x5_1).f2.f3, (rd_T126 y626 x5_1).f2.f4, (rd_T126 y626 x5_1).f2.f5, (rd_T126 y626 x5_1).f2.f6⟩ : S124)⟩ : S126)) (k126_mkM _ _ _ _ ) (fun _ hk => hk); have hx27_1 := hcc27 1 _ rfl; (try simp only [show (k126).sz = 16 from rfl, Nat.mul_one, Nat.add_zero] at hx27_1); have hf27_1 := hfr27 1; (try simp only [show (k126).sz = 16 from rfl, Nat.mul_one, Nat.add_zero] at hf27_1); clear hcl27 hcc27 hfr27 hM27) | ((with_reducible refine gate_store (t := 3) (p := 24) rfl ?_); refine store_event (t := 3) (p := 24) (v := ?vo_w28) (w1 := (w26.setCell ⟨go5, (x5_1 : Int).toNat * 16 + 1, none⟩ (.int .i64 (wrap64 (x1_1 + 1))))) ?hg ?ho ?hn ?hr ?_; (case ho => rfl); (case hg => rfl); (case hn => rfl); (case hr => first | (go_simp; done) | (go_simp; rfl)); intro w28 hw; have hg : w26.grownBy w28 (some go5) := (by rw [hw]; exact HP27.2); have hp_ : Kd.R k126 126 w28 w0.heap.size (fun k_ => (P0_ k_ ∨ w.heap.size ≤ k_)) (.slice (some ⟨go5, 0, none⟩) x0_1.length co24) y627 := (by rw [hw, Ny627.out]; exact HP27.1); clear HP27; replace HB := am_ ((by rw [hw]; exact below_set (HB.out) GB5.out : Below w0.heap.size w0 w28)); replace HK := am_ (Kept.of_grown (S := (fun k_ => P0_ k_)) hg (by repeat (first | (with_reducible first | exact HK.out | apply Kept.alloc | apply Kept.drewN | apply Kept.drew) | exact HK.out)) (fun k_ e_ => (HO_0.out.1 k_ e_))); replace HO_0 := am_ (hp_); clear hg hw hp_) | ((with_reducible refine gate_callee (f := 102) rfl ?_); refine goesL_ (some 30) rfl rfl Try.func102 (by kernel_rfl) rfl #[.int .i64 (wrap64 ((wrap64 (x1_1 + 1)) + 1))] rfl la_ ?_; (with_reducible refine (laws_markText.calls k1 (wrap64 ((wrap64 (x1_1 + 1)) + 1)) t628 _ A7.out).mono ?_); rintro e w29 ⟨rfl, hb⟩; refine ⟨_, rfl, ?_⟩; replace HO_0 := rB_ HO_0 hb; replace HK := am_ (Kept.below (S := (fun k_ => P0_ k_)) (by repeat (first | (with_reducible first | exact HK.out | apply Kept.alloc | apply Kept.drewN | apply Kept.drew) | exact HK.out)) hb); replace HB := bS_ HB hb; (try clear hb); have p8 : 0 ≤ (x5_1 : Int) := od_; have q8 : (x5_1 : Int) < ((x0_1.length : Int) : Int) := od_; obtain ⟨ce8, hcl8, hM8, hcc8, hfr8⟩ := Kd.R_elem HO_0.out z126 (x5_1 : Int) p8 q8; obtain rfl := k126_openM hM8; clear hcl8 hcc8 hfr8 hM8; replace p8 := eq_true p8; replace q8 := eq_true q8; have HX30 := Aside0.mk (show Kd.R k126 126 w29 w0.heap.size (fun k_ => (P0_ k_ ∨ w.heap.size ≤ k_)) (.slice (some ⟨go5, 0, none⟩) x0_1.length co24) y627 from (qR HO_0)); obtain ⟨ce30, hcl30, hM30, hcc30, hfr30⟩ := Kd.R_elem HX30.out z126 (x5_1 : Int) od_ (by have h_ : (x5_1 : Int) < ((x0_1.length : Int) : Int) := od_; first | exact h_ | (have e_ := (Kd.R_reads' HO_0.out).1; omega) | simpa using h_); obtain rfl := k126_openM hM30; have HP30 := Kd.R_seg HX30.out (x5_1 : Int) od_ (by have h_ : (x5_1 : Int) < ((x0_1.length : Int) : Int) := od_; first | exact h_ | (have e_ := (Kd.R_reads' HO_0.out).1; omega) | simpa using h_) (seg := [.string t628]) (j := 2) hcl30 hcc30 (show 3 ≤ 16 from by decide) (x' := (⟨(rd_T126 y627 x5_1).f0, (⟨(rd_T126 y627 x5_1).f1.f0, t628, (rd_T126 y627 x5_1).f1.f2, (rd_T126 y627 x5_1).f1.f3, (rd_T126 y627 x5_1).f1.f4, (rd_T126 y627 x5_1).f1.f5, (rd_T126 y627 x5_1).f1.f6, (rd_T126 y627 x5_1).f1.f7⟩ : S90), (⟨(rd_T126 y627 x5_1).f2.f0, (rd_T126 y627 x5_1).f2.f1, (rd_T126 y627 x5_1).f2.f2, (rd_T126 y627 x5_1).f2.f3, (rd_T126 y627 x5_1).f2.f4, (rd_T126 y627 x5_1).f2.f5, (rd_T126 y627 x5_1).f2.f6⟩ : S124)⟩ : S126)) (k126_mkM _ _ _ _ ) (fun _ hk => hk); have hx30_2 := hcc30 2 _ rfl; (try simp only [show (k126).sz = 16 from rfl, Nat.mul_one, Nat.add_zero] at hx30_2); have hf30_2 := hfr30 2; (try simp only [show (k126).sz = 16 from rfl, Nat.mul_one, Nat.add_zero] at hf30_2); clear hcl30 hcc30 hfr30 hM30) | ((with_reducible refine gate_store (t := 9) (p := 33) rfl ?_); refine store_event (t := 9) (p := 33) (v := ?vo_w31) (w1 := (w29.setCell ⟨go5, (x5_1 : Int).toNat * 16 + 2, none⟩ (.string t628))) ?hg ?ho ?hn ?hr ?_; (case ho => rfl); (case hg => rfl); (case hn => rfl); (case hr => first | (go_simp; done) | (go_simp; rfl)); intro w31 hw; have hg : w29.grownBy w31 (some go5) := (by rw [hw]; exact HP30.2); have hp_ : Kd.R k126 126 w31 w0.heap.size (fun k_ => (P0_ k_ ∨ w.heap.size ≤ k_)) (.slice (some ⟨go5, 0, none⟩) x0_1.length co24) y629 := (by rw [hw, Ny629.out]; exact HP30.1); clear HP30; replace HB := am_ ((by rw [hw]; exact below_set (HB.out) GB5.out : Below w0.heap.size w0 w31)); replace HK := am_ (Kept.of_grown (S := (fun k_ => P0_ k_)) hg (by repeat (first | (with_reducible first | exact HK.out | apply Kept.alloc | apply Kept.drewN | apply Kept.drew) | exact HK.out)) (fun k_ e_ => (HO_0.out.1 k_ e_))); replace HO_0 := am_ (hp_); clear hg hw hp_; have p9 : 0 ≤ (x5_1 : Int) := od_; have q9 : (x5_1 : Int) < ((x0_1.length : Int) : Int) := od_; obtain ⟨ce9, hcl9, hM9, hcc9, hfr9⟩ := Kd.R_elem HO_0.out z126 (x5_1 : Int) p9 q9; obtain rfl := k126_openM hM9; clear hcl9 hcc9 hfr9 hM9; replace p9 := eq_true p9; replace q9 := eq_true q9; have HX32 := Aside0.mk (show Kd.R k126 126 w31 w0.heap.size (fun k_ => (P0_ k_ ∨ w.heap.size ≤ k_)) (.slice (some ⟨go5, 0, none⟩) x0_1.length co24) y629 from (qR HO_0)); obtain ⟨ce32, hcl32, hM32, hcc32, hfr32⟩ := Kd.R_elem HX32.out z126 (x5_1 : Int) od_ (by have h_ : (x5_1 : Int) < ((x0_1.length : Int) : Int) := od_; first | exact h_ | (have e_ := (Kd.R_reads' HO_0.out).1; omega) | simpa using h_); obtain rfl := k126_openM hM32; have HP32 := Kd.R_seg HX32.out (x5_1 : Int) od_ (by have h_ : (x5_1 : Int) < ((x0_1.length : Int) : Int) := od_; first | exact h_ | (have e_ := (Kd.R_reads' HO_0.out).1; omega) | simpa using h_) (seg := [.int .i64 (wrap64 ((wrap64 ((wrap64 (x1_1 + 1)) + 1)) + 1))]) (j := 3) hcl32 hcc32 (show 4 ≤ 16 from by decide) (x' := (⟨(rd_T126 y629 x5_1).f0, (⟨(rd_T126 y629 x5_1).f1.f0, (rd_T126 y629 x5_1).f1.f1, wrap64 ((wrap64 ((wrap64 (x1_1 + 1)) + 1)) + 1), (rd_T126 y629 x5_1).f1.f3, (rd_T126 y629 x5_1).f1.f4, (rd_T126 y629 x5_1).f1.f5, (rd_T126 y629 x5_1).f1.f6, (rd_T126 y629 x5_1).f1.f7⟩ : S90), (⟨(rd_T126 y629 x5_1).f2.f0, (rd_T126 y629 x5_1).f2.f1, (rd_T126 y629 x5_1).f2.f2, (rd_T126 y629 x5_1).f2.f3, (rd_T126 y629 x5_1).f2.f4, (rd_T126 y629 x5_1).f2.f5, (rd_T126 y629 x5_1).f2.f6⟩ : S124)⟩ : S126)) (k126_mkM _ _ _ _ ) (fun _ hk => hk); have hx32_3 := hcc32 3 _ rfl; (try simp only [show (k126).sz = 16 from rfl, Nat.mul_one, Nat.add_zero] at hx32_3); have hf32_3 := hfr32 3; (try simp only [show (k126).sz = 16 from rfl, Nat.mul_one, Nat.add_zero] at hf32_3); clear hcl32 hcc32 hfr32 hM32) | ((with_reducible refine gate_store (t := 3) (p := 41) rfl ?_); refine store_event (t := 3) (p := 41) (v := ?vo_w33) (w1 := (w31.setCell ⟨go5, (x5_1 : Int).toNat * 16 + 3, none⟩ (.int .i64 (wrap64 ((wrap64 ((wrap64 (x1_1 + 1)) + 1)) + 1))))) ?hg ?ho ?hn ?hr ?_; (case ho => rfl); (case hg => rfl); (case hn => rfl); (case hr => first | (go_simp; done) | (go_simp; rfl)); intro w33 hw; have hg : w31.grownBy w33 (some go5) := (by rw [hw]; exact HP32.2); have hp_ : Kd.R k126 126 w33 w0.heap.size (fun k_ => (P0_ k_ ∨ w.heap.size ≤ k_)) (.slice (some ⟨go5, 0, none⟩) x0_1.length co24) y630 := (by rw [hw, Ny630.out]; exact HP32.1); clear HP32; replace HB := am_ ((by rw [hw]; exact below_set (HB.out) GB5.out : Below w0.heap.size w0 w33)); replace HK := am_ (Kept.of_grown (S := (fun k_ => P0_ k_)) hg (by repeat (first | (with_reducible first | exact HK.out | apply Kept.alloc | apply Kept.drewN | apply Kept.drew) | exact HK.out)) (fun k_ e_ => (HO_0.out.1 k_ e_))); replace HO_0 := am_ (hp_); clear hg hw hp_; have p10 : 0 ≤ (x5_1 : Int) := od_; have q10 : (x5_1 : Int) < ((x0_1.length : Int) : Int) := od_; obtain ⟨ce10, hcl10, hM10, hcc10, hfr10⟩ := Kd.R_elem HO_0.out z126 (x5_1 : Int) p10 q10; obtain rfl := k126_openM hM10; clear hcl10 hcc10 hfr10 hM10; replace p10 := eq_true p10; replace q10 := eq_true q10; have HX34 := Aside0.mk (show Kd.R k126 126 w33 w0.heap.size (fun k_ => (P0_ k_ ∨ w.heap.size ≤ k_)) (.slice (some ⟨go5, 0, none⟩) x0_1.length co24) y630 from (qR HO_0)); obtain ⟨ce34, hcl34, hM34, hcc34, hfr34⟩ := Kd.R_elem HX34.out z126 (x5_1 : Int) od_ (by have h_ : (x5_1 : Int) < ((x0_1.length : Int) : Int) := od_; first | exact h_ | (have e_ := (Kd.R_reads' HO_0.out).1; omega) | simpa using h_); obtain rfl := k126_openM hM34; have HP34 := Kd.R_seg HX34.out (x5_1 : Int) od_ (by have h_ : (x5_1 : Int) < ((x0_1.length : Int) : Int) := od_; first | exact h_ | (have e_ := (Kd.R_reads' HO_0.out).1; omega) | simpa using h_) (seg := [.int .i64 (wrap64 ((wrap64 ((wrap64 ((wrap64 (x1_1 + 1)) + 1)) + 1)) + 1))]) (j := 4) hcl34 hcc34 (show 5 ≤ 16 from by decide) (x' := (⟨(rd_T126 y630 x5_1).f0, (⟨(rd_T126 y630 x5_1).f1.f0, (rd_T126 y630 x5_1).f1.f1, (rd_T126 y630 x5_1).f1.f2, wrap64 ((wrap64 ((wrap64 ((wrap64 (x1_1 + 1)) + 1)) + 1)) + 1), (rd_T126 y630 x5_1).f1.f4, (rd_T126 y630 x5_1).f1.f5, (rd_T126 y630 x5_1).f1.f6, (rd_T126 y630 x5_1).f1.f7⟩ : S90), (⟨(rd_T126 y630 x5_1).f2.f0, (rd_T126 y630 x5_1).f2.f1, (rd_T126 y630 x5_1).f2.f2, (rd_T126 y630 x5_1).f2.f3, (rd_T126 y630 x5_1).f2.f4, (rd_T126 y630 x5_1).f2.f5, (rd_T126 y630 x5_1).f2.f6⟩ : S124)⟩ : S126)) (k126_mkM _ _ _ _ ) (fun _ hk => hk); have hx34_4 := hcc34 4 _ rfl; (try simp only [show (k126).sz = 16 from rfl, Nat.mul_one, Nat.add_zero] at hx34_4); have hf34_4 := hfr34 4; (try simp only [show (k126).sz = 16 from rfl, Nat.mul_one, Nat.add_zero] at hf34_4); clear hcl34 hcc34 hfr34 hM34) | ((with_reducible refine gate_store (t := 3) (p := 49) rfl ?_); refine store_event (t := 3) (p := 49) (v := ?vo_w35) (w1 := (w33.setCell ⟨go5, (x5_1 : Int).toNat * 16 + 4, none⟩ (.int .i64 (wrap64 ((wrap64 ((wrap64 ((wrap64 (x1_1 + 1)) + 1)) + 1)) + 1))))) ?hg ?ho ?hn ?hr ?_; (case ho => rfl); (case hg => rfl); (case hn => rfl); (case hr => first | (go_simp; done) | (go_simp; rfl)); intro w35 hw; have hg : w33.grownBy w35 (some go5) := (by rw [hw]; exact HP34.2); have hp_ : Kd.R k126 126 w35 w0.heap.size (fun k_ => (P0_ k_ ∨ w.heap.size ≤ k_)) (.slice (some ⟨go5, 0, none⟩) x0_1.length co24) y631 := (by rw [hw, Ny631.out]; exact HP34.1); clear HP34; replace HB := am_ ((by rw [hw]; exact below_set (HB.out) GB5.out : Below w0.heap.size w0 w35)); replace HK := am_ (Kept.of_grown (S := (fun k_ => P0_ k_)) hg (by repeat (first | (with_reducible first | exact HK.out | apply Kept.alloc | apply Kept.drewN | apply Kept.drew) | exact HK.out)) (fun k_ e_ => (HO_0.out.1 k_ e_))); replace HO_0 := am_ (hp_); clear hg hw hp_; have p11 : 0 ≤ (x5_1 : Int) := od_; have q11 : (x5_1 : Int) < ((x0_1.length : Int) : Int) := od_; obtain ⟨ce11, hcl11, hM11, hcc11, hfr11⟩ := Kd.R_elem HO_0.out z126 (x5_1 : Int) p11 q11; obtain rfl := k126_openM hM11; clear hcl11 hcc11 hfr11 hM11; replace p11 := eq_true p11; replace q11 := eq_true q11; have HX36 := Aside0.mk (show Kd.R k126 126 w35 w0.heap.size (fun k_ => (P0_ k_ ∨ w.heap.size ≤ k_)) (.slice (some ⟨go5, 0, none⟩) x0_1.length co24) y631 from (qR HO_0)); obtain ⟨ce36, hcl36, hM36, hcc36, hfr36⟩ := Kd.R_elem HX36.out z126 (x5_1 : Int) od_ (by have h_ : (x5_1 : Int) < ((x0_1.length : Int) : Int) := od_; first | exact h_ | (have e_ := (Kd.R_reads' HO_0.out).1; omega) | simpa using h_); obtain rfl := k126_openM hM36; have HP36 := Kd.R_seg HX36.out (x5_1 : Int) od_ (by have h_ : (x5_1 : Int) < ((x0_1.length : Int) : Int) := od_; first | exact h_ | (have e_ := (Kd.R_reads' HO_0.out).1; omega) | simpa using h_) (seg := [.int .i64 (wrap64 ((wrap64 ((wrap64 ((wrap64 ((wrap64 (x1_1 + 1)) + 1)) + 1)) + 1)) + 1))]) (j := 5) hcl36 hcc36 (show 6 ≤ 16 from by decide) (x' := (⟨(rd_T126 y631 x5_1).f0, (⟨(rd_T126 y631 x5_1).f1.f0, (rd_T126 y631 x5_1).f1.f1, (rd_T126 y631 x5_1).f1.f2, (rd_T126 y631 x5_1).f1.f3, wrap64 ((wrap64 ((wrap64 ((wrap64 ((wrap64 (x1_1 + 1)) + 1)) + 1)) + 1)) + 1), (rd_T126 y631 x5_1).f1.f5, (rd_T126 y631 x5_1).f1.f6, (rd_T126 y631 x5_1).f1.f7⟩ : S90), (⟨(rd_T126 y631 x5_1).f2.f0, (rd_T126 y631 x5_1).f2.f1, (rd_T126 y631 x5_1).f2.f2, (rd_T126 y631 x5_1).f2.f3, (rd_T126 y631 x5_1).f2.f4, (rd_T126 y631 x5_1).f2.f5, (rd_T126 y631 x5_1).f2.f6⟩ : S124)⟩ : S126)) (k126_mkM _ _ _ _ ) (fun _ hk => hk); have hx36_5 := hcc36 5 _ rfl; (try simp only [show (k126).sz = 16 from rfl, Nat.mul_one, Nat.add_zero] at hx36_5); have hf36_5 := hfr36 5; (try simp only [show (k126).sz = 16 from rfl, Nat.mul_one, Nat.add_zero] at hf36_5); clear hcl36 hcc36 hfr36 hM36) | ((with_reducible refine gate_store (t := 3) (p := 57) rfl ?_); refine store_event (t := 3) (p := 57) (v := ?vo_w37) (w1 := (w35.setCell ⟨go5, (x5_1 : Int).toNat * 16 + 5, none⟩ (.int .i64 (wrap64 ((wrap64 ((wrap64 ((wrap64 ((wrap64 (x1_1 + 1)) + 1)) + 1)) + 1)) + 1))))) ?hg ?ho ?hn ?hr ?_; (case ho => rfl); (case hg => rfl); (case hn => rfl); (case hr => first | (go_simp; done) | (go_simp; rfl)); intro w37 hw; have hg : w35.grownBy w37 (some go5) := (by rw [hw]; exact HP36.2); have hp_ : Kd.R k126 126 w37 w0.heap.size (fun k_ => (P0_ k_ ∨ w.heap.size ≤ k_)) (.slice (some ⟨go5, 0, none⟩) x0_1.length co24) y632 := (by rw [hw, Ny632.out]; exact HP36.1); clear HP36; replace HB := am_ ((by rw [hw]; exact below_set (HB.out) GB5.out : Below w0.heap.size w0 w37)); replace HK := am_ (Kept.of_grown (S := (fun k_ => P0_ k_)) hg (by repeat (first | (with_reducible first | exact HK.out | apply Kept.alloc | apply Kept.drewN | apply Kept.drew) | exact HK.out)) (fun k_ e_ => (HO_0.out.1 k_ e_))); replace HO_0 := am_ (hp_); clear hg hw hp_) | ((with_reducible refine gate_callee (f := 102) rfl ?_); refine goesL_ (some 63) rfl rfl Try.func102 (by kernel_rfl) rfl #[.int .i64 (wrap64 ((wrap64 ((wrap64 ((wrap64 ((wrap64 ((wrap64 (x1_1 + 1)) + 1)) + 1)) + 1)) + 1)) + 1))] rfl la_ ?_; (with_reducible refine (laws_markText.calls k1 (wrap64 ((wrap64 ((wrap64 ((wrap64 ((wrap64 ((wrap64 (x1_1 + 1)) + 1)) + 1)) + 1)) + 1)) + 1)) t633 _ A12.out).mono ?_); rintro e w38 ⟨rfl, hb⟩; refine ⟨_, rfl, ?_⟩; replace HO_0 := rB_ HO_0 hb; replace HK := am_ (Kept.below (S := (fun k_ => P0_ k_)) (by repeat (first | (with_reducible first | exact HK.out | apply Kept.alloc | apply Kept.drewN | apply Kept.drew) | exact HK.out)) hb); replace HB := bS_ HB hb; (try clear hb); have p13 : 0 ≤ (x5_1 : Int) := od_; have q13 : (x5_1 : Int) < ((x0_1.length : Int) : Int) := od_; obtain ⟨ce13, hcl13, hM13, hcc13, hfr13⟩ := Kd.R_elem HO_0.out z126 (x5_1 : Int) p13 q13; obtain rfl := k126_openM hM13; clear hcl13 hcc13 hfr13 hM13; replace p13 := eq_true p13; replace q13 := eq_true q13; have HX39 := Aside0.mk (show Kd.R k126 126 w38 w0.heap.size (fun k_ => (P0_ k_ ∨ w.heap.size ≤ k_)) (.slice (some ⟨go5, 0, none⟩) x0_1.length co24) y632 from (qR HO_0)); obtain ⟨ce39, hcl39, hM39, hcc39, hfr39⟩ := Kd.R_elem HX39.out z126 (x5_1 : Int) od_ (by have h_ : (x5_1 : Int) < ((x0_1.length : Int) : Int) := od_; first | exact h_ | (have e_ := (Kd.R_reads' HO_0.out).1; omega) | simpa using h_); obtain rfl := k126_openM hM39; have HP39 := Kd.R_seg HX39.out (x5_1 : Int) od_ (by have h_ : (x5_1 : Int) < ((x0_1.length : Int) : Int) := od_; first | exact h_ | (have e_ := (Kd.R_reads' HO_0.out).1; omega) | simpa using h_) (seg := [.string t633]) (j := 6) hcl39 hcc39 (show 7 ≤ 16 from by decide) (x' := (⟨(rd_T126 y632 x5_1).f0, (⟨(rd_T126 y632 x5_1).f1.f0, (rd_T126 y632 x5_1).f1.f1, (rd_T126 y632 x5_1).f1.f2, (rd_T126 y632 x5_1).f1.f3, (rd_T126 y632 x5_1).f1.f4, t633, (rd_T126 y632 x5_1).f1.f6, (rd_T126 y632 x5_1).f1.f7⟩ : S90), (⟨(rd_T126 y632 x5_1).f2.f0, (rd_T126 y632 x5_1).f2.f1, (rd_T126 y632 x5_1).f2.f2, (rd_T126 y632 x5_1).f2.f3, (rd_T126 y632 x5_1).f2.f4, (rd_T126 y632 x5_1).f2.f5, (rd_T126 y632 x5_1).f2.f6⟩ : S124)⟩ : S126)) (k126_mkM _ _ _ _ ) (fun _ hk => hk); have hx39_6 := hcc39 6 _ rfl; (try simp only [show (k126).sz = 16 from rfl, Nat.mul_one, Nat.add_zero] at hx39_6); have hf39_6 := hfr39 6; (try simp only [show (k126).sz = 16 from rfl, Nat.mul_one, Nat.add_zero] at hf39_6); clear hcl39 hcc39 hfr39 hM39) | ((with_reducible refine gate_store (t := 9) (p := 66) rfl ?_); refine store_event (t := 9) (p := 66) (v := ?vo_w40) (w1 := (w38.setCell ⟨go5, (x5_1 : Int).toNat * 16 + 6, none⟩ (.string t633))) ?hg ?ho ?hn ?hr ?_; (case ho => rfl); (case hg => rfl); (case hn => rfl); (case hr => first | (go_simp; done) | (go_simp; rfl)); intro w40 hw; have hg : w38.grownBy w40 (some go5) := (by rw [hw]; exact HP39.2); have hp_ : Kd.R k126 126 w40 w0.heap.size (fun k_ => (P0_ k_ ∨ w.heap.size ≤ k_)) (.slice (some ⟨go5, 0, none⟩) x0_1.length co24) y634 := (by rw [hw, Ny634.out]; exact HP39.1); clear HP39; replace HB := am_ ((by rw [hw]; exact below_set (HB.out) GB5.out : Below w0.heap.size w0 w40)); replace HK := am_ (Kept.of_grown (S := (fun k_ => P0_ k_)) hg (by repeat (first | (with_reducible first | exact HK.out | apply Kept.alloc | apply Kept.drewN | apply Kept.drew) | exact HK.out)) (fun k_ e_ => (HO_0.out.1 k_ e_))); replace HO_0 := am_ (hp_); clear hg hw hp_; have p14 : 0 ≤ (x5_1 : Int) := od_; have q14 : (x5_1 : Int) < ((x0_1.length : Int) : Int) := od_; obtain ⟨ce14, hcl14, hM14, hcc14, hfr14⟩ := Kd.R_elem HO_0.out z126 (x5_1 : Int) p14 q14; obtain rfl := k126_openM hM14; clear hcl14 hcc14 hfr14 hM14; replace p14 := eq_true p14; replace q14 := eq_true q14; have HX41 := Aside0.mk (show Kd.R k126 126 w40 w0.heap.size (fun k_ => (P0_ k_ ∨ w.heap.size ≤ k_)) (.slice (some ⟨go5, 0, none⟩) x0_1.length co24) y634 from (qR HO_0)); obtain ⟨ce41, hcl41, hM41, hcc41, hfr41⟩ := Kd.R_elem HX41.out z126 (x5_1 : Int) od_ (by have h_ : (x5_1 : Int) < ((x0_1.length : Int) : Int) := od_; first | exact h_ | (have e_ := (Kd.R_reads' HO_0.out).1; omega) | simpa using h_); obtain rfl := k126_openM hM41; have HP41 := Kd.R_seg HX41.out (x5_1 : Int) od_ (by have h_ : (x5_1 : Int) < ((x0_1.length : Int) : Int) := od_; first | exact h_ | (have e_ := (Kd.R_reads' HO_0.out).1; omega) | simpa using h_) (seg := [.int .i64 (wrap64 ((wrap64 ((wrap64 ((wrap64 ((wrap64 ((wrap64 ((wrap64 (x1_1 + 1)) + 1)) + 1)) + 1)) + 1)) + 1)) + 1))]) (j := 7) hcl41 hcc41 (show 8 ≤ 16 from by decide) (x' := (⟨(rd_T126 y634 x5_1).f0, (⟨(rd_T126 y634 x5_1).f1.f0, (rd_T126 y634 x5_1).f1.f1, (rd_T126 y634 x5_1).f1.f2, (rd_T126 y634 x5_1).f1.f3, (rd_T126 y634 x5_1).f1.f4, (rd_T126 y634 x5_1).f1.f5, wrap64 ((wrap64 ((wrap64 ((wrap64 ((wrap64 ((wrap64 ((wrap64 (x1_1 + 1)) + 1)) + 1)) + 1)) + 1)) + 1)) + 1), (rd_T126 y634 x5_1).f1.f7⟩ : S90), (⟨(rd_T126 y634 x5_1).f2.f0, (rd_T126 y634 x5_1).f2.f1, (rd_T126 y634 x5_1).f2.f2, (rd_T126 y634 x5_1).f2.f3, (rd_T126 y634 x5_1).f2.f4, (rd_T126 y634 x5_1).f2.f5, (rd_T126 y634 x5_1).f2.f6⟩ : S124)⟩ : S126)) (k126_mkM _ _ _ _ ) (fun _ hk => hk); have hx41_7 := hcc41 7 _ rfl; (try simp only [show (k126).sz = 16 from rfl, Nat.mul_one, Nat.add_zero] at hx41_7); have hf41_7 := hfr41 7; (try simp only [show (k126).sz = 16 from rfl, Nat.mul_one, Nat.add_zero] at hf41_7); clear hcl41 hcc41 hfr41 hM41) | ((with_reducible refine gate_store (t := 3) (p := 74) rfl ?_); refine store_event (t := 3) (p := 74) (v := ?vo_w42) (w1 := (w40.setCell ⟨go5, (x5_1 : Int).toNat * 16 + 7, none⟩ (.int .i64 (wrap64 ((wrap64 ((wrap64 ((wrap64 ((wrap64 ((wrap64 ((wrap64 (x1_1 + 1)) + 1)) + 1)) + 1)) + 1)) + 1)) + 1))))) ?hg ?ho ?hn ?hr ?_; (case ho => rfl); (case hg => rfl); (case hn => rfl); (case hr => first | (go_simp; done) | (go_simp; rfl)); intro w42 hw; have hg : w40.grownBy w42 (some go5) := (by rw [hw]; exact HP41.2); have hp_ : Kd.R k126 126 w42 w0.heap.size (fun k_ => (P0_ k_ ∨ w.heap.size ≤ k_)) (.slice (some ⟨go5, 0, none⟩) x0_1.length co24) y635 := (by rw [hw, Ny635.out]; exact HP41.1); clear HP41; replace HB := am_ ((by rw [hw]; exact below_set (HB.out) GB5.out : Below w0.heap.size w0 w42)); replace HK := am_ (Kept.of_grown (S := (fun k_ => P0_ k_)) hg (by repeat (first | (with_reducible first | exact HK.out | apply Kept.alloc | apply Kept.drewN | apply Kept.drew) | exact HK.out)) (fun k_ e_ => (HO_0.out.1 k_ e_))); replace HO_0 := am_ (hp_); clear hg hw hp_; have p15 : 0 ≤ (x5_1 : Int) := od_; have q15 : (x5_1 : Int) < ((x0_1.length : Int) : Int) := od_; obtain ⟨ce15, hcl15, hM15, hcc15, hfr15⟩ := Kd.R_elem HO_0.out z126 (x5_1 : Int) p15 q15; obtain rfl := k126_openM hM15; clear hcl15 hcc15 hfr15 hM15; replace p15 := eq_true p15; replace q15 := eq_true q15; have HX43 := Aside0.mk (show Kd.R k126 126 w42 w0.heap.size (fun k_ => (P0_ k_ ∨ w.heap.size ≤ k_)) (.slice (some ⟨go5, 0, none⟩) x0_1.length co24) y635 from (qR HO_0)); obtain ⟨ce43, hcl43, hM43, hcc43, hfr43⟩ := Kd.R_elem HX43.out z126 (x5_1 : Int) od_ (by have h_ : (x5_1 : Int) < ((x0_1.length : Int) : Int) := od_; first | exact h_ | (have e_ := (Kd.R_reads' HO_0.out).1; omega) | simpa using h_); obtain rfl := k126_openM hM43; have HP43 := Kd.R_seg HX43.out (x5_1 : Int) od_ (by have h_ : (x5_1 : Int) < ((x0_1.length : Int) : Int) := od_; first | exact h_ | (have e_ := (Kd.R_reads' HO_0.out).1; omega) | simpa using h_) (seg := [.int .i64 (wrap64 ((wrap64 ((wrap64 ((wrap64 ((wrap64 ((wrap64 ((wrap64 ((wrap64 (x1_1 + 1)) + 1)) + 1)) + 1)) + 1)) + 1)) + 1)) + 1))]) (j := 8) hcl43 hcc43 (show 9 ≤ 16 from by decide) (x' := (⟨(rd_T126 y635 x5_1).f0, (⟨(rd_T126 y635 x5_1).f1.f0, (rd_T126 y635 x5_1).f1.f1, (rd_T126 y635 x5_1).f1.f2, (rd_T126 y635 x5_1).f1.f3, (rd_T126 y635 x5_1).f1.f4, (rd_T126 y635 x5_1).f1.f5, (rd_T126 y635 x5_1).f1.f6, wrap64 ((wrap64 ((wrap64 ((wrap64 ((wrap64 ((wrap64 ((wrap64 ((wrap64 (x1_1 + 1)) + 1)) + 1)) + 1)) + 1)) + 1)) + 1)) + 1)⟩ : S90), (⟨(rd_T126 y635 x5_1).f2.f0, (rd_T126 y635 x5_1).f2.f1, (rd_T126 y635 x5_1).f2.f2, (rd_T126 y635 x5_1).f2.f3, (rd_T126 y635 x5_1).f2.f4, (rd_T126 y635 x5_1).f2.f5, (rd_T126 y635 x5_1).f2.f6⟩ : S124)⟩ : S126)) (k126_mkM _ _ _ _ ) (fun _ hk => hk); have hx43_8 := hcc43 8 _ rfl; (try simp only [show (k126).sz = 16 from rfl, Nat.mul_one, Nat.add_zero] at hx43_8); have hf43_8 := hfr43 8; (try simp only [show (k126).sz = 16 from rfl, Nat.mul_one, Nat.add_zero] at hf43_8); clear hcl43 hcc43 hfr43 hM43) | ((with_reducible refine gate_store (t := 3) (p := 82) rfl ?_); refine store_event (t := 3) (p := 82) (v := ?vo_w44) (w1 := (w42.setCell ⟨go5, (x5_1 : Int).toNat * 16 + 8, none⟩ (.int .i64 (wrap64 ((wrap64 ((wrap64 ((wrap64 ((wrap64 ((wrap64 ((wrap64 ((wrap64 (x1_1 + 1)) + 1)) + 1)) + 1)) + 1)) + 1)) + 1)) + 1))))) ?hg ?ho ?hn ?hr ?_; (case ho => rfl); (case hg => rfl); (case hn => rfl); (case hr => first | (go_simp; done) | (go_simp; rfl)); intro w44 hw; have hg : w42.grownBy w44 (some go5) := (by rw [hw]; exact HP43.2); have hp_ : Kd.R k126 126 w44 w0.heap.size (fun k_ => (P0_ k_ ∨ w.heap.size ≤ k_)) (.slice (some ⟨go5, 0, none⟩) x0_1.length co24) y636 := (by rw [hw, Ny636.out]; exact HP43.1); clear HP43; replace HB := am_ ((by rw [hw]; exact below_set (HB.out) GB5.out : Below w0.heap.size w0 w44)); replace HK := am_ (Kept.of_grown (S := (fun k_ => P0_ k_)) hg (by repeat (first | (with_reducible first | exact HK.out | apply Kept.alloc | apply Kept.drewN | apply Kept.drew) | exact HK.out)) (fun k_ e_ => (HO_0.out.1 k_ e_))); replace HO_0 := am_ (hp_); clear hg hw hp_; have p16 : 0 ≤ (x5_1 : Int) := od_; have q16 : (x5_1 : Int) < ((x0_1.length : Int) : Int) := od_; obtain ⟨ce16, hcl16, hM16, hcc16, hfr16⟩ := Kd.R_elem HO_0.out z126 (x5_1 : Int) p16 q16; obtain rfl := k126_openM hM16; clear hcl16 hcc16 hfr16 hM16; replace p16 := eq_true p16; replace q16 := eq_true q16; have HX45 := Aside0.mk (show Kd.R k126 126 w44 w0.heap.size (fun k_ => (P0_ k_ ∨ w.heap.size ≤ k_)) (.slice (some ⟨go5, 0, none⟩) x0_1.length co24) y636 from (qR HO_0)); obtain ⟨ce45, hcl45, hM45, hcc45, hfr45⟩ := Kd.R_elem HX45.out z126 (x5_1 : Int) od_ (by have h_ : (x5_1 : Int) < ((x0_1.length : Int) : Int) := od_; first | exact h_ | (have e_ := (Kd.R_reads' HO_0.out).1; omega) | simpa using h_); obtain rfl := k126_openM hM45; have HP45 := Kd.R_seg HX45.out (x5_1 : Int) od_ (by have h_ : (x5_1 : Int) < ((x0_1.length : Int) : Int) := od_; first | exact h_ | (have e_ := (Kd.R_reads' HO_0.out).1; omega) | simpa using h_) (seg := [.int .i64 (wrap64 ((wrap64 ((wrap64 ((wrap64 ((wrap64 ((wrap64 ((wrap64 ((wrap64 ((wrap64 (x1_1 + 1)) + 1)) + 1)) + 1)) + 1)) + 1)) + 1)) + 1)) + 1))]) (j := 9) hcl45 hcc45 (show 10 ≤ 16 from by decide) (x' := (⟨(rd_T126 y636 x5_1).f0, (⟨(rd_T126 y636 x5_1).f1.f0, (rd_T126 y636 x5_1).f1.f1, (rd_T126 y636 x5_1).f1.f2, (rd_T126 y636 x5_1).f1.f3, (rd_T126 y636 x5_1).f1.f4, (rd_T126 y636 x5_1).f1.f5, (rd_T126 y636 x5_1).f1.f6, (rd_T126 y636 x5_1).f1.f7⟩ : S90), (⟨wrap64 ((wrap64 ((wrap64 ((wrap64 ((wrap64 ((wrap64 ((wrap64 ((wrap64 ((wrap64 (x1_1 + 1)) + 1)) + 1)) + 1)) + 1)) + 1)) + 1)) + 1)) + 1), (rd_T126 y636 x5_1).f2.f1, (rd_T126 y636 x5_1).f2.f2, (rd_T126 y636 x5_1).f2.f3, (rd_T126 y636 x5_1).f2.f4, (rd_T126 y636 x5_1).f2.f5, (rd_T126 y636 x5_1).f2.f6⟩ : S124)⟩ : S126)) (k126_mkM _ _ _ _ ) (fun _ hk => hk); have hx45_9 := hcc45 9 _ rfl; (try simp only [show (k126).sz = 16 from rfl, Nat.mul_one, Nat.add_zero] at hx45_9); have hf45_9 := hfr45 9; (try simp only [show (k126).sz = 16 from rfl, Nat.mul_one, Nat.add_zero] at hf45_9); clear hcl45 hcc45 hfr45 hM45) | ((with_reducible refine gate_store (t := 3) (p := 90) rfl ?_); refine store_event (t := 3) (p := 90) (v := ?vo_w46) (w1 := (w44.setCell ⟨go5, (x5_1 : Int).toNat * 16 + 9, none⟩ (.int .i64 (wrap64 ((wrap64 ((wrap64 ((wrap64 ((wrap64 ((wrap64 ((wrap64 ((wrap64 ((wrap64 (x1_1 + 1)) + 1)) + 1)) + 1)) + 1)) + 1)) + 1)) + 1)) + 1))))) ?hg ?ho ?hn ?hr ?_; (case ho => rfl); (case hg => rfl); (case hn => rfl); (case hr => first | (go_simp; done) | (go_simp; rfl)); intro w46 hw; have hg : w44.grownBy w46 (some go5) := (by rw [hw]; exact HP45.2); have hp_ : Kd.R k126 126 w46 w0.heap.size (fun k_ => (P0_ k_ ∨ w.heap.size ≤ k_)) (.slice (some ⟨go5, 0, none⟩) x0_1.length co24) y637 := (by rw [hw, Ny637.out]; exact HP45.1); clear HP45; replace HB := am_ ((by rw [hw]; exact below_set (HB.out) GB5.out : Below w0.heap.size w0 w46)); replace HK := am_ (Kept.of_grown (S := (fun k_ => P0_ k_)) hg (by repeat (first | (with_reducible first | exact HK.out | apply Kept.alloc | apply Kept.drewN | apply Kept.drew) | exact HK.out)) (fun k_ e_ => (HO_0.out.1 k_ e_))); replace HO_0 := am_ (hp_); clear hg hw hp_) | ((with_reducible refine gate_callee (f := 102) rfl ?_); refine goesL_ (some 96) rfl rfl Try.func102 (by kernel_rfl) rfl #[.int .i64 (wrap64 ((wrap64 ((wrap64 ((wrap64 ((wrap64 ((wrap64 ((wrap64 ((wrap64 ((wrap64 ((wrap64 (x1_1 + 1)) + 1)) + 1)) + 1)) + 1)) + 1)) + 1)) + 1)) + 1)) + 1))] rfl la_ ?_; (with_reducible refine (laws_markText.calls k1 (wrap64 ((wrap64 ((wrap64 ((wrap64 ((wrap64 ((wrap64 ((wrap64 ((wrap64 ((wrap64 ((wrap64 (x1_1 + 1)) + 1)) + 1)) + 1)) + 1)) + 1)) + 1)) + 1)) + 1)) + 1)) t638 _ A17.out).mono ?_); rintro e w47 ⟨rfl, hb⟩; refine ⟨_, rfl, ?_⟩; replace HO_0 := rB_ HO_0 hb; replace HK := am_ (Kept.below (S := (fun k_ => P0_ k_)) (by repeat (first | (with_reducible first | exact HK.out | apply Kept.alloc | apply Kept.drewN | apply Kept.drew) | exact HK.out)) hb); replace HB := bS_ HB hb; (try clear hb); have p18 : 0 ≤ (x5_1 : Int) := od_; have q18 : (x5_1 : Int) < ((x0_1.length : Int) : Int) := od_; obtain ⟨ce18, hcl18, hM18, hcc18, hfr18⟩ := Kd.R_elem HO_0.out z126 (x5_1 : Int) p18 q18; obtain rfl := k126_openM hM18; clear hcl18 hcc18 hfr18 hM18; replace p18 := eq_true p18; replace q18 := eq_true q18; have HX48 := Aside0.mk (show Kd.R k126 126 w47 w0.heap.size (fun k_ => (P0_ k_ ∨ w.heap.size ≤ k_)) (.slice (some ⟨go5, 0, none⟩) x0_1.length co24) y637 from (qR HO_0)); obtain ⟨ce48, hcl48, hM48, hcc48, hfr48⟩ := Kd.R_elem HX48.out z126 (x5_1 : Int) od_ (by have h_ : (x5_1 : Int) < ((x0_1.length : Int) : Int) := od_; first | exact h_ | (have e_ := (Kd.R_reads' HO_0.out).1; omega) | simpa using h_); obtain rfl := k126_openM hM48; have HP48 := Kd.R_seg HX48.out (x5_1 : Int) od_ (by have h_ : (x5_1 : Int) < ((x0_1.length : Int) : Int) := od_; first | exact h_ | (have e_ := (Kd.R_reads' HO_0.out).1; omega) | simpa using h_) (seg := [.string t638]) (j := 10) hcl48 hcc48 (show 11 ≤ 16 from by decide) (x' := (⟨(rd_T126 y637 x5_1).f0, (⟨(rd_T126 y637 x5_1).f1.f0, (rd_T126 y637 x5_1).f1.f1, (rd_T126 y637 x5_1).f1.f2, (rd_T126 y637 x5_1).f1.f3, (rd_T126 y637 x5_1).f1.f4, (rd_T126 y637 x5_1).f1.f5, (rd_T126 y637 x5_1).f1.f6, (rd_T126 y637 x5_1).f1.f7⟩ : S90), (⟨(rd_T126 y637 x5_1).f2.f0, t638, (rd_T126 y637 x5_1).f2.f2, (rd_T126 y637 x5_1).f2.f3, (rd_T126 y637 x5_1).f2.f4, (rd_T126 y637 x5_1).f2.f5, (rd_T126 y637 x5_1).f2.f6⟩ : S124)⟩ : S126)) (k126_mkM _ _ _ _ ) (fun _ hk => hk); have hx48_10 := hcc48 10 _ rfl; (try simp only [show (k126).sz = 16 from rfl, Nat.mul_one, Nat.add_zero] at hx48_10); have hf48_10 := hfr48 10; (try simp only [show (k126).sz = 16 from rfl, Nat.mul_one, Nat.add_zero] at hf48_10); clear hcl48 hcc48 hfr48 hM48) | ((with_reducible refine gate_store (t := 9) (p := 99) rfl ?_); refine store_event (t := 9) (p := 99) (v := ?vo_w49) (w1 := (w47.setCell ⟨go5, (x5_1 : Int).toNat * 16 + 10, none⟩ (.string t638))) ?hg ?ho ?hn ?hr ?_; (case ho => rfl); (case hg => rfl); (case hn => rfl); (case hr => first | (go_simp; done) | (go_simp; rfl)); intro w49 hw; have hg : w47.grownBy w49 (some go5) := (by rw [hw]; exact HP48.2); have hp_ : Kd.R k126 126 w49 w0.heap.size (fun k_ => (P0_ k_ ∨ w.heap.size ≤ k_)) (.slice (some ⟨go5, 0, none⟩) x0_1.length co24) y639 := (by rw [hw, Ny639.out]; exact HP48.1); clear HP48; replace HB := am_ ((by rw [hw]; exact below_set (HB.out) GB5.out : Below w0.heap.size w0 w49)); replace HK := am_ (Kept.of_grown (S := (fun k_ => P0_ k_)) hg (by repeat (first | (with_reducible first | exact HK.out | apply Kept.alloc | apply Kept.drewN | apply Kept.drew) | exact HK.out)) (fun k_ e_ => (HO_0.out.1 k_ e_))); replace HO_0 := am_ (hp_); clear hg hw hp_; have p19 : 0 ≤ (x5_1 : Int) := od_; have q19 : (x5_1 : Int) < ((x0_1.length : Int) : Int) := od_; obtain ⟨ce19, hcl19, hM19, hcc19, hfr19⟩ := Kd.R_elem HO_0.out z126 (x5_1 : Int) p19 q19; obtain rfl := k126_openM hM19; clear hcl19 hcc19 hfr19 hM19; replace p19 := eq_true p19; replace q19 := eq_true q19; have HX50 := Aside0.mk (show Kd.R k126 126 w49 w0.heap.size (fun k_ => (P0_ k_ ∨ w.heap.size ≤ k_)) (.slice (some ⟨go5, 0, none⟩) x0_1.length co24) y639 from (qR HO_0)); obtain ⟨ce50, hcl50, hM50, hcc50, hfr50⟩ := Kd.R_elem HX50.out z126 (x5_1 : Int) od_ (by have h_ : (x5_1 : Int) < ((x0_1.length : Int) : Int) := od_; first | exact h_ | (have e_ := (Kd.R_reads' HO_0.out).1; omega) | simpa using h_); obtain rfl := k126_openM hM50; have HP50 := Kd.R_seg HX50.out (x5_1 : Int) od_ (by have h_ : (x5_1 : Int) < ((x0_1.length : Int) : Int) := od_; first | exact h_ | (have e_ := (Kd.R_reads' HO_0.out).1; omega) | simpa using h_) (seg := [.int .i64 (wrap64 ((wrap64 ((wrap64 ((wrap64 ((wrap64 ((wrap64 ((wrap64 ((wrap64 ((wrap64 ((wrap64 ((wrap64 (x1_1 + 1)) + 1)) + 1)) + 1)) + 1)) + 1)) + 1)) + 1)) + 1)) + 1)) + 1))]) (j := 11) hcl50 hcc50 (show 12 ≤ 16 from by decide) (x' := (⟨(rd_T126 y639 x5_1).f0, (⟨(rd_T126 y639 x5_1).f1.f0, (rd_T126 y639 x5_1).f1.f1, (rd_T126 y639 x5_1).f1.f2, (rd_T126 y639 x5_1).f1.f3, (rd_T126 y639 x5_1).f1.f4, (rd_T126 y639 x5_1).f1.f5, (rd_T126 y639 x5_1).f1.f6, (rd_T126 y639 x5_1).f1.f7⟩ : S90), (⟨(rd_T126 y639 x5_1).f2.f0, (rd_T126 y639 x5_1).f2.f1, wrap64 ((wrap64 ((wrap64 ((wrap64 ((wrap64 ((wrap64 ((wrap64 ((wrap64 ((wrap64 ((wrap64 ((wrap64 (x1_1 + 1)) + 1)) + 1)) + 1)) + 1)) + 1)) + 1)) + 1)) + 1)) + 1)) + 1), (rd_T126 y639 x5_1).f2.f3, (rd_T126 y639 x5_1).f2.f4, (rd_T126 y639 x5_1).f2.f5, (rd_T126 y639 x5_1).f2.f6⟩ : S124)⟩ : S126)) (k126_mkM _ _ _ _ ) (fun _ hk => hk); have hx50_11 := hcc50 11 _ rfl; (try simp only [show (k126).sz = 16 from rfl, Nat.mul_one, Nat.add_zero] at hx50_11); have hf50_11 := hfr50 11; (try simp only [show (k126).sz = 16 from rfl, Nat.mul_one, Nat.add_zero] at hf50_11); clear hcl50 hcc50 hfr50 hM50) | ((with_reducible refine gate_store (t := 3) (p := 107) rfl ?_); refine store_event (t := 3) (p := 107) (v := ?vo_w51) (w1 := (w49.setCell ⟨go5, (x5_1 : Int).toNat * 16 + 11, none⟩ (.int .i64 (wrap64 ((wrap64 ((wrap64 ((wrap64 ((wrap64 ((wrap64 ((wrap64 ((wrap64 ((wrap64 ((wrap64 ((wrap64 (x1_1 + 1)) + 1)) + 1)) + 1)) + 1)) + 1)) + 1)) + 1)) + 1)) + 1)) + 1))))) ?hg ?ho ?hn ?hr ?_; (case ho => rfl); (case hg => rfl); (case hn => rfl); (case hr => first | (go_simp; done) | (go_simp; rfl)); intro w51 hw; have hg : w49.grownBy w51 (some go5) := (by rw [hw]; exact HP50.2); have hp_ : Kd.R k126 126 w51 w0.heap.size (fun k_ => (P0_ k_ ∨ w.heap.size ≤ k_)) (.slice (some ⟨go5, 0, none⟩) x0_1.length co24) y640 := (by rw [hw, Ny640.out]; exact HP50.1); clear HP50; replace HB := am_ ((by rw [hw]; exact below_set (HB.out) GB5.out : Below w0.heap.size w0 w51)); replace HK := am_ (Kept.of_grown (S := (fun k_ => P0_ k_)) hg (by repeat (first | (with_reducible first | exact HK.out | apply Kept.alloc | apply Kept.drewN | apply Kept.drew) | exact HK.out)) (fun k_ e_ => (HO_0.out.1 k_ e_))); replace HO_0 := am_ (hp_); clear hg hw hp_; have p20 : 0 ≤ (x5_1 : Int) := od_; have q20 : (x5_1 : Int) < ((x0_1.length : Int) : Int) := od_; obtain ⟨ce20, hcl20, hM20, hcc20, hfr20⟩ := Kd.R_elem HO_0.out z126 (x5_1 : Int) p20 q20; obtain rfl := k126_openM hM20; clear hcl20 hcc20 hfr20 hM20; replace p20 := eq_true p20; replace q20 := eq_true q20; have HX52 := Aside0.mk (show Kd.R k126 126 w51 w0.heap.size (fun k_ => (P0_ k_ ∨ w.heap.size ≤ k_)) (.slice (some ⟨go5, 0, none⟩) x0_1.length co24) y640 from (qR HO_0)); obtain ⟨ce52, hcl52, hM52, hcc52, hfr52⟩ := Kd.R_elem HX52.out z126 (x5_1 : Int) od_ (by have h_ : (x5_1 : Int) < ((x0_1.length : Int) : Int) := od_; first | exact h_ | (have e_ := (Kd.R_reads' HO_0.out).1; omega) | simpa using h_); obtain rfl := k126_openM hM52; have HP52 := Kd.R_seg HX52.out (x5_1 : Int) od_ (by have h_ : (x5_1 : Int) < ((x0_1.length : Int) : Int) := od_; first | exact h_ | (have e_ := (Kd.R_reads' HO_0.out).1; omega) | simpa using h_) (seg := [.int .i64 (wrap64 ((wrap64 ((wrap64 ((wrap64 ((wrap64 ((wrap64 ((wrap64 ((wrap64 ((wrap64 ((wrap64 ((wrap64 ((wrap64 (x1_1 + 1)) + 1)) + 1)) + 1)) + 1)) + 1)) + 1)) + 1)) + 1)) + 1)) + 1)) + 1))]) (j := 12) hcl52 hcc52 (show 13 ≤ 16 from by decide) (x' := (⟨(rd_T126 y640 x5_1).f0, (⟨(rd_T126 y640 x5_1).f1.f0, (rd_T126 y640 x5_1).f1.f1, (rd_T126 y640 x5_1).f1.f2, (rd_T126 y640 x5_1).f1.f3, (rd_T126 y640 x5_1).f1.f4, (rd_T126 y640 x5_1).f1.f5, (rd_T126 y640 x5_1).f1.f6, (rd_T126 y640 x5_1).f1.f7⟩ : S90), (⟨(rd_T126 y640 x5_1).f2.f0, (rd_T126 y640 x5_1).f2.f1, (rd_T126 y640 x5_1).f2.f2, wrap64 ((wrap64 ((wrap64 ((wrap64 ((wrap64 ((wrap64 ((wrap64 ((wrap64 ((wrap64 ((wrap64 ((wrap64 ((wrap64 (x1_1 + 1)) + 1)) + 1)) + 1)) + 1)) + 1)) + 1)) + 1)) + 1)) + 1)) + 1)) + 1), (rd_T126 y640 x5_1).f2.f4, (rd_T126 y640 x5_1).f2.f5, (rd_T126 y640 x5_1).f2.f6⟩ : S124)⟩ : S126)) (k126_mkM _ _ _ _ ) (fun _ hk => hk); have hx52_12 := hcc52 12 _ rfl; (try simp only [show (k126).sz = 16 from rfl, Nat.mul_one, Nat.add_zero] at hx52_12); have hf52_12 := hfr52 12; (try simp only [show (k126).sz = 16 from rfl, Nat.mul_one, Nat.add_zero] at hf52_12); clear hcl52 hcc52 hfr52 hM52) | ((with_reducible refine gate_store (t := 3) (p := 115) rfl ?_); refine store_event (t := 3) (p := 115) (v := ?vo_w53) (w1 := (w51.setCell ⟨go5, (x5_1 : Int).toNat * 16 + 12, none⟩ (.int .i64 (wrap64 ((wrap64 ((wrap64 ((wrap64 ((wrap64 ((wrap64 ((wrap64 ((wrap64 ((wrap64 ((wrap64 ((wrap64 ((wrap64 (x1_1 + 1)) + 1)) + 1)) + 1)) + 1)) + 1)) + 1)) + 1)) + 1)) + 1)) + 1)) + 1))))) ?hg ?ho ?hn ?hr ?_; (case ho => rfl); (case hg => rfl); (case hn => rfl); (case hr => first | (go_simp; done) | (go_simp; rfl)); intro w53 hw; have hg : w51.grownBy w53 (some go5) := (by rw [hw]; exact HP52.2); have hp_ : Kd.R k126 126 w53 w0.heap.size (fun k_ => (P0_ k_ ∨ w.heap.size ≤ k_)) (.slice (some ⟨go5, 0, none⟩) x0_1.length co24) y641 := (by rw [hw, Ny641.out]; exact HP52.1); clear HP52; replace HB := am_ ((by rw [hw]; exact below_set (HB.out) GB5.out : Below w0.heap.size w0 w53)); replace HK := am_ (Kept.of_grown (S := (fun k_ => P0_ k_)) hg (by repeat (first | (with_reducible first | exact HK.out | apply Kept.alloc | apply Kept.drewN | apply Kept.drew) | exact HK.out)) (fun k_ e_ => (HO_0.out.1 k_ e_))); replace HO_0 := am_ (hp_); clear hg hw hp_; have p21 : 0 ≤ (x5_1 : Int) := od_; have q21 : (x5_1 : Int) < ((x0_1.length : Int) : Int) := od_; obtain ⟨ce21, hcl21, hM21, hcc21, hfr21⟩ := Kd.R_elem HO_0.out z126 (x5_1 : Int) p21 q21; obtain rfl := k126_openM hM21; clear hcl21 hcc21 hfr21 hM21; replace p21 := eq_true p21; replace q21 := eq_true q21; have HX54 := Aside0.mk (show Kd.R k126 126 w53 w0.heap.size (fun k_ => (P0_ k_ ∨ w.heap.size ≤ k_)) (.slice (some ⟨go5, 0, none⟩) x0_1.length co24) y641 from (qR HO_0)); obtain ⟨ce54, hcl54, hM54, hcc54, hfr54⟩ := Kd.R_elem HX54.out z126 (x5_1 : Int) od_ (by have h_ : (x5_1 : Int) < ((x0_1.length : Int) : Int) := od_; first | exact h_ | (have e_ := (Kd.R_reads' HO_0.out).1; omega) | simpa using h_); obtain rfl := k126_openM hM54; have HP54 := Kd.R_seg HX54.out (x5_1 : Int) od_ (by have h_ : (x5_1 : Int) < ((x0_1.length : Int) : Int) := od_; first | exact h_ | (have e_ := (Kd.R_reads' HO_0.out).1; omega) | simpa using h_) (seg := [.int .i64 (wrap64 ((wrap64 ((wrap64 ((wrap64 ((wrap64 ((wrap64 ((wrap64 ((wrap64 ((wrap64 ((wrap64 ((wrap64 ((wrap64 ((wrap64 (x1_1 + 1)) + 1)) + 1)) + 1)) + 1)) + 1)) + 1)) + 1)) + 1)) + 1)) + 1)) + 1)) + 1))]) (j := 13) hcl54 hcc54 (show 14 ≤ 16 from by decide) (x' := (⟨(rd_T126 y641 x5_1).f0, (⟨(rd_T126 y641 x5_1).f1.f0, (rd_T126 y641 x5_1).f1.f1, (rd_T126 y641 x5_1).f1.f2, (rd_T126 y641 x5_1).f1.f3, (rd_T126 y641 x5_1).f1.f4, (rd_T126 y641 x5_1).f1.f5, (rd_T126 y641 x5_1).f1.f6, (rd_T126 y641 x5_1).f1.f7⟩ : S90), (⟨(rd_T126 y641 x5_1).f2.f0, (rd_T126 y641 x5_1).f2.f1, (rd_T126 y641 x5_1).f2.f2, (rd_T126 y641 x5_1).f2.f3, wrap64 ((wrap64 ((wrap64 ((wrap64 ((wrap64 ((wrap64 ((wrap64 ((wrap64 ((wrap64 ((wrap64 ((wrap64 ((wrap64 ((wrap64 (x1_1 + 1)) + 1)) + 1)) + 1)) + 1)) + 1)) + 1)) + 1)) + 1)) + 1)) + 1)) + 1)) + 1), (rd_T126 y641 x5_1).f2.f5, (rd_T126 y641 x5_1).f2.f6⟩ : S124)⟩ : S126)) (k126_mkM _ _ _ _ ) (fun _ hk => hk); have hx54_13 := hcc54 13 _ rfl; (try simp only [show (k126).sz = 16 from rfl, Nat.mul_one, Nat.add_zero] at hx54_13); have hf54_13 := hfr54 13; (try simp only [show (k126).sz = 16 from rfl, Nat.mul_one, Nat.add_zero] at hf54_13); clear hcl54 hcc54 hfr54 hM54) | ((with_reducible refine gate_store (t := 3) (p := 123) rfl ?_); refine store_event (t := 3) (p := 123) (v := ?vo_w55) (w1 := (w53.setCell ⟨go5, (x5_1 : Int).toNat * 16 + 13, none⟩ (.int .i64 (wrap64 ((wrap64 ((wrap64 ((wrap64 ((wrap64 ((wrap64 ((wrap64 ((wrap64 ((wrap64 ((wrap64 ((wrap64 ((wrap64 ((wrap64 (x1_1 + 1)) + 1)) + 1)) + 1)) + 1)) + 1)) + 1)) + 1)) + 1)) + 1)) + 1)) + 1)) + 1))))) ?hg ?ho ?hn ?hr ?_; (case ho => rfl); (case hg => rfl); (case hn => rfl); (case hr => first | (go_simp; done) | (go_simp; rfl)); intro w55 hw; have hg : w53.grownBy w55 (some go5) := (by rw [hw]; exact HP54.2); have hp_ : Kd.R k126 126 w55 w0.heap.size (fun k_ => (P0_ k_ ∨ w.heap.size ≤ k_)) (.slice (some ⟨go5, 0, none⟩) x0_1.length co24) y642 := (by rw [hw, Ny642.out]; exact HP54.1); clear HP54; replace HB := am_ ((by rw [hw]; exact below_set (HB.out) GB5.out : Below w0.heap.size w0 w55)); replace HK := am_ (Kept.of_grown (S := (fun k_ => P0_ k_)) hg (by repeat (first | (with_reducible first | exact HK.out | apply Kept.alloc | apply Kept.drewN | apply Kept.drew) | exact HK.out)) (fun k_ e_ => (HO_0.out.1 k_ e_))); replace HO_0 := am_ (hp_); clear hg hw hp_; have p22 : 0 ≤ (x5_1 : Int) := od_; have q22 : (x5_1 : Int) < ((x0_1.length : Int) : Int) := od_; obtain ⟨ce22, hcl22, hM22, hcc22, hfr22⟩ := Kd.R_elem HO_0.out z126 (x5_1 : Int) p22 q22; obtain rfl := k126_openM hM22; clear hcl22 hcc22 hfr22 hM22; replace p22 := eq_true p22; replace q22 := eq_true q22; have HX56 := Aside0.mk (show Kd.R k126 126 w55 w0.heap.size (fun k_ => (P0_ k_ ∨ w.heap.size ≤ k_)) (.slice (some ⟨go5, 0, none⟩) x0_1.length co24) y642 from (qR HO_0)); obtain ⟨ce56, hcl56, hM56, hcc56, hfr56⟩ := Kd.R_elem HX56.out z126 (x5_1 : Int) od_ (by have h_ : (x5_1 : Int) < ((x0_1.length : Int) : Int) := od_; first | exact h_ | (have e_ := (Kd.R_reads' HO_0.out).1; omega) | simpa using h_); obtain rfl := k126_openM hM56; have HP56 := Kd.R_seg HX56.out (x5_1 : Int) od_ (by have h_ : (x5_1 : Int) < ((x0_1.length : Int) : Int) := od_; first | exact h_ | (have e_ := (Kd.R_reads' HO_0.out).1; omega) | simpa using h_) (seg := [.int .i64 (wrap64 ((wrap64 ((wrap64 ((wrap64 ((wrap64 ((wrap64 ((wrap64 ((wrap64 ((wrap64 ((wrap64 ((wrap64 ((wrap64 ((wrap64 ((wrap64 (x1_1 + 1)) + 1)) + 1)) + 1)) + 1)) + 1)) + 1)) + 1)) + 1)) + 1)) + 1)) + 1)) + 1)) + 1))]) (j := 14) hcl56 hcc56 (show 15 ≤ 16 from by decide) (x' := (⟨(rd_T126 y642 x5_1).f0, (⟨(rd_T126 y642 x5_1).f1.f0, (rd_T126 y642 x5_1).f1.f1, (rd_T126 y642 x5_1).f1.f2, (rd_T126 y642 x5_1).f1.f3, (rd_T126 y642 x5_1).f1.f4, (rd_T126 y642 x5_1).f1.f5, (rd_T126 y642 x5_1).f1.f6, (rd_T126 y642 x5_1).f1.f7⟩ : S90), (⟨(rd_T126 y642 x5_1).f2.f0, (rd_T126 y642 x5_1).f2.f1, (rd_T126 y642 x5_1).f2.f2, (rd_T126 y642 x5_1).f2.f3, (rd_T126 y642 x5_1).f2.f4, wrap64 ((wrap64 ((wrap64 ((wrap64 ((wrap64 ((wrap64 ((wrap64 ((wrap64 ((wrap64 ((wrap64 ((wrap64 ((wrap64 ((wrap64 ((wrap64 (x1_1 + 1)) + 1)) + 1)) + 1)) + 1)) + 1)) + 1)) + 1)) + 1)) + 1)) + 1)) + 1)) + 1)) + 1), (rd_T126 y642 x5_1).f2.f6⟩ : S124)⟩ : S126)) (k126_mkM _ _ _ _ ) (fun _ hk => hk); have hx56_14 := hcc56 14 _ rfl; (try simp only [show (k126).sz = 16 from rfl, Nat.mul_one, Nat.add_zero] at hx56_14); have hf56_14 := hfr56 14; (try simp only [show (k126).sz = 16 from rfl, Nat.mul_one, Nat.add_zero] at hf56_14); clear hcl56 hcc56 hfr56 hM56) | ((with_reducible refine gate_store (t := 3) (p := 131) rfl ?_); refine store_event (t := 3) (p := 131) (v := ?vo_w57) (w1 := (w55.setCell ⟨go5, (x5_1 : Int).toNat * 16 + 14, none⟩ (.int .i64 (wrap64 ((wrap64 ((wrap64 ((wrap64 ((wrap64 ((wrap64 ((wrap64 ((wrap64 ((wrap64 ((wrap64 ((wrap64 ((wrap64 ((wrap64 ((wrap64 (x1_1 + 1)) + 1)) + 1)) + 1)) + 1)) + 1)) + 1)) + 1)) + 1)) + 1)) + 1)) + 1)) + 1)) + 1))))) ?hg ?ho ?hn ?hr ?_; (case ho => rfl); (case hg => rfl); (case hn => rfl); (case hr => first | (go_simp; done) | (go_simp; rfl)); intro w57 hw; have hg : w55.grownBy w57 (some go5) := (by rw [hw]; exact HP56.2); have hp_ : Kd.R k126 126 w57 w0.heap.size (fun k_ => (P0_ k_ ∨ w.heap.size ≤ k_)) (.slice (some ⟨go5, 0, none⟩) x0_1.length co24) y643 := (by rw [hw, Ny643.out]; exact HP56.1); clear HP56; replace HB := am_ ((by rw [hw]; exact below_set (HB.out) GB5.out : Below w0.heap.size w0 w57)); replace HK := am_ (Kept.of_grown (S := (fun k_ => P0_ k_)) hg (by repeat (first | (with_reducible first | exact HK.out | apply Kept.alloc | apply Kept.drewN | apply Kept.drew) | exact HK.out)) (fun k_ e_ => (HO_0.out.1 k_ e_))); replace HO_0 := am_ (hp_); clear hg hw hp_; have p23 : 0 ≤ (x5_1 : Int) := od_; have q23 : (x5_1 : Int) < ((x0_1.length : Int) : Int) := od_; obtain ⟨ce23, hcl23, hM23, hcc23, hfr23⟩ := Kd.R_elem HO_0.out z126 (x5_1 : Int) p23 q23; obtain rfl := k126_openM hM23; clear hcl23 hcc23 hfr23 hM23; replace p23 := eq_true p23; replace q23 := eq_true q23; have HX58 := Aside0.mk (show Kd.R k126 126 w57 w0.heap.size (fun k_ => (P0_ k_ ∨ w.heap.size ≤ k_)) (.slice (some ⟨go5, 0, none⟩) x0_1.length co24) y643 from (qR HO_0)); obtain ⟨ce58, hcl58, hM58, hcc58, hfr58⟩ := Kd.R_elem HX58.out z126 (x5_1 : Int) od_ (by have h_ : (x5_1 : Int) < ((x0_1.length : Int) : Int) := od_; first | exact h_ | (have e_ := (Kd.R_reads' HO_0.out).1; omega) | simpa using h_); obtain rfl := k126_openM hM58; have HP58 := Kd.R_seg HX58.out (x5_1 : Int) od_ (by have h_ : (x5_1 : Int) < ((x0_1.length : Int) : Int) := od_; first | exact h_ | (have e_ := (Kd.R_reads' HO_0.out).1; omega) | simpa using h_) (seg := [.int .i64 (wrap64 ((wrap64 ((wrap64 ((wrap64 ((wrap64 ((wrap64 ((wrap64 ((wrap64 ((wrap64 ((wrap64 ((wrap64 ((wrap64 ((wrap64 ((wrap64 ((wrap64 (x1_1 + 1)) + 1)) + 1)) + 1)) + 1)) + 1)) + 1)) + 1)) + 1)) + 1)) + 1)) + 1)) + 1)) + 1)) + 1))]) (j := 15) hcl58 hcc58 (show 16 ≤ 16 from by decide) (x' := (⟨(rd_T126 y643 x5_1).f0, (⟨(rd_T126 y643 x5_1).f1.f0, (rd_T126 y643 x5_1).f1.f1, (rd_T126 y643 x5_1).f1.f2, (rd_T126 y643 x5_1).f1.f3, (rd_T126 y643 x5_1).f1.f4, (rd_T126 y643 x5_1).f1.f5, (rd_T126 y643 x5_1).f1.f6, (rd_T126 y643 x5_1).f1.f7⟩ : S90), (⟨(rd_T126 y643 x5_1).f2.f0, (rd_T126 y643 x5_1).f2.f1, (rd_T126 y643 x5_1).f2.f2, (rd_T126 y643 x5_1).f2.f3, (rd_T126 y643 x5_1).f2.f4, (rd_T126 y643 x5_1).f2.f5, wrap64 ((wrap64 ((wrap64 ((wrap64 ((wrap64 ((wrap64 ((wrap64 ((wrap64 ((wrap64 ((wrap64 ((wrap64 ((wrap64 ((wrap64 ((wrap64 ((wrap64 (x1_1 + 1)) + 1)) + 1)) + 1)) + 1)) + 1)) + 1)) + 1)) + 1)) + 1)) + 1)) + 1)) + 1)) + 1)) + 1)⟩ : S124)⟩ : S126)) (k126_mkM _ _ _ _ ) (fun _ hk => hk); have hx58_15 := hcc58 15 _ rfl; (try simp only [show (k126).sz = 16 from rfl, Nat.mul_one, Nat.add_zero] at hx58_15); have hf58_15 := hfr58 15; (try simp only [show (k126).sz = 16 from rfl, Nat.mul_one, Nat.add_zero] at hf58_15); clear hcl58 hcc58 hfr58 hM58) | ((with_reducible refine gate_store (t := 3) (p := 139) rfl ?_); refine store_event (t := 3) (p := 139) (v := ?vo_w59) (w1 := (w57.setCell ⟨go5, (x5_1 : Int).toNat * 16 + 15, none⟩ (.int .i64 (wrap64 ((wrap64 ((wrap64 ((wrap64 ((wrap64 ((wrap64 ((wrap64 ((wrap64 ((wrap64 ((wrap64 ((wrap64 ((wrap64 ((wrap64 ((wrap64 ((wrap64 (x1_1 + 1)) + 1)) + 1)) + 1)) + 1)) + 1)) + 1)) + 1)) + 1)) + 1)) + 1)) + 1)) + 1)) + 1)) + 1))))) ?hg ?ho ?hn ?hr ?_; (case ho => rfl); (case hg => rfl); (case hn => rfl); (case hr => first | (go_simp; done) | (go_simp; rfl)); intro w59 hw; have hg : w57.grownBy w59 (some go5) := (by rw [hw]; exact HP58.2); have hp_ : Kd.R k126 126 w59 w0.heap.size (fun k_ => (P0_ k_ ∨ w.heap.size ≤ k_)) (.slice (some ⟨go5, 0, none⟩) x0_1.length co24) y644 := (by rw [hw, Ny644.out]; exact HP58.1); clear HP58; replace HB := am_ ((by rw [hw]; exact below_set (HB.out) GB5.out : Below w0.heap.size w0 w59)); replace HK := am_ (Kept.of_grown (S := (fun k_ => P0_ k_)) hg (by repeat (first | (with_reducible first | exact HK.out | apply Kept.alloc | apply Kept.drewN | apply Kept.drew) | exact HK.out)) (fun k_ e_ => (HO_0.out.1 k_ e_))); replace HO_0 := am_ (hp_); clear hg hw hp_))
   go_roundg k1
   case measure => have := HK1.out; omega
   case rel => exact ⟨(y644), (wrap64 ((wrap64 ((wrap64 ((wrap64 ((wrap64 ((wrap64 ((wrap64 ((wrap64 ((wrap64 ((wrap64 ((wrap64 ((wrap64 ((wrap64 ((wrap64 ((wrap64 ((wrap64 (x1_1 + 1)) + 1)) + 1)) + 1)) + 1)) + 1)) + 1)) + 1)) + 1)) + 1)) + 1)) + 1)) + 1)) + 1)) + 1)) + 1)), (wrap64 (x5_1 + 1)), eqq_, eqq_, H', ⟨by have := HK1.out; omega⟩, ⟨qR HO_0⟩, ⟨by repeat (first | (with_reducible first | exact HK.out | apply Kept.alloc | apply Kept.drewN | apply Kept.drew) | exact HK.out)⟩, ⟨qB HB⟩⟩

/-! ### laws_markCtl: function 32 -/
def laws_markCtl.f (k : Nat) (a0_0 : Int) (a0_1 : Int) (a0_2 : Int) (a0_3 : Int) (a0_4 : Int) (a0_5 : Bool) (a0_6 : Int) (l0_7 : List (S126)) (a1 : Int) : Option (Int × (List (S126))) := (laws_markItemS.f k l0_7 a1).bind fun bt646 => (some (bt646.1, bt646.2))
theorem laws_markCtl.mono : ∀ a0 a1 a2 a3 a4 a5 a6 a7 a8 k, LeO (laws_markCtl.f k a0 a1 a2 a3 a4 a5 a6 a7 a8) (laws_markCtl.f (k + 1) a0 a1 a2 a3 a4 a5 a6 a7 a8) := by
 intro a0 a1 a2 a3 a4 a5 a6 a7 a8 k
 unfold laws_markCtl.f
 repeat' first
   | (with_reducible exact laws_markItemS.mono _ _ _)
   | (with_reducible exact LeO.refl _)
   | (with_reducible exact LeO.none _)
   | (with_reducible refine LeO.ite ?_ ?_)
   | (with_reducible refine LeO.bind ?_ (fun _ => ?_))
set_option maxHeartbeats 8000000 in
set_option maxRecDepth 100000 in
theorem laws_markCtl.calls (k : Nat) (a0_0 : Int) (a0_1 : Int) (a0_2 : Int) (a0_3 : Int) (a0_4 : Int) (a0_5 : Bool) (a0_6 : Int) (P0_7_ : Nat → Prop) (u9000_ : Value) (l0_7 : List (S126)) (a1 : Int) (r1 : Int) (r2 : List (S126)) (w0 w : World) (hB : Below w0.heap.size w0 w) (ho0_7 : Kd.R k126 126 w w0.heap.size P0_7_ u9000_ l0_7) (h : laws_markCtl.f k a0_0 a0_1 a0_2 a0_3 a0_4 a0_5 a0_6 l0_7 a1 = some (r1, r2)) :
  Calls Try.prog 32 #[.agg #[.int .i64 a0_0, .int .i64 a0_1, .int .i64 a0_2, .int .i64 a0_3, .int .i64 a0_4, .bool a0_5, .int .i64 a0_6, u9000_], .int .i64 a1] w fun e w' => e = .returned (.int .i64 r1) ∧ Kd.R k126 126 w' w0.heap.size (fun k_ => (P0_7_ k_ ∨ w.heap.size ≤ k_)) u9000_ r2 ∧ Below w0.heap.size w0 w' ∧ Kept w w' (fun k_ => P0_7_ k_) := by
 have hu63 := Try.underlying63
 have HO0_7 := Aside0.mk (show Kd.R k126 126 w w0.heap.size (fun k_ => (P0_7_ k_ ∨ w.heap.size ≤ k_)) u9000_ l0_7 from Kd.R_mono ho0_7 (fun k_ hk => (.inl hk)))
 have HK := Aside0.mk (Kept.refl w (fun k_ => P0_7_ k_))
 have HW0 := Aside0.mk hB.size
 have HB := Aside0.mk hB
 clear hB
 have H := h
 unfold laws_markCtl.f at H
 clear h
 replace H := bd_ H
 obtain ⟨⟨t646, t647⟩, A3, H⟩ := H
 (try dsimp only at H)
 simp only [Option.some.injEq, Prod.mk.injEq] at H
 obtain ⟨rfl, rfl⟩ := H
 obtain ⟨Ao4, co4, eo4⟩ := Kd.R_slice HO0_7.out
 subst eo4
 go_enter Try.func32, Try.ntmps32
 go_wp2_with (first | ((with_reducible refine gate_dst (N := 2) rfl ?_); refine box_event ?hg (N := 2) ?hd (cs := #[.int .i64 a0_0, .int .i64 a0_1, .int .i64 a0_2, .int .i64 a0_3, .int .i64 a0_4, .bool a0_5, .int .i64 a0_6, .slice Ao4 l0_7.length co4]) (t := 63) ?hr ?_; (case hd => rfl); (case hg => rfl); (case hr => first | (go_simp; done) | (go_simp; rfl)); intro gb645 hg w5 hbox hb; replace HO0_7 := rB_ HO0_7 hb; have BK645 := am_ (hbox); have GW645 := am_ ((by rw [hg]; exact (by first | exact HK.out.1 | exact (show Kept w _ (fun k_ => P0_7_ k_) from by repeat (first | (with_reducible first | exact HK.out | apply Kept.alloc | apply Kept.drewN | apply Kept.drew) | exact HK.out)).1) : w.heap.size ≤ gb645)); have IGW645 := gI_ GW645; replace HK := am_ (Kept.below (S := (fun k_ => P0_7_ k_)) (by repeat (first | (with_reducible first | exact HK.out | apply Kept.alloc | apply Kept.drewN | apply Kept.drew) | exact HK.out)) hb); have GE645 := am_ ((gG_ hg (qB HB))); have IGE645 := gI_ GE645; replace HB := bS_ HB hb; clear hb hbox hg; have z6 := cz8 BK645.out) | ((with_reducible refine gate_callee (f := 79) rfl ?_); refine goesL_ (some 8) rfl rfl Try.func79 (by kernel_rfl) rfl #[.slice Ao4 l0_7.length co4, .int .i64 a1] rfl la_ ?_; (with_reducible refine (laws_markItemS.calls k (fun k_ => some k_ = (.slice Ao4 l0_7.length co4 : Value).ownBlock) (.slice Ao4 l0_7.length co4) l0_7 a1 t646 t647 w0 _ ?side1 ?side2 A3.out).mono ?_); (case side1 => exact qB HB); (case side2 => exact Kd.R_tight rfl HO0_7.out); rintro e w7 ⟨rfl, hy0, hb, hkp⟩; refine ⟨_, rfl, ?_⟩; replace BK645 := am_ (blk_kept (qK BK645) hkp (fun hs_ => (fun e_ => (Kd.R_ne HO0_7.out BK645.out (by decide)) e_) hs_)); replace HK := am_ (Kept.then_ (S := (fun k_ => P0_7_ k_)) (by repeat (first | (with_reducible first | exact HK.out | apply Kept.alloc | apply Kept.drewN | apply Kept.drew | refine Kept.setCell ?_ (.inr GW645.out) _) | exact HK.out)) hkp (fun k_ hs_ => (fun e_ => (HO0_7.out.1 k_ e_.symm)) hs_)); replace HO0_7 := am_ (Kd.R_reok rfl hy0 (fun k_ e_ => HO0_7.out.1 k_ e_)); replace HB := am_ (hb); (try clear hb); (try clear hkp); (try clear hy0)))
 go_ret
 exact ⟨er_, qR HO0_7, qB HB, by repeat (first | (with_reducible first | exact HK.out | apply Kept.alloc | apply Kept.drewN | apply Kept.drew | refine Kept.setCell ?_ (.inr GW645.out) _) | exact HK.out)⟩

/-! ### laws_heldByteS: function 47 -/
def laws_heldByteS.l0 : Nat → List Int → Int → Int → Option (Int)
 | 0, _, _, _ => none
 | k + 1, x0, x1, x5 => if x5 < (x0.length : Int) then (if 0 ≤ x5 then (if (rd x0 x5) = ((x1) % 256) then (laws_heldByteS.l0 k x0 (wrap64 (x1 + 1)) (wrap64 (x5 + 1))) else (some (-1))) else (none)) else (some x1)
def laws_heldByteS.f (k : Nat) (l0 : List Int) (a1 : Int) : Option (Int) := laws_heldByteS.l0 k l0 a1 0
theorem laws_heldByteS.mono_l : ∀ k, (∀ y0 y1 y2, LeO (laws_heldByteS.l0 k y0 y1 y2) (laws_heldByteS.l0 (k + 1) y0 y1 y2))
 | 0 => fun _ _ _ r h => by simp [laws_heldByteS.l0] at h
 | k + 1 => by
  have ih0 := laws_heldByteS.mono_l k
  ·
   intro y0 y1 y2
   unfold laws_heldByteS.l0
   repeat' first
   | (with_reducible exact ih0 _ _ _)
   | (with_reducible exact LeO.refl _)
   | (with_reducible exact LeO.none _)
   | (with_reducible refine LeO.ite ?_ ?_)
   | (with_reducible refine LeO.bind ?_ (fun _ => ?_))
theorem laws_heldByteS.mono : ∀ a0 a1 k, LeO (laws_heldByteS.f k a0 a1) (laws_heldByteS.f (k + 1) a0 a1) := by
 intro a0 a1 k
 have ih0 := laws_heldByteS.mono_l k
 unfold laws_heldByteS.f
 repeat' first
   | (with_reducible exact ih0 _ _ _)
   | (with_reducible exact LeO.refl _)
   | (with_reducible exact LeO.none _)
   | (with_reducible refine LeO.ite ?_ ?_)
   | (with_reducible refine LeO.bind ?_ (fun _ => ?_))
set_option maxHeartbeats 8000000 in
set_option maxRecDepth 100000 in
theorem laws_heldByteS.calls (k : Nat) (A0 : Option Addr) (c0 : Nat) (l0 : List Int) (a1 : Int) (r : Int) (w : World) (hr0 : Kd.C (Kd.int .u8) w A0 l0.length l0) (hc0 : l0.length ≤ c0) (h : laws_heldByteS.f k l0 a1 = some r) :
  Calls Try.prog 47 #[.slice A0 l0.length c0, .int .i64 a1] w fun e w' => e = .returned (.int .i64 r) ∧ Drawn0 w w' := by
 have HR0 := Aside0.mk hr0
 have HC0 := Aside0.mk hc0
 clear hr0 hc0
 have H : (laws_heldByteS.l0 k l0 a1 0) = some r := h
 clear h
 have H' := Aside0.mk H
 clear H
 go_enter Try.func47, Try.ntmps47
 go_wp2
 go_loopg [1, 5] k (fun kq v1 v5 w' => ∃ (x1_1 : Int) (x5_1 : Int), v1 = .int .i64 x1_1 ∧ v5 = .int .i64 x5_1 ∧ Aside0 (laws_heldByteS.l0 kq l0 x1_1 x5_1 = some r) ∧ Aside0 (kq ≤ k) ∧ Drawn0 w w')
 case atStart => exact ⟨(a1), (0), eqq_, eqq_, H', ⟨Nat.le_refl _⟩, by repeat (first | exact Drawn0.refl _ | apply Drawn0.step)⟩
 case round =>
  clear H'
  try clear p2
  obtain ⟨x1_1, x5_1, rfl, rfl, HA, HK1, ⟨m1, rfl⟩⟩ := hrel
  cases gk with
  | zero => exact absurd HA.out (by simp [laws_heldByteS.l0])
  | succ k1 =>
   have H := HA.out
   clear HA
   simp only [laws_heldByteS.l0] at H
   by_cases c3 : x5_1 < (l0.length : Int)
   rotate_left
   ·
    rw [if_neg c3] at H
    have c3b0 : decide (x5_1 < (l0.length : Int)) = false := decide_eq_false c3
    clear c3
    obtain rfl := Option.some.inj H
    go_wp2
    go_ret
    exact ⟨by first | rfl | (simp; done) | (simp [*]; done), by repeat (first | exact Drawn0.refl _ | apply Drawn0.step)⟩
   rw [if_pos c3] at H
   have c3b0 : decide (x5_1 < (l0.length : Int)) = true := decide_eq_true c3
   clear c3
   by_cases c4 : 0 ≤ x5_1
   case neg => exact nn_ c4 H
   rw [if_pos c4] at H
   have c4b0 : decide (0 ≤ x5_1) = true := decide_eq_true c4
   clear c4
   by_cases c5 : (rd l0 x5_1) = ((x1_1) % 256)
   rotate_left
   ·
    rw [if_neg c5] at H
    have c5b0 : ((rd l0 x5_1) == ((x1_1) % 256)) = false := beq_eq_false_iff_ne.mpr c5
    have c5b1 : ((rd l0 x5_1) != ((x1_1) % 256)) = true := bne_iff_ne.mpr c5
    obtain rfl := Option.some.inj H
    have p648 : 0 ≤ (x5_1 : Int) := od_
    have q648 : x5_1 < (l0.length : Int) := od_
    obtain ⟨ad648, e648, hx648_0⟩ := Kd.at_int HR0.out x5_1 p648 q648
    cases e648
    replace p648 := eq_true p648
    replace q648 := eq_true q648
    go_wp2
    go_ret
    exact ⟨by first | rfl | (simp; done) | (simp [*]; done), by repeat (first | exact Drawn0.refl _ | apply Drawn0.step)⟩
   rw [if_pos c5] at H
   have c5b0 : ((rd l0 x5_1) == ((x1_1) % 256)) = true := beq_iff_eq.mpr c5
   have c5b1 : ((rd l0 x5_1) != ((x1_1) % 256)) = false := bne_eq_false_iff_eq.mpr c5
   clear c5
   have H' := Aside0.mk H
   clear H
   have p648 : 0 ≤ (x5_1 : Int) := od_
   have q648 : x5_1 < (l0.length : Int) := od_
   obtain ⟨ad648, e648, hx648_0⟩ := Kd.at_int HR0.out x5_1 p648 q648
   cases e648
   replace p648 := eq_true p648
   replace q648 := eq_true q648
   go_wp2
   go_roundg k1
   case measure => have := HK1.out; omega
   case rel => exact ⟨(wrap64 (x1_1 + 1)), (wrap64 (x5_1 + 1)), eqq_, eqq_, H', ⟨by have := HK1.out; omega⟩, by repeat (first | exact Drawn0.refl _ | apply Drawn0.step)⟩

/-! ### laws_heldPackS: function 33 -/
def laws_heldPackS.l0 : Nat → List (S113) → Int → Int → Option (Int)
 | 0, _, _, _ => none
 | k + 1, x0, x1, x5 => if x5 < (x0.length : Int) then (if 0 ≤ x5 then (if ((rd_T113 x0 x5).f0) = x1 then ((laws_heldByteS.f k ((rd_T113 x0 x5).f1) (wrap64 (x1 + 1))).bind fun t651 => (if t651 < 0 then (some (-1)) else (laws_heldPackS.l0 k x0 t651 (wrap64 (x5 + 1))))) else (some (-1))) else (none)) else (some x1)
def laws_heldPackS.f (k : Nat) (l0 : List (S113)) (a1 : Int) : Option (Int) := laws_heldPackS.l0 k l0 a1 0
theorem laws_heldPackS.mono_l : ∀ k, (∀ y0 y1 y2, LeO (laws_heldPackS.l0 k y0 y1 y2) (laws_heldPackS.l0 (k + 1) y0 y1 y2))
 | 0 => fun _ _ _ r h => by simp [laws_heldPackS.l0] at h
 | k + 1 => by
  have ih0 := laws_heldPackS.mono_l k
  ·
   intro y0 y1 y2
   unfold laws_heldPackS.l0
   repeat' first
   | (with_reducible exact ih0 _ _ _)
   | (with_reducible exact laws_heldByteS.mono _ _ _)
   | (with_reducible exact LeO.refl _)
   | (with_reducible exact LeO.none _)
   | (with_reducible refine LeO.ite ?_ ?_)
   | (with_reducible refine LeO.bind ?_ (fun _ => ?_))
theorem laws_heldPackS.mono : ∀ a0 a1 k, LeO (laws_heldPackS.f k a0 a1) (laws_heldPackS.f (k + 1) a0 a1) := by
 intro a0 a1 k
 have ih0 := laws_heldPackS.mono_l k
 unfold laws_heldPackS.f
 repeat' first
   | (with_reducible exact ih0 _ _ _)
   | (with_reducible exact laws_heldByteS.mono _ _ _)
   | (with_reducible exact LeO.refl _)
   | (with_reducible exact LeO.none _)
   | (with_reducible refine LeO.ite ?_ ?_)
   | (with_reducible refine LeO.bind ?_ (fun _ => ?_))
set_option maxHeartbeats 8000000 in
set_option maxRecDepth 100000 in
theorem laws_heldPackS.calls (k : Nat) (A0 : Option Addr) (c0 : Nat) (l0 : List (S113)) (a1 : Int) (r : Int) (w : World) (hr0 : Kd.C k113 w A0 l0.length l0) (hc0 : l0.length ≤ c0) (h : laws_heldPackS.f k l0 a1 = some r) :
  Calls Try.prog 33 #[.slice A0 l0.length c0, .int .i64 a1] w fun e w' => e = .returned (.int .i64 r) ∧ Drawn0 w w' := by
 have HR0 := Aside0.mk hr0
 have HC0 := Aside0.mk hc0
 clear hr0 hc0
 have H : (laws_heldPackS.l0 k l0 a1 0) = some r := h
 clear h
 have H' := Aside0.mk H
 clear H
 go_enter Try.func33, Try.ntmps33
 go_wp2
 go_loopg [1, 5] k (fun kq v1 v5 w' => ∃ (x1_1 : Int) (x5_1 : Int), v1 = .int .i64 x1_1 ∧ v5 = .int .i64 x5_1 ∧ Aside0 (laws_heldPackS.l0 kq l0 x1_1 x5_1 = some r) ∧ Aside0 (kq ≤ k) ∧ Drawn0 w w')
 case atStart => exact ⟨(a1), (0), eqq_, eqq_, H', ⟨Nat.le_refl _⟩, by repeat (first | exact Drawn0.refl _ | apply Drawn0.step)⟩
 case round =>
  clear H'
  try clear p2
  obtain ⟨x1_1, x5_1, rfl, rfl, HA, HK1, ⟨m1, rfl⟩⟩ := hrel
  cases gk with
  | zero => exact absurd HA.out (by simp [laws_heldPackS.l0])
  | succ k1 =>
   have H := HA.out
   clear HA
   simp only [laws_heldPackS.l0] at H
   by_cases c3 : x5_1 < (l0.length : Int)
   rotate_left
   ·
    rw [if_neg c3] at H
    have c3b0 : decide (x5_1 < (l0.length : Int)) = false := decide_eq_false c3
    clear c3
    obtain rfl := Option.some.inj H
    go_wp2
    go_ret
    exact ⟨by first | rfl | (simp; done) | (simp [*]; done), by repeat (first | exact Drawn0.refl _ | apply Drawn0.step)⟩
   rw [if_pos c3] at H
   have c3b0 : decide (x5_1 < (l0.length : Int)) = true := decide_eq_true c3
   clear c3
   by_cases c4 : 0 ≤ x5_1
   case neg => exact nn_ c4 H
   rw [if_pos c4] at H
   have c4b0 : decide (0 ≤ x5_1) = true := decide_eq_true c4
   clear c4
   by_cases c5 : ((rd_T113 l0 x5_1).f0) = x1_1
   rotate_left
   ·
    rw [if_neg c5] at H
    have c5b0 : (((rd_T113 l0 x5_1).f0) == x1_1) = false := beq_eq_false_iff_ne.mpr c5
    have c5b1 : (((rd_T113 l0 x5_1).f0) != x1_1) = true := bne_iff_ne.mpr c5
    obtain rfl := Option.some.inj H
    have p649 : 0 ≤ (x5_1 : Int) := od_
    have q649 : x5_1 < (l0.length : Int) := od_
    obtain ⟨ad649, A649_1, c649_1, e649, hx649_0, hx649_1, hl649_1, hi649_1⟩ := at_T113 HR0.out x5_1 p649 q649
    cases e649
    have HR649_1 := Aside0.mk hi649_1
    have HC649_1 := Aside0.mk hl649_1
    clear hi649_1 hl649_1
    replace p649 := eq_true p649
    replace q649 := eq_true q649
    go_wp2
    go_ret
    exact ⟨by first | rfl | (simp; done) | (simp [*]; done), by repeat (first | exact Drawn0.refl _ | apply Drawn0.step)⟩
   rw [if_pos c5] at H
   have c5b0 : (((rd_T113 l0 x5_1).f0) == x1_1) = true := beq_iff_eq.mpr c5
   have c5b1 : (((rd_T113 l0 x5_1).f0) != x1_1) = false := bne_eq_false_iff_eq.mpr c5
   clear c5
   replace H := bd_ H
   obtain ⟨t651, A6, H⟩ := H
   have HC7 := Aside0.mk H
   clear H
   have p649 : 0 ≤ (x5_1 : Int) := od_
   have q649 : x5_1 < (l0.length : Int) := od_
   obtain ⟨ad649, A649_1, c649_1, e649, hx649_0, hx649_1, hl649_1, hi649_1⟩ := at_T113 HR0.out x5_1 p649 q649
   cases e649
   have HR649_1 := Aside0.mk hi649_1
   have HC649_1 := Aside0.mk hl649_1
   clear hi649_1 hl649_1
   replace p649 := eq_true p649
   replace q649 := eq_true q649
   have p650 : 0 ≤ (x5_1 : Int) := od_
   have q650 : x5_1 < (l0.length : Int) := od_
   obtain ⟨ad650, A650_1, c650_1, e650, hx650_0, hx650_1, hl650_1, hi650_1⟩ := at_T113 HR0.out x5_1 p650 q650
   obtain rfl : ad649 = ad650 := (by injection e650)
   have HR650_1 := Aside0.mk hi650_1
   have HC650_1 := Aside0.mk hl650_1
   clear hi650_1 hl650_1
   replace p650 := eq_true p650
   replace q650 := eq_true q650
   have ea_ := Option.some.inj (hx649_1.symm.trans hx650_1)
   injection ea_ with ea_ en_ ec_
   subst ea_
   subst ec_
   clear en_
   go_upto_if 29 with (first | ((with_reducible refine gate_callee (f := 47) rfl ?_); refine goesL_ (some 27) rfl rfl Try.func47 (by kernel_rfl) rfl #[.slice A649_1 ((rd_T113 l0 x5_1).f1).length c649_1, .int .i64 (wrap64 (x1_1 + 1))] rfl la_ ?_; (with_reducible refine (laws_heldByteS.calls k1 _ _ ((rd_T113 l0 x5_1).f1) (wrap64 (x1_1 + 1)) t651 _ ?side1 ?side2 A6.out).mono ?_); (case side1 => exact qC (HR650_1.out)); (case side2 => exact HC650_1.out); rintro e w' ⟨rfl, ⟨nd, rfl⟩⟩; refine ⟨_, rfl, ?_⟩))
   (try simp only [Act.put, List.setIfInBounds_toArray, List.set_cons_zero, List.set_cons_succ])
   have H := HC7.out
   clear HC7
   by_cases c8 : t651 < 0
   ·
    rw [if_pos c8] at H
    have c8b0 : decide (t651 < 0) = true := decide_eq_true c8
    clear c8
    (first | rw [c8b0] | (simp only [i64_w, i32_w]; rw [c8b0]) | skip)
    obtain rfl := Option.some.inj H
    go_wp2
    go_ret
    exact ⟨by first | rfl | (simp; done) | (simp [*]; done), by repeat (first | exact Drawn0.refl _ | apply Drawn0.step)⟩
   rw [if_neg c8] at H
   have c8b0 : decide (t651 < 0) = false := decide_eq_false c8
   clear c8
   (first | rw [c8b0] | (simp only [i64_w, i32_w]; rw [c8b0]) | skip)
   have H' := Aside0.mk H
   clear H
   go_wp2
   go_roundg k1
   case measure => have := HK1.out; omega
   case rel => exact ⟨(t651), (wrap64 (x5_1 + 1)), eqq_, eqq_, H', ⟨by have := HK1.out; omega⟩, by repeat (first | exact Drawn0.refl _ | apply Drawn0.step)⟩

end Go.Proofs.Ytiffahfpfgnjnab.PFnExactSend
