-- Written by a program of this session (myprint.py, over the kit's print): contracts of FnCtls
import Derived.Test.YtiffahfpfgnjnaaPFnCtlsx3
import Derived.Test.YtiffahfpfgnjnaaPFnCtlsx9
namespace Go.Proofs.Ytiffahfpfgnjnaa.PFnCtls
open Go.RowKit Go.Proofs.YtiffahfpfgnjnaaW.PrintWords Go.Proofs.YtiffahfpfgnjnaaW.PrintLast Go.Proofs.YtiffahfpfgnjnaaW.PrintMore Go.Proofs.YtiffahfpfgnjnaaV
attribute [local go_sem] max2_int min2_int max_two min_two max_three min_three max_four min_four
set_option linter.unusedVariables false
set_option linter.unusedSimpArgs false

attribute [local go_sem high] eqA25 eqA27
/-! ### impl_PutItem: function 9 -/
mutual
def impl_PutItem.j0 : Nat → List Int → Bool → Int → Int → ByteArray → Int → Int → Int → ByteArray → Int → Int → Int → ByteArray → Int → Int → Int → Int → Int → Option (List Int)
 | 0, _, _, _, _, _, _, _, _, _, _, _, _, _, _, _, _, _, _ => none
 | k + 1, x3, x8, x474000, x474001, x474002, x474003, x474004, x474005, x474006, x474007, x474008, x474009, x474010, x474011, x474012, x474013, x474014, x474015 => if x8 = true then ((impl_PutWord.f x3 x474001).bind fun t479 => ((some (([(x474003) % 256] : List Int) : List Int)).bind fun y482 => (if t479.length + y482.length < 140737488355328 then ((impl_PutText.f k (t479 ++ y482) x474002).bind fun t488 => ((impl_PutWord.f t488 x474004).bind fun t491 => ((impl_putSince.f t491 x474005).bind fun t494 => ((impl_PutText.f k t494 x474006).bind fun t497 => ((impl_PutWord.f t497 x474007).bind fun t500 => ((impl_PutWord.f t500 x474008).bind fun t503 => (some t503))))))) else (none)))) else (if x474000 = 2 then ((impl_LineOk.f k x474009 x474010 x474011 x474012 x474013 x474014 x474015).bind fun t506 => (if t506 = true then (if (x474001 == 0 && (x474002.toList == ([] : List UInt8) && (x474003 == 0 && (x474004 == 0 && (x474005 == 0 && (x474006.toList == ([] : List UInt8) && (x474007 == 0 && (x474008 == 0)))))))) = true then ((impl_wordOk.f x474015).bind fun t507 => (impl_PutItem.j1 k x3 t507 x474000 x474001 x474002 x474003 x474004 x474005 x474006 x474007 x474008 x474009 x474010 x474011 x474012 x474013 x474014 x474015)) else (impl_PutItem.j1 k x3 false x474000 x474001 x474002 x474003 x474004 x474005 x474006 x474007 x474008 x474009 x474010 x474011 x474012 x474013 x474014 x474015)) else (impl_PutItem.j1 k x3 false x474000 x474001 x474002 x474003 x474004 x474005 x474006 x474007 x474008 x474009 x474010 x474011 x474012 x474013 x474014 x474015))) else (impl_PutItem.j1 k x3 false x474000 x474001 x474002 x474003 x474004 x474005 x474006 x474007 x474008 x474009 x474010 x474011 x474012 x474013 x474014 x474015))
def impl_PutItem.j1 : Nat → List Int → Bool → Int → Int → ByteArray → Int → Int → Int → ByteArray → Int → Int → Int → ByteArray → Int → Int → Int → Int → Int → Option (List Int)
 | 0, _, _, _, _, _, _, _, _, _, _, _, _, _, _, _, _, _, _ => none
 | k + 1, x3, x66, x474000, x474001, x474002, x474003, x474004, x474005, x474006, x474007, x474008, x474009, x474010, x474011, x474012, x474013, x474014, x474015 => if x66 = true then ((impl_PutWord.f x3 x474009).bind fun t508 => ((some (([(x474012) % 256] : List Int) : List Int)).bind fun y511 => (if t508.length + y511.length < 140737488355328 then ((impl_PutText.f k (t508 ++ y511) x474010).bind fun t517 => ((impl_PutWord.f t517 x474011).bind fun t520 => ((impl_putSince.f t520 x474013).bind fun t523 => ((impl_PutWord.f t523 x474014).bind fun t526 => ((impl_PutWord.f t526 x474015).bind fun t529 => (some t529)))))) else (none)))) else (some (([] : List Int)))
end
def impl_PutItem.f (k : Nat) (a0_0 : Int) (a0_1 : Int) (a0_2 : ByteArray) (a0_3 : Int) (a0_4 : Int) (a0_5 : Int) (a0_6 : ByteArray) (a0_7 : Int) (a0_8 : Int) (a0_9 : Int) (a0_10 : ByteArray) (a0_11 : Int) (a0_12 : Int) (a0_13 : Int) (a0_14 : Int) (a0_15 : Int) : Option (List Int) := (some (([(a0_0) % 256] : List Int) : List Int)).bind fun y474 => (if a0_0 = 1 then ((impl_AskerOk.f k a0_1 a0_2 a0_3 a0_4 a0_5 a0_6 a0_7 a0_8).bind fun t477 => (if t477 = true then (if (a0_9 == 0 && (a0_10.toList == ([] : List UInt8) && (a0_11 == 0 && (a0_12 == 0 && (a0_13 == 0 && (a0_14 == 0 && (a0_15 == 0))))))) = true then ((impl_wordOk.f a0_8).bind fun t478 => (impl_PutItem.j0 k y474 t478 a0_0 a0_1 a0_2 a0_3 a0_4 a0_5 a0_6 a0_7 a0_8 a0_9 a0_10 a0_11 a0_12 a0_13 a0_14 a0_15)) else (impl_PutItem.j0 k y474 false a0_0 a0_1 a0_2 a0_3 a0_4 a0_5 a0_6 a0_7 a0_8 a0_9 a0_10 a0_11 a0_12 a0_13 a0_14 a0_15)) else (impl_PutItem.j0 k y474 false a0_0 a0_1 a0_2 a0_3 a0_4 a0_5 a0_6 a0_7 a0_8 a0_9 a0_10 a0_11 a0_12 a0_13 a0_14 a0_15))) else (impl_PutItem.j0 k y474 false a0_0 a0_1 a0_2 a0_3 a0_4 a0_5 a0_6 a0_7 a0_8 a0_9 a0_10 a0_11 a0_12 a0_13 a0_14 a0_15))
theorem impl_PutItem.mono_l : ∀ k, (∀ y0 y1 y2 y3 y4 y5 y6 y7 y8 y9 y10 y11 y12 y13 y14 y15 y16 y17, LeO (impl_PutItem.j0 k y0 y1 y2 y3 y4 y5 y6 y7 y8 y9 y10 y11 y12 y13 y14 y15 y16 y17) (impl_PutItem.j0 (k + 1) y0 y1 y2 y3 y4 y5 y6 y7 y8 y9 y10 y11 y12 y13 y14 y15 y16 y17)) ∧ (∀ y0 y1 y2 y3 y4 y5 y6 y7 y8 y9 y10 y11 y12 y13 y14 y15 y16 y17, LeO (impl_PutItem.j1 k y0 y1 y2 y3 y4 y5 y6 y7 y8 y9 y10 y11 y12 y13 y14 y15 y16 y17) (impl_PutItem.j1 (k + 1) y0 y1 y2 y3 y4 y5 y6 y7 y8 y9 y10 y11 y12 y13 y14 y15 y16 y17))
 | 0 => ⟨fun _ _ _ _ _ _ _ _ _ _ _ _ _ _ _ _ _ _ r h => by simp [impl_PutItem.j0] at h, fun _ _ _ _ _ _ _ _ _ _ _ _ _ _ _ _ _ _ r h => by simp [impl_PutItem.j1] at h⟩
 | k + 1 => by
  obtain ⟨ih0, ih1⟩ := impl_PutItem.mono_l k
  refine ⟨?_, ?_⟩
  ·
   intro y0 y1 y2 y3 y4 y5 y6 y7 y8 y9 y10 y11 y12 y13 y14 y15 y16 y17
   unfold impl_PutItem.j0
   have m0 := @impl_AskerOk.mono; have m1 := @impl_LineOk.mono; have m2 := @impl_PutText.mono; exact mo_
  ·
   intro y0 y1 y2 y3 y4 y5 y6 y7 y8 y9 y10 y11 y12 y13 y14 y15 y16 y17
   unfold impl_PutItem.j1
   have m0 := @impl_AskerOk.mono; have m1 := @impl_LineOk.mono; have m2 := @impl_PutText.mono; exact mo_
theorem impl_PutItem.mono : ∀ a0 a1 a2 a3 a4 a5 a6 a7 a8 a9 a10 a11 a12 a13 a14 a15 k, LeO (impl_PutItem.f k a0 a1 a2 a3 a4 a5 a6 a7 a8 a9 a10 a11 a12 a13 a14 a15) (impl_PutItem.f (k + 1) a0 a1 a2 a3 a4 a5 a6 a7 a8 a9 a10 a11 a12 a13 a14 a15) := by
 intro a0 a1 a2 a3 a4 a5 a6 a7 a8 a9 a10 a11 a12 a13 a14 a15 k
 obtain ⟨ih0, ih1⟩ := impl_PutItem.mono_l k
 unfold impl_PutItem.f
 have m0 := @impl_AskerOk.mono; have m1 := @impl_LineOk.mono; have m2 := @impl_PutText.mono; exact mo_
def impl_PutItem.T3 : Bool × List (List Nat × List Nat) := (true, [([], []), ([], []), ([1], [1]), ([2], [2]), ([0, 3], [0, 3]), ([], []), ([5], [5]), ([6], [6]), ([7], [7]), ([8], [8]), ([4, 9, 4], [4, 9]), ([], []), ([11], [11]), ([12], [12]), ([10, 13, 10], [10, 13]), ([14, 14, 0, 1, 2, 3, 4, 5, 6, 7, 8, 9, 10, 11, 12, 13, 14], [0, 14])])
def impl_PutItem.B3 : List Nat := [0, 0, 2, 6, 15, 0, 32, 96, 224, 480, 1023, 0, 2048, 6144, 16383, 32767]
theorem impl_PutItem.tab3 : rtab .any (opsOf Try.f9 3) = impl_PutItem.T3 := by kernel_rfl
theorem impl_PutItem.bits3 : waitsOk impl_PutItem.T3.2 impl_PutItem.B3 = true := by kernel_rfl
def impl_PutItem.T4 : Bool × List (List Nat × List Nat) := (true, [([], []), ([], []), ([1], [1]), ([2], [2]), ([0, 3], [0, 3]), ([], []), ([5], [5]), ([6], [6]), ([4, 7, 4], [4, 7]), ([], []), ([9], [9]), ([10], [10]), ([8, 11, 8], [8, 11]), ([12, 12, 0, 1, 2, 3, 4, 5, 6, 7, 8, 9, 10, 11, 12], [0, 12])])
def impl_PutItem.B4 : List Nat := [0, 0, 2, 6, 15, 0, 32, 96, 255, 0, 512, 1536, 4095, 8191]
theorem impl_PutItem.tab4 : rtab .any (opsOf Try.f9 4) = impl_PutItem.T4 := by kernel_rfl
theorem impl_PutItem.bits4 : waitsOk impl_PutItem.T4.2 impl_PutItem.B4 = true := by kernel_rfl
def impl_PutItem.T5 : Bool × List (List Nat × List Nat) := (true, [([], []), ([], []), ([1], [1]), ([2], [2]), ([0, 3], [0, 3]), ([], []), ([5], [5]), ([6], [6]), ([4, 7, 4], [4, 7]), ([8, 8, 0, 1, 2, 3, 4, 5, 6, 7, 8], [8])])
def impl_PutItem.B5 : List Nat := [0, 0, 2, 6, 15, 0, 32, 96, 255, 511]
theorem impl_PutItem.tab5 : rtab .any (opsOf Try.f9 5) = impl_PutItem.T5 := by kernel_rfl
theorem impl_PutItem.bits5 : waitsOk impl_PutItem.T5.2 impl_PutItem.B5 = true := by kernel_rfl
def impl_PutItem.T7 : Bool × List (List Nat × List Nat) := (true, [([], []), ([], []), ([1], [1]), ([2], [2]), ([0, 3], [0, 3]), ([], []), ([5], [5]), ([6], [6]), ([7], [7]), ([8], [8]), ([4, 9, 4], [4, 9]), ([], []), ([11], [11]), ([12], [12]), ([10, 13, 10], [10, 13]), ([14, 14, 0, 1, 2, 3, 4, 5, 6, 7, 8, 9, 10, 11, 12, 13, 14], [0, 14])])
def impl_PutItem.B7 : List Nat := [0, 0, 2, 6, 15, 0, 32, 96, 224, 480, 1023, 0, 2048, 6144, 16383, 32767]
theorem impl_PutItem.tab7 : rtab .any (opsOf Try.f9 7) = impl_PutItem.T7 := by kernel_rfl
theorem impl_PutItem.bits7 : waitsOk impl_PutItem.T7.2 impl_PutItem.B7 = true := by kernel_rfl
def impl_PutItem.T8 : Bool × List (List Nat × List Nat) := (true, [([], []), ([], []), ([1], [1]), ([2], [2]), ([0, 3], [0, 3]), ([], []), ([5], [5]), ([6], [6]), ([4, 7, 4], [4, 7]), ([8, 8, 0, 1, 2, 3, 4, 5, 6, 7, 8], [0, 8])])
def impl_PutItem.B8 : List Nat := [0, 0, 2, 6, 15, 0, 32, 96, 255, 511]
theorem impl_PutItem.tab8 : rtab .any (opsOf Try.f9 8) = impl_PutItem.T8 := by kernel_rfl
theorem impl_PutItem.bits8 : waitsOk impl_PutItem.T8.2 impl_PutItem.B8 = true := by kernel_rfl
def impl_PutItem.T9 : Bool × List (List Nat × List Nat) := (true, [([], []), ([], []), ([1], [1]), ([2], [2]), ([0, 3], [0, 3]), ([], []), ([5], [5]), ([6], [6]), ([4, 7, 4], [4, 7]), ([8, 8, 0, 1, 2, 3, 4, 5, 6, 7, 8], [8])])
def impl_PutItem.B9 : List Nat := [0, 0, 2, 6, 15, 0, 32, 96, 255, 511]
theorem impl_PutItem.tab9 : rtab .any (opsOf Try.f9 9) = impl_PutItem.T9 := by kernel_rfl
theorem impl_PutItem.bits9 : waitsOk impl_PutItem.T9.2 impl_PutItem.B9 = true := by kernel_rfl
set_option maxHeartbeats 8000000 in
set_option maxRecDepth 100000 in
theorem impl_PutItem.calls (k : Nat) (a0_0 : Int) (a0_1 : Int) (a0_2 : ByteArray) (a0_3 : Int) (a0_4 : Int) (a0_5 : Int) (a0_6 : ByteArray) (a0_7 : Int) (a0_8 : Int) (a0_9 : Int) (a0_10 : ByteArray) (a0_11 : Int) (a0_12 : Int) (a0_13 : Int) (a0_14 : Int) (a0_15 : Int) (r : List Int) (w : World) (h : impl_PutItem.f k a0_0 a0_1 a0_2 a0_3 a0_4 a0_5 a0_6 a0_7 a0_8 a0_9 a0_10 a0_11 a0_12 a0_13 a0_14 a0_15 = some r) :
  Calls Try.prog 9 #[.agg #[.int .i64 a0_0, .int .i64 a0_1, .string a0_2, .int .i64 a0_3, .int .i64 a0_4, .int .i64 a0_5, .string a0_6, .int .i64 a0_7, .int .i64 a0_8, .int .i64 a0_9, .string a0_10, .int .i64 a0_11, .int .i64 a0_12, .int .i64 a0_13, .int .i64 a0_14, .int .i64 a0_15]] w fun e w' => ∃ v0_ : Value, e = .returned (v0_) ∧ Kd.R (Kd.int .u8) 5 w' w.heap.size (fun _ => True) v0_ r ∧ Below w.heap.size w w' := by
 have hu29 := Try.underlying29
 have hu25 := Try.underlying25
 have hu27 := Try.underlying27
 have HB := Aside0.mk (Below.refl w.heap.size w)
 have H := h
 unfold impl_PutItem.f at H
 clear h
 replace H := my_ (([(a0_0) % 256] : List Int)) H
 obtain ⟨y474, Ny474, H⟩ := H
 (try dsimp only at H)
 have HC2 := am_ H
 clear H
 go_enter Try.func9, Try.ntmps9
 go_upto_region 2 with (first | (refine gd_ 1 rfl ?_; refine bx_ (N := 1) (cs := #[.int .i64 a0_0, .int .i64 a0_1, .string a0_2, .int .i64 a0_3, .int .i64 a0_4, .int .i64 a0_5, .string a0_6, .int .i64 a0_7, .int .i64 a0_8, .int .i64 a0_9, .string a0_10, .int .i64 a0_11, .int .i64 a0_12, .int .i64 a0_13, .int .i64 a0_14, .int .i64 a0_15]) (t := 29) ?_; intro gb473 hg w3 hbox hb; have BK473 := am_ (hbox); have GW473 := gA_ hg HB; have GE473 := GW473; have IGE473 := gI_ GE473; replace HB := bS_ HB hb; clear hb hbox hg; (try clear zK473); have zK473 := cf16 BK473.out) | (refine gd_ 7 rfl ?_; refine l8_ 5 7 ([(a0_0) % 256] : List Int) [.int .u8 ((a0_0) % 256)] ?_; intro v475 w5 ho6 hb hg_ hnew_; clear hg_ hnew_; (first | rw [← Ny474.out] at ho6 | (simp only [Int.reduceToNat] at ho6; rw [← Ny474.out] at ho6)); have HO476 := am_ (Kd.R_lower ho6 (below_size (qB HB))); replace BK473 := bK_ BK473 hb; replace HB := bS_ HB hb; clear hb ho6))
 (try simp only [Act.put, List.setIfInBounds_toArray, List.set_cons_zero, List.set_cons_succ])
 go_cut [8] (fun v8 wc => ∃ (kq : Nat) (x8_1 : Bool), v8 = .bool x8_1 ∧ Aside0 (impl_PutItem.j0 kq y474 x8_1 a0_0 a0_1 a0_2 a0_3 a0_4 a0_5 a0_6 a0_7 a0_8 a0_9 a0_10 a0_11 a0_12 a0_13 a0_14 a0_15 = some r) ∧ Aside0 (kq ≤ k) ∧ Aside0 (Kd.R (Kd.int .u8) 5 wc w.heap.size (fun _ => True) v475 y474) ∧ Aside0 (wc.heap[gb473]? = some (.cells #[.int .i64 a0_0, .int .i64 a0_1, .string a0_2, .int .i64 a0_3, .int .i64 a0_4, .int .i64 a0_5, .string a0_6, .int .i64 a0_7, .int .i64 a0_8, .int .i64 a0_9, .string a0_10, .int .i64 a0_11, .int .i64 a0_12, .int .i64 a0_13, .int .i64 a0_14, .int .i64 a0_15] 29 (0, 0))) ∧ Aside0 (Below w.heap.size w wc))
 case first =>
  have H := HC2.out
  clear HC2
  replace H := ie_ H
  obtain ⟨-, H, c7b0, c7b1⟩ | ⟨c7, H, c7b0, c7b1⟩ := H
  rotate_left
  ·
   (first | rw [c7b0] | rw [c7b1] | (simp only [i64_w, i32_w]; rw [c7b0]) | skip)
   have H' := Aside0.mk H
   clear H
   (try clear zK473)
   have zK473 := cf16 BK473.out
   go_wp2
   go_meet
   case rel => exact ⟨_, (false), eqq_, H', ⟨by first | omega | exact Nat.le_refl _⟩, ⟨qR HO476⟩, ⟨qK BK473⟩, ⟨qB HB⟩⟩
  (first | rw [c7b0] | rw [c7b1] | (simp only [i64_w, i32_w]; rw [c7b0]) | skip)
  replace H := bd_ H
  obtain ⟨t477, A8, H⟩ := H
  by_cases c9 : t477 = true
  rotate_left
  ·
   replace c9 := nf_ c9
   subst c9
   rw [if_neg (show ¬ (false = true) by decide)] at H
   have H' := Aside0.mk H
   clear H
   (try clear zK473)
   have zK473 := cf16 BK473.out
   go_wp2_with (first | (go_at_call 16; (with_reducible refine (impl_AskerOk.calls k a0_1 a0_2 a0_3 a0_4 a0_5 a0_6 a0_7 a0_8 false _ A8.out).mono ?_); rintro e w19 ⟨rfl, hb⟩; replace HO476 := rB_ HO476 hb; replace BK473 := bK_ BK473 hb; replace HB := bS_ HB hb; (try clear hb)))
   go_meet
   case rel => exact ⟨_, (false), eqq_, H', ⟨by first | omega | exact Nat.le_refl _⟩, ⟨qR HO476⟩, ⟨qK BK473⟩, ⟨qB HB⟩⟩
  subst c9
  rw [if_pos rfl] at H
  replace H := id_ H
  obtain ⟨c10, H, -⟩ | ⟨c10, H, -⟩ := H
  ·
   have c10b0 : (a0_9 == 0 && (a0_10.toList == ([] : List UInt8) && (a0_11 == 0 && (a0_12 == 0 && (a0_13 == 0 && (a0_14 == 0 && (a0_15 == 0))))))) = true := c10
   (try (have c10b0e := c10b0; simp only [beq_nil, bne_nil] at c10b0e))
   (try (have c10b1 : decide (a0_9 = 0 && (a0_10.toList == ([] : List UInt8) && (a0_11 == 0 && (a0_12 == 0 && (a0_13 == 0 && (a0_14 == 0 && (a0_15 == 0))))))) = true := by simpa using c10))
   (try (have c10b1e := c10b1; simp only [beq_nil, bne_nil] at c10b1e))
   (try (have c10b2 : (a0_9 == 0 && (a0_10.toList == ([] : List UInt8) && (a0_11 == 0 && (a0_12 == 0 && (a0_13 == 0 && (a0_14 == 0 && (a0_15 == 0))))))) = true := by simpa using c10))
   (try (have c10b2e := c10b2; simp only [beq_nil, bne_nil] at c10b2e))
   clear c10
   replace H := bd_ H
   obtain ⟨t478, A11, H⟩ := H
   have H' := Aside0.mk H
   clear H
   (try clear zK473)
   have zK473 := cf16 BK473.out
   go_wp2_with (first | (go_at_call 16; (with_reducible refine (impl_AskerOk.calls k a0_1 a0_2 a0_3 a0_4 a0_5 a0_6 a0_7 a0_8 true _ A8.out).mono ?_); rintro e w13 ⟨rfl, hb⟩; replace HO476 := rB_ HO476 hb; replace BK473 := bK_ BK473 hb; replace HB := bS_ HB hb; (try clear hb); (try clear zK473); have zK473 := cf16 BK473.out) | (go_at_call 65; (with_reducible refine (impl_wordOk.calls a0_8 t478 _ A11.out).mono ?_); rintro e w' ⟨rfl, ⟨nd, rfl⟩⟩))
   go_meet
   case rel => exact ⟨_, (t478), eqq_, H', ⟨by first | omega | exact Nat.le_refl _⟩, ⟨qR HO476⟩, ⟨qK BK473⟩, ⟨qB HB⟩⟩
  have c10b0 : (a0_9 == 0 && (a0_10.toList == ([] : List UInt8) && (a0_11 == 0 && (a0_12 == 0 && (a0_13 == 0 && (a0_14 == 0 && (a0_15 == 0))))))) = false := by simpa using c10
  (try (have c10b0e := c10b0; simp only [beq_nil, bne_nil] at c10b0e))
  (try (have c10b1 : decide (a0_9 = 0 && (a0_10.toList == ([] : List UInt8) && (a0_11 == 0 && (a0_12 == 0 && (a0_13 == 0 && (a0_14 == 0 && (a0_15 == 0))))))) = false := by simpa using c10))
  (try (have c10b1e := c10b1; simp only [beq_nil, bne_nil] at c10b1e))
  (try (have c10b2 : (a0_9 == 0 && (a0_10.toList == ([] : List UInt8) && (a0_11 == 0 && (a0_12 == 0 && (a0_13 == 0 && (a0_14 == 0 && (a0_15 == 0))))))) = false := by simpa using c10))
  (try (have c10b2e := c10b2; simp only [beq_nil, bne_nil] at c10b2e))
  (try (have c10b3 : ¬ (a0_9 = 0 && (a0_10.toList == ([] : List UInt8) && (a0_11 == 0 && (a0_12 == 0 && (a0_13 == 0 && (a0_14 == 0 && (a0_15 == 0))))))) := by simpa using c10))
  (try (have c10b3e := c10b3; simp only [beq_nil, bne_nil] at c10b3e))
  clear c10
  have H' := Aside0.mk H
  clear H
  (try clear zK473)
  have zK473 := cf16 BK473.out
  go_wp2_with (first | (go_at_call 16; (with_reducible refine (impl_AskerOk.calls k a0_1 a0_2 a0_3 a0_4 a0_5 a0_6 a0_7 a0_8 true _ A8.out).mono ?_); rintro e w16 ⟨rfl, hb⟩; replace HO476 := rB_ HO476 hb; replace BK473 := bK_ BK473 hb; replace HB := bS_ HB hb; (try clear hb); (try clear zK473); have zK473 := cf16 BK473.out))
  go_meet
  case rel => exact ⟨_, (false), eqq_, H', ⟨by first | omega | exact Nat.le_refl _⟩, ⟨qR HO476⟩, ⟨qK BK473⟩, ⟨qB HB⟩⟩
 case rest =>
  clear HC2
  try clear c1
  try clear p2
  try clear c7
  try clear c7b0
  try clear c7b1
  try clear c9
  try clear c10
  try clear c10b0
  try clear c10b1
  try clear c10b2
  (try clear zK473)
  (try clear zK473)
  (try clear zK473)
  (try clear zK473)
  (try clear zK473)
  (try clear zK473)
  (try clear zK473)
  (try clear fK473)
  (try clear fK473)
  (try clear fK473)
  (try clear fK473)
  (try clear fK473)
  (try clear fK473)
  (try clear fK473)
  obtain ⟨kq, x8_1, rfl, HA, HJ1, HO_3, BK473, HB⟩ := hcut
  cases kq with
  | zero => exact absurd HA.out (by simp [impl_PutItem.j0])
  | succ kj1 =>
   have H := HA.out
   clear HA
   simp only [impl_PutItem.j0] at H
   by_cases c21 : x8_1 = true
   ·
    subst c21
    rw [if_pos rfl] at H
    replace H := bd_ H
    obtain ⟨t479, A22, H⟩ := H
    replace H := my_ (([(a0_3) % 256] : List Int)) H
    obtain ⟨y482, Ny482, H⟩ := H
    (try dsimp only at H)
    replace H := ip_ H
    obtain ⟨c23, H, -⟩ := H
    have LMc23 := am_ c23
    clear c23
    obtain ⟨y485, hy485⟩ : ∃ y_ : List Int, y_ = (t479 ++ y482) := ⟨_, rfl⟩
    replace H : ((impl_PutText.f kj1 y485 a0_2).bind fun t488 => ((impl_PutWord.f t488 a0_4).bind fun t491 => ((impl_putSince.f t491 a0_5).bind fun t494 => ((impl_PutText.f kj1 t494 a0_6).bind fun t497 => ((impl_PutWord.f t497 a0_7).bind fun t500 => ((impl_PutWord.f t500 a0_8).bind fun t503 => (some t503))))))) = some r := by first | (rw [hy485]; with_reducible exact H) | (have H2_ := (Option.bind_some _ _).symm.trans H; rw [hy485]; with_reducible exact H2_) | (have H2_ := (Option.bind_some _ _).symm.trans H; with_reducible exact H2_) | with_reducible exact H | (rw [hy485]; exact H) | exact H
    have Ny485 := am_ hy485
    clear hy485
    replace H := bd_ H
    obtain ⟨t488, A24, H⟩ := H
    replace H := bd_ H
    obtain ⟨t491, A25, H⟩ := H
    replace H := bd_ H
    obtain ⟨t494, A26, H⟩ := H
    replace H := bd_ H
    obtain ⟨t497, A27, H⟩ := H
    replace H := bd_ H
    obtain ⟨t500, A28, H⟩ := H
    replace H := bd_ H
    obtain ⟨t503, A29, H⟩ := H
    obtain rfl := si_ H
    obtain ⟨Ao30, co30, eo30⟩ := Kd.R_slice HO_3.out
    subst eo30
    try go_wp2
    replace HO_3 := am_ (Kd.R_drew HO_3.out)
    replace BK473 := am_ (blk_drew BK473.out)
    replace HB := am_ (below_drew1 HB.out)
    refine start_ (n := 16) (S := fun w' => w'.cell? ⟨gb473, 0, none⟩ = some (.int .i64 a0_0) ∧ w'.cell? ⟨gb473, 1, none⟩ = some (.int .i64 a0_1) ∧ w'.cell? ⟨gb473, 2, none⟩ = some (.string a0_2) ∧ w'.cell? ⟨gb473, 3, none⟩ = some (.int .i64 a0_3) ∧ w'.cell? ⟨gb473, 4, none⟩ = some (.int .i64 a0_4) ∧ w'.cell? ⟨gb473, 5, none⟩ = some (.int .i64 a0_5) ∧ w'.cell? ⟨gb473, 6, none⟩ = some (.string a0_6) ∧ w'.cell? ⟨gb473, 7, none⟩ = some (.int .i64 a0_7) ∧ w'.cell? ⟨gb473, 8, none⟩ = some (.int .i64 a0_8) ∧ w'.cell? ⟨gb473, 9, none⟩ = some (.int .i64 a0_9) ∧ w'.cell? ⟨gb473, 10, none⟩ = some (.string a0_10) ∧ w'.cell? ⟨gb473, 11, none⟩ = some (.int .i64 a0_11) ∧ w'.cell? ⟨gb473, 12, none⟩ = some (.int .i64 a0_12) ∧ w'.cell? ⟨gb473, 13, none⟩ = some (.int .i64 a0_13) ∧ w'.cell? ⟨gb473, 14, none⟩ = some (.int .i64 a0_14) ∧ w'.cell? ⟨gb473, 15, none⟩ = some (.int .i64 a0_15)) (ds := []) (rl [0,16]) (by kernel_rfl) rfl rfl (cz16 BK473.out) (fun hHeld => ?_); refine with_tabW impl_PutItem.tab3 impl_PutItem.bits3 (fun HT_ HW_ => ?_)
    generalize wc.drew = w31 at HO_3 BK473 HB hHeld ⊢
    refine pq_ 0 29 HT_ (rl [1,15]) ?_
    refine pq_ 1 30 HT_ (rl [2,14]) ?_
    refine pq_ 2 31 HT_ (rl [3,13]) ?_
    refine pq_ 5 34 HT_ (rl [3,2,1,10]) ?_
    refine pq_ 6 35 HT_ (rl [3,2,2,9]) ?_
    refine pq_ 11 40 HT_ (rl [3,2,2,4,1,4]) ?_
    refine pq_ 12 41 HT_ (rl [3,2,2,4,2,3]) ?_
    refine tz_ (i := 3) (N := some 32) HT_ HW_ (rl [4,1,2,4,2,3]) rfl rfl hHeld ?_
    refine tz_ (i := 7) (N := some 36) HT_ HW_ (rl [4,1,3,3,2,3]) rfl rfl hHeld ?_
    refine pq_ 8 37 HT_ (rl [4,1,4,2,2,3]) ?_
    refine tz_ (i := 13) (N := some 42) HT_ HW_ (rl [4,1,4,2,3,2]) rfl rfl hHeld ?_
    refine join_ (σ := Value × Value) 3 (rl [10,1,3,2]) (fun s_ => [(33, s_.1), (38, s_.2)]) (fun s_ w' => (w'.cell? ⟨gb473, 0, none⟩ = some (.int .i64 a0_0) ∧ w'.cell? ⟨gb473, 1, none⟩ = some (.int .i64 a0_1) ∧ w'.cell? ⟨gb473, 2, none⟩ = some (.string a0_2) ∧ w'.cell? ⟨gb473, 3, none⟩ = some (.int .i64 a0_3) ∧ w'.cell? ⟨gb473, 4, none⟩ = some (.int .i64 a0_4) ∧ w'.cell? ⟨gb473, 5, none⟩ = some (.int .i64 a0_5) ∧ w'.cell? ⟨gb473, 6, none⟩ = some (.string a0_6) ∧ w'.cell? ⟨gb473, 7, none⟩ = some (.int .i64 a0_7) ∧ w'.cell? ⟨gb473, 8, none⟩ = some (.int .i64 a0_8) ∧ w'.cell? ⟨gb473, 9, none⟩ = some (.int .i64 a0_9) ∧ w'.cell? ⟨gb473, 10, none⟩ = some (.string a0_10) ∧ w'.cell? ⟨gb473, 11, none⟩ = some (.int .i64 a0_11) ∧ w'.cell? ⟨gb473, 12, none⟩ = some (.int .i64 a0_12) ∧ w'.cell? ⟨gb473, 13, none⟩ = some (.int .i64 a0_13) ∧ w'.cell? ⟨gb473, 14, none⟩ = some (.int .i64 a0_14) ∧ w'.cell? ⟨gb473, 15, none⟩ = some (.int .i64 a0_15)) ∧ (Kd.R (Kd.int .u8) 5 w' w.heap.size (fun k_ => some k_ ≠ (s_.2 : Value).ownBlock ∧ nb Ao30 y474.length co30 k_) s_.1 t479) ∧ (Kd.R (Kd.int .u8) 5 w' w.heap.size (fun k_ => some k_ ≠ (s_.1 : Value).ownBlock ∧ nb Ao30 y474.length co30 k_) s_.2 y482) ∧ (Kd.R (Kd.int .u8) 5 w' w.heap.size (fun k_ => some k_ ≠ (s_.1 : Value).ownBlock ∧ some k_ ≠ (s_.2 : Value).ownBlock) (.slice Ao30 y474.length co30) y474) ∧ (w'.heap[gb473]? = some (.cells #[.int .i64 a0_0, .int .i64 a0_1, .string a0_2, .int .i64 a0_3, .int .i64 a0_4, .int .i64 a0_5, .string a0_6, .int .i64 a0_7, .int .i64 a0_8, .int .i64 a0_9, .string a0_10, .int .i64 a0_11, .int .i64 a0_12, .int .i64 a0_13, .int .i64 a0_14, .int .i64 a0_15] 29 (0, 0))) ∧ (Below w.heap.size w w')) ?_ ?_
    rotate_left
    ·
     intro hCont
     refine two_ (i := 4) (j := 9) (Ni := some 33) (Nj := some 38) (rl [9,2,3,2]) (rl [4,1,5,1,3,2]) rfl rfl rfl rfl (two_of HT_.out (by kernel_rfl)) (by decide) (by decide) (fun K hK => ?_) (fun K hK => ?_)
     ·
      skip
      refine goes_ Try.func67 (by kernel_rfl) rfl #[.slice Ao30 y474.length co30, .int .i64 a0_1] (by rfl) rfl rfl la_ ?_
      with_reducible refine (impl_PutWord.calls _ _ y474 a0_1 t479 _ (rC_ HO_3) ?side2 A22.out).mono ?_
      (case side2 => exact (rL_ HO_3))
      rintro e w32 ⟨v480, rfl, ho0, hb⟩
      refine ⟨_, rfl, ?_⟩
      have HO481 := am_ (Kd.R_lower (Kd.R_new' ho0 (Kd.R_lt (qR HO_3))) (below_size (qB HB)))
      replace HO_3 := eA_ HO_3 ho0 hb
      replace BK473 := bK_ BK473 hb
      replace HB := bS_ HB hb
      (try clear hb ho0)
      refine hK.out _ _ (cz16 BK473.out) (fun hHeld => ?_)
      clear hK K
      refine nm_ (some 33) ?_
      refine on_ HT_ (i := 9) (N := some 38) (rl [10,1,3,2]) (fun K hK => ?_)
      refine l8s_ 5 38 ([(a0_3) % 256] : List Int) [.int .u8 ((a0_3) % 256)] ?_
      intro v483 w33 ho34 hb hg_ hnew_
      clear hg_ hnew_
      (first | rw [← Ny482.out] at ho34 | (simp only [Int.reduceToNat] at ho34; rw [← Ny482.out] at ho34))
      have HO484 := am_ (Kd.R_lower (Kd.R_new' (Kd.R_new' ho34 (Kd.R_lt (qR HO_3))) (Kd.R_lt (qR HO481))) (below_size (qB HB)))
      replace HO_3 := eA_ HO_3 ho34 hb
      replace HO481 := eA_ HO481 ho34 hb
      replace BK473 := bK_ BK473 hb
      replace HB := bS_ HB hb
      clear hb ho34
      refine hK.out _ _ (cz16 BK473.out) (fun hHeld => ?_)
      clear hK K
      refine nm_ (some 38) ?_
      exact nr_ (hCont (v480, v483) _ ⟨hHeld, (xR1_ HO481), (xR1_ HO484), (xR1_ HO_3), (qK BK473), (qB HB)⟩)
     ·
      skip
      refine l8s_ 5 38 ([(a0_3) % 256] : List Int) [.int .u8 ((a0_3) % 256)] ?_
      intro v483 w32 ho33 hb hg_ hnew_
      clear hg_ hnew_
      (first | rw [← Ny482.out] at ho33 | (simp only [Int.reduceToNat] at ho33; rw [← Ny482.out] at ho33))
      have HO484 := am_ (Kd.R_lower (Kd.R_new' ho33 (Kd.R_lt (qR HO_3))) (below_size (qB HB)))
      replace HO_3 := eA_ HO_3 ho33 hb
      replace BK473 := bK_ BK473 hb
      replace HB := bS_ HB hb
      clear hb ho33
      refine hK.out _ _ (cz16 BK473.out) (fun hHeld => ?_)
      clear hK K
      refine nm_ (some 38) ?_
      refine on_ HT_ (i := 4) (N := some 33) (rl [10,1,3,2]) (fun K hK => ?_)
      refine goes_ Try.func67 (by kernel_rfl) rfl #[.slice Ao30 y474.length co30, .int .i64 a0_1] (by rfl) rfl rfl la_ ?_
      with_reducible refine (impl_PutWord.calls _ _ y474 a0_1 t479 _ (rC_ HO_3) ?side2 A22.out).mono ?_
      (case side2 => exact (rL_ HO_3))
      rintro e w34 ⟨v480, rfl, ho0, hb⟩
      refine ⟨_, rfl, ?_⟩
      have HO481 := am_ (Kd.R_lower (Kd.R_new' (Kd.R_new' ho0 (Kd.R_lt (qR HO_3))) (Kd.R_lt (qR HO484))) (below_size (qB HB)))
      replace HO_3 := eA_ HO_3 ho0 hb
      replace HO484 := eA_ HO484 ho0 hb
      replace BK473 := bK_ BK473 hb
      replace HB := bS_ HB hb
      (try clear hb ho0)
      refine hK.out _ _ (cz16 BK473.out) (fun hHeld => ?_)
      clear hK K
      refine nm_ (some 33) ?_
      exact nr_ (hCont (v480, v483) _ ⟨hHeld, (xR1_ HO481), (xR1_ HO484), (xR1_ HO_3), (qK BK473), (qB HB)⟩)
    rintro ⟨v480, v483⟩ w35 ⟨hS_, h0_, h1_, h2_, h3_, h4_⟩
    (try dsimp only at h0_ h1_ h2_ h3_ h4_)
    have n0_ := am_ h0_
    have n1_ := am_ h1_
    have n2_ := am_ h2_
    have n3_ := am_ h3_
    have n4_ := am_ h4_
    clear HO_3
    clear BK473
    clear HB
    clear h0_ h1_ h2_ h3_ h4_
    have HO481 := n0_
    have HO484 := n1_
    have HO_3 := n2_
    have BK473 := n3_
    have HB := n4_
    clear n0_ n1_ n2_ n3_ n4_
    have hHeld : w35.cell? ⟨gb473, 0, none⟩ = some (.int .i64 a0_0) ∧ w35.cell? ⟨gb473, 1, none⟩ = some (.int .i64 a0_1) ∧ w35.cell? ⟨gb473, 2, none⟩ = some (.string a0_2) ∧ w35.cell? ⟨gb473, 3, none⟩ = some (.int .i64 a0_3) ∧ w35.cell? ⟨gb473, 4, none⟩ = some (.int .i64 a0_4) ∧ w35.cell? ⟨gb473, 5, none⟩ = some (.int .i64 a0_5) ∧ w35.cell? ⟨gb473, 6, none⟩ = some (.string a0_6) ∧ w35.cell? ⟨gb473, 7, none⟩ = some (.int .i64 a0_7) ∧ w35.cell? ⟨gb473, 8, none⟩ = some (.int .i64 a0_8) ∧ w35.cell? ⟨gb473, 9, none⟩ = some (.int .i64 a0_9) ∧ w35.cell? ⟨gb473, 10, none⟩ = some (.string a0_10) ∧ w35.cell? ⟨gb473, 11, none⟩ = some (.int .i64 a0_11) ∧ w35.cell? ⟨gb473, 12, none⟩ = some (.int .i64 a0_12) ∧ w35.cell? ⟨gb473, 13, none⟩ = some (.int .i64 a0_13) ∧ w35.cell? ⟨gb473, 14, none⟩ = some (.int .i64 a0_14) ∧ w35.cell? ⟨gb473, 15, none⟩ = some (.int .i64 a0_15) := hS_
    obtain ⟨Ao37, co37, eo37⟩ := Kd.R_slice HO484.out
    (first | subst eo37 | (injection eo37 with f1_ f2_ f3_; have f4_ := f1_.symm; have f5_ := f3_.symm; clear f1_ f2_ f3_; subst f4_; subst f5_))
    refine norm_ (a' := ?_) ?_ ?_
    rotate_left
    ·
     simp only [putAll, Act.put, List.setIfInBounds_toArray, List.set_cons_zero, List.set_cons_succ]
     rfl
    refine on_ HT_ (i := 10) (N := some 39) (rl [14,2]) (fun K hK => ?_)
    refine Kd.R_append_rows_step (Kd.int .u8) (w0 := w) w.heap.size (by rfl) (.tmp 33) (.tmp 38) 22 5 (.int .u8 0) 1 rfl Try.underlying22 info5 rfl (by decide) (by omega) v480 t479 y482 _ _ _ (fun k_ => nb Ao30 y474.length co30 k_ ∧ nb Ao37 y482.length co37 k_) (fun _ => False) rfl rfl ?aO ?aR (fun _ _ h => h) (fun _ h => h.elim) ?aF ?aB ?aS ?aL ?_
    (case aR => exact rC_ HO484)
    (case aB => exact (qB HB))
    (case aF => exact (fun k_ hk => ⟨Kd.fresh' (Kd.R_lt (qR HO_3)) k_ hk, Kd.fresh' (Kd.R_lt (qR HO484)) k_ hk⟩))
    (case aO => exact (xR1_ HO481))
    (case aS => exact (below_size (qB HB)))
    (case aL => have := LMc23.out; omega)
    intro v486 w36 ho hb hg hat
    rw [← Ny485.out] at ho
    replace HO_3 := am_ (Kd.R_after (ok := (fun _ => True)) (xR1_ HO_3) hg hat)
    replace BK473 := kG_ BK473 HO481 hg
    replace HB := am_ (hb)
    have HO487 := am_ (ho)
    clear ho hb hg hat
    obtain ⟨Ao38, co38, eo38⟩ := Kd.R_slice HO487.out
    (first | subst eo38 | (injection eo38 with f1_ f2_ f3_; have f4_ := f1_.symm; have f5_ := f3_.symm; clear f1_ f2_ f3_; subst f4_; subst f5_))
    refine hK.out _ _ (cz16 BK473.out) (fun hHeld => ?_)
    clear hK K
    refine nm_ (some 39) ?_
    refine on_ HT_ (i := 14) (N := some 43) (rl [15,1]) (fun K hK => ?_)
    refine goes_ Try.func66 (by kernel_rfl) rfl #[.slice Ao38 y485.length co38, .string a0_2] (by rfl) rfl rfl la_ ?_
    with_reducible refine (impl_PutText.calls kj1 _ _ y485 a0_2 t488 _ (rC_ HO487) ?side2 A24.out).mono ?_
    (case side2 => exact (rL_ HO487))
    rintro e w39 ⟨v489, rfl, ho0, hb⟩
    refine ⟨_, rfl, ?_⟩
    have HO490 := am_ (Kd.R_lower (Kd.R_new' ho0 (Kd.R_lt (qR HO_3))) (below_size (qB HB)))
    replace HO_3 := eA_ HO_3 ho0 hb
    replace BK473 := bK_ BK473 hb
    replace HB := bS_ HB hb
    (try clear hb ho0)
    refine hK.out _ _ (cz16 BK473.out) (fun hHeld => ?_)
    clear hK K
    refine nm_ (some 43) ?_
    refine pq_ 15 3 HT_ (rl [16]) ?_
    refine done_ (done_of HT_.out (by kernel_rfl)) ?_
    try go_wp2
    replace HO_3 := am_ (Kd.R_drew HO_3.out)
    replace HO490 := am_ (Kd.R_drew HO490.out)
    replace BK473 := am_ (blk_drew BK473.out)
    replace HB := am_ (below_drew1 HB.out)
    obtain ⟨Ao41, co41, eo41⟩ := Kd.R_slice HO490.out
    (first | subst eo41 | (injection eo41 with f1_ f2_ f3_; have f4_ := f1_.symm; have f5_ := f3_.symm; clear f1_ f2_ f3_; subst f4_; subst f5_))
    refine start_ (n := 14) (S := fun w' => w'.cell? ⟨gb473, 0, none⟩ = some (.int .i64 a0_0) ∧ w'.cell? ⟨gb473, 1, none⟩ = some (.int .i64 a0_1) ∧ w'.cell? ⟨gb473, 2, none⟩ = some (.string a0_2) ∧ w'.cell? ⟨gb473, 3, none⟩ = some (.int .i64 a0_3) ∧ w'.cell? ⟨gb473, 4, none⟩ = some (.int .i64 a0_4) ∧ w'.cell? ⟨gb473, 5, none⟩ = some (.int .i64 a0_5) ∧ w'.cell? ⟨gb473, 6, none⟩ = some (.string a0_6) ∧ w'.cell? ⟨gb473, 7, none⟩ = some (.int .i64 a0_7) ∧ w'.cell? ⟨gb473, 8, none⟩ = some (.int .i64 a0_8) ∧ w'.cell? ⟨gb473, 9, none⟩ = some (.int .i64 a0_9) ∧ w'.cell? ⟨gb473, 10, none⟩ = some (.string a0_10) ∧ w'.cell? ⟨gb473, 11, none⟩ = some (.int .i64 a0_11) ∧ w'.cell? ⟨gb473, 12, none⟩ = some (.int .i64 a0_12) ∧ w'.cell? ⟨gb473, 13, none⟩ = some (.int .i64 a0_13) ∧ w'.cell? ⟨gb473, 14, none⟩ = some (.int .i64 a0_14) ∧ w'.cell? ⟨gb473, 15, none⟩ = some (.int .i64 a0_15)) (ds := []) (rl [0,14]) (by kernel_rfl) rfl rfl (cz16 BK473.out) (fun hHeld => ?_); refine with_tabW impl_PutItem.tab4 impl_PutItem.bits4 (fun HT_ HW_ => ?_)
    generalize w39.drew = w40 at HO_3 HO490 BK473 HB hHeld ⊢
    refine pq_ 0 44 HT_ (rl [1,13]) ?_
    refine pq_ 1 45 HT_ (rl [2,12]) ?_
    refine pq_ 2 46 HT_ (rl [3,11]) ?_
    refine pq_ 5 49 HT_ (rl [3,2,1,8]) ?_
    refine pq_ 6 50 HT_ (rl [3,2,2,7]) ?_
    refine pq_ 9 53 HT_ (rl [3,2,2,2,1,4]) ?_
    refine pq_ 10 54 HT_ (rl [3,2,2,2,2,3]) ?_
    refine tz_ (i := 3) (N := some 47) HT_ HW_ (rl [4,1,2,2,2,3]) rfl rfl hHeld ?_
    refine tz_ (i := 7) (N := some 51) HT_ HW_ (rl [4,1,3,1,2,3]) rfl rfl hHeld ?_
    refine tz_ (i := 11) (N := some 55) HT_ HW_ (rl [4,1,3,1,3,2]) rfl rfl hHeld ?_
    refine on_ HT_ (i := 4) (N := some 48) (rl [8,1,3,2]) (fun K hK => ?_)
    refine goes_ Try.func67 (by kernel_rfl) rfl #[.slice Ao41 t488.length co41, .int .i64 a0_4] (by rfl) rfl rfl la_ ?_
    with_reducible refine (impl_PutWord.calls _ _ t488 a0_4 t491 _ (rC_ HO490) ?side2 A25.out).mono ?_
    (case side2 => exact (rL_ HO490))
    rintro e w42 ⟨v492, rfl, ho0, hb⟩
    refine ⟨_, rfl, ?_⟩
    have HO493 := am_ (Kd.R_lower (Kd.R_new' ho0 (Kd.R_lt (qR HO_3))) (below_size (qB HB)))
    replace HO_3 := eA_ HO_3 ho0 hb
    replace BK473 := bK_ BK473 hb
    replace HB := bS_ HB hb
    (try clear hb ho0)
    obtain ⟨Ao43, co43, eo43⟩ := Kd.R_slice HO493.out
    (first | subst eo43 | (injection eo43 with f1_ f2_ f3_; have f4_ := f1_.symm; have f5_ := f3_.symm; clear f1_ f2_ f3_; subst f4_; subst f5_))
    refine hK.out _ _ (cz16 BK473.out) (fun hHeld => ?_)
    clear hK K
    refine nm_ (some 48) ?_
    refine on_ HT_ (i := 8) (N := some 52) (rl [12,2]) (fun K hK => ?_)
    refine goes_ Try.func68 (by kernel_rfl) rfl #[.slice Ao43 t491.length co43, .int .i64 a0_5] (by rfl) rfl rfl la_ ?_
    with_reducible refine (impl_putSince.calls _ _ t491 a0_5 t494 _ (rC_ HO493) ?side2 A26.out).mono ?_
    (case side2 => exact (rL_ HO493))
    rintro e w44 ⟨v495, rfl, ho0, hb⟩
    refine ⟨_, rfl, ?_⟩
    have HO496 := am_ (Kd.R_lower (Kd.R_new' ho0 (Kd.R_lt (qR HO_3))) (below_size (qB HB)))
    replace HO_3 := eA_ HO_3 ho0 hb
    replace BK473 := bK_ BK473 hb
    replace HB := bS_ HB hb
    (try clear hb ho0)
    obtain ⟨Ao45, co45, eo45⟩ := Kd.R_slice HO496.out
    (first | subst eo45 | (injection eo45 with f1_ f2_ f3_; have f4_ := f1_.symm; have f5_ := f3_.symm; clear f1_ f2_ f3_; subst f4_; subst f5_))
    refine hK.out _ _ (cz16 BK473.out) (fun hHeld => ?_)
    clear hK K
    refine nm_ (some 52) ?_
    refine on_ HT_ (i := 12) (N := some 56) (rl [13,1]) (fun K hK => ?_)
    refine goes_ Try.func66 (by kernel_rfl) rfl #[.slice Ao45 t494.length co45, .string a0_6] (by rfl) rfl rfl la_ ?_
    with_reducible refine (impl_PutText.calls kj1 _ _ t494 a0_6 t497 _ (rC_ HO496) ?side2 A27.out).mono ?_
    (case side2 => exact (rL_ HO496))
    rintro e w46 ⟨v498, rfl, ho0, hb⟩
    refine ⟨_, rfl, ?_⟩
    have HO499 := am_ (Kd.R_lower (Kd.R_new' ho0 (Kd.R_lt (qR HO_3))) (below_size (qB HB)))
    replace HO_3 := eA_ HO_3 ho0 hb
    replace BK473 := bK_ BK473 hb
    replace HB := bS_ HB hb
    (try clear hb ho0)
    refine hK.out _ _ (cz16 BK473.out) (fun hHeld => ?_)
    clear hK K
    refine nm_ (some 56) ?_
    refine pq_ 13 3 HT_ (rl [14]) ?_
    refine done_ (done_of HT_.out (by kernel_rfl)) ?_
    try go_wp2
    replace HO_3 := am_ (Kd.R_drew HO_3.out)
    replace HO499 := am_ (Kd.R_drew HO499.out)
    replace BK473 := am_ (blk_drew BK473.out)
    replace HB := am_ (below_drew1 HB.out)
    obtain ⟨Ao48, co48, eo48⟩ := Kd.R_slice HO499.out
    (first | subst eo48 | (injection eo48 with f1_ f2_ f3_; have f4_ := f1_.symm; have f5_ := f3_.symm; clear f1_ f2_ f3_; subst f4_; subst f5_))
    refine start_ (n := 10) (S := fun w' => w'.cell? ⟨gb473, 0, none⟩ = some (.int .i64 a0_0) ∧ w'.cell? ⟨gb473, 1, none⟩ = some (.int .i64 a0_1) ∧ w'.cell? ⟨gb473, 2, none⟩ = some (.string a0_2) ∧ w'.cell? ⟨gb473, 3, none⟩ = some (.int .i64 a0_3) ∧ w'.cell? ⟨gb473, 4, none⟩ = some (.int .i64 a0_4) ∧ w'.cell? ⟨gb473, 5, none⟩ = some (.int .i64 a0_5) ∧ w'.cell? ⟨gb473, 6, none⟩ = some (.string a0_6) ∧ w'.cell? ⟨gb473, 7, none⟩ = some (.int .i64 a0_7) ∧ w'.cell? ⟨gb473, 8, none⟩ = some (.int .i64 a0_8) ∧ w'.cell? ⟨gb473, 9, none⟩ = some (.int .i64 a0_9) ∧ w'.cell? ⟨gb473, 10, none⟩ = some (.string a0_10) ∧ w'.cell? ⟨gb473, 11, none⟩ = some (.int .i64 a0_11) ∧ w'.cell? ⟨gb473, 12, none⟩ = some (.int .i64 a0_12) ∧ w'.cell? ⟨gb473, 13, none⟩ = some (.int .i64 a0_13) ∧ w'.cell? ⟨gb473, 14, none⟩ = some (.int .i64 a0_14) ∧ w'.cell? ⟨gb473, 15, none⟩ = some (.int .i64 a0_15)) (ds := []) #[oo,oo,oo,oo,oo,oo,oo,oo,oo,oo] (by kernel_rfl) rfl rfl (cz16 BK473.out) (fun hHeld => ?_); refine with_tabW impl_PutItem.tab5 impl_PutItem.bits5 (fun HT_ HW_ => ?_)
    generalize w46.drew = w47 at HO_3 HO499 BK473 HB hHeld ⊢
    refine pq_ 0 57 HT_ #[ii,oo,oo,oo,oo,oo,oo,oo,oo,oo] ?_
    refine pq_ 1 58 HT_ #[ii,ii,oo,oo,oo,oo,oo,oo,oo,oo] ?_
    refine pq_ 2 59 HT_ #[ii,ii,ii,oo,oo,oo,oo,oo,oo,oo] ?_
    refine pq_ 5 62 HT_ #[ii,ii,ii,oo,oo,ii,oo,oo,oo,oo] ?_
    refine pq_ 6 63 HT_ #[ii,ii,ii,oo,oo,ii,ii,oo,oo,oo] ?_
    refine tz_ (i := 3) (N := some 60) HT_ HW_ #[ii,ii,ii,ii,oo,ii,ii,oo,oo,oo] rfl rfl hHeld ?_
    refine tz_ (i := 7) (N := some 64) HT_ HW_ #[ii,ii,ii,ii,oo,ii,ii,ii,oo,oo] rfl rfl hHeld ?_
    refine on_ HT_ (i := 4) (N := some 61) #[ii,ii,ii,ii,ii,ii,ii,ii,oo,oo] (fun K hK => ?_)
    refine goes_ Try.func67 (by kernel_rfl) rfl #[.slice Ao48 t497.length co48, .int .i64 a0_7] (by rfl) rfl rfl la_ ?_
    with_reducible refine (impl_PutWord.calls _ _ t497 a0_7 t500 _ (rC_ HO499) ?side2 A28.out).mono ?_
    (case side2 => exact (rL_ HO499))
    rintro e w49 ⟨v501, rfl, ho0, hb⟩
    refine ⟨_, rfl, ?_⟩
    have HO502 := am_ (Kd.R_lower (Kd.R_new' ho0 (Kd.R_lt (qR HO_3))) (below_size (qB HB)))
    replace HO_3 := eA_ HO_3 ho0 hb
    replace BK473 := bK_ BK473 hb
    replace HB := bS_ HB hb
    (try clear hb ho0)
    obtain ⟨Ao50, co50, eo50⟩ := Kd.R_slice HO502.out
    (first | subst eo50 | (injection eo50 with f1_ f2_ f3_; have f4_ := f1_.symm; have f5_ := f3_.symm; clear f1_ f2_ f3_; subst f4_; subst f5_))
    refine hK.out _ _ (cz16 BK473.out) (fun hHeld => ?_)
    clear hK K
    refine nm_ (some 61) ?_
    refine on_ HT_ (i := 8) (N := some 65) #[ii,ii,ii,ii,ii,ii,ii,ii,ii,oo] (fun K hK => ?_)
    refine goes_ Try.func67 (by kernel_rfl) rfl #[.slice Ao50 t500.length co50, .int .i64 a0_8] (by rfl) rfl rfl la_ ?_
    with_reducible refine (impl_PutWord.calls _ _ t500 a0_8 t503 _ (rC_ HO502) ?side2 A29.out).mono ?_
    (case side2 => exact (rL_ HO502))
    rintro e w51 ⟨v504, rfl, ho0, hb⟩
    refine ⟨_, rfl, ?_⟩
    have HO505 := am_ (Kd.R_lower (Kd.R_new' ho0 (Kd.R_lt (qR HO_3))) (below_size (qB HB)))
    replace HO_3 := eA_ HO_3 ho0 hb
    replace BK473 := bK_ BK473 hb
    replace HB := bS_ HB hb
    (try clear hb ho0)
    refine hK.out _ _ (cz16 BK473.out) (fun hHeld => ?_)
    clear hK K
    refine nm_ (some 65) ?_
    refine pq_ 9 2 HT_ #[ii,ii,ii,ii,ii,ii,ii,ii,ii,ii] ?_
    refine done_ (done_of HT_.out (by kernel_rfl)) ?_
    try go_wp2
    go_ret
    exact ⟨_, er_, (xR1_ HO505), qB HB⟩
   replace c21 := nf_ c21
   subst c21
   rw [if_neg (show ¬ (false = true) by decide)] at H
   have HC52 := am_ H
   clear H
   go_upto_region 6 with (fail)
   go_cut [66] (fun v66 wc => ∃ (kq : Nat) (x66_51 : Bool), v66 = .bool x66_51 ∧ Aside0 (impl_PutItem.j1 kq y474 x66_51 a0_0 a0_1 a0_2 a0_3 a0_4 a0_5 a0_6 a0_7 a0_8 a0_9 a0_10 a0_11 a0_12 a0_13 a0_14 a0_15 = some r) ∧ Aside0 (kq ≤ kj1) ∧ Aside0 (Kd.R (Kd.int .u8) 5 wc w.heap.size (fun _ => True) v475 y474) ∧ Aside0 (wc.heap[gb473]? = some (.cells #[.int .i64 a0_0, .int .i64 a0_1, .string a0_2, .int .i64 a0_3, .int .i64 a0_4, .int .i64 a0_5, .string a0_6, .int .i64 a0_7, .int .i64 a0_8, .int .i64 a0_9, .string a0_10, .int .i64 a0_11, .int .i64 a0_12, .int .i64 a0_13, .int .i64 a0_14, .int .i64 a0_15] 29 (0, 0))) ∧ Aside0 (Below w.heap.size w wc))
   case first =>
    have H := HC52.out
    clear HC52
    replace H := ie_ H
    obtain ⟨-, H, c53b0, c53b1⟩ | ⟨c53, H, c53b0, c53b1⟩ := H
    rotate_left
    ·
     (first | rw [c53b0] | rw [c53b1] | (simp only [i64_w, i32_w]; rw [c53b0]) | skip)
     have H' := Aside0.mk H
     clear H
     (try clear zK473)
     have zK473 := cf16 BK473.out
     go_wp2
     go_meet
     case rel => exact ⟨_, (false), eqq_, H', ⟨by have := HJ1.out; first | omega | exact Nat.le_refl _⟩, ⟨qR HO_3⟩, ⟨qK BK473⟩, ⟨qB HB⟩⟩
    (first | rw [c53b0] | rw [c53b1] | (simp only [i64_w, i32_w]; rw [c53b0]) | skip)
    replace H := bd_ H
    obtain ⟨t506, A54, H⟩ := H
    by_cases c55 : t506 = true
    rotate_left
    ·
     replace c55 := nf_ c55
     subst c55
     rw [if_neg (show ¬ (false = true) by decide)] at H
     have H' := Aside0.mk H
     clear H
     (try clear zK473)
     have zK473 := cf16 BK473.out
     go_wp2_with (first | (go_at_call 18; (with_reducible refine (impl_LineOk.calls kj1 a0_9 a0_10 a0_11 a0_12 a0_13 a0_14 a0_15 false _ A54.out).mono ?_); rintro e w65 ⟨rfl, hb⟩; replace HO_3 := rB_ HO_3 hb; replace BK473 := bK_ BK473 hb; replace HB := bS_ HB hb; (try clear hb)))
     go_meet
     case rel => exact ⟨_, (false), eqq_, H', ⟨by have := HJ1.out; first | omega | exact Nat.le_refl _⟩, ⟨qR HO_3⟩, ⟨qK BK473⟩, ⟨qB HB⟩⟩
    subst c55
    rw [if_pos rfl] at H
    replace H := id_ H
    obtain ⟨c56, H, -⟩ | ⟨c56, H, -⟩ := H
    ·
     have c56b0 : (a0_1 == 0 && (a0_2.toList == ([] : List UInt8) && (a0_3 == 0 && (a0_4 == 0 && (a0_5 == 0 && (a0_6.toList == ([] : List UInt8) && (a0_7 == 0 && (a0_8 == 0)))))))) = true := c56
     (try (have c56b0e := c56b0; simp only [beq_nil, bne_nil] at c56b0e))
     (try (have c56b1 : decide (a0_1 = 0 && (a0_2.toList == ([] : List UInt8) && (a0_3 == 0 && (a0_4 == 0 && (a0_5 == 0 && (a0_6.toList == ([] : List UInt8) && (a0_7 == 0 && (a0_8 == 0)))))))) = true := by simpa using c56))
     (try (have c56b1e := c56b1; simp only [beq_nil, bne_nil] at c56b1e))
     (try (have c56b2 : (a0_1 == 0 && (a0_2.toList == ([] : List UInt8) && (a0_3 == 0 && (a0_4 == 0 && (a0_5 == 0 && (a0_6.toList == ([] : List UInt8) && (a0_7 == 0 && (a0_8 == 0)))))))) = true := by simpa using c56))
     (try (have c56b2e := c56b2; simp only [beq_nil, bne_nil] at c56b2e))
     clear c56
     replace H := bd_ H
     obtain ⟨t507, A57, H⟩ := H
     have H' := Aside0.mk H
     clear H
     (try clear zK473)
     have zK473 := cf16 BK473.out
     go_wp2_with (first | (go_at_call 18; (with_reducible refine (impl_LineOk.calls kj1 a0_9 a0_10 a0_11 a0_12 a0_13 a0_14 a0_15 true _ A54.out).mono ?_); rintro e w59 ⟨rfl, hb⟩; replace HO_3 := rB_ HO_3 hb; replace BK473 := bK_ BK473 hb; replace HB := bS_ HB hb; (try clear hb); (try clear zK473); have zK473 := cf16 BK473.out) | (go_at_call 65; (with_reducible refine (impl_wordOk.calls a0_15 t507 _ A57.out).mono ?_); rintro e w' ⟨rfl, ⟨nd, rfl⟩⟩))
     go_meet
     case rel => exact ⟨_, (t507), eqq_, H', ⟨by have := HJ1.out; first | omega | exact Nat.le_refl _⟩, ⟨qR HO_3⟩, ⟨qK BK473⟩, ⟨qB HB⟩⟩
    have c56b0 : (a0_1 == 0 && (a0_2.toList == ([] : List UInt8) && (a0_3 == 0 && (a0_4 == 0 && (a0_5 == 0 && (a0_6.toList == ([] : List UInt8) && (a0_7 == 0 && (a0_8 == 0)))))))) = false := by simpa using c56
    (try (have c56b0e := c56b0; simp only [beq_nil, bne_nil] at c56b0e))
    (try (have c56b1 : decide (a0_1 = 0 && (a0_2.toList == ([] : List UInt8) && (a0_3 == 0 && (a0_4 == 0 && (a0_5 == 0 && (a0_6.toList == ([] : List UInt8) && (a0_7 == 0 && (a0_8 == 0)))))))) = false := by simpa using c56))
    (try (have c56b1e := c56b1; simp only [beq_nil, bne_nil] at c56b1e))
    (try (have c56b2 : (a0_1 == 0 && (a0_2.toList == ([] : List UInt8) && (a0_3 == 0 && (a0_4 == 0 && (a0_5 == 0 && (a0_6.toList == ([] : List UInt8) && (a0_7 == 0 && (a0_8 == 0)))))))) = false := by simpa using c56))
    (try (have c56b2e := c56b2; simp only [beq_nil, bne_nil] at c56b2e))
    (try (have c56b3 : ¬ (a0_1 = 0 && (a0_2.toList == ([] : List UInt8) && (a0_3 == 0 && (a0_4 == 0 && (a0_5 == 0 && (a0_6.toList == ([] : List UInt8) && (a0_7 == 0 && (a0_8 == 0)))))))) := by simpa using c56))
    (try (have c56b3e := c56b3; simp only [beq_nil, bne_nil] at c56b3e))
    clear c56
    have H' := Aside0.mk H
    clear H
    (try clear zK473)
    have zK473 := cf16 BK473.out
    go_wp2_with (first | (go_at_call 18; (with_reducible refine (impl_LineOk.calls kj1 a0_9 a0_10 a0_11 a0_12 a0_13 a0_14 a0_15 true _ A54.out).mono ?_); rintro e w62 ⟨rfl, hb⟩; replace HO_3 := rB_ HO_3 hb; replace BK473 := bK_ BK473 hb; replace HB := bS_ HB hb; (try clear hb); (try clear zK473); have zK473 := cf16 BK473.out))
    go_meet
    case rel => exact ⟨_, (false), eqq_, H', ⟨by have := HJ1.out; first | omega | exact Nat.le_refl _⟩, ⟨qR HO_3⟩, ⟨qK BK473⟩, ⟨qB HB⟩⟩
   case rest =>
    clear HC52
    try clear c2
    try clear p2
    try clear c5
    try clear c6
    try clear c21
    try clear c23
    try clear c53
    try clear c53b0
    try clear c53b1
    try clear c55
    try clear c56
    try clear c56b0
    try clear c56b1
    try clear c56b2
    try clear c66
    (try clear zK473)
    (try clear zK473)
    (try clear zK473)
    (try clear zK473)
    (try clear zK473)
    (try clear zK473)
    (try clear fK473)
    (try clear fK473)
    (try clear fK473)
    (try clear fK473)
    (try clear fK473)
    (try clear fK473)
    obtain ⟨kq, x66_51, rfl, HA, HJ51, HO_3, BK473, HB⟩ := hcut
    cases kq with
    | zero => exact absurd HA.out (by simp [impl_PutItem.j1])
    | succ kj51 =>
     have H := HA.out
     clear HA
     simp only [impl_PutItem.j1] at H
     by_cases c67 : x66_51 = true
     rotate_left
     ·
      replace c67 := nf_ c67
      subst c67
      rw [if_neg (show ¬ (false = true) by decide)] at H
      obtain ⟨y532, hy532⟩ : ∃ y_ : List Int, y_ = (([] : List Int)) := ⟨_, rfl⟩
      rw [← hy532] at H
      have Ny532 := am_ hy532
      clear hy532
      obtain rfl := si_ H
      go_wp2_with (first | (refine gd_ 120 rfl ?_; refine l8_ 5 120 ([] : List Int) [] ?_; intro v533 w95 ho96 hb hg_ hnew_; clear hg_ hnew_; (first | rw [← Ny532.out] at ho96 | (simp only [Int.reduceToNat] at ho96; rw [← Ny532.out] at ho96)); have HO534 := am_ (Kd.R_lower (Kd.R_new' ho96 (Kd.R_lt (qR HO_3))) (below_size (qB HB))); replace HO_3 := eA_ HO_3 ho96 hb; replace BK473 := bK_ BK473 hb; replace HB := bS_ HB hb; clear hb ho96))
      go_ret
      exact ⟨_, er_, (xR1_ HO534), qB HB⟩
     subst c67
     rw [if_pos rfl] at H
     replace H := bd_ H
     obtain ⟨t508, A68, H⟩ := H
     replace H := my_ (([(a0_12) % 256] : List Int)) H
     obtain ⟨y511, Ny511, H⟩ := H
     (try dsimp only at H)
     replace H := ip_ H
     obtain ⟨c69, H, -⟩ := H
     have LMc69 := am_ c69
     clear c69
     obtain ⟨y514, hy514⟩ : ∃ y_ : List Int, y_ = (t508 ++ y511) := ⟨_, rfl⟩
     replace H : ((impl_PutText.f kj51 y514 a0_10).bind fun t517 => ((impl_PutWord.f t517 a0_11).bind fun t520 => ((impl_putSince.f t520 a0_13).bind fun t523 => ((impl_PutWord.f t523 a0_14).bind fun t526 => ((impl_PutWord.f t526 a0_15).bind fun t529 => (some t529)))))) = some r := by first | (rw [hy514]; with_reducible exact H) | (have H2_ := (Option.bind_some _ _).symm.trans H; rw [hy514]; with_reducible exact H2_) | (have H2_ := (Option.bind_some _ _).symm.trans H; with_reducible exact H2_) | with_reducible exact H | (rw [hy514]; exact H) | exact H
     have Ny514 := am_ hy514
     clear hy514
     replace H := bd_ H
     obtain ⟨t517, A70, H⟩ := H
     replace H := bd_ H
     obtain ⟨t520, A71, H⟩ := H
     replace H := bd_ H
     obtain ⟨t523, A72, H⟩ := H
     replace H := bd_ H
     obtain ⟨t526, A73, H⟩ := H
     replace H := bd_ H
     obtain ⟨t529, A74, H⟩ := H
     obtain rfl := si_ H
     obtain ⟨Ao75, co75, eo75⟩ := Kd.R_slice HO_3.out
     subst eo75
     try go_wp2
     replace HO_3 := am_ (Kd.R_drew HO_3.out)
     replace BK473 := am_ (blk_drew BK473.out)
     replace HB := am_ (below_drew1 HB.out)
     refine start_ (n := 16) (S := fun w' => w'.cell? ⟨gb473, 0, none⟩ = some (.int .i64 a0_0) ∧ w'.cell? ⟨gb473, 1, none⟩ = some (.int .i64 a0_1) ∧ w'.cell? ⟨gb473, 2, none⟩ = some (.string a0_2) ∧ w'.cell? ⟨gb473, 3, none⟩ = some (.int .i64 a0_3) ∧ w'.cell? ⟨gb473, 4, none⟩ = some (.int .i64 a0_4) ∧ w'.cell? ⟨gb473, 5, none⟩ = some (.int .i64 a0_5) ∧ w'.cell? ⟨gb473, 6, none⟩ = some (.string a0_6) ∧ w'.cell? ⟨gb473, 7, none⟩ = some (.int .i64 a0_7) ∧ w'.cell? ⟨gb473, 8, none⟩ = some (.int .i64 a0_8) ∧ w'.cell? ⟨gb473, 9, none⟩ = some (.int .i64 a0_9) ∧ w'.cell? ⟨gb473, 10, none⟩ = some (.string a0_10) ∧ w'.cell? ⟨gb473, 11, none⟩ = some (.int .i64 a0_11) ∧ w'.cell? ⟨gb473, 12, none⟩ = some (.int .i64 a0_12) ∧ w'.cell? ⟨gb473, 13, none⟩ = some (.int .i64 a0_13) ∧ w'.cell? ⟨gb473, 14, none⟩ = some (.int .i64 a0_14) ∧ w'.cell? ⟨gb473, 15, none⟩ = some (.int .i64 a0_15)) (ds := []) (rl [0,16]) (by kernel_rfl) rfl rfl (cz16 BK473.out) (fun hHeld => ?_); refine with_tabW impl_PutItem.tab7 impl_PutItem.bits7 (fun HT_ HW_ => ?_)
     generalize wc.drew = w76 at HO_3 BK473 HB hHeld ⊢
     refine pq_ 0 87 HT_ (rl [1,15]) ?_
     refine pq_ 1 88 HT_ (rl [2,14]) ?_
     refine pq_ 2 89 HT_ (rl [3,13]) ?_
     refine pq_ 5 92 HT_ (rl [3,2,1,10]) ?_
     refine pq_ 6 93 HT_ (rl [3,2,2,9]) ?_
     refine pq_ 11 98 HT_ (rl [3,2,2,4,1,4]) ?_
     refine pq_ 12 99 HT_ (rl [3,2,2,4,2,3]) ?_
     refine tz_ (i := 3) (N := some 90) HT_ HW_ (rl [4,1,2,4,2,3]) rfl rfl hHeld ?_
     refine tz_ (i := 7) (N := some 94) HT_ HW_ (rl [4,1,3,3,2,3]) rfl rfl hHeld ?_
     refine pq_ 8 95 HT_ (rl [4,1,4,2,2,3]) ?_
     refine tz_ (i := 13) (N := some 100) HT_ HW_ (rl [4,1,4,2,3,2]) rfl rfl hHeld ?_
     refine join_ (σ := Value × Value) 3 (rl [10,1,3,2]) (fun s_ => [(91, s_.1), (96, s_.2)]) (fun s_ w' => (w'.cell? ⟨gb473, 0, none⟩ = some (.int .i64 a0_0) ∧ w'.cell? ⟨gb473, 1, none⟩ = some (.int .i64 a0_1) ∧ w'.cell? ⟨gb473, 2, none⟩ = some (.string a0_2) ∧ w'.cell? ⟨gb473, 3, none⟩ = some (.int .i64 a0_3) ∧ w'.cell? ⟨gb473, 4, none⟩ = some (.int .i64 a0_4) ∧ w'.cell? ⟨gb473, 5, none⟩ = some (.int .i64 a0_5) ∧ w'.cell? ⟨gb473, 6, none⟩ = some (.string a0_6) ∧ w'.cell? ⟨gb473, 7, none⟩ = some (.int .i64 a0_7) ∧ w'.cell? ⟨gb473, 8, none⟩ = some (.int .i64 a0_8) ∧ w'.cell? ⟨gb473, 9, none⟩ = some (.int .i64 a0_9) ∧ w'.cell? ⟨gb473, 10, none⟩ = some (.string a0_10) ∧ w'.cell? ⟨gb473, 11, none⟩ = some (.int .i64 a0_11) ∧ w'.cell? ⟨gb473, 12, none⟩ = some (.int .i64 a0_12) ∧ w'.cell? ⟨gb473, 13, none⟩ = some (.int .i64 a0_13) ∧ w'.cell? ⟨gb473, 14, none⟩ = some (.int .i64 a0_14) ∧ w'.cell? ⟨gb473, 15, none⟩ = some (.int .i64 a0_15)) ∧ (Kd.R (Kd.int .u8) 5 w' w.heap.size (fun k_ => some k_ ≠ (s_.2 : Value).ownBlock ∧ nb Ao75 y474.length co75 k_) s_.1 t508) ∧ (Kd.R (Kd.int .u8) 5 w' w.heap.size (fun k_ => some k_ ≠ (s_.1 : Value).ownBlock ∧ nb Ao75 y474.length co75 k_) s_.2 y511) ∧ (Kd.R (Kd.int .u8) 5 w' w.heap.size (fun k_ => some k_ ≠ (s_.1 : Value).ownBlock ∧ some k_ ≠ (s_.2 : Value).ownBlock) (.slice Ao75 y474.length co75) y474) ∧ (w'.heap[gb473]? = some (.cells #[.int .i64 a0_0, .int .i64 a0_1, .string a0_2, .int .i64 a0_3, .int .i64 a0_4, .int .i64 a0_5, .string a0_6, .int .i64 a0_7, .int .i64 a0_8, .int .i64 a0_9, .string a0_10, .int .i64 a0_11, .int .i64 a0_12, .int .i64 a0_13, .int .i64 a0_14, .int .i64 a0_15] 29 (0, 0))) ∧ (Below w.heap.size w w')) ?_ ?_
     rotate_left
     ·
      intro hCont
      refine two_ (i := 4) (j := 9) (Ni := some 91) (Nj := some 96) (rl [9,2,3,2]) (rl [4,1,5,1,3,2]) rfl rfl rfl rfl (two_of HT_.out (by kernel_rfl)) (by decide) (by decide) (fun K hK => ?_) (fun K hK => ?_)
      ·
       skip
       refine goes_ Try.func67 (by kernel_rfl) rfl #[.slice Ao75 y474.length co75, .int .i64 a0_9] (by rfl) rfl rfl la_ ?_
       with_reducible refine (impl_PutWord.calls _ _ y474 a0_9 t508 _ (rC_ HO_3) ?side2 A68.out).mono ?_
       (case side2 => exact (rL_ HO_3))
       rintro e w77 ⟨v509, rfl, ho0, hb⟩
       refine ⟨_, rfl, ?_⟩
       have HO510 := am_ (Kd.R_lower (Kd.R_new' ho0 (Kd.R_lt (qR HO_3))) (below_size (qB HB)))
       replace HO_3 := eA_ HO_3 ho0 hb
       replace BK473 := bK_ BK473 hb
       replace HB := bS_ HB hb
       (try clear hb ho0)
       refine hK.out _ _ (cz16 BK473.out) (fun hHeld => ?_)
       clear hK K
       refine nm_ (some 91) ?_
       refine on_ HT_ (i := 9) (N := some 96) (rl [10,1,3,2]) (fun K hK => ?_)
       refine l8s_ 5 96 ([(a0_12) % 256] : List Int) [.int .u8 ((a0_12) % 256)] ?_
       intro v512 w78 ho79 hb hg_ hnew_
       clear hg_ hnew_
       (first | rw [← Ny511.out] at ho79 | (simp only [Int.reduceToNat] at ho79; rw [← Ny511.out] at ho79))
       have HO513 := am_ (Kd.R_lower (Kd.R_new' (Kd.R_new' ho79 (Kd.R_lt (qR HO_3))) (Kd.R_lt (qR HO510))) (below_size (qB HB)))
       replace HO_3 := eA_ HO_3 ho79 hb
       replace HO510 := eA_ HO510 ho79 hb
       replace BK473 := bK_ BK473 hb
       replace HB := bS_ HB hb
       clear hb ho79
       refine hK.out _ _ (cz16 BK473.out) (fun hHeld => ?_)
       clear hK K
       refine nm_ (some 96) ?_
       exact nr_ (hCont (v509, v512) _ ⟨hHeld, (xR1_ HO510), (xR1_ HO513), (xR1_ HO_3), (qK BK473), (qB HB)⟩)
      ·
       skip
       refine l8s_ 5 96 ([(a0_12) % 256] : List Int) [.int .u8 ((a0_12) % 256)] ?_
       intro v512 w77 ho78 hb hg_ hnew_
       clear hg_ hnew_
       (first | rw [← Ny511.out] at ho78 | (simp only [Int.reduceToNat] at ho78; rw [← Ny511.out] at ho78))
       have HO513 := am_ (Kd.R_lower (Kd.R_new' ho78 (Kd.R_lt (qR HO_3))) (below_size (qB HB)))
       replace HO_3 := eA_ HO_3 ho78 hb
       replace BK473 := bK_ BK473 hb
       replace HB := bS_ HB hb
       clear hb ho78
       refine hK.out _ _ (cz16 BK473.out) (fun hHeld => ?_)
       clear hK K
       refine nm_ (some 96) ?_
       refine on_ HT_ (i := 4) (N := some 91) (rl [10,1,3,2]) (fun K hK => ?_)
       refine goes_ Try.func67 (by kernel_rfl) rfl #[.slice Ao75 y474.length co75, .int .i64 a0_9] (by rfl) rfl rfl la_ ?_
       with_reducible refine (impl_PutWord.calls _ _ y474 a0_9 t508 _ (rC_ HO_3) ?side2 A68.out).mono ?_
       (case side2 => exact (rL_ HO_3))
       rintro e w79 ⟨v509, rfl, ho0, hb⟩
       refine ⟨_, rfl, ?_⟩
       have HO510 := am_ (Kd.R_lower (Kd.R_new' (Kd.R_new' ho0 (Kd.R_lt (qR HO_3))) (Kd.R_lt (qR HO513))) (below_size (qB HB)))
       replace HO_3 := eA_ HO_3 ho0 hb
       replace HO513 := eA_ HO513 ho0 hb
       replace BK473 := bK_ BK473 hb
       replace HB := bS_ HB hb
       (try clear hb ho0)
       refine hK.out _ _ (cz16 BK473.out) (fun hHeld => ?_)
       clear hK K
       refine nm_ (some 91) ?_
       exact nr_ (hCont (v509, v512) _ ⟨hHeld, (xR1_ HO510), (xR1_ HO513), (xR1_ HO_3), (qK BK473), (qB HB)⟩)
     rintro ⟨v509, v512⟩ w80 ⟨hS_, h0_, h1_, h2_, h3_, h4_⟩
     (try dsimp only at h0_ h1_ h2_ h3_ h4_)
     have n0_ := am_ h0_
     have n1_ := am_ h1_
     have n2_ := am_ h2_
     have n3_ := am_ h3_
     have n4_ := am_ h4_
     clear HO_3
     clear BK473
     clear HB
     clear h0_ h1_ h2_ h3_ h4_
     have HO510 := n0_
     have HO513 := n1_
     have HO_3 := n2_
     have BK473 := n3_
     have HB := n4_
     clear n0_ n1_ n2_ n3_ n4_
     have hHeld : w80.cell? ⟨gb473, 0, none⟩ = some (.int .i64 a0_0) ∧ w80.cell? ⟨gb473, 1, none⟩ = some (.int .i64 a0_1) ∧ w80.cell? ⟨gb473, 2, none⟩ = some (.string a0_2) ∧ w80.cell? ⟨gb473, 3, none⟩ = some (.int .i64 a0_3) ∧ w80.cell? ⟨gb473, 4, none⟩ = some (.int .i64 a0_4) ∧ w80.cell? ⟨gb473, 5, none⟩ = some (.int .i64 a0_5) ∧ w80.cell? ⟨gb473, 6, none⟩ = some (.string a0_6) ∧ w80.cell? ⟨gb473, 7, none⟩ = some (.int .i64 a0_7) ∧ w80.cell? ⟨gb473, 8, none⟩ = some (.int .i64 a0_8) ∧ w80.cell? ⟨gb473, 9, none⟩ = some (.int .i64 a0_9) ∧ w80.cell? ⟨gb473, 10, none⟩ = some (.string a0_10) ∧ w80.cell? ⟨gb473, 11, none⟩ = some (.int .i64 a0_11) ∧ w80.cell? ⟨gb473, 12, none⟩ = some (.int .i64 a0_12) ∧ w80.cell? ⟨gb473, 13, none⟩ = some (.int .i64 a0_13) ∧ w80.cell? ⟨gb473, 14, none⟩ = some (.int .i64 a0_14) ∧ w80.cell? ⟨gb473, 15, none⟩ = some (.int .i64 a0_15) := hS_
     obtain ⟨Ao82, co82, eo82⟩ := Kd.R_slice HO513.out
     (first | subst eo82 | (injection eo82 with f1_ f2_ f3_; have f4_ := f1_.symm; have f5_ := f3_.symm; clear f1_ f2_ f3_; subst f4_; subst f5_))
     refine norm_ (a' := ?_) ?_ ?_
     rotate_left
     ·
      simp only [putAll, Act.put, List.setIfInBounds_toArray, List.set_cons_zero, List.set_cons_succ]
      rfl
     refine on_ HT_ (i := 10) (N := some 97) (rl [14,2]) (fun K hK => ?_)
     refine Kd.R_append_rows_step (Kd.int .u8) (w0 := w) w.heap.size (by rfl) (.tmp 91) (.tmp 96) 22 5 (.int .u8 0) 1 rfl Try.underlying22 info5 rfl (by decide) (by omega) v509 t508 y511 _ _ _ (fun k_ => nb Ao75 y474.length co75 k_ ∧ nb Ao82 y511.length co82 k_) (fun _ => False) rfl rfl ?aO ?aR (fun _ _ h => h) (fun _ h => h.elim) ?aF ?aB ?aS ?aL ?_
     (case aR => exact rC_ HO513)
     (case aB => exact (qB HB))
     (case aF => exact (fun k_ hk => ⟨Kd.fresh' (Kd.R_lt (qR HO_3)) k_ hk, Kd.fresh' (Kd.R_lt (qR HO513)) k_ hk⟩))
     (case aO => exact (xR1_ HO510))
     (case aS => exact (below_size (qB HB)))
     (case aL => have := LMc69.out; omega)
     intro v515 w81 ho hb hg hat
     rw [← Ny514.out] at ho
     replace HO_3 := am_ (Kd.R_after (ok := (fun _ => True)) (xR1_ HO_3) hg hat)
     replace BK473 := kG_ BK473 HO510 hg
     replace HB := am_ (hb)
     have HO516 := am_ (ho)
     clear ho hb hg hat
     obtain ⟨Ao83, co83, eo83⟩ := Kd.R_slice HO516.out
     (first | subst eo83 | (injection eo83 with f1_ f2_ f3_; have f4_ := f1_.symm; have f5_ := f3_.symm; clear f1_ f2_ f3_; subst f4_; subst f5_))
     refine hK.out _ _ (cz16 BK473.out) (fun hHeld => ?_)
     clear hK K
     refine nm_ (some 97) ?_
     refine on_ HT_ (i := 14) (N := some 101) (rl [15,1]) (fun K hK => ?_)
     refine goes_ Try.func66 (by kernel_rfl) rfl #[.slice Ao83 y514.length co83, .string a0_10] (by rfl) rfl rfl la_ ?_
     with_reducible refine (impl_PutText.calls kj51 _ _ y514 a0_10 t517 _ (rC_ HO516) ?side2 A70.out).mono ?_
     (case side2 => exact (rL_ HO516))
     rintro e w84 ⟨v518, rfl, ho0, hb⟩
     refine ⟨_, rfl, ?_⟩
     have HO519 := am_ (Kd.R_lower (Kd.R_new' ho0 (Kd.R_lt (qR HO_3))) (below_size (qB HB)))
     replace HO_3 := eA_ HO_3 ho0 hb
     replace BK473 := bK_ BK473 hb
     replace HB := bS_ HB hb
     (try clear hb ho0)
     refine hK.out _ _ (cz16 BK473.out) (fun hHeld => ?_)
     clear hK K
     refine nm_ (some 101) ?_
     refine pq_ 15 3 HT_ (rl [16]) ?_
     refine done_ (done_of HT_.out (by kernel_rfl)) ?_
     try go_wp2
     replace HO_3 := am_ (Kd.R_drew HO_3.out)
     replace HO519 := am_ (Kd.R_drew HO519.out)
     replace BK473 := am_ (blk_drew BK473.out)
     replace HB := am_ (below_drew1 HB.out)
     obtain ⟨Ao86, co86, eo86⟩ := Kd.R_slice HO519.out
     (first | subst eo86 | (injection eo86 with f1_ f2_ f3_; have f4_ := f1_.symm; have f5_ := f3_.symm; clear f1_ f2_ f3_; subst f4_; subst f5_))
     refine start_ (n := 10) (S := fun w' => w'.cell? ⟨gb473, 0, none⟩ = some (.int .i64 a0_0) ∧ w'.cell? ⟨gb473, 1, none⟩ = some (.int .i64 a0_1) ∧ w'.cell? ⟨gb473, 2, none⟩ = some (.string a0_2) ∧ w'.cell? ⟨gb473, 3, none⟩ = some (.int .i64 a0_3) ∧ w'.cell? ⟨gb473, 4, none⟩ = some (.int .i64 a0_4) ∧ w'.cell? ⟨gb473, 5, none⟩ = some (.int .i64 a0_5) ∧ w'.cell? ⟨gb473, 6, none⟩ = some (.string a0_6) ∧ w'.cell? ⟨gb473, 7, none⟩ = some (.int .i64 a0_7) ∧ w'.cell? ⟨gb473, 8, none⟩ = some (.int .i64 a0_8) ∧ w'.cell? ⟨gb473, 9, none⟩ = some (.int .i64 a0_9) ∧ w'.cell? ⟨gb473, 10, none⟩ = some (.string a0_10) ∧ w'.cell? ⟨gb473, 11, none⟩ = some (.int .i64 a0_11) ∧ w'.cell? ⟨gb473, 12, none⟩ = some (.int .i64 a0_12) ∧ w'.cell? ⟨gb473, 13, none⟩ = some (.int .i64 a0_13) ∧ w'.cell? ⟨gb473, 14, none⟩ = some (.int .i64 a0_14) ∧ w'.cell? ⟨gb473, 15, none⟩ = some (.int .i64 a0_15)) (ds := []) #[oo,oo,oo,oo,oo,oo,oo,oo,oo,oo] (by kernel_rfl) rfl rfl (cz16 BK473.out) (fun hHeld => ?_); refine with_tabW impl_PutItem.tab8 impl_PutItem.bits8 (fun HT_ HW_ => ?_)
     generalize w84.drew = w85 at HO_3 HO519 BK473 HB hHeld ⊢
     refine pq_ 0 102 HT_ #[ii,oo,oo,oo,oo,oo,oo,oo,oo,oo] ?_
     refine pq_ 1 103 HT_ #[ii,ii,oo,oo,oo,oo,oo,oo,oo,oo] ?_
     refine pq_ 2 104 HT_ #[ii,ii,ii,oo,oo,oo,oo,oo,oo,oo] ?_
     refine pq_ 5 107 HT_ #[ii,ii,ii,oo,oo,ii,oo,oo,oo,oo] ?_
     refine pq_ 6 108 HT_ #[ii,ii,ii,oo,oo,ii,ii,oo,oo,oo] ?_
     refine tz_ (i := 3) (N := some 105) HT_ HW_ #[ii,ii,ii,ii,oo,ii,ii,oo,oo,oo] rfl rfl hHeld ?_
     refine tz_ (i := 7) (N := some 109) HT_ HW_ #[ii,ii,ii,ii,oo,ii,ii,ii,oo,oo] rfl rfl hHeld ?_
     refine on_ HT_ (i := 4) (N := some 106) #[ii,ii,ii,ii,ii,ii,ii,ii,oo,oo] (fun K hK => ?_)
     refine goes_ Try.func67 (by kernel_rfl) rfl #[.slice Ao86 t517.length co86, .int .i64 a0_11] (by rfl) rfl rfl la_ ?_
     with_reducible refine (impl_PutWord.calls _ _ t517 a0_11 t520 _ (rC_ HO519) ?side2 A71.out).mono ?_
     (case side2 => exact (rL_ HO519))
     rintro e w87 ⟨v521, rfl, ho0, hb⟩
     refine ⟨_, rfl, ?_⟩
     have HO522 := am_ (Kd.R_lower (Kd.R_new' ho0 (Kd.R_lt (qR HO_3))) (below_size (qB HB)))
     replace HO_3 := eA_ HO_3 ho0 hb
     replace BK473 := bK_ BK473 hb
     replace HB := bS_ HB hb
     (try clear hb ho0)
     obtain ⟨Ao88, co88, eo88⟩ := Kd.R_slice HO522.out
     (first | subst eo88 | (injection eo88 with f1_ f2_ f3_; have f4_ := f1_.symm; have f5_ := f3_.symm; clear f1_ f2_ f3_; subst f4_; subst f5_))
     refine hK.out _ _ (cz16 BK473.out) (fun hHeld => ?_)
     clear hK K
     refine nm_ (some 106) ?_
     refine on_ HT_ (i := 8) (N := some 110) #[ii,ii,ii,ii,ii,ii,ii,ii,ii,oo] (fun K hK => ?_)
     refine goes_ Try.func68 (by kernel_rfl) rfl #[.slice Ao88 t520.length co88, .int .i64 a0_13] (by rfl) rfl rfl la_ ?_
     with_reducible refine (impl_putSince.calls _ _ t520 a0_13 t523 _ (rC_ HO522) ?side2 A72.out).mono ?_
     (case side2 => exact (rL_ HO522))
     rintro e w89 ⟨v524, rfl, ho0, hb⟩
     refine ⟨_, rfl, ?_⟩
     have HO525 := am_ (Kd.R_lower (Kd.R_new' ho0 (Kd.R_lt (qR HO_3))) (below_size (qB HB)))
     replace HO_3 := eA_ HO_3 ho0 hb
     replace BK473 := bK_ BK473 hb
     replace HB := bS_ HB hb
     (try clear hb ho0)
     refine hK.out _ _ (cz16 BK473.out) (fun hHeld => ?_)
     clear hK K
     refine nm_ (some 110) ?_
     refine pq_ 9 3 HT_ #[ii,ii,ii,ii,ii,ii,ii,ii,ii,ii] ?_
     refine done_ (done_of HT_.out (by kernel_rfl)) ?_
     try go_wp2
     replace HO_3 := am_ (Kd.R_drew HO_3.out)
     replace HO525 := am_ (Kd.R_drew HO525.out)
     replace BK473 := am_ (blk_drew BK473.out)
     replace HB := am_ (below_drew1 HB.out)
     obtain ⟨Ao91, co91, eo91⟩ := Kd.R_slice HO525.out
     (first | subst eo91 | (injection eo91 with f1_ f2_ f3_; have f4_ := f1_.symm; have f5_ := f3_.symm; clear f1_ f2_ f3_; subst f4_; subst f5_))
     refine start_ (n := 10) (S := fun w' => w'.cell? ⟨gb473, 0, none⟩ = some (.int .i64 a0_0) ∧ w'.cell? ⟨gb473, 1, none⟩ = some (.int .i64 a0_1) ∧ w'.cell? ⟨gb473, 2, none⟩ = some (.string a0_2) ∧ w'.cell? ⟨gb473, 3, none⟩ = some (.int .i64 a0_3) ∧ w'.cell? ⟨gb473, 4, none⟩ = some (.int .i64 a0_4) ∧ w'.cell? ⟨gb473, 5, none⟩ = some (.int .i64 a0_5) ∧ w'.cell? ⟨gb473, 6, none⟩ = some (.string a0_6) ∧ w'.cell? ⟨gb473, 7, none⟩ = some (.int .i64 a0_7) ∧ w'.cell? ⟨gb473, 8, none⟩ = some (.int .i64 a0_8) ∧ w'.cell? ⟨gb473, 9, none⟩ = some (.int .i64 a0_9) ∧ w'.cell? ⟨gb473, 10, none⟩ = some (.string a0_10) ∧ w'.cell? ⟨gb473, 11, none⟩ = some (.int .i64 a0_11) ∧ w'.cell? ⟨gb473, 12, none⟩ = some (.int .i64 a0_12) ∧ w'.cell? ⟨gb473, 13, none⟩ = some (.int .i64 a0_13) ∧ w'.cell? ⟨gb473, 14, none⟩ = some (.int .i64 a0_14) ∧ w'.cell? ⟨gb473, 15, none⟩ = some (.int .i64 a0_15)) (ds := []) #[oo,oo,oo,oo,oo,oo,oo,oo,oo,oo] (by kernel_rfl) rfl rfl (cz16 BK473.out) (fun hHeld => ?_); refine with_tabW impl_PutItem.tab9 impl_PutItem.bits9 (fun HT_ HW_ => ?_)
     generalize w89.drew = w90 at HO_3 HO525 BK473 HB hHeld ⊢
     refine pq_ 0 111 HT_ #[ii,oo,oo,oo,oo,oo,oo,oo,oo,oo] ?_
     refine pq_ 1 112 HT_ #[ii,ii,oo,oo,oo,oo,oo,oo,oo,oo] ?_
     refine pq_ 2 113 HT_ #[ii,ii,ii,oo,oo,oo,oo,oo,oo,oo] ?_
     refine pq_ 5 116 HT_ #[ii,ii,ii,oo,oo,ii,oo,oo,oo,oo] ?_
     refine pq_ 6 117 HT_ #[ii,ii,ii,oo,oo,ii,ii,oo,oo,oo] ?_
     refine tz_ (i := 3) (N := some 114) HT_ HW_ #[ii,ii,ii,ii,oo,ii,ii,oo,oo,oo] rfl rfl hHeld ?_
     refine tz_ (i := 7) (N := some 118) HT_ HW_ #[ii,ii,ii,ii,oo,ii,ii,ii,oo,oo] rfl rfl hHeld ?_
     refine on_ HT_ (i := 4) (N := some 115) #[ii,ii,ii,ii,ii,ii,ii,ii,oo,oo] (fun K hK => ?_)
     refine goes_ Try.func67 (by kernel_rfl) rfl #[.slice Ao91 t523.length co91, .int .i64 a0_14] (by rfl) rfl rfl la_ ?_
     with_reducible refine (impl_PutWord.calls _ _ t523 a0_14 t526 _ (rC_ HO525) ?side2 A73.out).mono ?_
     (case side2 => exact (rL_ HO525))
     rintro e w92 ⟨v527, rfl, ho0, hb⟩
     refine ⟨_, rfl, ?_⟩
     have HO528 := am_ (Kd.R_lower (Kd.R_new' ho0 (Kd.R_lt (qR HO_3))) (below_size (qB HB)))
     replace HO_3 := eA_ HO_3 ho0 hb
     replace BK473 := bK_ BK473 hb
     replace HB := bS_ HB hb
     (try clear hb ho0)
     obtain ⟨Ao93, co93, eo93⟩ := Kd.R_slice HO528.out
     (first | subst eo93 | (injection eo93 with f1_ f2_ f3_; have f4_ := f1_.symm; have f5_ := f3_.symm; clear f1_ f2_ f3_; subst f4_; subst f5_))
     refine hK.out _ _ (cz16 BK473.out) (fun hHeld => ?_)
     clear hK K
     refine nm_ (some 115) ?_
     refine on_ HT_ (i := 8) (N := some 119) #[ii,ii,ii,ii,ii,ii,ii,ii,ii,oo] (fun K hK => ?_)
     refine goes_ Try.func67 (by kernel_rfl) rfl #[.slice Ao93 t526.length co93, .int .i64 a0_15] (by rfl) rfl rfl la_ ?_
     with_reducible refine (impl_PutWord.calls _ _ t526 a0_15 t529 _ (rC_ HO528) ?side2 A74.out).mono ?_
     (case side2 => exact (rL_ HO528))
     rintro e w94 ⟨v530, rfl, ho0, hb⟩
     refine ⟨_, rfl, ?_⟩
     have HO531 := am_ (Kd.R_lower (Kd.R_new' ho0 (Kd.R_lt (qR HO_3))) (below_size (qB HB)))
     replace HO_3 := eA_ HO_3 ho0 hb
     replace BK473 := bK_ BK473 hb
     replace HB := bS_ HB hb
     (try clear hb ho0)
     refine hK.out _ _ (cz16 BK473.out) (fun hHeld => ?_)
     clear hK K
     refine nm_ (some 119) ?_
     refine pq_ 9 2 HT_ #[ii,ii,ii,ii,ii,ii,ii,ii,ii,ii] ?_
     refine done_ (done_of HT_.out (by kernel_rfl)) ?_
     try go_wp2
     go_ret
     exact ⟨_, er_, (xR1_ HO531), qB HB⟩

end Go.Proofs.Ytiffahfpfgnjnaa.PFnCtls
