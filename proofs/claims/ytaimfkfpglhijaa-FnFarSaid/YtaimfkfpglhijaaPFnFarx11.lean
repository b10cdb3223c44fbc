-- Written by a program of this session (myprint.py, over the kit's print): contracts of FnFar
import Derived.Test.YtaimfkfpglhijaaPFnFarx0
import Derived.Test.YtaimfkfpglhijaaPFnFarx6
import Derived.Test.YtaimfkfpglhijaaPFnFarx9
namespace Go.Proofs.Ytaimfkfpglhijaa.PFnFar
open Go.RowKit Go.Proofs.YtaimfkfpglhijaaW.PrintWords Go.Proofs.YtaimfkfpglhijaaW.PrintLast Go.Proofs.YtaimfkfpglhijaaW.PrintMore Go.Proofs.YtaimfkfpglhijaaV
attribute [local go_sem] max2_int min2_int max_two min_two max_three min_three max_four min_four   -- for this text's walks alone
set_option linter.unusedVariables false
set_option linter.unusedSimpArgs false

/-! ### impl_AnswerTo: function 129 -/
mutual
def impl_AnswerTo.j0 : Nat → Int → ByteArray → Bool → Option ((List (S47)))
 | 0, _, _, _ => none
 | k + 1, x0, x1, x14 => if x14 = true then (some (([] : List (S47)))) else ((impl_WordOf.f x1).bind fun t468 => (if x0 = 2 then (if t468 = 2 then (impl_AnswerTo.j1 k x0 t468 false 4 x1 0) else (impl_AnswerTo.j1 k x0 t468 (t468 != 3) 4 x1 0)) else (impl_AnswerTo.j1 k x0 t468 false 4 x1 0)))
def impl_AnswerTo.j1 : Nat → Int → Int → Bool → Int → ByteArray → Int → Option ((List (S47)))
 | 0, _, _, _, _, _, _ => none
 | k + 1, x0, x5, x20, x470000, x470001, x470002 => if x20 = true then ((impl_NextSt.f k x0 x5).bind fun t470 => (some (([(⟨6, (⟨#[97, 98, 111, 114, 116, 101, 100]⟩ : ByteArray), 0⟩ : S47), (⟨5, (⟨#[]⟩ : ByteArray), t470⟩ : S47)] : List (S47))))) else (if x5 = 4 then ((impl_NextSt.f k x0 x5).bind fun t474 => (some (([(⟨6, (⟨#[102, 97, 105, 108, 101, 100]⟩ : ByteArray), 0⟩ : S47), (⟨5, (⟨#[]⟩ : ByteArray), t474⟩ : S47)] : List (S47))))) else (if x0 = 2 then (if x5 = 2 then ((impl_NextSt.f k x0 x5).bind fun t478 => (some (([(⟨x470000, (⟨#[114, 111, 108, 108, 98, 97, 99, 107]⟩ : ByteArray), x470002⟩ : S47), (⟨5, (⟨#[]⟩ : ByteArray), t478⟩ : S47)] : List (S47))))) else ((impl_NextSt.f k x0 x5).bind fun t482 => (some (([(⟨x470000, x470001, x470002⟩ : S47), (⟨5, (⟨#[]⟩ : ByteArray), t482⟩ : S47)] : List (S47)))))) else ((impl_NextSt.f k x0 x5).bind fun t486 => (some (([(⟨x470000, x470001, x470002⟩ : S47), (⟨5, (⟨#[]⟩ : ByteArray), t486⟩ : S47)] : List (S47)))))))
end
def impl_AnswerTo.f (k : Nat) (a0 : Int) (a1 : ByteArray) : Option ((List (S47))) := (impl_isIn.f a0 0 2).bind fun t463 => (if t463 = true then ((impl_TextOk.f k a1).bind fun t464 => (impl_AnswerTo.j0 k a0 a1 (!t464))) else (impl_AnswerTo.j0 k a0 a1 true))
theorem impl_AnswerTo.mono_l : ∀ k, (∀ y0 y1 y2, LeO (impl_AnswerTo.j0 k y0 y1 y2) (impl_AnswerTo.j0 (k + 1) y0 y1 y2)) ∧ (∀ y0 y1 y2 y3 y4 y5, LeO (impl_AnswerTo.j1 k y0 y1 y2 y3 y4 y5) (impl_AnswerTo.j1 (k + 1) y0 y1 y2 y3 y4 y5))
 | 0 => ⟨fun _ _ _ r h => by simp [impl_AnswerTo.j0] at h, fun _ _ _ _ _ _ r h => by simp [impl_AnswerTo.j1] at h⟩
 | k + 1 => by
  obtain ⟨ih0, ih1⟩ := impl_AnswerTo.mono_l k
  refine ⟨?_, ?_⟩
  ·
   intro y0 y1 y2
   unfold impl_AnswerTo.j0
   repeat' first
   | (with_reducible exact ih0 _ _ _)
   | (with_reducible exact ih1 _ _ _ _ _ _)
   | (with_reducible exact impl_NextSt.mono _ _ _)
   | (with_reducible exact impl_TextOk.mono _ _)
   | (with_reducible exact LeO.refl _)
   | (with_reducible exact LeO.none _)
   | (with_reducible refine LeO.ite ?_ ?_)
   | (with_reducible refine LeO.bind ?_ (fun _ => ?_))
   | exact ih0 _ _ _
   | exact ih1 _ _ _ _ _ _
   | exact impl_NextSt.mono _ _ _
   | exact impl_TextOk.mono _ _
   | exact LeO.none _
   | refine LeO.ite ?_ ?_
   | refine LeO.bind ?_ (fun _ => ?_)
  ·
   intro y0 y1 y2 y3 y4 y5
   unfold impl_AnswerTo.j1
   repeat' first
   | (with_reducible exact ih0 _ _ _)
   | (with_reducible exact ih1 _ _ _ _ _ _)
   | (with_reducible exact impl_NextSt.mono _ _ _)
   | (with_reducible exact impl_TextOk.mono _ _)
   | (with_reducible exact LeO.refl _)
   | (with_reducible exact LeO.none _)
   | (with_reducible refine LeO.ite ?_ ?_)
   | (with_reducible refine LeO.bind ?_ (fun _ => ?_))
   | exact ih0 _ _ _
   | exact ih1 _ _ _ _ _ _
   | exact impl_NextSt.mono _ _ _
   | exact impl_TextOk.mono _ _
   | exact LeO.none _
   | refine LeO.ite ?_ ?_
   | refine LeO.bind ?_ (fun _ => ?_)
theorem impl_AnswerTo.mono : ∀ a0 a1 k, LeO (impl_AnswerTo.f k a0 a1) (impl_AnswerTo.f (k + 1) a0 a1) := by
 intro a0 a1 k
 obtain ⟨ih0, ih1⟩ := impl_AnswerTo.mono_l k
 unfold impl_AnswerTo.f
 repeat' first
   | (with_reducible exact ih0 _ _ _)
   | (with_reducible exact ih1 _ _ _ _ _ _)
   | (with_reducible exact impl_NextSt.mono _ _ _)
   | (with_reducible exact impl_TextOk.mono _ _)
   | (with_reducible exact LeO.refl _)
   | (with_reducible exact LeO.none _)
   | (with_reducible refine LeO.ite ?_ ?_)
   | (with_reducible refine LeO.bind ?_ (fun _ => ?_))
   | exact ih0 _ _ _
   | exact ih1 _ _ _ _ _ _
   | exact impl_NextSt.mono _ _ _
   | exact impl_TextOk.mono _ _
   | exact LeO.none _
   | refine LeO.ite ?_ ?_
   | refine LeO.bind ?_ (fun _ => ?_)
set_option maxHeartbeats 8000000 in
set_option maxRecDepth 100000 in
theorem impl_AnswerTo.calls (k : Nat) (a0 : Int) (a1 : ByteArray) (r : List (S47)) (w : World) (h : impl_AnswerTo.f k a0 a1 = some r) :
  Calls Try.prog 129 #[.int .i64 a0, .string a1] w fun e w' => ∃ v0_ : Value, e = .returned (v0_) ∧ Kd.R k47 47 w' w.heap.size (fun _ => True) v0_ r ∧ Below w.heap.size w w' := by
 have hu47 := Try.underlying47
 have HB := Aside0.mk (Below.refl w.heap.size w)
 have H : ((impl_isIn.f a0 0 2).bind fun t463 => (if t463 = true then ((impl_TextOk.f k a1).bind fun t464 => (impl_AnswerTo.j0 k a0 a1 (!t464))) else (impl_AnswerTo.j0 k a0 a1 true))) = some r := h
 clear h
 have HC3 := Aside0.mk H
 clear H
 go_enter Try.func129, Try.ntmps129
 go_upto_region 1 with (fail)
 go_cut [14] (fun v14 wc => ∃ (kq : Nat) (x14_2 : Bool), v14 = .bool x14_2 ∧ Aside0 (impl_AnswerTo.j0 kq a0 a1 x14_2 = some r) ∧ Aside0 (kq ≤ k) ∧ Aside0 (Below w.heap.size w wc))
 case first =>
  have H := HC3.out
  clear HC3
  obtain ⟨t463, A4, H⟩ := bd_ H
  by_cases c5 : t463 = true
  ·
   subst c5
   rw [if_pos rfl] at H
   obtain ⟨t464, A6, H⟩ := bd_ H
   have H' := Aside0.mk H
   clear H
   go_wp2_with (first | ((with_reducible refine gate_callee (f := 121) rfl ?_); refine goesL_ (some 8) rfl rfl Try.func121 (by kernel_rfl) rfl #[.int .i64 a0, .int .i64 0, .int .i64 2] rfl la_ ?_; (with_reducible refine (impl_isIn.calls a0 0 2 true _ A4.out).mono ?_); rintro e w' ⟨rfl, ⟨nd, rfl⟩⟩; refine ⟨_, rfl, ?_⟩) | (go_at_call 116; (with_reducible refine (impl_TextOk.calls k a1 t464 _ A6.out).mono ?_); rintro e w' ⟨rfl, ⟨nd, rfl⟩⟩))
   go_meet
   case rel => exact ⟨_, (!t464), eqq_, H', ⟨by first | omega | exact Nat.le_refl _⟩, ⟨qB HB⟩⟩
  ·
   replace c5 := Bool.eq_false_iff.mpr c5
   subst c5
   rw [if_neg (show ¬ (false = true) by decide)] at H
   have H' := Aside0.mk H
   clear H
   go_wp2_with (first | ((with_reducible refine gate_callee (f := 121) rfl ?_); refine goesL_ (some 8) rfl rfl Try.func121 (by kernel_rfl) rfl #[.int .i64 a0, .int .i64 0, .int .i64 2] rfl la_ ?_; (with_reducible refine (impl_isIn.calls a0 0 2 false _ A4.out).mono ?_); rintro e w' ⟨rfl, ⟨nd, rfl⟩⟩; refine ⟨_, rfl, ?_⟩))
   go_meet
   case rel => exact ⟨_, (true), eqq_, H', ⟨by first | omega | exact Nat.le_refl _⟩, ⟨qB HB⟩⟩
 case rest =>
  clear HC3
  try clear c1
  try clear p2
  try clear c5
  obtain ⟨kq, x14_2, rfl, HA, HJ2, HB⟩ := hcut
  cases kq with
  | zero => exact absurd HA.out (by simp [impl_AnswerTo.j0])
  | succ kj2 =>
   have H := HA.out
   clear HA
   simp only [impl_AnswerTo.j0] at H
   by_cases c7 : x14_2 = true
   ·
    subst c7
    rw [if_pos rfl] at H
    obtain ⟨y465, hy465⟩ : ∃ y_ : List (S47), y_ = (([] : List (S47))) := ⟨_, rfl⟩
    rw [← hy465] at H
    have Ny465 := Aside0.mk hy465
    clear hy465
    obtain rfl := Option.some.inj H
    go_wp2_with (first | ((with_reducible refine gate_dst (N := 15) rfl ?_); refine Kd.R_lit k47 _ 47 ?hg (N := 15) ?hd (xs := ([] : List (S47))) (inner := []) (ok := fun _ => True) (okp := fun _ => True) ?hr ?hp (fun _ hk => hk) trivial (Below.refl _ _) (Nat.le_refl _) (by simp) ?_; (case hd => rfl); (case hg => rfl); (case hr => first | (go_simp; done) | (go_simp; rfl)); (case hp => exact (Reps.none _ _)); intro v466 w8 ho9 hb hg_ hnew_; clear hg_ hnew_; (first | rw [← Ny465.out] at ho9 | (simp only [Int.reduceToNat] at ho9; rw [← Ny465.out] at ho9)); have HO467 := am_ (Kd.R_lower ho9 (below_size (qB HB))); replace HB := am_ (below_step (qB HB) hb); clear hb ho9))
    go_ret
    exact ⟨_, er_, qR HO467, qB HB⟩
   ·
    replace c7 := Bool.eq_false_iff.mpr c7
    subst c7
    rw [if_neg (show ¬ (false = true) by decide)] at H
    obtain ⟨t468, A10, H⟩ := bd_ H
    have HC11 := Aside0.mk H
    clear H
    go_upto_region 5 with (first | ((with_reducible refine gate_callee (f := 32) rfl ?_); refine goesL_ (some 17) rfl rfl Try.func32 (by kernel_rfl) rfl #[.string a1] rfl la_ ?_; (with_reducible refine (impl_WordOf.calls a1 t468 _ A10.out).mono ?_); rintro e w' ⟨rfl, ⟨nd, rfl⟩⟩; refine ⟨_, rfl, ?_⟩; (try (rw [drewN_self wc]; generalize hq_ : World.drewN wc _ = wc; have n0_ : Aside0 (Below w.heap.size w wc) := ⟨by rw [← hq_]; exact (qB HB)⟩; clear HB hq_; have HB := n0_; clear n0_))) | ((with_reducible refine gate_dst (N := 6) rfl ?_); refine box_event ?hg (N := 6) ?hd (cs := #[.int .i64 0, .string (⟨#[]⟩ : ByteArray), .int .i64 0]) (t := 47) ?hr ?_; (case hd => rfl); (case hg => rfl); (case hr => first | (go_simp; done) | (go_simp; rfl)); intro gb469 hg w12 hbox hb; have BK469 := am_ (hbox); have GW469 := am_ ((gG_ hg (qB HB))); have IGW469 := gI_ GW469; have GE469 := am_ ((gG_ hg (qB HB))); have IGE469 := gI_ GE469; replace HB := am_ (below_step (qB HB) hb); clear hb hbox hg; obtain ⟨z13_0, z13_1, z13_2⟩ := cz3 BK469.out; obtain ⟨f13_0, f13_1, f13_2⟩ := fz3 BK469.out))
    (try simp only [Act.put, List.setIfInBounds_toArray, List.set_cons_zero, List.set_cons_succ])
    go_cut [20] (fun v20 wc => ∃ (kq : Nat) (x20_10 : Bool), v20 = .bool x20_10 ∧ Aside0 (impl_AnswerTo.j1 kq a0 t468 x20_10 4 a1 0 = some r) ∧ Aside0 (kq ≤ kj2) ∧ Aside0 (wc.heap[gb469]? = some (.cells #[.int .i64 4, .string a1, .int .i64 0] 47 (0, 0))) ∧ Aside0 (Below w.heap.size w wc))
    case first =>
     have H := HC11.out
     clear HC11
     by_cases c14 : a0 = 2
     ·
      rw [if_pos c14] at H
      have c14b0 : (a0 == 2) = true := beq_iff_eq.mpr c14
      have c14b1 : (a0 != 2) = false := bne_eq_false_iff_eq.mpr c14
      clear c14
      (first | rw [c14b0] | rw [c14b1] | (simp only [i64_w, i32_w]; rw [c14b0]) | skip)
      by_cases c15 : t468 = 2
      ·
       rw [if_pos c15] at H
       have c15b0 : (t468 == 2) = true := beq_iff_eq.mpr c15
       have c15b1 : (t468 != 2) = false := bne_eq_false_iff_eq.mpr c15
       clear c15
       have H' := Aside0.mk H
       clear H
       go_wp2
       go_meet
       case rel => exact ⟨_, (false), eqq_, H', ⟨by have := HJ2.out; first | omega | exact Nat.le_refl _⟩, ⟨by (with_reducible repeat (first | refine blk_drewN ?_ _ | refine blk_drew ?_ | refine blk_alloc ?_ _)); refine Go.Proofs.YtaimfkfpglhijaaV.blk_all3 (show _ = some (Go.Obj.cells #[.int .i64 0, .string (⟨#[]⟩ : ByteArray), .int .i64 0] _ (0, 0)) from ?_); exact qK BK469⟩, ⟨qB HB⟩⟩
      ·
       rw [if_neg c15] at H
       have c15b0 : (t468 == 2) = false := beq_eq_false_iff_ne.mpr c15
       have c15b1 : (t468 != 2) = true := bne_iff_ne.mpr c15
       have H' := Aside0.mk H
       clear H
       go_wp2
       go_meet
       case rel => exact ⟨_, ((t468 != 3)), eqq_, H', ⟨by have := HJ2.out; first | omega | exact Nat.le_refl _⟩, ⟨by (with_reducible repeat (first | refine blk_drewN ?_ _ | refine blk_drew ?_ | refine blk_alloc ?_ _)); refine Go.Proofs.YtaimfkfpglhijaaV.blk_all3 (show _ = some (Go.Obj.cells #[.int .i64 0, .string (⟨#[]⟩ : ByteArray), .int .i64 0] _ (0, 0)) from ?_); exact qK BK469⟩, ⟨qB HB⟩⟩
     ·
      rw [if_neg c14] at H
      have c14b0 : (a0 == 2) = false := beq_eq_false_iff_ne.mpr c14
      have c14b1 : (a0 != 2) = true := bne_iff_ne.mpr c14
      (first | rw [c14b0] | rw [c14b1] | (simp only [i64_w, i32_w]; rw [c14b0]) | skip)
      have H' := Aside0.mk H
      clear H
      go_wp2
      go_meet
      case rel => exact ⟨_, (false), eqq_, H', ⟨by have := HJ2.out; first | omega | exact Nat.le_refl _⟩, ⟨by (with_reducible repeat (first | refine blk_drewN ?_ _ | refine blk_drew ?_ | refine blk_alloc ?_ _)); refine Go.Proofs.YtaimfkfpglhijaaV.blk_all3 (show _ = some (Go.Obj.cells #[.int .i64 0, .string (⟨#[]⟩ : ByteArray), .int .i64 0] _ (0, 0)) from ?_); exact qK BK469⟩, ⟨qB HB⟩⟩
    case rest =>
     clear HC11
     try clear c1
     try clear p2
     try clear c3
     try clear c5
     try clear c7
     try clear c12
     try clear c14
     try clear c14b0
     try clear c14b1
     try clear c15
     try clear c15b0
     try clear c15b1
     (try clear z13_0 z13_1 z13_2)
     (try clear f13_0 f13_1 f13_2)
     try clear p2
     obtain ⟨kq, x20_10, rfl, HA, HJ10, BK469, HB⟩ := hcut
     cases kq with
     | zero => exact absurd HA.out (by simp [impl_AnswerTo.j1])
     | succ kj10 =>
      have H := HA.out
      clear HA
      simp only [impl_AnswerTo.j1] at H
      by_cases c16 : x20_10 = true
      ·
       subst c16
       rw [if_pos rfl] at H
       obtain ⟨t470, A17, H⟩ := bd_ H
       obtain ⟨y471, hy471⟩ : ∃ y_ : List (S47), y_ = (([(⟨6, (⟨#[97, 98, 111, 114, 116, 101, 100]⟩ : ByteArray), 0⟩ : S47), (⟨5, (⟨#[]⟩ : ByteArray), t470⟩ : S47)] : List (S47))) := ⟨_, rfl⟩
       rw [← hy471] at H
       have Ny471 := Aside0.mk hy471
       clear hy471
       obtain rfl := Option.some.inj H
       obtain ⟨z18_0, z18_1, z18_2⟩ := cz3 BK469.out
       obtain ⟨f18_0, f18_1, f18_2⟩ := fz3 BK469.out
       try go_wp2
       have n0_ : Aside0 ((((wc.setCell ⟨gb469, 0, none⟩ (.int .i64 6)).setCell ⟨gb469, 1, none⟩ (.string (⟨#[97, 98, 111, 114, 116, 101, 100]⟩ : ByteArray))).setCell ⟨gb469, 2, none⟩ (.int .i64 0)).heap[gb469]? = some (.cells #[.int .i64 6, .string (⟨#[97, 98, 111, 114, 116, 101, 100]⟩ : ByteArray), .int .i64 0] 47 (0, 0))) := ⟨by (with_reducible repeat (first | refine blk_drewN ?_ _ | refine blk_drew ?_ | refine blk_alloc ?_ _)); refine Go.Proofs.YtaimfkfpglhijaaV.blk_all3 (show _ = some (Go.Obj.cells #[.int .i64 4, .string a1, .int .i64 0] _ (0, 0)) from ?_); exact qK BK469⟩
       have n1_ : Aside0 (Below w.heap.size w (((wc.setCell ⟨gb469, 0, none⟩ (.int .i64 6)).setCell ⟨gb469, 1, none⟩ (.string (⟨#[97, 98, 111, 114, 116, 101, 100]⟩ : ByteArray))).setCell ⟨gb469, 2, none⟩ (.int .i64 0))) := ⟨qB HB⟩
       (try clear BK469)
       (try clear HB)
       generalize (((wc.setCell ⟨gb469, 0, none⟩ (.int .i64 6)).setCell ⟨gb469, 1, none⟩ (.string (⟨#[97, 98, 111, 114, 116, 101, 100]⟩ : ByteArray))).setCell ⟨gb469, 2, none⟩ (.int .i64 0)) = w19 at n0_ n1_ ⊢
       have BK469 := n0_
       have HB := n1_
       clear n0_ n1_
       replace BK469 := am_ (blk_drew BK469.out)
       replace HB := am_ (below_drew1 HB.out)
       refine start_ (n := 7) (S := fun w' => w'.cell? ⟨gb469, 0, none⟩ = some (.int .i64 6) ∧ w'.cell? ⟨gb469, 1, none⟩ = some (.string (⟨#[97, 98, 111, 114, 116, 101, 100]⟩ : ByteArray)) ∧ w'.cell? ⟨gb469, 2, none⟩ = some (.int .i64 0)) (ds := []) #[oo,oo,oo,oo,oo,oo,oo] (by kernel_rfl) rfl rfl (cz3 BK469.out) (fun hHeld => ?_)
       generalize w19.drew = w20 at BK469 HB hHeld ⊢
       refine pure_ (i := 1) (N := some 45) (v := ?_) (a' := ?_) #[oo,ii,oo,oo,oo,oo,oo] rfl rfl (by kernel_rfl) (fun _ _ _ h => h) (Or.inl ⟨by rfl, ?_⟩) ?_ ?_
       rotate_left
       ·
        intro w'
        go_simp
        with_reducible rfl
       rotate_left
       ·
        exact ap_
       refine pure_ (i := 2) (N := some 46) (v := ?_) (a' := ?_) #[oo,ii,ii,oo,oo,oo,oo] rfl rfl (by kernel_rfl) (fun _ _ _ h => h) (Or.inl ⟨by rfl, ?_⟩) ?_ ?_
       rotate_left
       ·
        intro w'
        go_simp
        with_reducible rfl
       rotate_left
       ·
        exact ap_
       refine take_ (i := 0) (N := some 44) (v := ?_) (a' := ?_) #[ii,ii,ii,oo,oo,oo,oo] rfl rfl (by kernel_rfl) (fun _ _ _ h => h) (Or.inl ⟨by rfl, ?_⟩) hHeld ?_ ?_
       rotate_left
       ·
        rintro w' ⟨s0, s1, s2⟩
        go_simp
        with_reducible rfl
       rotate_left
       ·
        exact ap_
       refine one_ (i := 3) (N := some 47) #[ii,ii,ii,ii,oo,oo,oo] rfl rfl (by kernel_rfl) (by decide) (fun K hK => ?_)
       refine goes_ Try.func31 (by kernel_rfl) rfl #[.int .i64 a0, .int .i64 t468] (by rfl) rfl rfl la_ ?_
       with_reducible refine (impl_NextSt.calls kj10 a0 t468 t470 _ A17.out).mono ?_
       rintro e w' ⟨rfl, ⟨nd, rfl⟩⟩
       refine ⟨_, rfl, ?_⟩
       refine hK.out _ _ (cz3 BK469.out) (fun hHeld => ?_)
       clear hK K
       refine norm_ (a' := ?_) ?_ ?_
       rotate_left
       ·
        show Act.put _ (some 47) _ = _
        exact ap_
       refine pure_ (i := 4) (N := some 48) (v := ?_) (a' := ?_) #[ii,ii,ii,ii,ii,oo,oo] rfl rfl (by kernel_rfl) (fun _ _ _ h => h) (Or.inl ⟨by rfl, ?_⟩) ?_ ?_
       rotate_left
       ·
        intro w'
        go_simp
        with_reducible rfl
       rotate_left
       ·
        exact ap_
       refine one_ (i := 5) (N := some 49) #[ii,ii,ii,ii,ii,ii,oo] rfl rfl (by kernel_rfl) (by decide) (fun K hK => ?_)
       refine Kd.R_lit_step k47 _ 47 ?hg (N := 49) ?hd (xs := ([(⟨6, (⟨#[97, 98, 111, 114, 116, 101, 100]⟩ : ByteArray), 0⟩ : S47), (⟨5, (⟨#[]⟩ : ByteArray), t470⟩ : S47)] : List (S47))) (inner := [.int .i64 6, .string (⟨#[97, 98, 111, 114, 116, 101, 100]⟩ : ByteArray), .int .i64 0, .int .i64 5, .string (⟨#[]⟩ : ByteArray), .int .i64 t470]) (ok := fun _ => True) (okp := fun _ => True) ?hr ?hp (fun _ hk => hk) trivial (Below.refl _ _) (Nat.le_refl _) (by simp) ?_; (case hd => rfl); (case hg => rfl); (case hr => first | (go_simp; done) | (go_simp; rfl)); (case hp => exact (Reps.c3 (show Kd.M k47 _ _ _ (⟨6, (⟨#[97, 98, 111, 114, 116, 101, 100]⟩ : ByteArray), 0⟩ : S47) [.int .i64 6, .string (⟨#[97, 98, 111, 114, 116, 101, 100]⟩ : ByteArray), .int .i64 0] from (k47_mkM _ _ _ (⟨6, (⟨#[97, 98, 111, 114, 116, 101, 100]⟩ : ByteArray), 0⟩ : S47) )) (Reps.c3 (show Kd.M k47 _ _ _ (⟨5, (⟨#[]⟩ : ByteArray), t470⟩ : S47) [.int .i64 5, .string (⟨#[]⟩ : ByteArray), .int .i64 t470] from (k47_mkM _ _ _ (⟨5, (⟨#[]⟩ : ByteArray), t470⟩ : S47) )) (Reps.none _ _))))
       intro v472 w21 ho22 hb hg_ hnew_
       clear hg_ hnew_
       (first | rw [← Ny471.out] at ho22 | (simp only [Int.reduceToNat] at ho22; rw [← Ny471.out] at ho22))
       have HO473 := am_ (Kd.R_lower (Kd.R_newB ho22 (qK BK469)) (below_size (qB HB)))
       replace BK469 := am_ (blk_below (qK BK469) hb)
       replace HB := am_ (below_step (qB HB) hb)
       clear hb ho22
       refine hK.out _ _ (cz3 BK469.out) (fun hHeld => ?_)
       clear hK K
       refine norm_ (a' := ?_) ?_ ?_
       rotate_left
       ·
        show Act.put _ (some 49) _ = _
        exact ap_
       refine pure_ (i := 6) (N := some 4) (v := ?_) (a' := ?_) #[ii,ii,ii,ii,ii,ii,ii] rfl rfl (by kernel_rfl) (fun _ _ _ h => h) (Or.inl ⟨by rfl, ?_⟩) ?_ ?_
       rotate_left
       ·
        intro w'
        go_simp
        with_reducible rfl
       rotate_left
       ·
        exact ap_
       refine done_ (by kernel_rfl) ?_
       try go_wp2
       go_ret
       exact ⟨_, er_, by (with_reducible repeat (first | apply Kd.R_alloc | apply Kd.R_drewN | apply Kd.R_drew)); exact Kd.R_mono HO473.out (fun _ hk => trivial), qB HB⟩
      ·
       replace c16 := Bool.eq_false_iff.mpr c16
       subst c16
       rw [if_neg (show ¬ (false = true) by decide)] at H
       by_cases c23 : t468 = 4
       ·
        rw [if_pos c23] at H
        have c23b0 : (t468 == 4) = true := beq_iff_eq.mpr c23
        have c23b1 : (t468 != 4) = false := bne_eq_false_iff_eq.mpr c23
        clear c23
        obtain ⟨t474, A24, H⟩ := bd_ H
        obtain ⟨y475, hy475⟩ : ∃ y_ : List (S47), y_ = (([(⟨6, (⟨#[102, 97, 105, 108, 101, 100]⟩ : ByteArray), 0⟩ : S47), (⟨5, (⟨#[]⟩ : ByteArray), t474⟩ : S47)] : List (S47))) := ⟨_, rfl⟩
        rw [← hy475] at H
        have Ny475 := Aside0.mk hy475
        clear hy475
        obtain rfl := Option.some.inj H
        obtain ⟨z25_0, z25_1, z25_2⟩ := cz3 BK469.out
        obtain ⟨f25_0, f25_1, f25_2⟩ := fz3 BK469.out
        try go_wp2
        have n0_ : Aside0 ((((wc.setCell ⟨gb469, 0, none⟩ (.int .i64 6)).setCell ⟨gb469, 1, none⟩ (.string (⟨#[102, 97, 105, 108, 101, 100]⟩ : ByteArray))).setCell ⟨gb469, 2, none⟩ (.int .i64 0)).heap[gb469]? = some (.cells #[.int .i64 6, .string (⟨#[102, 97, 105, 108, 101, 100]⟩ : ByteArray), .int .i64 0] 47 (0, 0))) := ⟨by (with_reducible repeat (first | refine blk_drewN ?_ _ | refine blk_drew ?_ | refine blk_alloc ?_ _)); refine Go.Proofs.YtaimfkfpglhijaaV.blk_all3 (show _ = some (Go.Obj.cells #[.int .i64 4, .string a1, .int .i64 0] _ (0, 0)) from ?_); exact qK BK469⟩
        have n1_ : Aside0 (Below w.heap.size w (((wc.setCell ⟨gb469, 0, none⟩ (.int .i64 6)).setCell ⟨gb469, 1, none⟩ (.string (⟨#[102, 97, 105, 108, 101, 100]⟩ : ByteArray))).setCell ⟨gb469, 2, none⟩ (.int .i64 0))) := ⟨qB HB⟩
        generalize (((wc.setCell ⟨gb469, 0, none⟩ (.int .i64 6)).setCell ⟨gb469, 1, none⟩ (.string (⟨#[102, 97, 105, 108, 101, 100]⟩ : ByteArray))).setCell ⟨gb469, 2, none⟩ (.int .i64 0)) = w26 at n0_ n1_ ⊢
        have BK469 := n0_
        have HB := n1_
        clear n0_ n1_
        replace BK469 := am_ (blk_drew BK469.out)
        replace HB := am_ (below_drew1 HB.out)
        refine start_ (n := 7) (S := fun w' => w'.cell? ⟨gb469, 0, none⟩ = some (.int .i64 6) ∧ w'.cell? ⟨gb469, 1, none⟩ = some (.string (⟨#[102, 97, 105, 108, 101, 100]⟩ : ByteArray)) ∧ w'.cell? ⟨gb469, 2, none⟩ = some (.int .i64 0)) (ds := []) #[oo,oo,oo,oo,oo,oo,oo] (by kernel_rfl) rfl rfl (cz3 BK469.out) (fun hHeld => ?_)
        generalize w26.drew = w27 at BK469 HB hHeld ⊢
        refine pure_ (i := 1) (N := some 45) (v := ?_) (a' := ?_) #[oo,ii,oo,oo,oo,oo,oo] rfl rfl (by kernel_rfl) (fun _ _ _ h => h) (Or.inl ⟨by rfl, ?_⟩) ?_ ?_
        rotate_left
        ·
         intro w'
         go_simp
         with_reducible rfl
        rotate_left
        ·
         exact ap_
        refine pure_ (i := 2) (N := some 46) (v := ?_) (a' := ?_) #[oo,ii,ii,oo,oo,oo,oo] rfl rfl (by kernel_rfl) (fun _ _ _ h => h) (Or.inl ⟨by rfl, ?_⟩) ?_ ?_
        rotate_left
        ·
         intro w'
         go_simp
         with_reducible rfl
        rotate_left
        ·
         exact ap_
        refine take_ (i := 0) (N := some 44) (v := ?_) (a' := ?_) #[ii,ii,ii,oo,oo,oo,oo] rfl rfl (by kernel_rfl) (fun _ _ _ h => h) (Or.inl ⟨by rfl, ?_⟩) hHeld ?_ ?_
        rotate_left
        ·
         rintro w' ⟨s0, s1, s2⟩
         go_simp
         with_reducible rfl
        rotate_left
        ·
         exact ap_
        refine one_ (i := 3) (N := some 47) #[ii,ii,ii,ii,oo,oo,oo] rfl rfl (by kernel_rfl) (by decide) (fun K hK => ?_)
        refine goes_ Try.func31 (by kernel_rfl) rfl #[.int .i64 a0, .int .i64 t468] (by rfl) rfl rfl la_ ?_
        with_reducible refine (impl_NextSt.calls kj10 a0 t468 t474 _ A24.out).mono ?_
        rintro e w' ⟨rfl, ⟨nd, rfl⟩⟩
        refine ⟨_, rfl, ?_⟩
        refine hK.out _ _ (cz3 BK469.out) (fun hHeld => ?_)
        clear hK K
        refine norm_ (a' := ?_) ?_ ?_
        rotate_left
        ·
         show Act.put _ (some 47) _ = _
         exact ap_
        refine pure_ (i := 4) (N := some 48) (v := ?_) (a' := ?_) #[ii,ii,ii,ii,ii,oo,oo] rfl rfl (by kernel_rfl) (fun _ _ _ h => h) (Or.inl ⟨by rfl, ?_⟩) ?_ ?_
        rotate_left
        ·
         intro w'
         go_simp
         with_reducible rfl
        rotate_left
        ·
         exact ap_
        refine one_ (i := 5) (N := some 49) #[ii,ii,ii,ii,ii,ii,oo] rfl rfl (by kernel_rfl) (by decide) (fun K hK => ?_)
        refine Kd.R_lit_step k47 _ 47 ?hg (N := 49) ?hd (xs := ([(⟨6, (⟨#[102, 97, 105, 108, 101, 100]⟩ : ByteArray), 0⟩ : S47), (⟨5, (⟨#[]⟩ : ByteArray), t474⟩ : S47)] : List (S47))) (inner := [.int .i64 6, .string (⟨#[102, 97, 105, 108, 101, 100]⟩ : ByteArray), .int .i64 0, .int .i64 5, .string (⟨#[]⟩ : ByteArray), .int .i64 t474]) (ok := fun _ => True) (okp := fun _ => True) ?hr ?hp (fun _ hk => hk) trivial (Below.refl _ _) (Nat.le_refl _) (by simp) ?_; (case hd => rfl); (case hg => rfl); (case hr => first | (go_simp; done) | (go_simp; rfl)); (case hp => exact (Reps.c3 (show Kd.M k47 _ _ _ (⟨6, (⟨#[102, 97, 105, 108, 101, 100]⟩ : ByteArray), 0⟩ : S47) [.int .i64 6, .string (⟨#[102, 97, 105, 108, 101, 100]⟩ : ByteArray), .int .i64 0] from (k47_mkM _ _ _ (⟨6, (⟨#[102, 97, 105, 108, 101, 100]⟩ : ByteArray), 0⟩ : S47) )) (Reps.c3 (show Kd.M k47 _ _ _ (⟨5, (⟨#[]⟩ : ByteArray), t474⟩ : S47) [.int .i64 5, .string (⟨#[]⟩ : ByteArray), .int .i64 t474] from (k47_mkM _ _ _ (⟨5, (⟨#[]⟩ : ByteArray), t474⟩ : S47) )) (Reps.none _ _))))
        intro v476 w28 ho29 hb hg_ hnew_
        clear hg_ hnew_
        (first | rw [← Ny475.out] at ho29 | (simp only [Int.reduceToNat] at ho29; rw [← Ny475.out] at ho29))
        have HO477 := am_ (Kd.R_lower (Kd.R_newB ho29 (qK BK469)) (below_size (qB HB)))
        replace BK469 := am_ (blk_below (qK BK469) hb)
        replace HB := am_ (below_step (qB HB) hb)
        clear hb ho29
        refine hK.out _ _ (cz3 BK469.out) (fun hHeld => ?_)
        clear hK K
        refine norm_ (a' := ?_) ?_ ?_
        rotate_left
        ·
         show Act.put _ (some 49) _ = _
         exact ap_
        refine pure_ (i := 6) (N := some 4) (v := ?_) (a' := ?_) #[ii,ii,ii,ii,ii,ii,ii] rfl rfl (by kernel_rfl) (fun _ _ _ h => h) (Or.inl ⟨by rfl, ?_⟩) ?_ ?_
        rotate_left
        ·
         intro w'
         go_simp
         with_reducible rfl
        rotate_left
        ·
         exact ap_
        refine done_ (by kernel_rfl) ?_
        try go_wp2
        go_ret
        exact ⟨_, er_, by (with_reducible repeat (first | apply Kd.R_alloc | apply Kd.R_drewN | apply Kd.R_drew)); exact Kd.R_mono HO477.out (fun _ hk => trivial), qB HB⟩
       ·
        rw [if_neg c23] at H
        have c23b0 : (t468 == 4) = false := beq_eq_false_iff_ne.mpr c23
        have c23b1 : (t468 != 4) = true := bne_iff_ne.mpr c23
        by_cases c30 : a0 = 2
        ·
         rw [if_pos c30] at H
         have c30b0 : (a0 == 2) = true := beq_iff_eq.mpr c30
         have c30b1 : (a0 != 2) = false := bne_eq_false_iff_eq.mpr c30
         clear c30
         by_cases c31 : t468 = 2
         ·
          rw [if_pos c31] at H
          have c31b0 : (t468 == 2) = true := beq_iff_eq.mpr c31
          have c31b1 : (t468 != 2) = false := bne_eq_false_iff_eq.mpr c31
          clear c31
          obtain ⟨t478, A32, H⟩ := bd_ H
          obtain ⟨y479, hy479⟩ : ∃ y_ : List (S47), y_ = (([(⟨4, (⟨#[114, 111, 108, 108, 98, 97, 99, 107]⟩ : ByteArray), 0⟩ : S47), (⟨5, (⟨#[]⟩ : ByteArray), t478⟩ : S47)] : List (S47))) := ⟨_, rfl⟩
          rw [← hy479] at H
          have Ny479 := Aside0.mk hy479
          clear hy479
          obtain rfl := Option.some.inj H
          obtain ⟨z33_0, z33_1, z33_2⟩ := cz3 BK469.out
          obtain ⟨f33_0, f33_1, f33_2⟩ := fz3 BK469.out
          try go_wp2
          have n0_ : Aside0 ((wc.setCell ⟨gb469, 1, none⟩ (.string (⟨#[114, 111, 108, 108, 98, 97, 99, 107]⟩ : ByteArray))).heap[gb469]? = some (.cells #[.int .i64 4, .string (⟨#[114, 111, 108, 108, 98, 97, 99, 107]⟩ : ByteArray), .int .i64 0] 47 (0, 0))) := ⟨by (with_reducible repeat (first | refine blk_drewN ?_ _ | refine blk_drew ?_ | refine blk_alloc ?_ _)); refine blk_put (cs := #[.int .i64 4, .string a1, .int .i64 0]) ?_ 1 _ rfl; exact qK BK469⟩
          have n1_ : Aside0 (Below w.heap.size w (wc.setCell ⟨gb469, 1, none⟩ (.string (⟨#[114, 111, 108, 108, 98, 97, 99, 107]⟩ : ByteArray)))) := ⟨qB HB⟩
          generalize (wc.setCell ⟨gb469, 1, none⟩ (.string (⟨#[114, 111, 108, 108, 98, 97, 99, 107]⟩ : ByteArray))) = w34 at n0_ n1_ ⊢
          have BK469 := n0_
          have HB := n1_
          clear n0_ n1_
          replace BK469 := am_ (blk_drew BK469.out)
          replace HB := am_ (below_drew1 HB.out)
          refine start_ (n := 7) (S := fun w' => w'.cell? ⟨gb469, 0, none⟩ = some (.int .i64 4) ∧ w'.cell? ⟨gb469, 1, none⟩ = some (.string (⟨#[114, 111, 108, 108, 98, 97, 99, 107]⟩ : ByteArray)) ∧ w'.cell? ⟨gb469, 2, none⟩ = some (.int .i64 0)) (ds := []) #[oo,oo,oo,oo,oo,oo,oo] (by kernel_rfl) rfl rfl (cz3 BK469.out) (fun hHeld => ?_)
          generalize w34.drew = w35 at BK469 HB hHeld ⊢
          refine pure_ (i := 1) (N := some 45) (v := ?_) (a' := ?_) #[oo,ii,oo,oo,oo,oo,oo] rfl rfl (by kernel_rfl) (fun _ _ _ h => h) (Or.inl ⟨by rfl, ?_⟩) ?_ ?_
          rotate_left
          ·
           intro w'
           go_simp
           with_reducible rfl
          rotate_left
          ·
           exact ap_
          refine pure_ (i := 2) (N := some 46) (v := ?_) (a' := ?_) #[oo,ii,ii,oo,oo,oo,oo] rfl rfl (by kernel_rfl) (fun _ _ _ h => h) (Or.inl ⟨by rfl, ?_⟩) ?_ ?_
          rotate_left
          ·
           intro w'
           go_simp
           with_reducible rfl
          rotate_left
          ·
           exact ap_
          refine take_ (i := 0) (N := some 44) (v := ?_) (a' := ?_) #[ii,ii,ii,oo,oo,oo,oo] rfl rfl (by kernel_rfl) (fun _ _ _ h => h) (Or.inl ⟨by rfl, ?_⟩) hHeld ?_ ?_
          rotate_left
          ·
           rintro w' ⟨s0, s1, s2⟩
           go_simp
           with_reducible rfl
          rotate_left
          ·
           exact ap_
          refine one_ (i := 3) (N := some 47) #[ii,ii,ii,ii,oo,oo,oo] rfl rfl (by kernel_rfl) (by decide) (fun K hK => ?_)
          refine goes_ Try.func31 (by kernel_rfl) rfl #[.int .i64 a0, .int .i64 t468] (by rfl) rfl rfl la_ ?_
          with_reducible refine (impl_NextSt.calls kj10 a0 t468 t478 _ A32.out).mono ?_
          rintro e w' ⟨rfl, ⟨nd, rfl⟩⟩
          refine ⟨_, rfl, ?_⟩
          refine hK.out _ _ (cz3 BK469.out) (fun hHeld => ?_)
          clear hK K
          refine norm_ (a' := ?_) ?_ ?_
          rotate_left
          ·
           show Act.put _ (some 47) _ = _
           exact ap_
          refine pure_ (i := 4) (N := some 48) (v := ?_) (a' := ?_) #[ii,ii,ii,ii,ii,oo,oo] rfl rfl (by kernel_rfl) (fun _ _ _ h => h) (Or.inl ⟨by rfl, ?_⟩) ?_ ?_
          rotate_left
          ·
           intro w'
           go_simp
           with_reducible rfl
          rotate_left
          ·
           exact ap_
          refine one_ (i := 5) (N := some 49) #[ii,ii,ii,ii,ii,ii,oo] rfl rfl (by kernel_rfl) (by decide) (fun K hK => ?_)
          refine Kd.R_lit_step k47 _ 47 ?hg (N := 49) ?hd (xs := ([(⟨4, (⟨#[114, 111, 108, 108, 98, 97, 99, 107]⟩ : ByteArray), 0⟩ : S47), (⟨5, (⟨#[]⟩ : ByteArray), t478⟩ : S47)] : List (S47))) (inner := [.int .i64 4, .string (⟨#[114, 111, 108, 108, 98, 97, 99, 107]⟩ : ByteArray), .int .i64 0, .int .i64 5, .string (⟨#[]⟩ : ByteArray), .int .i64 t478]) (ok := fun _ => True) (okp := fun _ => True) ?hr ?hp (fun _ hk => hk) trivial (Below.refl _ _) (Nat.le_refl _) (by simp) ?_; (case hd => rfl); (case hg => rfl); (case hr => first | (go_simp; done) | (go_simp; rfl)); (case hp => exact (Reps.c3 (show Kd.M k47 _ _ _ (⟨4, (⟨#[114, 111, 108, 108, 98, 97, 99, 107]⟩ : ByteArray), 0⟩ : S47) [.int .i64 4, .string (⟨#[114, 111, 108, 108, 98, 97, 99, 107]⟩ : ByteArray), .int .i64 0] from (k47_mkM _ _ _ (⟨4, (⟨#[114, 111, 108, 108, 98, 97, 99, 107]⟩ : ByteArray), 0⟩ : S47) )) (Reps.c3 (show Kd.M k47 _ _ _ (⟨5, (⟨#[]⟩ : ByteArray), t478⟩ : S47) [.int .i64 5, .string (⟨#[]⟩ : ByteArray), .int .i64 t478] from (k47_mkM _ _ _ (⟨5, (⟨#[]⟩ : ByteArray), t478⟩ : S47) )) (Reps.none _ _))))
          intro v480 w36 ho37 hb hg_ hnew_
          clear hg_ hnew_
          (first | rw [← Ny479.out] at ho37 | (simp only [Int.reduceToNat] at ho37; rw [← Ny479.out] at ho37))
          have HO481 := am_ (Kd.R_lower (Kd.R_newB ho37 (qK BK469)) (below_size (qB HB)))
          replace BK469 := am_ (blk_below (qK BK469) hb)
          replace HB := am_ (below_step (qB HB) hb)
          clear hb ho37
          refine hK.out _ _ (cz3 BK469.out) (fun hHeld => ?_)
          clear hK K
          refine norm_ (a' := ?_) ?_ ?_
          rotate_left
          ·
           show Act.put _ (some 49) _ = _
           exact ap_
          refine pure_ (i := 6) (N := some 4) (v := ?_) (a' := ?_) #[ii,ii,ii,ii,ii,ii,ii] rfl rfl (by kernel_rfl) (fun _ _ _ h => h) (Or.inl ⟨by rfl, ?_⟩) ?_ ?_
          rotate_left
          ·
           intro w'
           go_simp
           with_reducible rfl
          rotate_left
          ·
           exact ap_
          refine done_ (by kernel_rfl) ?_
          try go_wp2
          go_ret
          exact ⟨_, er_, by (with_reducible repeat (first | apply Kd.R_alloc | apply Kd.R_drewN | apply Kd.R_drew)); exact Kd.R_mono HO481.out (fun _ hk => trivial), qB HB⟩
         ·
          rw [if_neg c31] at H
          have c31b0 : (t468 == 2) = false := beq_eq_false_iff_ne.mpr c31
          have c31b1 : (t468 != 2) = true := bne_iff_ne.mpr c31
          obtain ⟨t482, A38, H⟩ := bd_ H
          obtain ⟨y483, hy483⟩ : ∃ y_ : List (S47), y_ = (([(⟨4, a1, 0⟩ : S47), (⟨5, (⟨#[]⟩ : ByteArray), t482⟩ : S47)] : List (S47))) := ⟨_, rfl⟩
          rw [← hy483] at H
          have Ny483 := Aside0.mk hy483
          clear hy483
          obtain rfl := Option.some.inj H
          try go_wp2
          replace BK469 := am_ (blk_drew BK469.out)
          replace HB := am_ (below_drew1 HB.out)
          refine start_ (n := 7) (S := fun w' => w'.cell? ⟨gb469, 0, none⟩ = some (.int .i64 4) ∧ w'.cell? ⟨gb469, 1, none⟩ = some (.string a1) ∧ w'.cell? ⟨gb469, 2, none⟩ = some (.int .i64 0)) (ds := []) #[oo,oo,oo,oo,oo,oo,oo] (by kernel_rfl) rfl rfl (cz3 BK469.out) (fun hHeld => ?_)
          generalize wc.drew = w39 at BK469 HB hHeld ⊢
          refine pure_ (i := 1) (N := some 45) (v := ?_) (a' := ?_) #[oo,ii,oo,oo,oo,oo,oo] rfl rfl (by kernel_rfl) (fun _ _ _ h => h) (Or.inl ⟨by rfl, ?_⟩) ?_ ?_
          rotate_left
          ·
           intro w'
           go_simp
           with_reducible rfl
          rotate_left
          ·
           exact ap_
          refine pure_ (i := 2) (N := some 46) (v := ?_) (a' := ?_) #[oo,ii,ii,oo,oo,oo,oo] rfl rfl (by kernel_rfl) (fun _ _ _ h => h) (Or.inl ⟨by rfl, ?_⟩) ?_ ?_
          rotate_left
          ·
           intro w'
           go_simp
           with_reducible rfl
          rotate_left
          ·
           exact ap_
          refine take_ (i := 0) (N := some 44) (v := ?_) (a' := ?_) #[ii,ii,ii,oo,oo,oo,oo] rfl rfl (by kernel_rfl) (fun _ _ _ h => h) (Or.inl ⟨by rfl, ?_⟩) hHeld ?_ ?_
          rotate_left
          ·
           rintro w' ⟨s0, s1, s2⟩
           go_simp
           with_reducible rfl
          rotate_left
          ·
           exact ap_
          refine one_ (i := 3) (N := some 47) #[ii,ii,ii,ii,oo,oo,oo] rfl rfl (by kernel_rfl) (by decide) (fun K hK => ?_)
          refine goes_ Try.func31 (by kernel_rfl) rfl #[.int .i64 a0, .int .i64 t468] (by rfl) rfl rfl la_ ?_
          with_reducible refine (impl_NextSt.calls kj10 a0 t468 t482 _ A38.out).mono ?_
          rintro e w' ⟨rfl, ⟨nd, rfl⟩⟩
          refine ⟨_, rfl, ?_⟩
          refine hK.out _ _ (cz3 BK469.out) (fun hHeld => ?_)
          clear hK K
          refine norm_ (a' := ?_) ?_ ?_
          rotate_left
          ·
           show Act.put _ (some 47) _ = _
           exact ap_
          refine pure_ (i := 4) (N := some 48) (v := ?_) (a' := ?_) #[ii,ii,ii,ii,ii,oo,oo] rfl rfl (by kernel_rfl) (fun _ _ _ h => h) (Or.inl ⟨by rfl, ?_⟩) ?_ ?_
          rotate_left
          ·
           intro w'
           go_simp
           with_reducible rfl
          rotate_left
          ·
           exact ap_
          refine one_ (i := 5) (N := some 49) #[ii,ii,ii,ii,ii,ii,oo] rfl rfl (by kernel_rfl) (by decide) (fun K hK => ?_)
          refine Kd.R_lit_step k47 _ 47 ?hg (N := 49) ?hd (xs := ([(⟨4, a1, 0⟩ : S47), (⟨5, (⟨#[]⟩ : ByteArray), t482⟩ : S47)] : List (S47))) (inner := [.int .i64 4, .string a1, .int .i64 0, .int .i64 5, .string (⟨#[]⟩ : ByteArray), .int .i64 t482]) (ok := fun _ => True) (okp := fun _ => True) ?hr ?hp (fun _ hk => hk) trivial (Below.refl _ _) (Nat.le_refl _) (by simp) ?_; (case hd => rfl); (case hg => rfl); (case hr => first | (go_simp; done) | (go_simp; rfl)); (case hp => exact (Reps.c3 (show Kd.M k47 _ _ _ (⟨4, a1, 0⟩ : S47) [.int .i64 4, .string a1, .int .i64 0] from (k47_mkM _ _ _ (⟨4, a1, 0⟩ : S47) )) (Reps.c3 (show Kd.M k47 _ _ _ (⟨5, (⟨#[]⟩ : ByteArray), t482⟩ : S47) [.int .i64 5, .string (⟨#[]⟩ : ByteArray), .int .i64 t482] from (k47_mkM _ _ _ (⟨5, (⟨#[]⟩ : ByteArray), t482⟩ : S47) )) (Reps.none _ _))))
          intro v484 w40 ho41 hb hg_ hnew_
          clear hg_ hnew_
          (first | rw [← Ny483.out] at ho41 | (simp only [Int.reduceToNat] at ho41; rw [← Ny483.out] at ho41))
          have HO485 := am_ (Kd.R_lower (Kd.R_newB ho41 (qK BK469)) (below_size (qB HB)))
          replace BK469 := am_ (blk_below (qK BK469) hb)
          replace HB := am_ (below_step (qB HB) hb)
          clear hb ho41
          refine hK.out _ _ (cz3 BK469.out) (fun hHeld => ?_)
          clear hK K
          refine norm_ (a' := ?_) ?_ ?_
          rotate_left
          ·
           show Act.put _ (some 49) _ = _
           exact ap_
          refine pure_ (i := 6) (N := some 4) (v := ?_) (a' := ?_) #[ii,ii,ii,ii,ii,ii,ii] rfl rfl (by kernel_rfl) (fun _ _ _ h => h) (Or.inl ⟨by rfl, ?_⟩) ?_ ?_
          rotate_left
          ·
           intro w'
           go_simp
           with_reducible rfl
          rotate_left
          ·
           exact ap_
          refine done_ (by kernel_rfl) ?_
          try go_wp2
          go_ret
          exact ⟨_, er_, by (with_reducible repeat (first | apply Kd.R_alloc | apply Kd.R_drewN | apply Kd.R_drew)); exact Kd.R_mono HO485.out (fun _ hk => trivial), qB HB⟩
        ·
         rw [if_neg c30] at H
         have c30b0 : (a0 == 2) = false := beq_eq_false_iff_ne.mpr c30
         have c30b1 : (a0 != 2) = true := bne_iff_ne.mpr c30
         obtain ⟨t486, A42, H⟩ := bd_ H
         obtain ⟨y487, hy487⟩ : ∃ y_ : List (S47), y_ = (([(⟨4, a1, 0⟩ : S47), (⟨5, (⟨#[]⟩ : ByteArray), t486⟩ : S47)] : List (S47))) := ⟨_, rfl⟩
         rw [← hy487] at H
         have Ny487 := Aside0.mk hy487
         clear hy487
         obtain rfl := Option.some.inj H
         try go_wp2
         replace BK469 := am_ (blk_drew BK469.out)
         replace HB := am_ (below_drew1 HB.out)
         refine start_ (n := 7) (S := fun w' => w'.cell? ⟨gb469, 0, none⟩ = some (.int .i64 4) ∧ w'.cell? ⟨gb469, 1, none⟩ = some (.string a1) ∧ w'.cell? ⟨gb469, 2, none⟩ = some (.int .i64 0)) (ds := []) #[oo,oo,oo,oo,oo,oo,oo] (by kernel_rfl) rfl rfl (cz3 BK469.out) (fun hHeld => ?_)
         generalize wc.drew = w43 at BK469 HB hHeld ⊢
         refine pure_ (i := 1) (N := some 45) (v := ?_) (a' := ?_) #[oo,ii,oo,oo,oo,oo,oo] rfl rfl (by kernel_rfl) (fun _ _ _ h => h) (Or.inl ⟨by rfl, ?_⟩) ?_ ?_
         rotate_left
         ·
          intro w'
          go_simp
          with_reducible rfl
         rotate_left
         ·
          exact ap_
         refine pure_ (i := 2) (N := some 46) (v := ?_) (a' := ?_) #[oo,ii,ii,oo,oo,oo,oo] rfl rfl (by kernel_rfl) (fun _ _ _ h => h) (Or.inl ⟨by rfl, ?_⟩) ?_ ?_
         rotate_left
         ·
          intro w'
          go_simp
          with_reducible rfl
         rotate_left
         ·
          exact ap_
         refine take_ (i := 0) (N := some 44) (v := ?_) (a' := ?_) #[ii,ii,ii,oo,oo,oo,oo] rfl rfl (by kernel_rfl) (fun _ _ _ h => h) (Or.inl ⟨by rfl, ?_⟩) hHeld ?_ ?_
         rotate_left
         ·
          rintro w' ⟨s0, s1, s2⟩
          go_simp
          with_reducible rfl
         rotate_left
         ·
          exact ap_
         refine one_ (i := 3) (N := some 47) #[ii,ii,ii,ii,oo,oo,oo] rfl rfl (by kernel_rfl) (by decide) (fun K hK => ?_)
         refine goes_ Try.func31 (by kernel_rfl) rfl #[.int .i64 a0, .int .i64 t468] (by rfl) rfl rfl la_ ?_
         with_reducible refine (impl_NextSt.calls kj10 a0 t468 t486 _ A42.out).mono ?_
         rintro e w' ⟨rfl, ⟨nd, rfl⟩⟩
         refine ⟨_, rfl, ?_⟩
         refine hK.out _ _ (cz3 BK469.out) (fun hHeld => ?_)
         clear hK K
         refine norm_ (a' := ?_) ?_ ?_
         rotate_left
         ·
          show Act.put _ (some 47) _ = _
          exact ap_
         refine pure_ (i := 4) (N := some 48) (v := ?_) (a' := ?_) #[ii,ii,ii,ii,ii,oo,oo] rfl rfl (by kernel_rfl) (fun _ _ _ h => h) (Or.inl ⟨by rfl, ?_⟩) ?_ ?_
         rotate_left
         ·
          intro w'
          go_simp
          with_reducible rfl
         rotate_left
         ·
          exact ap_
         refine one_ (i := 5) (N := some 49) #[ii,ii,ii,ii,ii,ii,oo] rfl rfl (by kernel_rfl) (by decide) (fun K hK => ?_)
         refine Kd.R_lit_step k47 _ 47 ?hg (N := 49) ?hd (xs := ([(⟨4, a1, 0⟩ : S47), (⟨5, (⟨#[]⟩ : ByteArray), t486⟩ : S47)] : List (S47))) (inner := [.int .i64 4, .string a1, .int .i64 0, .int .i64 5, .string (⟨#[]⟩ : ByteArray), .int .i64 t486]) (ok := fun _ => True) (okp := fun _ => True) ?hr ?hp (fun _ hk => hk) trivial (Below.refl _ _) (Nat.le_refl _) (by simp) ?_; (case hd => rfl); (case hg => rfl); (case hr => first | (go_simp; done) | (go_simp; rfl)); (case hp => exact (Reps.c3 (show Kd.M k47 _ _ _ (⟨4, a1, 0⟩ : S47) [.int .i64 4, .string a1, .int .i64 0] from (k47_mkM _ _ _ (⟨4, a1, 0⟩ : S47) )) (Reps.c3 (show Kd.M k47 _ _ _ (⟨5, (⟨#[]⟩ : ByteArray), t486⟩ : S47) [.int .i64 5, .string (⟨#[]⟩ : ByteArray), .int .i64 t486] from (k47_mkM _ _ _ (⟨5, (⟨#[]⟩ : ByteArray), t486⟩ : S47) )) (Reps.none _ _))))
         intro v488 w44 ho45 hb hg_ hnew_
         clear hg_ hnew_
         (first | rw [← Ny487.out] at ho45 | (simp only [Int.reduceToNat] at ho45; rw [← Ny487.out] at ho45))
         have HO489 := am_ (Kd.R_lower (Kd.R_newB ho45 (qK BK469)) (below_size (qB HB)))
         replace BK469 := am_ (blk_below (qK BK469) hb)
         replace HB := am_ (below_step (qB HB) hb)
         clear hb ho45
         refine hK.out _ _ (cz3 BK469.out) (fun hHeld => ?_)
         clear hK K
         refine norm_ (a' := ?_) ?_ ?_
         rotate_left
         ·
          show Act.put _ (some 49) _ = _
          exact ap_
         refine pure_ (i := 6) (N := some 4) (v := ?_) (a' := ?_) #[ii,ii,ii,ii,ii,ii,ii] rfl rfl (by kernel_rfl) (fun _ _ _ h => h) (Or.inl ⟨by rfl, ?_⟩) ?_ ?_
         rotate_left
         ·
          intro w'
          go_simp
          with_reducible rfl
         rotate_left
         ·
          exact ap_
         refine done_ (by kernel_rfl) ?_
         try go_wp2
         go_ret
         exact ⟨_, er_, by (with_reducible repeat (first | apply Kd.R_alloc | apply Kd.R_drewN | apply Kd.R_drew)); exact Kd.R_mono HO489.out (fun _ hk => trivial), qB HB⟩

end Go.Proofs.Ytaimfkfpglhijaa.PFnFar
