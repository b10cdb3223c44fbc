-- Written by a program of this session (myprint.py, over the kit's print): contracts of FnFar
import Derived.Test.YtaimfkfpglhijaaPFnFarx0
import Derived.Test.YtaimfkfpglhijaaPFnFarx7
import Derived.Test.YtaimfkfpglhijaaPFnFarx9
namespace Go.Proofs.Ytaimfkfpglhijaa.PFnFar
open Go.RowKit Go.Proofs.YtaimfkfpglhijaaW.PrintWords Go.Proofs.YtaimfkfpglhijaaW.PrintLast Go.Proofs.YtaimfkfpglhijaaW.PrintMore Go.Proofs.YtaimfkfpglhijaaV
attribute [local go_sem] max2_int min2_int max_two min_two max_three min_three max_four min_four   -- for this text's walks alone
set_option linter.unusedVariables false
set_option linter.unusedSimpArgs false

/-! ### impl_PutFrame: function 47 -/
def impl_PutFrame.f (k : Nat) (a0_0 : Int) (a0_1 : ByteArray) (a0_2 : Int) : Option (List Int) := (impl_FrameOk.f k a0_0 a0_1 a0_2).bind fun t442 => (if t442 = true then ((some (([(a0_0) % 256] : List Int) : List Int)).bind fun y446 => (if a0_0 = 5 then (if y446.length < 140737488355328 then (some (y446 ++ [(a0_2) % 256])) else (none)) else (if a0_0 = 3 then (some y446) else ((impl_PutText.f k y446 a0_1).bind fun t452 => (some t452))))) else (some (([] : List Int))))
theorem impl_PutFrame.mono : ∀ a0 a1 a2 k, LeO (impl_PutFrame.f k a0 a1 a2) (impl_PutFrame.f (k + 1) a0 a1 a2) := by
 intro a0 a1 a2 k
 unfold impl_PutFrame.f
 repeat' first
   | (with_reducible exact impl_FrameOk.mono _ _ _ _)
   | (with_reducible exact impl_PutText.mono _ _ _)
   | (with_reducible exact LeO.refl _)
   | (with_reducible exact LeO.none _)
   | (with_reducible refine LeO.ite ?_ ?_)
   | (with_reducible refine LeO.bind ?_ (fun _ => ?_))
   | exact impl_FrameOk.mono _ _ _ _
   | exact impl_PutText.mono _ _ _
   | exact LeO.none _
   | refine LeO.ite ?_ ?_
   | refine LeO.bind ?_ (fun _ => ?_)
set_option maxHeartbeats 8000000 in
set_option maxRecDepth 100000 in
theorem impl_PutFrame.calls (k : Nat) (a0_0 : Int) (a0_1 : ByteArray) (a0_2 : Int) (r : List Int) (w : World) (h : impl_PutFrame.f k a0_0 a0_1 a0_2 = some r) :
  Calls Try.prog 47 #[.agg #[.int .i64 a0_0, .string a0_1, .int .i64 a0_2]] w fun e w' => ∃ v0_ : Value, e = .returned (v0_) ∧ Kd.R (Kd.int .u8) 5 w' w.heap.size (fun _ => True) v0_ r ∧ Below w.heap.size w w' := by
 have hu47 := Try.underlying47
 have HB := Aside0.mk (Below.refl w.heap.size w)
 have H : ((impl_FrameOk.f k a0_0 a0_1 a0_2).bind fun t442 => (if t442 = true then ((some (([(a0_0) % 256] : List Int) : List Int)).bind fun y446 => (if a0_0 = 5 then (if y446.length < 140737488355328 then (some (y446 ++ [(a0_2) % 256])) else (none)) else (if a0_0 = 3 then (some y446) else ((impl_PutText.f k y446 a0_1).bind fun t452 => (some t452))))) else (some (([] : List Int))))) = some r := h
 clear h
 obtain ⟨t442, A2, H⟩ := bd_ H
 have HC3 := Aside0.mk H
 clear H
 go_enter Try.func47, Try.ntmps47
 go_upto_if 6 with (first | ((with_reducible refine gate_dst (N := 1) rfl ?_); refine box_event ?hg (N := 1) ?hd (cs := #[.int .i64 a0_0, .string a0_1, .int .i64 a0_2]) (t := 47) ?hr ?_; (case hd => rfl); (case hg => rfl); (case hr => first | (go_simp; done) | (go_simp; rfl)); intro gb441 hg w4 hbox hb; have BK441 := am_ (hbox); have GW441 := am_ ((gG_ hg (qB HB))); have IGW441 := gI_ GW441; have GE441 := am_ ((gG_ hg (qB HB))); have IGE441 := gI_ GE441; replace HB := am_ (below_step (qB HB) hb); clear hb hbox hg; obtain ⟨z5_0, z5_1, z5_2⟩ := cz3 BK441.out; obtain ⟨f5_0, f5_1, f5_2⟩ := fz3 BK441.out) | ((with_reducible refine gate_callee (f := 135) rfl ?_); refine goesL_ (some 5) rfl rfl Try.func135 (by kernel_rfl) rfl #[.agg #[.int .i64 a0_0, .string a0_1, .int .i64 a0_2]] rfl la_ ?_; (with_reducible refine (impl_FrameOk.calls k a0_0 a0_1 a0_2 t442 _ A2.out).mono ?_); rintro e w6 ⟨rfl, hb⟩; refine ⟨_, rfl, ?_⟩; replace BK441 := am_ (blk_below (qK BK441) hb); replace HB := am_ (below_step (qB HB) hb); (try clear hb); (try clear hb2); (try clear hk); (try clear hi)))
 (try simp only [Act.put, List.setIfInBounds_toArray, List.set_cons_zero, List.set_cons_succ])
 have H := HC3.out
 clear HC3
 by_cases c7 : t442 = true
 ·
  subst c7
  rw [if_pos rfl] at H
  obtain ⟨y446, hy446⟩ : ∃ y_ : List Int, y_ = (([(a0_0) % 256] : List Int)) := ⟨_, rfl⟩
  replace H := mk_ H hy446
  (try dsimp only at H)
  have Ny446 := Aside0.mk hy446
  clear hy446
  have HC8 := Aside0.mk H
  clear H
  obtain ⟨z9_0, z9_1, z9_2⟩ := cz3 BK441.out
  obtain ⟨f9_0, f9_1, f9_2⟩ := fz3 BK441.out
  go_upto_if 14 with (first | ((with_reducible refine gate_dst (N := 11) rfl ?_); refine Kd.R_lit (Kd.int .u8) _ 5 ?hg (N := 11) ?hd (xs := ([(a0_0) % 256] : List Int)) (inner := [.int .u8 ((a0_0) % 256)]) (ok := fun _ => True) (okp := fun _ => True) ?hr ?hp (fun _ hk => hk) trivial (Below.refl _ _) (Nat.le_refl _) (by simp) ?_; (case hd => rfl); (case hg => rfl); (case hr => first | (go_simp; done) | (go_simp; rfl)); (case hp => exact (Reps.one (show Kd.M (Kd.int .u8) _ _ _ ((a0_0) % 256) [.int .u8 ((a0_0) % 256)] from rfl) (Reps.none _ _))); intro v447 w10 ho11 hb hg_ hnew_; clear hg_ hnew_; (first | rw [← Ny446.out] at ho11 | (simp only [Int.reduceToNat] at ho11; rw [← Ny446.out] at ho11)); have HO448 := am_ (Kd.R_lower ho11 (below_size (qB HB))); replace BK441 := am_ (blk_below (qK BK441) hb); replace HB := am_ (below_step (qB HB) hb); clear hb ho11; obtain ⟨z12_0, z12_1, z12_2⟩ := cz3 BK441.out; obtain ⟨f12_0, f12_1, f12_2⟩ := fz3 BK441.out))
  (try simp only [Act.put, List.setIfInBounds_toArray, List.set_cons_zero, List.set_cons_succ])
  have H := HC8.out
  clear HC8
  by_cases c13 : a0_0 = 5
  ·
   rw [if_pos c13] at H
   have c13b0 : (a0_0 == 5) = true := beq_iff_eq.mpr c13
   have c13b1 : (a0_0 != 5) = false := bne_eq_false_iff_eq.mpr c13
   clear c13
   (first | rw [c13b0] | rw [c13b1] | (simp only [i64_w, i32_w]; rw [c13b0]) | skip)
   by_cases c14 : y446.length < 140737488355328
   case neg => exact nn_ c14 H
   rw [if_pos c14] at H
   have LMc14 := Aside0.mk c14
   clear c14
   obtain ⟨y449, hy449⟩ : ∃ y_ : List Int, y_ = (y446 ++ [(a0_2) % 256]) := ⟨_, rfl⟩
   rw [← hy449] at H
   have Ny449 := Aside0.mk hy449
   clear hy449
   obtain rfl := Option.some.inj H
   obtain ⟨z15_0, z15_1, z15_2⟩ := cz3 BK441.out
   obtain ⟨f15_0, f15_1, f15_2⟩ := fz3 BK441.out
   go_wp2_with (first | ((with_reducible refine gate_builtin (b := .append) (xs := #[.tmp 16, .tmp 20]) rfl ?_); at_builtin; refine Kd.R_append (Kd.int .u8) (w0 := w) w.heap.size rfl (.tmp 16) (.tmp 20) 22 5 (.int .u8 0) 1 rfl Try.underlying22 info5 rfl (by decide) (by omega) v447 y446 ((a0_2) % 256) [.int .u8 ((a0_2) % 256)] (fun _ => True) (fun _ => False) rfl rfl ?aP (fun _ hk => hk.elim) ?aF ?aO ?aB ?aS ?aL ?_; (case aP => exact rfl); (case aB => exact (qB HB)); (case aF => exact (fun _ _ => trivial)); (case aO => exact (qR HO448)); (case aS => exact (below_size (qB HB))); (case aL => have := LMc14.out; omega); intro v450 w16 ho hb hg hat; rw [← Ny449.out] at ho; replace BK441 := am_ (blk_grown (qK BK441) hg (Kd.R_ne HO448.out BK441.out (by decide))); replace HB := am_ (hb); have HO451 := am_ (ho); clear HO448; clear ho hb hg hat))
   go_ret
   exact ⟨_, er_, qR HO451, qB HB⟩
  ·
   rw [if_neg c13] at H
   have c13b0 : (a0_0 == 5) = false := beq_eq_false_iff_ne.mpr c13
   have c13b1 : (a0_0 != 5) = true := bne_iff_ne.mpr c13
   (first | rw [c13b0] | rw [c13b1] | (simp only [i64_w, i32_w]; rw [c13b0]) | skip)
   by_cases c17 : a0_0 = 3
   ·
    rw [if_pos c17] at H
    have c17b0 : (a0_0 == 3) = true := beq_iff_eq.mpr c17
    have c17b1 : (a0_0 != 3) = false := bne_eq_false_iff_eq.mpr c17
    clear c17
    obtain rfl := Option.some.inj H
    go_wp2
    go_ret
    exact ⟨_, er_, qR HO448, qB HB⟩
   ·
    rw [if_neg c17] at H
    have c17b0 : (a0_0 == 3) = false := beq_eq_false_iff_ne.mpr c17
    have c17b1 : (a0_0 != 3) = true := bne_iff_ne.mpr c17
    obtain ⟨t452, A18, H⟩ := bd_ H
    obtain rfl := Option.some.inj H
    obtain ⟨z19_0, z19_1, z19_2⟩ := cz3 BK441.out
    obtain ⟨f19_0, f19_1, f19_2⟩ := fz3 BK441.out
    obtain ⟨Ao20, co20, eo20⟩ := Kd.R_slice HO448.out
    subst eo20
    go_wp2_with (first | ((with_reducible refine gate_callee (f := 100) rfl ?_); refine goesL_ (some 28) rfl rfl Try.func100 (by kernel_rfl) rfl #[.slice Ao20 y446.length co20, .string a0_1] rfl la_ ?_; (with_reducible refine (impl_PutText.calls k _ _ y446 a0_1 t452 _ ?side1 ?side2 A18.out).mono ?_); (case side1 => exact qC ((Kd.R_reads' HO448.out).2.2)); (case side2 => exact (Kd.R_reads' HO448.out).2.1); rintro e w21 ⟨v453, rfl, ho0, hb⟩; refine ⟨_, rfl, ?_⟩; have HO454 := am_ (Kd.R_lower (Kd.R_new' ho0 (Kd.R_lt (qR HO448))) (below_size (qB HB))); replace HO448 := am_ (eR HO448 ho0 hb); replace BK441 := am_ (blk_below (qK BK441) hb); replace HB := am_ (below_step (qB HB) hb); (try clear hb); (try clear hb2); (try clear hk); (try clear hi); (try clear ho0)))
    go_ret
    exact ⟨_, er_, by (with_reducible repeat (first | apply Kd.R_alloc | apply Kd.R_drewN | apply Kd.R_drew)); exact Kd.R_mono HO454.out (fun _ hk => trivial), qB HB⟩
 ·
  replace c7 := Bool.eq_false_iff.mpr c7
  subst c7
  rw [if_neg (show ¬ (false = true) by decide)] at H
  obtain ⟨y443, hy443⟩ : ∃ y_ : List Int, y_ = (([] : List Int)) := ⟨_, rfl⟩
  rw [← hy443] at H
  have Ny443 := Aside0.mk hy443
  clear hy443
  obtain rfl := Option.some.inj H
  go_wp2_with (first | ((with_reducible refine gate_dst (N := 7) rfl ?_); refine Kd.R_lit (Kd.int .u8) _ 5 ?hg (N := 7) ?hd (xs := ([] : List Int)) (inner := []) (ok := fun _ => True) (okp := fun _ => True) ?hr ?hp (fun _ hk => hk) trivial (Below.refl _ _) (Nat.le_refl _) (by simp) ?_; (case hd => rfl); (case hg => rfl); (case hr => first | (go_simp; done) | (go_simp; rfl)); (case hp => exact (Reps.none _ _)); intro v444 w22 ho23 hb hg_ hnew_; clear hg_ hnew_; (first | rw [← Ny443.out] at ho23 | (simp only [Int.reduceToNat] at ho23; rw [← Ny443.out] at ho23)); have HO445 := am_ (Kd.R_lower ho23 (below_size (qB HB))); replace BK441 := am_ (blk_below (qK BK441) hb); replace HB := am_ (below_step (qB HB) hb); clear hb ho23))
  go_ret
  exact ⟨_, er_, qR HO445, qB HB⟩

/-! ### impl_sockCopy: function 128 -/
def impl_sockCopy.f (a0_0 : Int) (a0_1 : Int) (a0_2 : Int) (a0_3 : Bool) (l0_4 : List Int) (l0_5 : List Int) (a0_6 : Int) (a0_7 : Int) : Option (Int × Int × Int × Bool × List Int × List Int × Int × Int) := (slices_Clone_byte.f l0_4).bind fun t457 => ((slices_Clone_byte.f l0_5).bind fun t460 => (some (a0_0, a0_1, a0_2, a0_3, t457, t460, a0_6, a0_7)))
def impl_sockCopy.T1 : Bool × List (List Nat × List Nat) := (true, [([], []), ([0], [0]), ([1], [1]), ([], []), ([3], [3]), ([4, 2], [4]), ([0, 1, 2, 3, 4], []), ([6, 2, 5, 0, 1, 2, 3, 4], [2, 6]), ([0, 1, 2, 3, 4, 5, 6, 7], []), ([8, 5, 7, 0, 1, 2, 3, 4, 5, 6, 7], [5, 8])])
def impl_sockCopy.B1 : List Nat := [0, 1, 3, 0, 8, 31, 31, 127, 255, 511]
theorem impl_sockCopy.tab1 : rtab .any (opsOf Try.f128 1) = impl_sockCopy.T1 := by kernel_rfl
theorem impl_sockCopy.bits1 : waitsOk impl_sockCopy.T1.2 impl_sockCopy.B1 = true := by kernel_rfl
set_option maxHeartbeats 8000000 in
set_option maxRecDepth 100000 in
theorem impl_sockCopy.calls (a0_0 : Int) (a0_1 : Int) (a0_2 : Int) (a0_3 : Bool) (A0_4 : Option Addr) (c0_4 : Nat) (l0_4 : List Int) (A0_5 : Option Addr) (c0_5 : Nat) (l0_5 : List Int) (a0_6 : Int) (a0_7 : Int) (r1 : Int) (r2 : Int) (r3 : Int) (r4 : Bool) (r5 : List Int) (r6 : List Int) (r7 : Int) (r8 : Int) (w : World) (hr0_4 : Kd.C (Kd.int .u8) w A0_4 l0_4.length l0_4) (hc0_4 : l0_4.length ≤ c0_4) (hr0_5 : Kd.C (Kd.int .u8) w A0_5 l0_5.length l0_5) (hc0_5 : l0_5.length ≤ c0_5) (h : impl_sockCopy.f a0_0 a0_1 a0_2 a0_3 l0_4 l0_5 a0_6 a0_7 = some (r1, r2, r3, r4, r5, r6, r7, r8)) :
  Calls Try.prog 128 #[.agg #[.int .i64 a0_0, .int .i64 a0_1, .int .i64 a0_2, .bool a0_3, .slice A0_4 l0_4.length c0_4, .slice A0_5 l0_5.length c0_5, .int .i64 a0_6, .int .i64 a0_7]] w fun e w' => ∃ v4_ v5_ : Value, e = .returned (.agg #[.int .i64 r1, .int .i64 r2, .int .i64 r3, .bool r4, v4_, v5_, .int .i64 r7, .int .i64 r8]) ∧ Kd.R (Kd.int .u8) 5 w' w.heap.size (fun k_ => some k_ ≠ (v5_ : Value).ownBlock) v4_ r5 ∧ Kd.R (Kd.int .u8) 5 w' w.heap.size (fun k_ => some k_ ≠ (v4_ : Value).ownBlock) v5_ r6 ∧ Below w.heap.size w w' := by
 have hu41 := Try.underlying41
 have HR0_4 := Aside0.mk hr0_4
 have HC0_4 := Aside0.mk hc0_4
 clear hr0_4 hc0_4
 have HR0_5 := Aside0.mk hr0_5
 have HC0_5 := Aside0.mk hc0_5
 clear hr0_5 hc0_5
 have HB := Aside0.mk (Below.refl w.heap.size w)
 have H : ((slices_Clone_byte.f l0_4).bind fun t457 => ((slices_Clone_byte.f l0_5).bind fun t460 => (some (a0_0, a0_1, a0_2, a0_3, t457, t460, a0_6, a0_7)))) = some (r1, r2, r3, r4, r5, r6, r7, r8) := h
 clear h
 obtain ⟨t457, A2, H⟩ := bd_ H
 obtain ⟨t460, A3, H⟩ := bd_ H
 simp only [Option.some.injEq, Prod.mk.injEq] at H
 obtain ⟨rfl, rfl, rfl, rfl, rfl, rfl, rfl, rfl⟩ := H
 go_enter Try.func128, Try.ntmps128
 try go_wp2_with (first | ((with_reducible refine gate_dst (N := 1) rfl ?_); refine box_event ?hg (N := 1) ?hd (cs := #[.int .i64 a0_0, .int .i64 a0_1, .int .i64 a0_2, .bool a0_3, .slice A0_4 l0_4.length c0_4, .slice A0_5 l0_5.length c0_5, .int .i64 a0_6, .int .i64 a0_7]) (t := 41) ?hr ?_; (case hd => rfl); (case hg => rfl); (case hr => first | (go_simp; done) | (go_simp; rfl)); intro gb455 hg w4 hbox hb; have BK455 := am_ (hbox); have GW455 := am_ ((gG_ hg (qB HB))); have IGW455 := gI_ GW455; have GE455 := am_ ((gG_ hg (qB HB))); have IGE455 := gI_ GE455; replace HB := am_ (below_step (qB HB) hb); clear hb hbox hg) | ((with_reducible refine gate_dst (N := 2) rfl ?_); refine box_event ?hg (N := 2) ?hd (cs := #[.int .i64 0, .int .i64 0, .int .i64 0, .bool false, .slice none 0 0, .slice none 0 0, .int .i64 0, .int .i64 0]) (t := 41) ?hr ?_; (case hd => rfl); (case hg => rfl); (case hr => first | (go_simp; done) | (go_simp; rfl)); intro gb456 hg w5 hbox hb; have BK456 := am_ (hbox); have GW456 := am_ ((gG_ hg (qB HB))); have IGW456 := gI_ GW456; have GE456 := am_ ((gG_ hg (qB HB))); have IGE456 := gI_ GE456; replace HB := am_ (below_step (qB HB) hb); have NB455_456 := am_ ((gN_ hg (qK BK455))); have NB456_455 := am_ ((gM_ hg (qK BK455))); replace BK455 := am_ (blk_below (qK BK455) hb); clear hb hbox hg))
 replace BK455 := am_ (blk_drew BK455.out)
 replace BK456 := am_ (blk_drew BK456.out)
 replace HB := am_ (below_drew1 HB.out)
 refine start_ (n := 10) (S := fun w' => w'.cell? ⟨gb455, 0, none⟩ = some (.int .i64 a0_0) ∧ w'.cell? ⟨gb455, 1, none⟩ = some (.int .i64 a0_1) ∧ w'.cell? ⟨gb455, 2, none⟩ = some (.int .i64 a0_2) ∧ w'.cell? ⟨gb455, 3, none⟩ = some (.bool a0_3) ∧ w'.cell? ⟨gb455, 4, none⟩ = some (.slice A0_4 l0_4.length c0_4) ∧ w'.cell? ⟨gb455, 5, none⟩ = some (.slice A0_5 l0_5.length c0_5) ∧ w'.cell? ⟨gb455, 6, none⟩ = some (.int .i64 a0_6) ∧ w'.cell? ⟨gb455, 7, none⟩ = some (.int .i64 a0_7)) (ds := [7, 9]) #[oo,oo,oo,oo,oo,oo,oo,oo,oo,oo] (by kernel_rfl) rfl rfl (cz8 BK455.out) (fun hHeld => ?_); refine with_tabW impl_sockCopy.tab1 impl_sockCopy.bits1 (fun HT_ HW_ => ?_)
 generalize w5.drew = w6 at BK455 BK456 HB hHeld ⊢
 refine pz_ (i := 0) (N := some 3) HT_ #[ii,oo,oo,oo,oo,oo,oo,oo,oo,oo] rfl rfl ?_
 refine pz_ (i := 3) (N := some 6) HT_ #[ii,oo,oo,ii,oo,oo,oo,oo,oo,oo] rfl rfl ?_
 refine take_ (i := 1) (N := some 4) (v := ?_) (a' := ?_) #[ii,ii,oo,ii,oo,oo,oo,oo,oo,oo] rfl rfl (take_ofW HT_.out HW_.out (by kernel_rfl)) (fun _ _ _ h => h) (Or.inl ⟨by rfl, ?_⟩) hHeld ?_ ?_
 rotate_left
 ·
  rintro w' ⟨s0, s1, s2, s3, s4, s5, s6, s7⟩
  go_simp
  with_reducible rfl
 rotate_left
 ·
  exact ap_
 refine take_ (i := 4) (N := some 7) (v := ?_) (a' := ?_) #[ii,ii,oo,ii,ii,oo,oo,oo,oo,oo] rfl rfl (take_ofW HT_.out HW_.out (by kernel_rfl)) (fun _ _ _ h => h) (Or.inl ⟨by rfl, ?_⟩) hHeld ?_ ?_
 rotate_left
 ·
  rintro w' ⟨s0, s1, s2, s3, s4, s5, s6, s7⟩
  go_simp
  with_reducible rfl
 rotate_left
 ·
  exact ap_
 refine one_ (i := 2) (N := some 5) #[ii,ii,ii,ii,ii,oo,oo,oo,oo,oo] rfl rfl (one_of HT_.out (by kernel_rfl)) (by decide) (fun K hK => ?_)
 refine goes_ Try.func176 (by kernel_rfl) rfl #[.slice A0_4 l0_4.length c0_4] (by rfl) rfl rfl la_ ?_
 with_reducible refine (slices_Clone_byte.calls _ _ l0_4 t457 _ ?side1 ?side2 A2.out).mono ?_
 (case side1 => exact qC (Kd.C_below HR0_4.out HB.out))
 (case side2 => exact HC0_4.out)
 rintro e w7 ⟨v458, rfl, ho0, hb⟩
 refine ⟨_, rfl, ?_⟩
 have HO459 := am_ (Kd.R_lower ho0 (below_size (qB HB)))
 replace BK455 := am_ (blk_below (qK BK455) hb)
 replace BK456 := am_ (blk_below (qK BK456) hb)
 replace HB := am_ (below_step (qB HB) hb)
 (try clear hb ho0)
 refine hK.out _ _ (cz8 BK455.out) (fun hHeld => ?_)
 clear hK K
 refine norm_ (a' := ?_) ?_ ?_
 rotate_left
 ·
  show Act.put _ (some 5) _ = _
  exact ap_
 refine pz_ (i := 6) (N := some 9) HT_ #[ii,ii,ii,ii,ii,oo,ii,oo,oo,oo] rfl rfl ?_
 refine one_ (i := 5) (N := some 8) #[ii,ii,ii,ii,ii,ii,ii,oo,oo,oo] rfl rfl (one_of HT_.out (by kernel_rfl)) (by decide) (fun K hK => ?_)
 refine goes_ Try.func176 (by kernel_rfl) rfl #[.slice A0_5 l0_5.length c0_5] (by rfl) rfl rfl la_ ?_
 with_reducible refine (slices_Clone_byte.calls _ _ l0_5 t460 _ ?side1 ?side2 A3.out).mono ?_
 (case side1 => exact qC (Kd.C_below HR0_5.out HB.out))
 (case side2 => exact HC0_5.out)
 rintro e w8 ⟨v461, rfl, ho0, hb⟩
 refine ⟨_, rfl, ?_⟩
 have HO462 := am_ (Kd.R_lower (Kd.R_new' ho0 (Kd.R_lt (qR HO459))) (below_size (qB HB)))
 replace HO459 := am_ (eR HO459 ho0 hb)
 replace BK455 := am_ (blk_below (qK BK455) hb)
 replace BK456 := am_ (blk_below (qK BK456) hb)
 replace HB := am_ (below_step (qB HB) hb)
 (try clear hb ho0)
 obtain ⟨Ao9, co9, eo9⟩ := Kd.R_slice HO459.out
 (first | subst eo9 | (injection eo9 with f1_ f2_ f3_; have f4_ := f1_.symm; have f5_ := f3_.symm; clear f1_ f2_ f3_; subst f4_; subst f5_))
 obtain ⟨Ao11, co11, eo11⟩ := Kd.R_slice HO462.out
 (first | subst eo11 | (injection eo11 with f1_ f2_ f3_; have f4_ := f1_.symm; have f5_ := f3_.symm; clear f1_ f2_ f3_; subst f4_; subst f5_))
 refine hK.out _ _ (cz8 BK455.out) (fun hHeld => ?_)
 clear hK K
 refine norm_ (a' := ?_) ?_ ?_
 rotate_left
 ·
  show Act.put _ (some 8) _ = _
  exact ap_
 refine last_ (i := 7) (N := none) #[ii,ii,ii,ii,ii,ii,ii,ii,oo,oo] rfl rfl (one_of HT_.out (by kernel_rfl)) (by decide) (fun K hK => ?_)
 have hs10 : w8.cell? ⟨gb455, 4, none⟩ = some (.slice A0_4 l0_4.length c0_4) := (blk_cell BK455.out 4).trans rfl
 have hfs10 := blk_frozen BK455.out 4
 have hns10_1 := NB456_455.out
 have hms10_1 := NB455_456.out
 refine skip_ (w1 := ?_) (by rfl) rfl ?_ ?_
 rotate_left
 ·
  go_simp
  rfl
 refine hK.out _ _ ?_
 clear hK K
 refine pz_ (i := 8) (N := some 10) HT_ #[ii,ii,ii,ii,ii,ii,ii,ii,ii,oo] rfl rfl ?_
 refine last_ (i := 9) (N := none) #[ii,ii,ii,ii,ii,ii,ii,ii,ii,ii] rfl rfl (one_of HT_.out (by kernel_rfl)) (by decide) (fun K hK => ?_)
 have hs12 : w8.cell? ⟨gb455, 5, none⟩ = some (.slice A0_5 l0_5.length c0_5) := (blk_cell BK455.out 5).trans rfl
 have hfs12 := blk_frozen BK455.out 5
 have hns12_1 := NB456_455.out
 have hms12_1 := NB455_456.out
 refine skip_ (w1 := ?_) (by rfl) rfl ?_ ?_
 rotate_left
 ·
  go_simp
  rfl
 refine hK.out _ _ ?_
 clear hK K
 refine done_ (done_of HT_.out (by kernel_rfl)) ?_
 have hnb13 := NB455_456.out
 have hnc13 := NB456_455.out
 obtain ⟨z14_0, z14_1, z14_2, z14_3, z14_4, z14_5, z14_6, z14_7⟩ := cz8 BK455.out
 obtain ⟨f14_0, f14_1, f14_2, f14_3, f14_4, f14_5, f14_6, f14_7⟩ := fz8 BK455.out
 obtain ⟨z15_0, z15_1, z15_2, z15_3, z15_4, z15_5, z15_6, z15_7⟩ := cz8 BK456.out
 obtain ⟨f15_0, f15_1, f15_2, f15_3, f15_4, f15_5, f15_6, f15_7⟩ := fz8 BK456.out
 try go_wp2
 refine bodyPost_ret (results_cell_row rfl _ _ gb456 41 #[.int .i64 a0_0, .int .i64 a0_1, .int .i64 a0_2, .bool a0_3, .slice Ao9 t457.length co9, .slice Ao11 t460.length co11, .int .i64 a0_6, .int .i64 a0_7] (0, 0) _ rfl (by refine blk_all8 (show _ = some (Go.Obj.cells #[.int .i64 0, .int .i64 0, .int .i64 0, .bool false, .slice none 0 0, .slice none 0 0, .int .i64 0, .int .i64 0] _ (0, 0)) from ?_); refine blk_far ?_ NB456_455.out _; refine blk_far ?_ NB456_455.out _; exact qK BK456) Try.underlying41 rfl (by kernel_rfl)) rfl ?_
 exact ⟨_, _, er_, by (with_reducible repeat (first | apply Kd.R_alloc | apply Kd.R_drewN | apply Kd.R_drew)); exact Kd.R_mono (Go.Proofs.YtaimfkfpglhijaaV.R_far8 (g := gb456) (Go.Proofs.YtaimfkfpglhijaaV.R_far2 (g := gb455) (Kd.R_types (Kd.R_types HO459.out BK455.out (by decide)) BK456.out (by decide)) (fun _ hk => hk.1.2)) (fun _ hk => hk.2)) (fun _ hk => hk.1.1.2), by (with_reducible repeat (first | apply Kd.R_alloc | apply Kd.R_drewN | apply Kd.R_drew)); exact Kd.R_mono (Go.Proofs.YtaimfkfpglhijaaV.R_far8 (g := gb456) (Go.Proofs.YtaimfkfpglhijaaV.R_far2 (g := gb455) (Kd.R_types (Kd.R_types HO462.out BK455.out (by decide)) BK456.out (by decide)) (fun _ hk => hk.1.2)) (fun _ hk => hk.2)) (fun _ hk => hk.1.1.2), qB HB⟩

end Go.Proofs.Ytaimfkfpglhijaa.PFnFar
