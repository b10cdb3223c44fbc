-- Written by a program of this session (myprint.py, over the kit's print): contracts of FnWays
import Derived.Test.YtiffahfpfgnjnaaPFnWaysx0
import Derived.Test.YtiffahfpfgnjnaaPFnWaysx3
namespace Go.Proofs.Ytiffahfpfgnjnaa.PFnWays
open Go.RowKit Go.Proofs.YtiffahfpfgnjnaaW.PrintWords Go.Proofs.YtiffahfpfgnjnaaW.PrintLast Go.Proofs.YtiffahfpfgnjnaaW.PrintMore Go.Proofs.YtiffahfpfgnjnaaV
attribute [local go_sem] max2_int min2_int max_two min_two max_three min_three max_four min_four   -- for this text's walks alone
set_option linter.unusedVariables false
set_option linter.unusedSimpArgs false

/-! ### spec_LineOk: function 19 -/
def spec_LineOk.j0 : Nat → Bool → Int → ByteArray → Int → Int → Int → Int → Int → Option (Bool)
 | 0, _, _, _, _, _, _, _, _ => none
 | k + 1, x18, x136000, x136001, x136002, x136003, x136004, x136005, x136006 => if x18 = true then (some false) else (if x136003 = 0 then ((spec_l9Time.f x136004).bind fun t139 => (if t139 = true then (if x136005 = 0 then (some (x136006 == 0)) else (some false)) else (some false))) else ((spec_l1In.f x136003 1 2).bind fun t140 => (if t140 = true then (if x136004 = 0 then ((spec_l1In.f x136005 1 9999).bind fun t141 => (if t141 = true then (some (decide (x136006 ≥ 1))) else (some false))) else (some false)) else (some false))))
def spec_LineOk.f (k : Nat) (a0_0 : Int) (a0_1 : ByteArray) (a0_2 : Int) (a0_3 : Int) (a0_4 : Int) (a0_5 : Int) (a0_6 : Int) : Option (Bool) := (spec_l1In.f a0_0 1 9999).bind fun t136 => (if t136 = true then ((spec_l1Name.f k a0_1).bind fun t137 => (if t137 = true then ((spec_l1In.f a0_2 1 60000).bind fun t138 => (spec_LineOk.j0 k (!t138) a0_0 a0_1 a0_2 a0_3 a0_4 a0_5 a0_6)) else (spec_LineOk.j0 k true a0_0 a0_1 a0_2 a0_3 a0_4 a0_5 a0_6))) else (spec_LineOk.j0 k true a0_0 a0_1 a0_2 a0_3 a0_4 a0_5 a0_6))
theorem spec_LineOk.mono_l : ∀ k, (∀ y0 y1 y2 y3 y4 y5 y6 y7, LeO (spec_LineOk.j0 k y0 y1 y2 y3 y4 y5 y6 y7) (spec_LineOk.j0 (k + 1) y0 y1 y2 y3 y4 y5 y6 y7))
 | 0 => fun _ _ _ _ _ _ _ _ r h => by simp [spec_LineOk.j0] at h
 | k + 1 => by
  have ih0 := spec_LineOk.mono_l k
  ·
   intro y0 y1 y2 y3 y4 y5 y6 y7
   unfold spec_LineOk.j0
   have m0 := @spec_l1Name.mono; exact mo_
theorem spec_LineOk.mono : ∀ a0 a1 a2 a3 a4 a5 a6 k, LeO (spec_LineOk.f k a0 a1 a2 a3 a4 a5 a6) (spec_LineOk.f (k + 1) a0 a1 a2 a3 a4 a5 a6) := by
 intro a0 a1 a2 a3 a4 a5 a6 k
 have ih0 := spec_LineOk.mono_l k
 unfold spec_LineOk.f
 have m0 := @spec_l1Name.mono; exact mo_
set_option maxHeartbeats 8000000 in
set_option maxRecDepth 100000 in
theorem spec_LineOk.calls (k : Nat) (a0_0 : Int) (a0_1 : ByteArray) (a0_2 : Int) (a0_3 : Int) (a0_4 : Int) (a0_5 : Int) (a0_6 : Int) (r : Bool) (w : World) (h : spec_LineOk.f k a0_0 a0_1 a0_2 a0_3 a0_4 a0_5 a0_6 = some r) :
  Calls Try.prog 19 #[.agg #[.int .i64 a0_0, .string a0_1, .int .i64 a0_2, .int .i64 a0_3, .int .i64 a0_4, .int .i64 a0_5, .int .i64 a0_6]] w fun e w' => e = .returned (.bool r) ∧ Below w.heap.size w w' := by
 have hu27 := Try.underlying27
 have HB := Aside0.mk (Below.refl w.heap.size w)
 have H := h
 unfold spec_LineOk.f at H
 clear h
 have HC2 := Aside0.mk H
 clear H
 go_enter Try.func19, Try.ntmps19
 go_upto_region 1 with (first | ((with_reducible refine gate_dst (N := 1) rfl ?_); refine bx_ (N := 1) (cs := #[.int .i64 a0_0, .string a0_1, .int .i64 a0_2, .int .i64 a0_3, .int .i64 a0_4, .int .i64 a0_5, .int .i64 a0_6]) (t := 27) ?_; intro gb135 hg w3 hbox hb; have BK135 := am_ (hbox); have GW135 := gA_ hg HB; have GE135 := GW135; have IGE135 := gI_ GE135; replace HB := bS_ HB hb; clear hb hbox hg))
 (try simp only [Act.put, List.setIfInBounds_toArray, List.set_cons_zero, List.set_cons_succ])
 go_cut [18] (fun v18 wc => ∃ (kq : Nat) (x18_1 : Bool), v18 = .bool x18_1 ∧ Aside0 (spec_LineOk.j0 kq x18_1 a0_0 a0_1 a0_2 a0_3 a0_4 a0_5 a0_6 = some r) ∧ Aside0 (kq ≤ k) ∧ Aside0 (wc.heap[gb135]? = some (.cells #[.int .i64 a0_0, .string a0_1, .int .i64 a0_2, .int .i64 a0_3, .int .i64 a0_4, .int .i64 a0_5, .int .i64 a0_6] 27 (0, 0))) ∧ Aside0 (Below w.heap.size w wc))
 case first =>
  have H := HC2.out
  clear HC2
  replace H := bd_ H
  obtain ⟨t136, A4, H⟩ := H
  by_cases c5 : t136 = true
  rotate_left
  ·
   replace c5 := Bool.eq_false_iff.mpr c5
   subst c5
   rw [if_neg (show ¬ (false = true) by decide)] at H
   have H' := Aside0.mk H
   clear H
   (try clear zK135)
   have zK135 := cz7 BK135.out
   go_wp2_with (first | ((with_reducible refine gate_callee (f := 83) rfl ?_); refine gl_ (some 5) Try.func83 #[.int .i64 a0_0, .int .i64 1, .int .i64 9999] ?_; (with_reducible refine (spec_l1In.calls a0_0 1 9999 false _ A4.out).mono ?_); rintro e w' ⟨rfl, ⟨nd, rfl⟩⟩; refine ⟨_, rfl, ?_⟩))
   go_meet
   case rel => exact ⟨_, (true), eqq_, H', ⟨by first | omega | exact Nat.le_refl _⟩, ⟨qK BK135⟩, ⟨qB HB⟩⟩
  subst c5
  rw [if_pos rfl] at H
  replace H := bd_ H
  obtain ⟨t137, A6, H⟩ := H
  by_cases c7 : t137 = true
  rotate_left
  ·
   replace c7 := Bool.eq_false_iff.mpr c7
   subst c7
   rw [if_neg (show ¬ (false = true) by decide)] at H
   have H' := Aside0.mk H
   clear H
   (try clear zK135)
   have zK135 := cz7 BK135.out
   go_wp2_with (first | ((with_reducible refine gate_callee (f := 83) rfl ?_); refine gl_ (some 5) Try.func83 #[.int .i64 a0_0, .int .i64 1, .int .i64 9999] ?_; (with_reducible refine (spec_l1In.calls a0_0 1 9999 true _ A4.out).mono ?_); rintro e w' ⟨rfl, ⟨nd, rfl⟩⟩; refine ⟨_, rfl, ?_⟩) | (go_at_call 84; (with_reducible refine (spec_l1Name.calls k a0_1 false _ A6.out).mono ?_); rintro e w' ⟨rfl, ⟨nd, rfl⟩⟩))
   go_meet
   case rel => exact ⟨_, (true), eqq_, H', ⟨by first | omega | exact Nat.le_refl _⟩, ⟨qK BK135⟩, ⟨qB HB⟩⟩
  subst c7
  rw [if_pos rfl] at H
  replace H := bd_ H
  obtain ⟨t138, A8, H⟩ := H
  have H' := Aside0.mk H
  clear H
  (try clear zK135)
  have zK135 := cz7 BK135.out
  go_wp2_with (first | ((with_reducible refine gate_callee (f := 83) rfl ?_); refine gl_ (some 5) Try.func83 #[.int .i64 a0_0, .int .i64 1, .int .i64 9999] ?_; (with_reducible refine (spec_l1In.calls a0_0 1 9999 true _ A4.out).mono ?_); rintro e w' ⟨rfl, ⟨nd, rfl⟩⟩; refine ⟨_, rfl, ?_⟩) | (go_at_call 84; (with_reducible refine (spec_l1Name.calls k a0_1 true _ A6.out).mono ?_); rintro e w' ⟨rfl, ⟨nd, rfl⟩⟩) | (go_at_call 83; (with_reducible refine (spec_l1In.calls a0_2 1 60000 t138 _ A8.out).mono ?_); rintro e w' ⟨rfl, ⟨nd, rfl⟩⟩))
  go_meet
  case rel => exact ⟨_, (!t138), eqq_, H', ⟨by first | omega | exact Nat.le_refl _⟩, ⟨qK BK135⟩, ⟨qB HB⟩⟩
 case rest =>
  clear HC2
  try clear c1
  try clear p2
  try clear c5
  try clear c7
  try clear c8
  (try clear zK135)
  (try clear zK135)
  (try clear zK135)
  (try clear f10)
  (try clear f11)
  (try clear f9)
  obtain ⟨kq, x18_1, rfl, HA, HJ1, BK135, HB⟩ := hcut
  cases kq with
  | zero => exact absurd HA.out (by simp [spec_LineOk.j0])
  | succ kj1 =>
   have H := HA.out
   clear HA
   simp only [spec_LineOk.j0] at H
   by_cases c12 : x18_1 = true
   ·
    subst c12
    rw [if_pos rfl] at H
    obtain rfl := Option.some.inj H
    go_wp2
    go_ret
    exact ⟨er_, qB HB⟩
   replace c12 := Bool.eq_false_iff.mpr c12
   subst c12
   rw [if_neg (show ¬ (false = true) by decide)] at H
   by_cases c13 : a0_3 = 0
   ·
    rw [if_pos c13] at H
    have c13b0 : (a0_3 == 0) = true := beq_iff_eq.mpr c13
    have c13b1 : (a0_3 != 0) = false := bne_eq_false_iff_eq.mpr c13
    clear c13
    replace H := bd_ H
    obtain ⟨t139, A14, H⟩ := H
    by_cases c15 : t139 = true
    rotate_left
    ·
     replace c15 := Bool.eq_false_iff.mpr c15
     subst c15
     rw [if_neg (show ¬ (false = true) by decide)] at H
     obtain rfl := Option.some.inj H
     (try clear zK135)
     have zK135 := cz7 BK135.out
     go_wp2_with (first | ((with_reducible refine gate_callee (f := 85) rfl ?_); refine gl_ (some 24) Try.func85 #[.int .i64 a0_4] ?_; (with_reducible refine (spec_l9Time.calls a0_4 false _ A14.out).mono ?_); rintro e w' ⟨rfl, ⟨nd, rfl⟩⟩; refine ⟨_, rfl, ?_⟩))
     go_ret
     exact ⟨er_, qB HB⟩
    subst c15
    rw [if_pos rfl] at H
    by_cases c16 : a0_5 = 0
    rotate_left
    ·
     rw [if_neg c16] at H
     have c16b0 : (a0_5 == 0) = false := beq_eq_false_iff_ne.mpr c16
     have c16b1 : (a0_5 != 0) = true := bne_iff_ne.mpr c16
     obtain rfl := Option.some.inj H
     (try clear zK135)
     have zK135 := cz7 BK135.out
     go_wp2_with (first | ((with_reducible refine gate_callee (f := 85) rfl ?_); refine gl_ (some 24) Try.func85 #[.int .i64 a0_4] ?_; (with_reducible refine (spec_l9Time.calls a0_4 true _ A14.out).mono ?_); rintro e w' ⟨rfl, ⟨nd, rfl⟩⟩; refine ⟨_, rfl, ?_⟩))
     go_ret
     exact ⟨er_, qB HB⟩
    rw [if_pos c16] at H
    have c16b0 : (a0_5 == 0) = true := beq_iff_eq.mpr c16
    have c16b1 : (a0_5 != 0) = false := bne_eq_false_iff_eq.mpr c16
    clear c16
    obtain rfl := Option.some.inj H
    (try clear zK135)
    have zK135 := cz7 BK135.out
    go_wp2_with (first | ((with_reducible refine gate_callee (f := 85) rfl ?_); refine gl_ (some 24) Try.func85 #[.int .i64 a0_4] ?_; (with_reducible refine (spec_l9Time.calls a0_4 true _ A14.out).mono ?_); rintro e w' ⟨rfl, ⟨nd, rfl⟩⟩; refine ⟨_, rfl, ?_⟩))
    go_ret
    exact ⟨er_, qB HB⟩
   rw [if_neg c13] at H
   have c13b0 : (a0_3 == 0) = false := beq_eq_false_iff_ne.mpr c13
   have c13b1 : (a0_3 != 0) = true := bne_iff_ne.mpr c13
   replace H := bd_ H
   obtain ⟨t140, A20, H⟩ := H
   by_cases c21 : t140 = true
   rotate_left
   ·
    replace c21 := Bool.eq_false_iff.mpr c21
    subst c21
    rw [if_neg (show ¬ (false = true) by decide)] at H
    obtain rfl := Option.some.inj H
    (try clear zK135)
    have zK135 := cz7 BK135.out
    go_wp2_with (first | ((with_reducible refine gate_callee (f := 83) rfl ?_); refine gl_ (some 37) Try.func83 #[.int .i64 a0_3, .int .i64 1, .int .i64 2] ?_; (with_reducible refine (spec_l1In.calls a0_3 1 2 false _ A20.out).mono ?_); rintro e w' ⟨rfl, ⟨nd, rfl⟩⟩; refine ⟨_, rfl, ?_⟩))
    go_ret
    exact ⟨er_, qB HB⟩
   subst c21
   rw [if_pos rfl] at H
   by_cases c22 : a0_4 = 0
   rotate_left
   ·
    rw [if_neg c22] at H
    have c22b0 : (a0_4 == 0) = false := beq_eq_false_iff_ne.mpr c22
    have c22b1 : (a0_4 != 0) = true := bne_iff_ne.mpr c22
    obtain rfl := Option.some.inj H
    (try clear zK135)
    have zK135 := cz7 BK135.out
    go_wp2_with (first | ((with_reducible refine gate_callee (f := 83) rfl ?_); refine gl_ (some 37) Try.func83 #[.int .i64 a0_3, .int .i64 1, .int .i64 2] ?_; (with_reducible refine (spec_l1In.calls a0_3 1 2 true _ A20.out).mono ?_); rintro e w' ⟨rfl, ⟨nd, rfl⟩⟩; refine ⟨_, rfl, ?_⟩))
    go_ret
    exact ⟨er_, qB HB⟩
   rw [if_pos c22] at H
   have c22b0 : (a0_4 == 0) = true := beq_iff_eq.mpr c22
   have c22b1 : (a0_4 != 0) = false := bne_eq_false_iff_eq.mpr c22
   clear c22
   replace H := bd_ H
   obtain ⟨t141, A23, H⟩ := H
   by_cases c24 : t141 = true
   ·
    subst c24
    rw [if_pos rfl] at H
    obtain rfl := Option.some.inj H
    (try clear zK135)
    have zK135 := cz7 BK135.out
    go_wp2_with (first | ((with_reducible refine gate_callee (f := 83) rfl ?_); refine gl_ (some 37) Try.func83 #[.int .i64 a0_3, .int .i64 1, .int .i64 2] ?_; (with_reducible refine (spec_l1In.calls a0_3 1 2 true _ A20.out).mono ?_); rintro e w' ⟨rfl, ⟨nd, rfl⟩⟩; refine ⟨_, rfl, ?_⟩) | (go_at_call 83; (with_reducible refine (spec_l1In.calls a0_5 1 9999 true _ A23.out).mono ?_); rintro e w' ⟨rfl, ⟨nd, rfl⟩⟩))
    go_ret
    exact ⟨er_, qB HB⟩
   replace c24 := Bool.eq_false_iff.mpr c24
   subst c24
   rw [if_neg (show ¬ (false = true) by decide)] at H
   obtain rfl := Option.some.inj H
   (try clear zK135)
   have zK135 := cz7 BK135.out
   go_wp2_with (first | ((with_reducible refine gate_callee (f := 83) rfl ?_); refine gl_ (some 37) Try.func83 #[.int .i64 a0_3, .int .i64 1, .int .i64 2] ?_; (with_reducible refine (spec_l1In.calls a0_3 1 2 true _ A20.out).mono ?_); rintro e w' ⟨rfl, ⟨nd, rfl⟩⟩; refine ⟨_, rfl, ?_⟩) | (go_at_call 83; (with_reducible refine (spec_l1In.calls a0_5 1 9999 false _ A23.out).mono ?_); rintro e w' ⟨rfl, ⟨nd, rfl⟩⟩))
   go_ret
   exact ⟨er_, qB HB⟩

/-! ### spec_PutText: function 88 -/
def spec_PutText.f (k : Nat) (l0 : List Int) (a1 : ByteArray) : Option (List Int) := (some (([] : List Int) : List Int)).bind fun y142 => (if y142.length + l0.length < 140737488355328 then ((some (y142 ++ l0 : List Int)).bind fun y145 => ((spec_TextOk.f k a1).bind fun t148 => (if t148 = true then (if y145.length < 140737488355328 then ((some (y145 ++ [((a1.size : Int)) % 256] : List Int)).bind fun y149 => (if y149.length + a1.size < 140737488355328 then (some (y149 ++ bytesOf a1)) else (none))) else (none)) else (some y145)))) else (none))
theorem spec_PutText.mono : ∀ a0 a1 k, LeO (spec_PutText.f k a0 a1) (spec_PutText.f (k + 1) a0 a1) := by
 intro a0 a1 k
 unfold spec_PutText.f
 have m0 := @spec_TextOk.mono; exact mo_
set_option maxHeartbeats 8000000 in
set_option maxRecDepth 100000 in
theorem spec_PutText.calls (k : Nat) (A0 : Option Addr) (c0 : Nat) (l0 : List Int) (a1 : ByteArray) (r : List Int) (w : World) (hr0 : Kd.C (Kd.int .u8) w A0 l0.length l0) (hc0 : l0.length ≤ c0) (h : spec_PutText.f k l0 a1 = some r) :
  Calls Try.prog 88 #[.slice A0 l0.length c0, .string a1] w fun e w' => ∃ v0_ : Value, e = .returned (v0_) ∧ Kd.R (Kd.int .u8) 5 w' w.heap.size (fun _ => True) v0_ r ∧ Below w.heap.size w w' := by
 have HR0 := Aside0.mk hr0
 have HC0 := Aside0.mk hc0
 clear hr0 hc0
 have HB := Aside0.mk (Below.refl w.heap.size w)
 have H := h
 unfold spec_PutText.f at H
 clear h
 obtain ⟨y142, hy142⟩ : ∃ y_ : List Int, y_ = (([] : List Int)) := ⟨_, rfl⟩
 replace H := mk_ H hy142
 (try dsimp only at H)
 have Ny142 := Aside0.mk hy142
 clear hy142
 by_cases c3 : y142.length + l0.length < 140737488355328
 case neg => exact nn_ c3 H
 rw [if_pos c3] at H
 have LMc3 := Aside0.mk c3
 clear c3
 obtain ⟨y145, hy145⟩ : ∃ y_ : List Int, y_ = (y142 ++ l0) := ⟨_, rfl⟩
 replace H := mk_ H hy145
 (try dsimp only at H)
 have Ny145 := Aside0.mk hy145
 clear hy145
 replace H := bd_ H
 obtain ⟨t148, A4, H⟩ := H
 have HC5 := Aside0.mk H
 clear H
 go_enter Try.func88, Try.ntmps88
 go_upto_if 11 with (first | ((with_reducible refine gate_dst (N := 6) rfl ?_); refine Kd.R_lit (Kd.int .u8) _ 5 ?hg (N := 6) ?hd (xs := ([] : List Int)) (inner := []) (ok := fun _ => True) (okp := fun _ => True) ?hr ?hp (fun _ hk => hk) trivial (Below.refl _ _) (Nat.le_refl _) (by simp) ?_; (case hd => rfl); (case hg => rfl); (case hr => first | (go_simp; done) | (go_simp; rfl)); (case hp => exact (Reps.none _ _)); intro v143 w6 ho7 hb hg_ hnew_; clear hg_ hnew_; (first | rw [← Ny142.out] at ho7 | (simp only [Int.reduceToNat] at ho7; rw [← Ny142.out] at ho7)); have HO144 := am_ (Kd.R_lower ho7 (below_size (qB HB))); replace HB := bS_ HB hb; clear hb ho7) | ((with_reducible refine gate_builtin (b := .append) (xs := #[.tmp 6, .tmp 7]) rfl ?_); at_builtin; refine Kd.R_append_rows (Kd.int .u8) (w0 := w) w.heap.size rfl (.tmp 6) (.tmp 7) 22 5 (.int .u8 0) 1 rfl Try.underlying22 info5 rfl (by decide) (by omega) v143 y142 l0 _ _ _ (fun _ => True) (fun _ => False) rfl rfl ?aO ?aR (fun _ _ h => h) (fun _ h => h.elim) ?aF ?aB ?aS ?aL ?_; (case aR => exact qC (Kd.C_below HR0.out HB.out)); (case aB => exact (qB HB)); (case aF => exact (fun _ _ => trivial)); (case aO => exact (qR HO144)); (case aS => exact (below_size (qB HB))); (case aL => have := LMc3.out; omega); intro v146 w8 ho hb hg hat; rw [← Ny145.out] at ho; replace HB := am_ (hb); have HO147 := am_ (ho); clear HO144; clear ho hb hg hat) | ((with_reducible refine gate_callee (f := 86) rfl ?_); refine gl_ (some 10) Try.func86 #[.string a1] ?_; (with_reducible refine (spec_TextOk.calls k a1 t148 _ A4.out).mono ?_); rintro e w' ⟨rfl, ⟨nd, rfl⟩⟩; refine ⟨_, rfl, ?_⟩))
 (try simp only [Act.put, List.setIfInBounds_toArray, List.set_cons_zero, List.set_cons_succ])
 (try (rw [drewN_self w8]; generalize hq_ : World.drewN w8 _ = w8; have n0_ : Aside0 (Kd.R (Kd.int .u8) 5 w8 w.heap.size (fun _ => True) v146 y145) := ⟨by rw [← hq_]; exact (qR HO147)⟩; have n1_ : Aside0 (Below w.heap.size w w8) := ⟨by rw [← hq_]; exact (qB HB)⟩; clear HO147 HB hq_; have HO147 := n0_; have HB := n1_; clear n0_ n1_))
 have H := HC5.out
 clear HC5
 by_cases c9 : t148 = true
 rotate_left
 ·
  replace c9 := Bool.eq_false_iff.mpr c9
  subst c9
  rw [if_neg (show ¬ (false = true) by decide)] at H
  obtain rfl := Option.some.inj H
  go_wp2
  go_ret
  exact ⟨_, er_, qR HO147, qB HB⟩
 subst c9
 rw [if_pos rfl] at H
 by_cases c10 : y145.length < 140737488355328
 case neg => exact nn_ c10 H
 rw [if_pos c10] at H
 have LMc10 := Aside0.mk c10
 clear c10
 obtain ⟨y149, hy149⟩ : ∃ y_ : List Int, y_ = (y145 ++ [((a1.size : Int)) % 256]) := ⟨_, rfl⟩
 replace H := mk_ H hy149
 (try dsimp only at H)
 have Ny149 := Aside0.mk hy149
 clear hy149
 by_cases c11 : y149.length + a1.size < 140737488355328
 case neg => exact nn_ c11 H
 rw [if_pos c11] at H
 have LMc11 := Aside0.mk c11
 clear c11
 obtain ⟨y152, hy152⟩ : ∃ y_ : List Int, y_ = (y149 ++ bytesOf a1) := ⟨_, rfl⟩
 rw [← hy152] at H
 have Ny152 := Aside0.mk hy152
 clear hy152
 obtain rfl := Option.some.inj H
 go_wp2_with (first | ((with_reducible refine gate_builtin (b := .append) (xs := #[.tmp 13, .tmp 17]) rfl ?_); at_builtin; refine Kd.R_append (Kd.int .u8) (w0 := w) w.heap.size rfl (.tmp 13) (.tmp 17) 22 5 (.int .u8 0) 1 rfl Try.underlying22 info5 rfl (by decide) (by omega) v146 y145 (((a1.size : Int)) % 256) [.int .u8 (((a1.size : Int)) % 256)] (fun _ => True) (fun _ => False) rfl rfl ?aP (fun _ hk => hk.elim) ?aF ?aO ?aB ?aS ?aL ?_; (case aP => exact rfl); (case aB => exact (qB HB)); (case aF => exact (fun _ _ => trivial)); (case aO => exact (qR HO147)); (case aS => exact (below_size (qB HB))); (case aL => have := LMc10.out; omega); intro v150 w12 ho hb hg hat; rw [← Ny149.out] at ho; replace HB := am_ (hb); have HO151 := am_ (ho); clear HO147; clear ho hb hg hat) | (at_builtin; refine print_append_str (w0 := w) w.heap.size rfl (.tmp 18) _ 22 9 5 rfl Try.underlying22 Try.underlying9 info5 v150 y149 a1 rfl rfl ?aO ?aB ?aS ?aL ?_; (case aB => exact (qB HB)); (case aO => exact (Kd.own_of_R (qR HO151))); (case aS => exact (below_size (qB HB))); (case aL => have := LMc11.out; omega); intro v153 w13 ho0 hb hg; have ho := Kd.R_of_own (h1 := fun _ => rfl) (ok := fun _ => True) ho0 (fun _ _ => trivial); clear ho0; have hat := True.intro; rw [← Ny152.out] at ho; change Kd.R (Kd.int .u8) 5 w13 w.heap.size (fun _ => True) v153 y152 at ho; replace HB := am_ (hb); have HO154 := am_ (ho); clear HO151; clear ho hb hg hat))
 go_ret
 exact ⟨_, er_, qR HO154, qB HB⟩

/-! ### spec_PutWord: function 89 -/
def spec_PutWord.f (l0 : List Int) (a1 : Int) : Option (List Int) := (some (([] : List Int) : List Int)).bind fun y155 => (if y155.length + l0.length < 140737488355328 then ((some (y155 ++ l0 : List Int)).bind fun y158 => ((some (([(Go.bits .and .i64 (a1 / 256) 255) % 256, (Go.bits .and .i64 a1 255) % 256] : List Int) : List Int)).bind fun y161 => (if y158.length + y161.length < 140737488355328 then (some (y158 ++ y161)) else (none)))) else (none))
set_option maxHeartbeats 8000000 in
set_option maxRecDepth 100000 in
theorem spec_PutWord.calls (A0 : Option Addr) (c0 : Nat) (l0 : List Int) (a1 : Int) (r : List Int) (w : World) (hr0 : Kd.C (Kd.int .u8) w A0 l0.length l0) (hc0 : l0.length ≤ c0) (h : spec_PutWord.f l0 a1 = some r) :
  Calls Try.prog 89 #[.slice A0 l0.length c0, .int .i64 a1] w fun e w' => ∃ v0_ : Value, e = .returned (v0_) ∧ Kd.R (Kd.int .u8) 5 w' w.heap.size (fun _ => True) v0_ r ∧ Below w.heap.size w w' := by
 have HR0 := Aside0.mk hr0
 have HC0 := Aside0.mk hc0
 clear hr0 hc0
 have HB := Aside0.mk (Below.refl w.heap.size w)
 have H := h
 unfold spec_PutWord.f at H
 clear h
 obtain ⟨y155, hy155⟩ : ∃ y_ : List Int, y_ = (([] : List Int)) := ⟨_, rfl⟩
 replace H := mk_ H hy155
 (try dsimp only at H)
 have Ny155 := Aside0.mk hy155
 clear hy155
 by_cases c3 : y155.length + l0.length < 140737488355328
 case neg => exact nn_ c3 H
 rw [if_pos c3] at H
 have LMc3 := Aside0.mk c3
 clear c3
 obtain ⟨y158, hy158⟩ : ∃ y_ : List Int, y_ = (y155 ++ l0) := ⟨_, rfl⟩
 replace H := mk_ H hy158
 (try dsimp only at H)
 have Ny158 := Aside0.mk hy158
 clear hy158
 obtain ⟨y161, hy161⟩ : ∃ y_ : List Int, y_ = (([(Go.bits .and .i64 (a1 / 256) 255) % 256, (Go.bits .and .i64 a1 255) % 256] : List Int)) := ⟨_, rfl⟩
 replace H := mk_ H hy161
 (try dsimp only at H)
 have Ny161 := Aside0.mk hy161
 clear hy161
 by_cases c4 : y158.length + y161.length < 140737488355328
 case neg => exact nn_ c4 H
 rw [if_pos c4] at H
 have LMc4 := Aside0.mk c4
 clear c4
 obtain ⟨y164, hy164⟩ : ∃ y_ : List Int, y_ = (y158 ++ y161) := ⟨_, rfl⟩
 replace H : (some y164) = some r := by first | (rw [hy164]; with_reducible exact H) | (have H2_ := (Option.bind_some _ _).symm.trans H; rw [hy164]; with_reducible exact H2_) | (have H2_ := (Option.bind_some _ _).symm.trans H; with_reducible exact H2_) | with_reducible exact H | (rw [hy164]; exact H) | exact H
 have Ny164 := Aside0.mk hy164
 clear hy164
 obtain rfl := Option.some.inj H
 go_enter Try.func89, Try.ntmps89
 go_wp2_with (first | ((with_reducible refine gate_dst (N := 5) rfl ?_); refine Kd.R_lit (Kd.int .u8) _ 5 ?hg (N := 5) ?hd (xs := ([] : List Int)) (inner := []) (ok := fun _ => True) (okp := fun _ => True) ?hr ?hp (fun _ hk => hk) trivial (Below.refl _ _) (Nat.le_refl _) (by simp) ?_; (case hd => rfl); (case hg => rfl); (case hr => first | (go_simp; done) | (go_simp; rfl)); (case hp => exact (Reps.none _ _)); intro v156 w5 ho6 hb hg_ hnew_; clear hg_ hnew_; (first | rw [← Ny155.out] at ho6 | (simp only [Int.reduceToNat] at ho6; rw [← Ny155.out] at ho6)); have HO157 := am_ (Kd.R_lower ho6 (below_size (qB HB))); replace HB := bS_ HB hb; clear hb ho6) | ((with_reducible refine gate_builtin (b := .append) (xs := #[.tmp 5, .tmp 6]) rfl ?_); at_builtin; refine Kd.R_append_rows (Kd.int .u8) (w0 := w) w.heap.size rfl (.tmp 5) (.tmp 6) 22 5 (.int .u8 0) 1 rfl Try.underlying22 info5 rfl (by decide) (by omega) v156 y155 l0 _ _ _ (fun _ => True) (fun _ => False) rfl rfl ?aO ?aR (fun _ _ h => h) (fun _ h => h.elim) ?aF ?aB ?aS ?aL ?_; (case aR => exact qC (Kd.C_below HR0.out HB.out)); (case aB => exact (qB HB)); (case aF => exact (fun _ _ => trivial)); (case aO => exact (qR HO157)); (case aS => exact (below_size (qB HB))); (case aL => have := LMc3.out; omega); intro v159 w7 ho hb hg hat; rw [← Ny158.out] at ho; replace HB := am_ (hb); have HO160 := am_ (ho); clear HO157; clear ho hb hg hat) | ((with_reducible refine gate_dst (N := 15) rfl ?_); refine Kd.R_lit (Kd.int .u8) _ 5 ?hg (N := 15) ?hd (xs := ([(Go.bits .and .i64 (a1 / 256) 255) % 256, (Go.bits .and .i64 a1 255) % 256] : List Int)) (inner := [.int .u8 ((Go.bits .and .i64 (a1 / 256) 255) % 256), .int .u8 ((Go.bits .and .i64 a1 255) % 256)]) (ok := fun _ => True) (okp := fun _ => True) ?hr ?hp (fun _ hk => hk) trivial (Below.refl _ _) (Nat.le_refl _) (by simp) ?_; (case hd => rfl); (case hg => rfl); (case hr => first | (go_simp; done) | (go_simp; rfl)); (case hp => exact (Reps.one (show Kd.M (Kd.int .u8) _ _ _ ((Go.bits .and .i64 (a1 / 256) 255) % 256) [.int .u8 ((Go.bits .and .i64 (a1 / 256) 255) % 256)] from rfl) (Reps.one (show Kd.M (Kd.int .u8) _ _ _ ((Go.bits .and .i64 a1 255) % 256) [.int .u8 ((Go.bits .and .i64 a1 255) % 256)] from rfl) (Reps.none _ _)))); intro v162 w8 ho9 hb hg_ hnew_; clear hg_ hnew_; (first | rw [← Ny161.out] at ho9 | (simp only [Int.reduceToNat] at ho9; rw [← Ny161.out] at ho9)); have HO163 := am_ (Kd.R_lower (Kd.R_new' ho9 (Kd.R_lt (qR HO160))) (below_size (qB HB))); replace HO160 := eA_ HO160 ho9 hb; replace HB := bS_ HB hb; clear hb ho9; obtain ⟨Ao11, co11, eo11⟩ := Kd.R_slice HO163.out; subst eo11) | ((with_reducible refine gate_builtin (b := .append) (xs := #[.tmp 7, .tmp 15]) rfl ?_); at_builtin; refine Kd.R_append_rows (Kd.int .u8) (w0 := w) w.heap.size rfl (.tmp 7) (.tmp 15) 22 5 (.int .u8 0) 1 rfl Try.underlying22 info5 rfl (by decide) (by omega) v159 y158 y161 _ _ _ (fun k_ => some k_ ≠ (.slice Ao11 y161.length co11 : Value).ownBlock) (fun _ => False) rfl rfl ?aO ?aR (fun _ _ h => h) (fun _ h => h.elim) ?aF ?aB ?aS ?aL ?_; (case aR => exact qC ((Kd.R_reads' HO163.out).2.2)); (case aB => exact (qB HB)); (case aF => exact (fun k_ hk => Kd.fresh' (Kd.R_lt (qR HO163)) k_ hk)); (case aO => exact (tR (Kd.R_mono HO160.out (fun _ hk => hk.2)))); (case aS => exact (below_size (qB HB))); (case aL => have := LMc4.out; omega); intro v165 w10 ho hb hg hat; rw [← Ny164.out] at ho; replace HO163 := am_ (Kd.R_after (ok := (fun _ => True)) (qR HO163) hg hat); replace HB := am_ (hb); have HO166 := am_ (ho); clear HO160; clear ho hb hg hat))
 go_ret
 exact ⟨_, er_, by (with_reducible repeat (first | apply Kd.R_alloc | apply Kd.R_drewN | apply Kd.R_drew)); exact Kd.R_mono HO166.out (fun _ hk => trivial), qB HB⟩

end Go.Proofs.Ytiffahfpfgnjnaa.PFnWays
