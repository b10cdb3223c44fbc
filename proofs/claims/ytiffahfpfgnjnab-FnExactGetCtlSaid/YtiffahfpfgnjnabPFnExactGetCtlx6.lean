-- Written by a program of this session (myprint.py, over the kit's print): contracts of FnExactGetCtl
import Derived.Test.YtiffahfpfgnjnabPFnExactGetCtlx0
import Derived.Test.YtiffahfpfgnjnabPFnExactGetCtlx4
namespace Go.Proofs.Ytiffahfpfgnjnab.PFnExactGetCtl
open Go.RowKit Go.Proofs.YtiffahfpfgnjnabW.PrintWords Go.Proofs.YtiffahfpfgnjnabW.PrintLast Go.Proofs.YtiffahfpfgnjnabW.PrintMore Go.Proofs.YtiffahfpfgnjnabV
attribute [local go_sem] max2_int min2_int max_two min_two max_three min_three max_four min_four   -- for this text's walks alone
set_option linter.unusedVariables false
set_option linter.unusedSimpArgs false

/-! ### spec_PutText: function 123 -/
def spec_PutText.f (k : Nat) (l0 : List Int) (a1 : ByteArray) : Option (List Int) := (some (([] : List Int) : List Int)).bind fun y144 => (if y144.length + l0.length < 140737488355328 then ((some (y144 ++ l0 : List Int)).bind fun y147 => ((spec_TextOk.f k a1).bind fun t150 => (if t150 = true then (if y147.length < 140737488355328 then ((some (y147 ++ [((a1.size : Int)) % 256] : List Int)).bind fun y151 => (if y151.length + a1.size < 140737488355328 then (some (y151 ++ bytesOf a1)) else (none))) else (none)) else (some y147)))) else (none))
theorem spec_PutText.mono : ∀ a0 a1 k, LeO (spec_PutText.f k a0 a1) (spec_PutText.f (k + 1) a0 a1) := by
 intro a0 a1 k
 unfold spec_PutText.f
 have m0 := @spec_TextOk.mono; exact mo_
set_option maxHeartbeats 8000000 in
set_option maxRecDepth 100000 in
theorem spec_PutText.calls (k : Nat) (A0 : Option Addr) (c0 : Nat) (l0 : List Int) (a1 : ByteArray) (r : List Int) (w : World) (hr0 : Kd.C (Kd.int .u8) w A0 l0.length l0) (hc0 : l0.length ≤ c0) (h : spec_PutText.f k l0 a1 = some r) :
  Calls Try.prog 123 #[.slice A0 l0.length c0, .string a1] w fun e w' => ∃ v0_ : Value, e = .returned (v0_) ∧ Kd.R (Kd.int .u8) 5 w' w.heap.size (fun _ => True) v0_ r ∧ Below w.heap.size w w' := by
 have HR0 := Aside0.mk hr0
 have HC0 := Aside0.mk hc0
 clear hr0 hc0
 have HB := Aside0.mk (Below.refl w.heap.size w)
 have H := h
 unfold spec_PutText.f at H
 clear h
 obtain ⟨y144, hy144⟩ : ∃ y_ : List Int, y_ = (([] : List Int)) := ⟨_, rfl⟩
 replace H := mk_ H hy144
 (try dsimp only at H)
 have Ny144 := Aside0.mk hy144
 clear hy144
 replace H := ip_ H
 obtain ⟨c3, H, -⟩ := H
 have LMc3 := Aside0.mk c3
 clear c3
 obtain ⟨y147, hy147⟩ : ∃ y_ : List Int, y_ = (y144 ++ l0) := ⟨_, rfl⟩
 replace H := mk_ H hy147
 (try dsimp only at H)
 have Ny147 := Aside0.mk hy147
 clear hy147
 replace H := bd_ H
 obtain ⟨t150, A4, H⟩ := H
 have HC5 := Aside0.mk H
 clear H
 go_enter Try.func123, Try.ntmps123
 go_upto_if 11 with (first | ((with_reducible refine gate_dst (N := 6) rfl ?_); refine Kd.R_lit (Kd.int .u8) _ 5 ?hg (N := 6) ?hd (xs := ([] : List Int)) (inner := []) (ok := fun _ => True) (okp := fun _ => True) ?hr ?hp (fun _ hk => hk) trivial (Below.refl _ _) (Nat.le_refl _) (by simp) ?_; (case hd => rfl); (case hg => rfl); (case hr => first | (go_simp; done) | (go_simp; rfl)); (case hp => exact (Reps.none _ _)); intro v145 w6 ho7 hb hg_ hnew_; clear hg_ hnew_; (first | rw [← Ny144.out] at ho7 | (simp only [Int.reduceToNat] at ho7; rw [← Ny144.out] at ho7)); have HO146 := am_ (Kd.R_lower ho7 (below_size (qB HB))); replace HB := bS_ HB hb; clear hb ho7) | ((with_reducible refine gate_builtin (b := .append) (xs := #[.tmp 6, .tmp 7]) rfl ?_); at_builtin; refine Kd.R_append_rows (Kd.int .u8) (w0 := w) w.heap.size rfl (.tmp 6) (.tmp 7) 70 5 (.int .u8 0) 1 rfl Try.underlying70 info5 rfl (by decide) (by omega) v145 y144 l0 _ _ _ (fun _ => True) (fun _ => False) rfl rfl ?aO ?aR (fun _ _ h => h) (fun _ h => h.elim) ?aF ?aB ?aS ?aL ?_; (case aR => exact qC (Kd.C_below HR0.out HB.out)); (case aB => exact (qB HB)); (case aF => exact (fun _ _ => trivial)); (case aO => exact (qR HO146)); (case aS => exact (below_size (qB HB))); (case aL => have := LMc3.out; omega); intro v148 w8 ho hb hg hat; rw [← Ny147.out] at ho; replace HB := am_ (hb); have HO149 := am_ (ho); clear HO146; clear ho hb hg hat) | ((with_reducible refine gate_callee (f := 134) rfl ?_); refine gl_ (some 10) Try.func134 #[.string a1] ?_; (with_reducible refine (spec_TextOk.calls k a1 t150 _ A4.out).mono ?_); rintro e w' ⟨rfl, ⟨nd, rfl⟩⟩; refine ⟨_, rfl, ?_⟩))
 (try simp only [Act.put, List.setIfInBounds_toArray, List.set_cons_zero, List.set_cons_succ])
 (try (rw [drewN_self w8]; generalize hq_ : World.drewN w8 _ = w8; have n0_ : Aside0 (Kd.R (Kd.int .u8) 5 w8 w.heap.size (fun _ => True) v148 y147) := ⟨by rw [← hq_]; exact (qR HO149)⟩; have n1_ : Aside0 (Below w.heap.size w w8) := ⟨by rw [← hq_]; exact (qB HB)⟩; clear HO149 HB hq_; have HO149 := n0_; have HB := n1_; clear n0_ n1_))
 have H := HC5.out
 clear HC5
 by_cases c9 : t150 = true
 rotate_left
 ·
  replace c9 := Bool.eq_false_iff.mpr c9
  subst c9
  rw [if_neg (show ¬ (false = true) by decide)] at H
  obtain rfl := Option.some.inj H
  go_wp2
  go_ret
  exact ⟨_, er_, qR HO149, qB HB⟩
 subst c9
 rw [if_pos rfl] at H
 replace H := ip_ H
 obtain ⟨c10, H, -⟩ := H
 have LMc10 := Aside0.mk c10
 clear c10
 obtain ⟨y151, hy151⟩ : ∃ y_ : List Int, y_ = (y147 ++ [((a1.size : Int)) % 256]) := ⟨_, rfl⟩
 replace H := mk_ H hy151
 (try dsimp only at H)
 have Ny151 := Aside0.mk hy151
 clear hy151
 replace H := ip_ H
 obtain ⟨c11, H, -⟩ := H
 have LMc11 := Aside0.mk c11
 clear c11
 obtain ⟨y154, hy154⟩ : ∃ y_ : List Int, y_ = (y151 ++ bytesOf a1) := ⟨_, rfl⟩
 rw [← hy154] at H
 have Ny154 := Aside0.mk hy154
 clear hy154
 obtain rfl := Option.some.inj H
 go_wp2_with (first | ((with_reducible refine gate_builtin (b := .append) (xs := #[.tmp 13, .tmp 17]) rfl ?_); at_builtin; refine Kd.R_append (Kd.int .u8) (w0 := w) w.heap.size rfl (.tmp 13) (.tmp 17) 70 5 (.int .u8 0) 1 rfl Try.underlying70 info5 rfl (by decide) (by omega) v148 y147 (((a1.size : Int)) % 256) [.int .u8 (((a1.size : Int)) % 256)] (fun _ => True) (fun _ => False) rfl rfl ?aP (fun _ hk => hk.elim) ?aF ?aO ?aB ?aS ?aL ?_; (case aP => exact rfl); (case aB => exact (qB HB)); (case aF => exact (fun _ _ => trivial)); (case aO => exact (qR HO149)); (case aS => exact (below_size (qB HB))); (case aL => have := LMc10.out; omega); intro v152 w12 ho hb hg hat; rw [← Ny151.out] at ho; replace HB := am_ (hb); have HO153 := am_ (ho); clear HO149; clear ho hb hg hat) | (at_builtin; refine print_append_str (w0 := w) w.heap.size rfl (.tmp 18) _ 70 9 5 rfl Try.underlying70 Try.underlying9 info5 v152 y151 a1 rfl rfl ?aO ?aB ?aS ?aL ?_; (case aB => exact (qB HB)); (case aO => exact (Kd.own_of_R (qR HO153))); (case aS => exact (below_size (qB HB))); (case aL => have := LMc11.out; omega); intro v155 w13 ho0 hb hg; have ho := Kd.R_of_own (h1 := fun _ => rfl) (ok := fun _ => True) ho0 (fun _ _ => trivial); clear ho0; have hat := True.intro; rw [← Ny154.out] at ho; change Kd.R (Kd.int .u8) 5 w13 w.heap.size (fun _ => True) v155 y154 at ho; replace HB := am_ (hb); have HO156 := am_ (ho); clear HO153; clear ho hb hg hat))
 go_ret
 exact ⟨_, er_, qR HO156, qB HB⟩

/-! ### spec_LineOk: function 124 -/
def spec_LineOk.j0 : Nat → Bool → Int → ByteArray → Int → Int → Int → Int → Int → Option (Bool)
 | 0, _, _, _, _, _, _, _, _ => none
 | k + 1, x18, x158000, x158001, x158002, x158003, x158004, x158005, x158006 => if x18 = true then (some false) else (if x158003 = 0 then ((spec_l9Time.f x158004).bind fun t161 => (if t161 = true then (if x158005 = 0 then (some (x158006 == 0)) else (some false)) else (some false))) else ((spec_l1In.f x158003 1 2).bind fun t162 => (if t162 = true then (if x158004 = 0 then ((spec_l1In.f x158005 1 9999).bind fun t163 => (if t163 = true then (some (decide (x158006 ≥ 1))) else (some false))) else (some false)) else (some false))))
def spec_LineOk.f (k : Nat) (a0_0 : Int) (a0_1 : ByteArray) (a0_2 : Int) (a0_3 : Int) (a0_4 : Int) (a0_5 : Int) (a0_6 : Int) : Option (Bool) := (spec_l1In.f a0_0 1 9999).bind fun t158 => (if t158 = true then ((spec_l1Name.f k a0_1).bind fun t159 => (if t159 = true then ((spec_l1In.f a0_2 1 60000).bind fun t160 => (spec_LineOk.j0 k (!t160) a0_0 a0_1 a0_2 a0_3 a0_4 a0_5 a0_6)) else (spec_LineOk.j0 k true a0_0 a0_1 a0_2 a0_3 a0_4 a0_5 a0_6))) else (spec_LineOk.j0 k true a0_0 a0_1 a0_2 a0_3 a0_4 a0_5 a0_6))
theorem spec_LineOk.mono_l : ∀ k, (∀ y0 y1 y2 y3 y4 y5 y6 y7, LeO (spec_LineOk.j0 k y0 y1 y2 y3 y4 y5 y6 y7) (spec_LineOk.j0 (k + 1) y0 y1 y2 y3 y4 y5 y6 y7))
 | 0 => fun _ _ _ _ _ _ _ _ r h => by simp [spec_LineOk.j0] at h
 | k + 1 => by
  have ih0 := spec_LineOk.mono_l k
  ·
   intro y0 y1 y2 y3 y4 y5 y6 y7
   unfold spec_LineOk.j0
   have m0 := @spec_l1Name.mono; exact mo_
theorem spec_LineOk.mono : ∀ a0 a1 a2 a3 a4 a5 a6 k, LeO (spec_LineOk.f k a0 a1 a2 a3 a4 a5 a6) (spec_LineOk.f (k + 1) a0 a1 a2 a3 a4 a5 a6) := by
 intro a0 a1 a2 a3 a4 a5 a6 k
 have ih0 := spec_LineOk.mono_l k
 unfold spec_LineOk.f
 have m0 := @spec_l1Name.mono; exact mo_
set_option maxHeartbeats 8000000 in
set_option maxRecDepth 100000 in
theorem spec_LineOk.calls (k : Nat) (a0_0 : Int) (a0_1 : ByteArray) (a0_2 : Int) (a0_3 : Int) (a0_4 : Int) (a0_5 : Int) (a0_6 : Int) (r : Bool) (w : World) (h : spec_LineOk.f k a0_0 a0_1 a0_2 a0_3 a0_4 a0_5 a0_6 = some r) :
  Calls Try.prog 124 #[.agg #[.int .i64 a0_0, .string a0_1, .int .i64 a0_2, .int .i64 a0_3, .int .i64 a0_4, .int .i64 a0_5, .int .i64 a0_6]] w fun e w' => e = .returned (.bool r) ∧ Below w.heap.size w w' := by
 have hu124 := Try.underlying124
 have HB := Aside0.mk (Below.refl w.heap.size w)
 have H := h
 unfold spec_LineOk.f at H
 clear h
 have HC2 := Aside0.mk H
 clear H
 go_enter Try.func124, Try.ntmps124
 go_upto_region 1 with (first | ((with_reducible refine gate_dst (N := 1) rfl ?_); refine bx_ (N := 1) (cs := #[.int .i64 a0_0, .string a0_1, .int .i64 a0_2, .int .i64 a0_3, .int .i64 a0_4, .int .i64 a0_5, .int .i64 a0_6]) (t := 124) ?_; intro gb157 hg w3 hbox hb; have BK157 := am_ (hbox); have GW157 := gA_ hg HB; have GE157 := GW157; have IGE157 := gI_ GE157; replace HB := bS_ HB hb; clear hb hbox hg))
 (try simp only [Act.put, List.setIfInBounds_toArray, List.set_cons_zero, List.set_cons_succ])
 go_cut [18] (fun v18 wc => ∃ (kq : Nat) (x18_1 : Bool), v18 = .bool x18_1 ∧ Aside0 (spec_LineOk.j0 kq x18_1 a0_0 a0_1 a0_2 a0_3 a0_4 a0_5 a0_6 = some r) ∧ Aside0 (kq ≤ k) ∧ Aside0 (wc.heap[gb157]? = some (.cells #[.int .i64 a0_0, .string a0_1, .int .i64 a0_2, .int .i64 a0_3, .int .i64 a0_4, .int .i64 a0_5, .int .i64 a0_6] 124 (0, 0))) ∧ Aside0 (Below w.heap.size w wc))
 case first =>
  have H := HC2.out
  clear HC2
  replace H := bd_ H
  obtain ⟨t158, A4, H⟩ := H
  by_cases c5 : t158 = true
  rotate_left
  ·
   replace c5 := Bool.eq_false_iff.mpr c5
   subst c5
   rw [if_neg (show ¬ (false = true) by decide)] at H
   have H' := Aside0.mk H
   clear H
   (try clear zK157)
   have zK157 := cz7 BK157.out
   go_wp2_with (first | ((with_reducible refine gate_callee (f := 42) rfl ?_); refine gl_ (some 5) Try.func42 #[.int .i64 a0_0, .int .i64 1, .int .i64 9999] ?_; (with_reducible refine (spec_l1In.calls a0_0 1 9999 false _ A4.out).mono ?_); rintro e w' ⟨rfl, ⟨nd, rfl⟩⟩; refine ⟨_, rfl, ?_⟩))
   go_meet
   case rel => exact ⟨_, (true), eqq_, H', ⟨by first | omega | exact Nat.le_refl _⟩, ⟨qK BK157⟩, ⟨qB HB⟩⟩
  subst c5
  rw [if_pos rfl] at H
  replace H := bd_ H
  obtain ⟨t159, A6, H⟩ := H
  by_cases c7 : t159 = true
  rotate_left
  ·
   replace c7 := Bool.eq_false_iff.mpr c7
   subst c7
   rw [if_neg (show ¬ (false = true) by decide)] at H
   have H' := Aside0.mk H
   clear H
   (try clear zK157)
   have zK157 := cz7 BK157.out
   go_wp2_with (first | ((with_reducible refine gate_callee (f := 42) rfl ?_); refine gl_ (some 5) Try.func42 #[.int .i64 a0_0, .int .i64 1, .int .i64 9999] ?_; (with_reducible refine (spec_l1In.calls a0_0 1 9999 true _ A4.out).mono ?_); rintro e w' ⟨rfl, ⟨nd, rfl⟩⟩; refine ⟨_, rfl, ?_⟩) | (go_at_call 132; (with_reducible refine (spec_l1Name.calls k a0_1 false _ A6.out).mono ?_); rintro e w' ⟨rfl, ⟨nd, rfl⟩⟩))
   go_meet
   case rel => exact ⟨_, (true), eqq_, H', ⟨by first | omega | exact Nat.le_refl _⟩, ⟨qK BK157⟩, ⟨qB HB⟩⟩
  subst c7
  rw [if_pos rfl] at H
  replace H := bd_ H
  obtain ⟨t160, A8, H⟩ := H
  have H' := Aside0.mk H
  clear H
  (try clear zK157)
  have zK157 := cz7 BK157.out
  go_wp2_with (first | ((with_reducible refine gate_callee (f := 42) rfl ?_); refine gl_ (some 5) Try.func42 #[.int .i64 a0_0, .int .i64 1, .int .i64 9999] ?_; (with_reducible refine (spec_l1In.calls a0_0 1 9999 true _ A4.out).mono ?_); rintro e w' ⟨rfl, ⟨nd, rfl⟩⟩; refine ⟨_, rfl, ?_⟩) | (go_at_call 132; (with_reducible refine (spec_l1Name.calls k a0_1 true _ A6.out).mono ?_); rintro e w' ⟨rfl, ⟨nd, rfl⟩⟩) | (go_at_call 42; (with_reducible refine (spec_l1In.calls a0_2 1 60000 t160 _ A8.out).mono ?_); rintro e w' ⟨rfl, ⟨nd, rfl⟩⟩))
  go_meet
  case rel => exact ⟨_, (!t160), eqq_, H', ⟨by first | omega | exact Nat.le_refl _⟩, ⟨qK BK157⟩, ⟨qB HB⟩⟩
 case rest =>
  clear HC2
  try clear c1
  try clear p2
  try clear c4
  try clear c5
  try clear c7
  (try clear zK157)
  (try clear zK157)
  (try clear zK157)
  (try clear f10)
  (try clear f11)
  (try clear f9)
  obtain ⟨kq, x18_1, rfl, HA, HJ1, BK157, HB⟩ := hcut
  cases kq with
  | zero => exact absurd HA.out (by simp [spec_LineOk.j0])
  | succ kj1 =>
   have H := HA.out
   clear HA
   simp only [spec_LineOk.j0] at H
   by_cases c12 : x18_1 = true
   ·
    subst c12
    rw [if_pos rfl] at H
    obtain rfl := Option.some.inj H
    go_wp2
    go_ret
    exact ⟨er_, qB HB⟩
   replace c12 := Bool.eq_false_iff.mpr c12
   subst c12
   rw [if_neg (show ¬ (false = true) by decide)] at H
   replace H := ie_ H
   obtain ⟨-, H, c13b0, c13b1⟩ | ⟨c13, H, c13b0, c13b1⟩ := H
   ·
    replace H := bd_ H
    obtain ⟨t161, A14, H⟩ := H
    by_cases c15 : t161 = true
    rotate_left
    ·
     replace c15 := Bool.eq_false_iff.mpr c15
     subst c15
     rw [if_neg (show ¬ (false = true) by decide)] at H
     obtain rfl := Option.some.inj H
     (try clear zK157)
     have zK157 := cz7 BK157.out
     go_wp2_with (first | ((with_reducible refine gate_callee (f := 133) rfl ?_); refine gl_ (some 24) Try.func133 #[.int .i64 a0_4] ?_; (with_reducible refine (spec_l9Time.calls a0_4 false _ A14.out).mono ?_); rintro e w' ⟨rfl, ⟨nd, rfl⟩⟩; refine ⟨_, rfl, ?_⟩))
     go_ret
     exact ⟨er_, qB HB⟩
    subst c15
    rw [if_pos rfl] at H
    replace H := ie_ H
    obtain ⟨-, H, c16b0, c16b1⟩ | ⟨c16, H, c16b0, c16b1⟩ := H
    rotate_left
    ·
     obtain rfl := Option.some.inj H
     (try clear zK157)
     have zK157 := cz7 BK157.out
     go_wp2_with (first | ((with_reducible refine gate_callee (f := 133) rfl ?_); refine gl_ (some 24) Try.func133 #[.int .i64 a0_4] ?_; (with_reducible refine (spec_l9Time.calls a0_4 true _ A14.out).mono ?_); rintro e w' ⟨rfl, ⟨nd, rfl⟩⟩; refine ⟨_, rfl, ?_⟩))
     go_ret
     exact ⟨er_, qB HB⟩
    obtain rfl := Option.some.inj H
    (try clear zK157)
    have zK157 := cz7 BK157.out
    go_wp2_with (first | ((with_reducible refine gate_callee (f := 133) rfl ?_); refine gl_ (some 24) Try.func133 #[.int .i64 a0_4] ?_; (with_reducible refine (spec_l9Time.calls a0_4 true _ A14.out).mono ?_); rintro e w' ⟨rfl, ⟨nd, rfl⟩⟩; refine ⟨_, rfl, ?_⟩))
    go_ret
    exact ⟨er_, qB HB⟩
   replace H := bd_ H
   obtain ⟨t162, A20, H⟩ := H
   by_cases c21 : t162 = true
   rotate_left
   ·
    replace c21 := Bool.eq_false_iff.mpr c21
    subst c21
    rw [if_neg (show ¬ (false = true) by decide)] at H
    obtain rfl := Option.some.inj H
    (try clear zK157)
    have zK157 := cz7 BK157.out
    go_wp2_with (first | ((with_reducible refine gate_callee (f := 42) rfl ?_); refine gl_ (some 37) Try.func42 #[.int .i64 a0_3, .int .i64 1, .int .i64 2] ?_; (with_reducible refine (spec_l1In.calls a0_3 1 2 false _ A20.out).mono ?_); rintro e w' ⟨rfl, ⟨nd, rfl⟩⟩; refine ⟨_, rfl, ?_⟩))
    go_ret
    exact ⟨er_, qB HB⟩
   subst c21
   rw [if_pos rfl] at H
   replace H := ie_ H
   obtain ⟨-, H, c22b0, c22b1⟩ | ⟨c22, H, c22b0, c22b1⟩ := H
   rotate_left
   ·
    obtain rfl := Option.some.inj H
    (try clear zK157)
    have zK157 := cz7 BK157.out
    go_wp2_with (first | ((with_reducible refine gate_callee (f := 42) rfl ?_); refine gl_ (some 37) Try.func42 #[.int .i64 a0_3, .int .i64 1, .int .i64 2] ?_; (with_reducible refine (spec_l1In.calls a0_3 1 2 true _ A20.out).mono ?_); rintro e w' ⟨rfl, ⟨nd, rfl⟩⟩; refine ⟨_, rfl, ?_⟩))
    go_ret
    exact ⟨er_, qB HB⟩
   replace H := bd_ H
   obtain ⟨t163, A23, H⟩ := H
   by_cases c24 : t163 = true
   ·
    subst c24
    rw [if_pos rfl] at H
    obtain rfl := Option.some.inj H
    (try clear zK157)
    have zK157 := cz7 BK157.out
    go_wp2_with (first | ((with_reducible refine gate_callee (f := 42) rfl ?_); refine gl_ (some 37) Try.func42 #[.int .i64 a0_3, .int .i64 1, .int .i64 2] ?_; (with_reducible refine (spec_l1In.calls a0_3 1 2 true _ A20.out).mono ?_); rintro e w' ⟨rfl, ⟨nd, rfl⟩⟩; refine ⟨_, rfl, ?_⟩) | (go_at_call 42; (with_reducible refine (spec_l1In.calls a0_5 1 9999 true _ A23.out).mono ?_); rintro e w' ⟨rfl, ⟨nd, rfl⟩⟩))
    go_ret
    exact ⟨er_, qB HB⟩
   replace c24 := Bool.eq_false_iff.mpr c24
   subst c24
   rw [if_neg (show ¬ (false = true) by decide)] at H
   obtain rfl := Option.some.inj H
   (try clear zK157)
   have zK157 := cz7 BK157.out
   go_wp2_with (first | ((with_reducible refine gate_callee (f := 42) rfl ?_); refine gl_ (some 37) Try.func42 #[.int .i64 a0_3, .int .i64 1, .int .i64 2] ?_; (with_reducible refine (spec_l1In.calls a0_3 1 2 true _ A20.out).mono ?_); rintro e w' ⟨rfl, ⟨nd, rfl⟩⟩; refine ⟨_, rfl, ?_⟩) | (go_at_call 42; (with_reducible refine (spec_l1In.calls a0_5 1 9999 false _ A23.out).mono ?_); rintro e w' ⟨rfl, ⟨nd, rfl⟩⟩))
   go_ret
   exact ⟨er_, qB HB⟩

end Go.Proofs.Ytiffahfpfgnjnab.PFnExactGetCtl
