-- Written by a program of this session (myprint.py, over the kit's print): contracts of FnExactGetCtl
import Derived.Test.YtiffahfpfgnjnabPFnExactGetCtlx0
import Derived.Test.YtiffahfpfgnjnabPFnExactGetCtlx13
namespace Go.Proofs.Ytiffahfpfgnjnab.PFnExactGetCtl
open Go.RowKit Go.Proofs.YtiffahfpfgnjnabW.PrintWords Go.Proofs.YtiffahfpfgnjnabW.PrintLast Go.Proofs.YtiffahfpfgnjnabW.PrintMore Go.Proofs.YtiffahfpfgnjnabV
attribute [local go_sem] max2_int min2_int max_two min_two max_three min_three max_four min_four   -- for this text's walks alone
set_option linter.unusedVariables false
set_option linter.unusedSimpArgs false

/-! ### impl_putSince: function 127 -/
def impl_putSince.f (l0 : List Int) (a1 : Int) : Option (List Int) := (impl_PutWord.f l0 (wrap64 (Int.tdiv a1 256))).bind fun t473 => (if t473.length < 140737488355328 then (some (t473 ++ [(Int.tmod a1 256) % 256])) else (none))
set_option maxHeartbeats 8000000 in
set_option maxRecDepth 100000 in
theorem impl_putSince.calls (A0 : Option Addr) (c0 : Nat) (l0 : List Int) (a1 : Int) (r : List Int) (w : World) (hr0 : Kd.C (Kd.int .u8) w A0 l0.length l0) (hc0 : l0.length ≤ c0) (h : impl_putSince.f l0 a1 = some r) :
  Calls Try.prog 127 #[.slice A0 l0.length c0, .int .i64 a1] w fun e w' => ∃ v0_ : Value, e = .returned (v0_) ∧ Kd.R (Kd.int .u8) 5 w' w.heap.size (fun _ => True) v0_ r ∧ Below w.heap.size w w' := by
 have HR0 := Aside0.mk hr0
 have HC0 := Aside0.mk hc0
 clear hr0 hc0
 have HB := Aside0.mk (Below.refl w.heap.size w)
 have H := h
 unfold impl_putSince.f at H
 clear h
 replace H := bd_ H
 obtain ⟨t473, A3, H⟩ := H
 replace H := ip_ H
 obtain ⟨c4, H, -⟩ := H
 have LMc4 := Aside0.mk c4
 clear c4
 obtain ⟨y476, hy476⟩ : ∃ y_ : List Int, y_ = (t473 ++ [(Int.tmod a1 256) % 256]) := ⟨_, rfl⟩
 rw [← hy476] at H
 have Ny476 := Aside0.mk hy476
 clear hy476
 obtain rfl := Option.some.inj H
 go_enter Try.func127, Try.ntmps127
 go_wp2_with (first | ((with_reducible refine gate_callee (f := 112) rfl ?_); refine gl_ (some 8) Try.func112 #[.slice A0 l0.length c0, .int .i64 (wrap64 (Int.tdiv a1 256))] ?_; (with_reducible refine (impl_PutWord.calls _ _ l0 (wrap64 (Int.tdiv a1 256)) t473 _ ?side1 ?side2 A3.out).mono ?_); (case side1 => exact qC (HR0.out)); (case side2 => exact HC0.out); rintro e w5 ⟨v474, rfl, ho0, hb⟩; refine ⟨_, rfl, ?_⟩; have HO475 := am_ (Kd.R_lower ho0 (below_size (qB HB))); replace HB := bS_ HB hb; (try clear hb); (try clear ho0)) | ((with_reducible refine gate_builtin (b := .append) (xs := #[.tmp 8, .tmp 12]) rfl ?_); at_builtin; refine Kd.R_append (Kd.int .u8) (w0 := w) w.heap.size rfl (.tmp 8) (.tmp 12) 70 5 (.int .u8 0) 1 rfl Try.underlying70 info5 rfl (by decide) (by omega) v474 t473 ((Int.tmod a1 256) % 256) [.int .u8 ((Int.tmod a1 256) % 256)] (fun _ => True) (fun _ => False) rfl rfl ?aP (fun _ hk => hk.elim) ?aF ?aO ?aB ?aS ?aL ?_; (case aP => exact rfl); (case aB => exact (qB HB)); (case aF => exact (fun _ _ => trivial)); (case aO => exact (qR HO475)); (case aS => exact (below_size (qB HB))); (case aL => have := LMc4.out; omega); intro v477 w6 ho hb hg hat; rw [← Ny476.out] at ho; replace HB := am_ (hb); have HO478 := am_ (ho); clear HO475; clear ho hb hg hat))
 go_ret
 exact ⟨_, er_, qR HO478, qB HB⟩

/-! ### impl_LineOk: function 128 -/
def impl_LineOk.j0 : Nat → Bool → Int → ByteArray → Int → Int → Int → Int → Int → Option (Bool)
 | 0, _, _, _, _, _, _, _, _ => none
 | k + 1, x18, x480000, x480001, x480002, x480003, x480004, x480005, x480006 => if x18 = true then (some false) else (if x480003 = 0 then ((impl_sinceOk.f x480004).bind fun t483 => (if t483 = true then (if x480005 = 0 then (some (x480006 == 0)) else (some false)) else (some false))) else (if x480003 = 1 then (if x480004 = 0 then ((impl_sockIdOk.f x480005).bind fun t484 => (if t484 = true then (some (decide (x480006 ≥ 1))) else (some false))) else (some false)) else (if x480003 = 2 then (if x480004 = 0 then ((impl_sockIdOk.f x480005).bind fun t485 => (if t485 = true then (some (decide (x480006 ≥ 1))) else (some false))) else (some false)) else (some false))))
def impl_LineOk.f (k : Nat) (a0_0 : Int) (a0_1 : ByteArray) (a0_2 : Int) (a0_3 : Int) (a0_4 : Int) (a0_5 : Int) (a0_6 : Int) : Option (Bool) := (impl_sockIdOk.f a0_0).bind fun t480 => (if t480 = true then ((impl_nameOk.f k a0_1).bind fun t481 => (if t481 = true then ((impl_isIn.f a0_2 1 60000).bind fun t482 => (impl_LineOk.j0 k (!t482) a0_0 a0_1 a0_2 a0_3 a0_4 a0_5 a0_6)) else (impl_LineOk.j0 k true a0_0 a0_1 a0_2 a0_3 a0_4 a0_5 a0_6))) else (impl_LineOk.j0 k true a0_0 a0_1 a0_2 a0_3 a0_4 a0_5 a0_6))
theorem impl_LineOk.mono_l : ∀ k, (∀ y0 y1 y2 y3 y4 y5 y6 y7, LeO (impl_LineOk.j0 k y0 y1 y2 y3 y4 y5 y6 y7) (impl_LineOk.j0 (k + 1) y0 y1 y2 y3 y4 y5 y6 y7))
 | 0 => fun _ _ _ _ _ _ _ _ r h => by simp [impl_LineOk.j0] at h
 | k + 1 => by
  have ih0 := impl_LineOk.mono_l k
  ·
   intro y0 y1 y2 y3 y4 y5 y6 y7
   unfold impl_LineOk.j0
   have m0 := @impl_nameOk.mono; exact mo_
theorem impl_LineOk.mono : ∀ a0 a1 a2 a3 a4 a5 a6 k, LeO (impl_LineOk.f k a0 a1 a2 a3 a4 a5 a6) (impl_LineOk.f (k + 1) a0 a1 a2 a3 a4 a5 a6) := by
 intro a0 a1 a2 a3 a4 a5 a6 k
 have ih0 := impl_LineOk.mono_l k
 unfold impl_LineOk.f
 have m0 := @impl_nameOk.mono; exact mo_
set_option maxHeartbeats 8000000 in
set_option maxRecDepth 100000 in
theorem impl_LineOk.calls (k : Nat) (a0_0 : Int) (a0_1 : ByteArray) (a0_2 : Int) (a0_3 : Int) (a0_4 : Int) (a0_5 : Int) (a0_6 : Int) (r : Bool) (w : World) (h : impl_LineOk.f k a0_0 a0_1 a0_2 a0_3 a0_4 a0_5 a0_6 = some r) :
  Calls Try.prog 128 #[.agg #[.int .i64 a0_0, .string a0_1, .int .i64 a0_2, .int .i64 a0_3, .int .i64 a0_4, .int .i64 a0_5, .int .i64 a0_6]] w fun e w' => e = .returned (.bool r) ∧ Below w.heap.size w w' := by
 have hu124 := Try.underlying124
 have HB := Aside0.mk (Below.refl w.heap.size w)
 have H := h
 unfold impl_LineOk.f at H
 clear h
 have HC2 := Aside0.mk H
 clear H
 go_enter Try.func128, Try.ntmps128
 go_upto_region 1 with (first | ((with_reducible refine gate_dst (N := 1) rfl ?_); refine bx_ (N := 1) (cs := #[.int .i64 a0_0, .string a0_1, .int .i64 a0_2, .int .i64 a0_3, .int .i64 a0_4, .int .i64 a0_5, .int .i64 a0_6]) (t := 124) ?_; intro gb479 hg w3 hbox hb; have BK479 := am_ (hbox); have GW479 := gA_ hg HB; have GE479 := GW479; have IGE479 := gI_ GE479; replace HB := bS_ HB hb; clear hb hbox hg))
 (try simp only [Act.put, List.setIfInBounds_toArray, List.set_cons_zero, List.set_cons_succ])
 go_cut [18] (fun v18 wc => ∃ (kq : Nat) (x18_1 : Bool), v18 = .bool x18_1 ∧ Aside0 (impl_LineOk.j0 kq x18_1 a0_0 a0_1 a0_2 a0_3 a0_4 a0_5 a0_6 = some r) ∧ Aside0 (kq ≤ k) ∧ Aside0 (wc.heap[gb479]? = some (.cells #[.int .i64 a0_0, .string a0_1, .int .i64 a0_2, .int .i64 a0_3, .int .i64 a0_4, .int .i64 a0_5, .int .i64 a0_6] 124 (0, 0))) ∧ Aside0 (Below w.heap.size w wc))
 case first =>
  have H := HC2.out
  clear HC2
  replace H := bd_ H
  obtain ⟨t480, A4, H⟩ := H
  by_cases c5 : t480 = true
  rotate_left
  ·
   replace c5 := Bool.eq_false_iff.mpr c5
   subst c5
   rw [if_neg (show ¬ (false = true) by decide)] at H
   have H' := Aside0.mk H
   clear H
   (try clear zK479)
   have zK479 := cz7 BK479.out
   go_wp2_with (first | ((with_reducible refine gate_callee (f := 135) rfl ?_); refine gl_ (some 5) Try.func135 #[.int .i64 a0_0] ?_; (with_reducible refine (impl_sockIdOk.calls a0_0 false _ A4.out).mono ?_); rintro e w' ⟨rfl, ⟨nd, rfl⟩⟩; refine ⟨_, rfl, ?_⟩))
   go_meet
   case rel => exact ⟨_, (true), eqq_, H', ⟨by first | omega | exact Nat.le_refl _⟩, ⟨qK BK479⟩, ⟨qB HB⟩⟩
  subst c5
  rw [if_pos rfl] at H
  replace H := bd_ H
  obtain ⟨t481, A6, H⟩ := H
  by_cases c7 : t481 = true
  rotate_left
  ·
   replace c7 := Bool.eq_false_iff.mpr c7
   subst c7
   rw [if_neg (show ¬ (false = true) by decide)] at H
   have H' := Aside0.mk H
   clear H
   (try clear zK479)
   have zK479 := cz7 BK479.out
   go_wp2_with (first | ((with_reducible refine gate_callee (f := 135) rfl ?_); refine gl_ (some 5) Try.func135 #[.int .i64 a0_0] ?_; (with_reducible refine (impl_sockIdOk.calls a0_0 true _ A4.out).mono ?_); rintro e w' ⟨rfl, ⟨nd, rfl⟩⟩; refine ⟨_, rfl, ?_⟩) | (go_at_call 136; (with_reducible refine (impl_nameOk.calls k a0_1 false _ A6.out).mono ?_); rintro e w' ⟨rfl, ⟨nd, rfl⟩⟩))
   go_meet
   case rel => exact ⟨_, (true), eqq_, H', ⟨by first | omega | exact Nat.le_refl _⟩, ⟨qK BK479⟩, ⟨qB HB⟩⟩
  subst c7
  rw [if_pos rfl] at H
  replace H := bd_ H
  obtain ⟨t482, A8, H⟩ := H
  have H' := Aside0.mk H
  clear H
  (try clear zK479)
  have zK479 := cz7 BK479.out
  go_wp2_with (first | ((with_reducible refine gate_callee (f := 135) rfl ?_); refine gl_ (some 5) Try.func135 #[.int .i64 a0_0] ?_; (with_reducible refine (impl_sockIdOk.calls a0_0 true _ A4.out).mono ?_); rintro e w' ⟨rfl, ⟨nd, rfl⟩⟩; refine ⟨_, rfl, ?_⟩) | (go_at_call 136; (with_reducible refine (impl_nameOk.calls k a0_1 true _ A6.out).mono ?_); rintro e w' ⟨rfl, ⟨nd, rfl⟩⟩) | (go_at_call 45; (with_reducible refine (impl_isIn.calls a0_2 1 60000 t482 _ A8.out).mono ?_); rintro e w' ⟨rfl, ⟨nd, rfl⟩⟩))
  go_meet
  case rel => exact ⟨_, (!t482), eqq_, H', ⟨by first | omega | exact Nat.le_refl _⟩, ⟨qK BK479⟩, ⟨qB HB⟩⟩
 case rest =>
  clear HC2
  try clear c1
  try clear p2
  try clear c5
  try clear c7
  (try clear zK479)
  (try clear zK479)
  (try clear zK479)
  (try clear f10)
  (try clear f11)
  (try clear f9)
  obtain ⟨kq, x18_1, rfl, HA, HJ1, BK479, HB⟩ := hcut
  cases kq with
  | zero => exact absurd HA.out (by simp [impl_LineOk.j0])
  | succ kj1 =>
   have H := HA.out
   clear HA
   simp only [impl_LineOk.j0] at H
   by_cases c12 : x18_1 = true
   ·
    subst c12
    rw [if_pos rfl] at H
    obtain rfl := Option.some.inj H
    go_wp2
    go_ret
    exact ⟨er_, qB HB⟩
   replace c12 := Bool.eq_false_iff.mpr c12
   subst c12
   rw [if_neg (show ¬ (false = true) by decide)] at H
   replace H := ie_ H
   obtain ⟨-, H, c13b0, c13b1⟩ | ⟨c13, H, c13b0, c13b1⟩ := H
   ·
    replace H := bd_ H
    obtain ⟨t483, A14, H⟩ := H
    by_cases c15 : t483 = true
    rotate_left
    ·
     replace c15 := Bool.eq_false_iff.mpr c15
     subst c15
     rw [if_neg (show ¬ (false = true) by decide)] at H
     obtain rfl := Option.some.inj H
     (try clear zK479)
     have zK479 := cz7 BK479.out
     go_wp2_with (first | ((with_reducible refine gate_callee (f := 137) rfl ?_); refine gl_ (some 25) Try.func137 #[.int .i64 a0_4] ?_; (with_reducible refine (impl_sinceOk.calls a0_4 false _ A14.out).mono ?_); rintro e w' ⟨rfl, ⟨nd, rfl⟩⟩; refine ⟨_, rfl, ?_⟩))
     go_ret
     exact ⟨er_, qB HB⟩
    subst c15
    rw [if_pos rfl] at H
    replace H := ie_ H
    obtain ⟨-, H, c16b0, c16b1⟩ | ⟨c16, H, c16b0, c16b1⟩ := H
    rotate_left
    ·
     obtain rfl := Option.some.inj H
     (try clear zK479)
     have zK479 := cz7 BK479.out
     go_wp2_with (first | ((with_reducible refine gate_callee (f := 137) rfl ?_); refine gl_ (some 25) Try.func137 #[.int .i64 a0_4] ?_; (with_reducible refine (impl_sinceOk.calls a0_4 true _ A14.out).mono ?_); rintro e w' ⟨rfl, ⟨nd, rfl⟩⟩; refine ⟨_, rfl, ?_⟩))
     go_ret
     exact ⟨er_, qB HB⟩
    obtain rfl := Option.some.inj H
    (try clear zK479)
    have zK479 := cz7 BK479.out
    go_wp2_with (first | ((with_reducible refine gate_callee (f := 137) rfl ?_); refine gl_ (some 25) Try.func137 #[.int .i64 a0_4] ?_; (with_reducible refine (impl_sinceOk.calls a0_4 true _ A14.out).mono ?_); rintro e w' ⟨rfl, ⟨nd, rfl⟩⟩; refine ⟨_, rfl, ?_⟩))
    go_ret
    exact ⟨er_, qB HB⟩
   replace H := ie_ H
   obtain ⟨-, H, c20b0, c20b1⟩ | ⟨c20, H, c20b0, c20b1⟩ := H
   ·
    replace H := ie_ H
    obtain ⟨-, H, c21b0, c21b1⟩ | ⟨c21, H, c21b0, c21b1⟩ := H
    rotate_left
    ·
     obtain rfl := Option.some.inj H
     (try clear zK479)
     have zK479 := cz7 BK479.out
     go_wp2
     go_ret
     exact ⟨er_, qB HB⟩
    replace H := bd_ H
    obtain ⟨t484, A22, H⟩ := H
    by_cases c23 : t484 = true
    ·
     subst c23
     rw [if_pos rfl] at H
     obtain rfl := Option.some.inj H
     (try clear zK479)
     have zK479 := cz7 BK479.out
     go_wp2_with (first | (go_at_call 135; (with_reducible refine (impl_sockIdOk.calls a0_5 true _ A22.out).mono ?_); rintro e w' ⟨rfl, ⟨nd, rfl⟩⟩))
     go_ret
     exact ⟨er_, qB HB⟩
    replace c23 := Bool.eq_false_iff.mpr c23
    subst c23
    rw [if_neg (show ¬ (false = true) by decide)] at H
    obtain rfl := Option.some.inj H
    (try clear zK479)
    have zK479 := cz7 BK479.out
    go_wp2_with (first | (go_at_call 135; (with_reducible refine (impl_sockIdOk.calls a0_5 false _ A22.out).mono ?_); rintro e w' ⟨rfl, ⟨nd, rfl⟩⟩))
    go_ret
    exact ⟨er_, qB HB⟩
   replace H := ie_ H
   obtain ⟨-, H, c27b0, c27b1⟩ | ⟨c27, H, c27b0, c27b1⟩ := H
   rotate_left
   ·
    obtain rfl := Option.some.inj H
    (try clear zK479)
    have zK479 := cz7 BK479.out
    go_wp2
    go_ret
    exact ⟨er_, qB HB⟩
   replace H := ie_ H
   obtain ⟨-, H, c28b0, c28b1⟩ | ⟨c28, H, c28b0, c28b1⟩ := H
   rotate_left
   ·
    obtain rfl := Option.some.inj H
    (try clear zK479)
    have zK479 := cz7 BK479.out
    go_wp2
    go_ret
    exact ⟨er_, qB HB⟩
   replace H := bd_ H
   obtain ⟨t485, A29, H⟩ := H
   by_cases c30 : t485 = true
   ·
    subst c30
    rw [if_pos rfl] at H
    obtain rfl := Option.some.inj H
    (try clear zK479)
    have zK479 := cz7 BK479.out
    go_wp2_with (first | (go_at_call 135; (with_reducible refine (impl_sockIdOk.calls a0_5 true _ A29.out).mono ?_); rintro e w' ⟨rfl, ⟨nd, rfl⟩⟩))
    go_ret
    exact ⟨er_, qB HB⟩
   replace c30 := Bool.eq_false_iff.mpr c30
   subst c30
   rw [if_neg (show ¬ (false = true) by decide)] at H
   obtain rfl := Option.some.inj H
   (try clear zK479)
   have zK479 := cz7 BK479.out
   go_wp2_with (first | (go_at_call 135; (with_reducible refine (impl_sockIdOk.calls a0_5 false _ A29.out).mono ?_); rintro e w' ⟨rfl, ⟨nd, rfl⟩⟩))
   go_ret
   exact ⟨er_, qB HB⟩

end Go.Proofs.Ytiffahfpfgnjnab.PFnExactGetCtl
