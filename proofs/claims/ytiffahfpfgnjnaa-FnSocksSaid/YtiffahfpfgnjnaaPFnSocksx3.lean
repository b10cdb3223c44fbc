-- Written by a program of this session (myprint.py, over the kit's print): contracts of FnSocks
import Derived.Test.YtiffahfpfgnjnaaPFnSocksx0
namespace Go.Proofs.Ytiffahfpfgnjnaa.PFnSocks
open Go.RowKit Go.Proofs.YtiffahfpfgnjnaaW.PrintWords Go.Proofs.YtiffahfpfgnjnaaW.PrintLast Go.Proofs.YtiffahfpfgnjnaaW.PrintMore Go.Proofs.YtiffahfpfgnjnaaV
attribute [local go_sem] max2_int min2_int max_two min_two max_three min_three max_four min_four   -- for this text's walks alone
set_option linter.unusedVariables false
set_option linter.unusedSimpArgs false

/-! ### spec_TextOk: function 86 -/
mutual
def spec_TextOk.l0 : Nat → ByteArray → Int → Option (Bool)
 | 0, _, _ => none
 | k + 1, x0, x3 => if x3 < (x0.size : Int) then (spec_TextOk.j1 k x0 x3 (decide (x3 ≤ 100))) else (spec_TextOk.j1 k x0 x3 false)
def spec_TextOk.j1 : Nat → ByteArray → Int → Bool → Option (Bool)
 | 0, _, _, _ => none
 | k + 1, x0, x3, x11 => if x11 = true then (if 0 ≤ x3 then (if x3 < (x0.size : Int) then (if (bt x0 x3) < 32 then (some false) else (if (bt x0 x3) > 126 then (some false) else (spec_TextOk.l0 k x0 (wrap64 (x3 + 1))))) else (none)) else (none)) else (some (decide ((x0.size : Int) ≤ 100)))
end
def spec_TextOk.f (k : Nat) (a0 : ByteArray) : Option (Bool) := spec_TextOk.l0 k a0 0
theorem spec_TextOk.mono_l : ∀ k, (∀ y0 y1, LeO (spec_TextOk.l0 k y0 y1) (spec_TextOk.l0 (k + 1) y0 y1)) ∧ (∀ y0 y1 y2, LeO (spec_TextOk.j1 k y0 y1 y2) (spec_TextOk.j1 (k + 1) y0 y1 y2))
 | 0 => ⟨fun _ _ r h => by simp [spec_TextOk.l0] at h, fun _ _ _ r h => by simp [spec_TextOk.j1] at h⟩
 | k + 1 => by
  obtain ⟨ih0, ih1⟩ := spec_TextOk.mono_l k
  refine ⟨?_, ?_⟩
  ·
   intro y0 y1
   unfold spec_TextOk.l0
   exact mo_
  ·
   intro y0 y1 y2
   unfold spec_TextOk.j1
   exact mo_
theorem spec_TextOk.mono : ∀ a0 k, LeO (spec_TextOk.f k a0) (spec_TextOk.f (k + 1) a0) := by
 intro a0 k
 obtain ⟨ih0, ih1⟩ := spec_TextOk.mono_l k
 unfold spec_TextOk.f
 exact mo_
set_option maxHeartbeats 8000000 in
set_option maxRecDepth 100000 in
theorem spec_TextOk.calls (k : Nat) (a0 : ByteArray) (r : Bool) (w : World) (h : spec_TextOk.f k a0 = some r) :
  Calls Try.prog 86 #[.string a0] w fun e w' => e = .returned (.bool r) ∧ Drawn0 w w' := by
 have H : (spec_TextOk.l0 k a0 0) = some r := h
 clear h
 have H' := Aside0.mk H
 clear H
 go_enter Try.func86, Try.ntmps86
 go_wp2
 go_loopg [3] k (fun kq v3 w' => ∃ (x3_1 : Int), v3 = .int .i64 x3_1 ∧ Aside0 (spec_TextOk.l0 kq a0 x3_1 = some r) ∧ Aside0 (kq ≤ k) ∧ Drawn0 w w')
 case atStart => exact ⟨(0), eqq_, H', ⟨Nat.le_refl _⟩, by repeat (first | exact Drawn0.refl _ | apply Drawn0.step)⟩
 case round =>
  clear H'
  obtain ⟨x3_1, rfl, HA, HK1, ⟨m1, rfl⟩⟩ := hrel
  cases gk with
  | zero => exact absurd HA.out (by simp [spec_TextOk.l0])
  | succ k1 =>
   have H := HA.out
   clear HA
   simp only [spec_TextOk.l0] at H
   have HC2 := Aside0.mk H
   clear H
   go_upto_region 2 with (fail)
   go_cut [11] (fun v11 wc => ∃ (kq : Nat) (x11_1 : Bool), v11 = .bool x11_1 ∧ Aside0 (spec_TextOk.j1 kq a0 x3_1 x11_1 = some r) ∧ Aside0 (kq ≤ k1) ∧ Drawn0 w wc)
   case first =>
    have H := HC2.out
    clear HC2
    by_cases c3 : x3_1 < (a0.size : Int)
    ·
     rw [if_pos c3] at H
     have c3b0 : decide (x3_1 < (a0.size : Int)) = true := decide_eq_true c3
     clear c3
     (first | rw [c3b0] | (simp only [i64_w, i32_w]; rw [c3b0]) | skip)
     have H' := Aside0.mk H
     clear H
     go_wp2
     go_meet
     case rel => exact ⟨_, (decide (x3_1 ≤ 100)), eqq_, H', ⟨by have := HK1.out; first | omega | exact Nat.le_refl _⟩, by repeat (first | exact Drawn0.refl _ | apply Drawn0.step)⟩
    rw [if_neg c3] at H
    have c3b0 : decide (x3_1 < (a0.size : Int)) = false := decide_eq_false c3
    clear c3
    (first | rw [c3b0] | (simp only [i64_w, i32_w]; rw [c3b0]) | skip)
    have H' := Aside0.mk H
    clear H
    go_wp2
    go_meet
    case rel => exact ⟨_, (false), eqq_, H', ⟨by have := HK1.out; first | omega | exact Nat.le_refl _⟩, by repeat (first | exact Drawn0.refl _ | apply Drawn0.step)⟩
   case rest =>
    clear HC2
    try clear p2
    try clear c3
    try clear c3b0
    obtain ⟨kq, x11_1, rfl, HA, HJ1, ⟨mc1, rfl⟩⟩ := hcut
    cases kq with
    | zero => exact absurd HA.out (by simp [spec_TextOk.j1])
    | succ kj1 =>
     have H := HA.out
     clear HA
     simp only [spec_TextOk.j1] at H
     by_cases c4 : x11_1 = true
     rotate_left
     ·
      replace c4 := Bool.eq_false_iff.mpr c4
      subst c4
      rw [if_neg (show ¬ (false = true) by decide)] at H
      obtain rfl := Option.some.inj H
      go_wp2
      go_ret
      exact ⟨by first | rfl | (simp; done) | (simp [*]; done), by repeat (first | exact Drawn0.refl _ | apply Drawn0.step)⟩
     subst c4
     rw [if_pos rfl] at H
     by_cases c5 : 0 ≤ x3_1
     case neg => exact nn_ c5 H
     rw [if_pos c5] at H
     have c5b0 : decide (0 ≤ x3_1) = true := decide_eq_true c5
     clear c5
     by_cases c6 : x3_1 < (a0.size : Int)
     case neg => exact nn_ c6 H
     rw [if_pos c6] at H
     have c6b0 : decide (x3_1 < (a0.size : Int)) = true := decide_eq_true c6
     clear c6
     by_cases c8 : (bt a0 x3_1) < 32
     ·
      rw [if_pos c8] at H
      have c8b0 : decide ((bt a0 x3_1) < 32) = true := decide_eq_true c8
      clear c8
      obtain rfl := Option.some.inj H
      have p7 : 0 ≤ (x3_1 : Int) := od_
      have q7 : x3_1 < (a0.size : Int) := od_
      have hx7 := bt_at a0 x3_1
      replace p7 := eq_true p7
      replace q7 := eq_true q7
      go_wp2
      go_ret
      exact ⟨by first | rfl | (simp; done) | (simp [*]; done), by repeat (first | exact Drawn0.refl _ | apply Drawn0.step)⟩
     rw [if_neg c8] at H
     have c8b0 : decide ((bt a0 x3_1) < 32) = false := decide_eq_false c8
     clear c8
     by_cases c10 : (bt a0 x3_1) > 126
     ·
      rw [if_pos c10] at H
      have c10b0 : decide (126 < (bt a0 x3_1)) = true := decide_eq_true c10
      clear c10
      obtain rfl := Option.some.inj H
      have p7 : 0 ≤ (x3_1 : Int) := od_
      have q7 : x3_1 < (a0.size : Int) := od_
      have hx7 := bt_at a0 x3_1
      replace p7 := eq_true p7
      replace q7 := eq_true q7
      have p9 : 0 ≤ (x3_1 : Int) := od_
      have q9 : x3_1 < (a0.size : Int) := od_
      have hx9 := bt_at a0 x3_1
      replace p9 := eq_true p9
      replace q9 := eq_true q9
      go_wp2
      go_ret
      exact ⟨by first | rfl | (simp; done) | (simp [*]; done), by repeat (first | exact Drawn0.refl _ | apply Drawn0.step)⟩
     rw [if_neg c10] at H
     have c10b0 : decide (126 < (bt a0 x3_1)) = false := decide_eq_false c10
     clear c10
     have H' := Aside0.mk H
     clear H
     have p7 : 0 ≤ (x3_1 : Int) := od_
     have q7 : x3_1 < (a0.size : Int) := od_
     have hx7 := bt_at a0 x3_1
     replace p7 := eq_true p7
     replace q7 := eq_true q7
     have p9 : 0 ≤ (x3_1 : Int) := od_
     have q9 : x3_1 < (a0.size : Int) := od_
     have hx9 := bt_at a0 x3_1
     replace p9 := eq_true p9
     replace q9 := eq_true q9
     go_wp2
     go_roundg kj1
     case measure => have := HK1.out; have := HJ1.out; omega
     case rel => exact ⟨(wrap64 (x3_1 + 1)), eqq_, H', ⟨by have := HK1.out; have := HJ1.out; omega⟩, by repeat (first | exact Drawn0.refl _ | apply Drawn0.step)⟩

/-! ### spec_PutText: function 88 -/
def spec_PutText.f (k : Nat) (l0 : List Int) (a1 : ByteArray) : Option (List Int) := (some (([] : List Int) : List Int)).bind fun y163 => (if y163.length + l0.length < 140737488355328 then ((some (y163 ++ l0 : List Int)).bind fun y166 => ((spec_TextOk.f k a1).bind fun t169 => (if t169 = true then (if y166.length < 140737488355328 then ((some (y166 ++ [((a1.size : Int)) % 256] : List Int)).bind fun y170 => (if y170.length + a1.size < 140737488355328 then (some (y170 ++ bytesOf a1)) else (none))) else (none)) else (some y166)))) else (none))
theorem spec_PutText.mono : ∀ a0 a1 k, LeO (spec_PutText.f k a0 a1) (spec_PutText.f (k + 1) a0 a1) := by
 intro a0 a1 k
 unfold spec_PutText.f
 have m0 := @spec_TextOk.mono; exact mo_
set_option maxHeartbeats 8000000 in
set_option maxRecDepth 100000 in
theorem spec_PutText.calls (k : Nat) (A0 : Option Addr) (c0 : Nat) (l0 : List Int) (a1 : ByteArray) (r : List Int) (w : World) (hr0 : Kd.C (Kd.int .u8) w A0 l0.length l0) (hc0 : l0.length ≤ c0) (h : spec_PutText.f k l0 a1 = some r) :
  Calls Try.prog 88 #[.slice A0 l0.length c0, .string a1] w fun e w' => ∃ v0_ : Value, e = .returned (v0_) ∧ Kd.R (Kd.int .u8) 5 w' w.heap.size (fun _ => True) v0_ r ∧ Below w.heap.size w w' := by
 have HR0 := Aside0.mk hr0
 have HC0 := Aside0.mk hc0
 clear hr0 hc0
 have HB := Aside0.mk (Below.refl w.heap.size w)
 have H := h
 unfold spec_PutText.f at H
 clear h
 obtain ⟨y163, hy163⟩ : ∃ y_ : List Int, y_ = (([] : List Int)) := ⟨_, rfl⟩
 replace H := mk_ H hy163
 (try dsimp only at H)
 have Ny163 := Aside0.mk hy163
 clear hy163
 by_cases c3 : y163.length + l0.length < 140737488355328
 case neg => exact nn_ c3 H
 rw [if_pos c3] at H
 have LMc3 := Aside0.mk c3
 clear c3
 obtain ⟨y166, hy166⟩ : ∃ y_ : List Int, y_ = (y163 ++ l0) := ⟨_, rfl⟩
 replace H := mk_ H hy166
 (try dsimp only at H)
 have Ny166 := Aside0.mk hy166
 clear hy166
 replace H := bd_ H
 obtain ⟨t169, A4, H⟩ := H
 have HC5 := Aside0.mk H
 clear H
 go_enter Try.func88, Try.ntmps88
 go_upto_if 11 with (first | ((with_reducible refine gate_dst (N := 6) rfl ?_); refine Kd.R_lit (Kd.int .u8) _ 5 ?hg (N := 6) ?hd (xs := ([] : List Int)) (inner := []) (ok := fun _ => True) (okp := fun _ => True) ?hr ?hp (fun _ hk => hk) trivial (Below.refl _ _) (Nat.le_refl _) (by simp) ?_; (case hd => rfl); (case hg => rfl); (case hr => first | (go_simp; done) | (go_simp; rfl)); (case hp => exact (Reps.none _ _)); intro v164 w6 ho7 hb hg_ hnew_; clear hg_ hnew_; (first | rw [← Ny163.out] at ho7 | (simp only [Int.reduceToNat] at ho7; rw [← Ny163.out] at ho7)); have HO165 := am_ (Kd.R_lower ho7 (below_size (qB HB))); replace HB := bS_ HB hb; clear hb ho7) | ((with_reducible refine gate_builtin (b := .append) (xs := #[.tmp 6, .tmp 7]) rfl ?_); at_builtin; refine Kd.R_append_rows (Kd.int .u8) (w0 := w) w.heap.size rfl (.tmp 6) (.tmp 7) 22 5 (.int .u8 0) 1 rfl Try.underlying22 info5 rfl (by decide) (by omega) v164 y163 l0 _ _ _ (fun _ => True) (fun _ => False) rfl rfl ?aO ?aR (fun _ _ h => h) (fun _ h => h.elim) ?aF ?aB ?aS ?aL ?_; (case aR => exact qC (Kd.C_below HR0.out HB.out)); (case aB => exact (qB HB)); (case aF => exact (fun _ _ => trivial)); (case aO => exact (qR HO165)); (case aS => exact (below_size (qB HB))); (case aL => have := LMc3.out; omega); intro v167 w8 ho hb hg hat; rw [← Ny166.out] at ho; replace HB := am_ (hb); have HO168 := am_ (ho); clear HO165; clear ho hb hg hat) | ((with_reducible refine gate_callee (f := 86) rfl ?_); refine gl_ (some 10) Try.func86 #[.string a1] ?_; (with_reducible refine (spec_TextOk.calls k a1 t169 _ A4.out).mono ?_); rintro e w' ⟨rfl, ⟨nd, rfl⟩⟩; refine ⟨_, rfl, ?_⟩))
 (try simp only [Act.put, List.setIfInBounds_toArray, List.set_cons_zero, List.set_cons_succ])
 (try (rw [drewN_self w8]; generalize hq_ : World.drewN w8 _ = w8; have n0_ : Aside0 (Kd.R (Kd.int .u8) 5 w8 w.heap.size (fun _ => True) v167 y166) := ⟨by rw [← hq_]; exact (qR HO168)⟩; have n1_ : Aside0 (Below w.heap.size w w8) := ⟨by rw [← hq_]; exact (qB HB)⟩; clear HO168 HB hq_; have HO168 := n0_; have HB := n1_; clear n0_ n1_))
 have H := HC5.out
 clear HC5
 by_cases c9 : t169 = true
 rotate_left
 ·
  replace c9 := Bool.eq_false_iff.mpr c9
  subst c9
  rw [if_neg (show ¬ (false = true) by decide)] at H
  obtain rfl := Option.some.inj H
  go_wp2
  go_ret
  exact ⟨_, er_, qR HO168, qB HB⟩
 subst c9
 rw [if_pos rfl] at H
 by_cases c10 : y166.length < 140737488355328
 case neg => exact nn_ c10 H
 rw [if_pos c10] at H
 have LMc10 := Aside0.mk c10
 clear c10
 obtain ⟨y170, hy170⟩ : ∃ y_ : List Int, y_ = (y166 ++ [((a1.size : Int)) % 256]) := ⟨_, rfl⟩
 replace H := mk_ H hy170
 (try dsimp only at H)
 have Ny170 := Aside0.mk hy170
 clear hy170
 by_cases c11 : y170.length + a1.size < 140737488355328
 case neg => exact nn_ c11 H
 rw [if_pos c11] at H
 have LMc11 := Aside0.mk c11
 clear c11
 obtain ⟨y173, hy173⟩ : ∃ y_ : List Int, y_ = (y170 ++ bytesOf a1) := ⟨_, rfl⟩
 rw [← hy173] at H
 have Ny173 := Aside0.mk hy173
 clear hy173
 obtain rfl := Option.some.inj H
 go_wp2_with (first | ((with_reducible refine gate_builtin (b := .append) (xs := #[.tmp 13, .tmp 17]) rfl ?_); at_builtin; refine Kd.R_append (Kd.int .u8) (w0 := w) w.heap.size rfl (.tmp 13) (.tmp 17) 22 5 (.int .u8 0) 1 rfl Try.underlying22 info5 rfl (by decide) (by omega) v167 y166 (((a1.size : Int)) % 256) [.int .u8 (((a1.size : Int)) % 256)] (fun _ => True) (fun _ => False) rfl rfl ?aP (fun _ hk => hk.elim) ?aF ?aO ?aB ?aS ?aL ?_; (case aP => exact rfl); (case aB => exact (qB HB)); (case aF => exact (fun _ _ => trivial)); (case aO => exact (qR HO168)); (case aS => exact (below_size (qB HB))); (case aL => have := LMc10.out; omega); intro v171 w12 ho hb hg hat; rw [← Ny170.out] at ho; replace HB := am_ (hb); have HO172 := am_ (ho); clear HO168; clear ho hb hg hat) | (at_builtin; refine print_append_str (w0 := w) w.heap.size rfl (.tmp 18) _ 22 9 5 rfl Try.underlying22 Try.underlying9 info5 v171 y170 a1 rfl rfl ?aO ?aB ?aS ?aL ?_; (case aB => exact (qB HB)); (case aO => exact (Kd.own_of_R (qR HO172))); (case aS => exact (below_size (qB HB))); (case aL => have := LMc11.out; omega); intro v174 w13 ho0 hb hg; have ho := Kd.R_of_own (h1 := fun _ => rfl) (ok := fun _ => True) ho0 (fun _ _ => trivial); clear ho0; have hat := True.intro; rw [← Ny173.out] at ho; change Kd.R (Kd.int .u8) 5 w13 w.heap.size (fun _ => True) v174 y173 at ho; replace HB := am_ (hb); have HO175 := am_ (ho); clear HO172; clear ho hb hg hat))
 go_ret
 exact ⟨_, er_, qR HO175, qB HB⟩

/-! ### spec_l1In: function 83 -/
def spec_l1In.f (a0 : Int) (a1 : Int) (a2 : Int) : Option (Bool) := if a0 ≥ a1 then (some (decide (a0 ≤ a2))) else (some false)
set_option maxHeartbeats 8000000 in
set_option maxRecDepth 100000 in
theorem spec_l1In.calls (a0 : Int) (a1 : Int) (a2 : Int) (r : Bool) (w : World) (h : spec_l1In.f a0 a1 a2 = some r) :
  Calls Try.prog 83 #[.int .i64 a0, .int .i64 a1, .int .i64 a2] w fun e w' => e = .returned (.bool r) ∧ Drawn0 w w' := by
 have H := h
 unfold spec_l1In.f at H
 clear h
 by_cases c4 : a0 ≥ a1
 ·
  rw [if_pos c4] at H
  have c4b0 : decide (a1 ≤ a0) = true := decide_eq_true c4
  clear c4
  obtain rfl := Option.some.inj H
  go_enter Try.func83, Try.ntmps83
  go_wp2
  go_ret
  exact ⟨by first | rfl | (simp; done) | (simp [*]; done), by repeat (first | exact Drawn0.refl _ | apply Drawn0.step)⟩
 rw [if_neg c4] at H
 have c4b0 : decide (a1 ≤ a0) = false := decide_eq_false c4
 clear c4
 obtain rfl := Option.some.inj H
 go_enter Try.func83, Try.ntmps83
 go_wp2
 go_ret
 exact ⟨by first | rfl | (simp; done) | (simp [*]; done), by repeat (first | exact Drawn0.refl _ | apply Drawn0.step)⟩

/-! ### spec_l1Name: function 84 -/
def spec_l1Name.l0 : Nat → ByteArray → Int → Option (Bool)
 | 0, _, _ => none
 | k + 1, x0, x3 => if x3 < (x0.size : Int) then (if 0 ≤ x3 then (if (bt x0 x3) < 97 then (some false) else (if (bt x0 x3) > 122 then (some false) else (spec_l1Name.l0 k x0 (wrap64 (x3 + 1))))) else (none)) else ((spec_l1In.f (x0.size : Int) 1 8).bind fun t176 => (some t176))
def spec_l1Name.f (k : Nat) (a0 : ByteArray) : Option (Bool) := spec_l1Name.l0 k a0 0
theorem spec_l1Name.mono_l : ∀ k, (∀ y0 y1, LeO (spec_l1Name.l0 k y0 y1) (spec_l1Name.l0 (k + 1) y0 y1))
 | 0 => fun _ _ r h => by simp [spec_l1Name.l0] at h
 | k + 1 => by
  have ih0 := spec_l1Name.mono_l k
  ·
   intro y0 y1
   unfold spec_l1Name.l0
   exact mo_
theorem spec_l1Name.mono : ∀ a0 k, LeO (spec_l1Name.f k a0) (spec_l1Name.f (k + 1) a0) := by
 intro a0 k
 have ih0 := spec_l1Name.mono_l k
 unfold spec_l1Name.f
 exact mo_
set_option maxHeartbeats 8000000 in
set_option maxRecDepth 100000 in
theorem spec_l1Name.calls (k : Nat) (a0 : ByteArray) (r : Bool) (w : World) (h : spec_l1Name.f k a0 = some r) :
  Calls Try.prog 84 #[.string a0] w fun e w' => e = .returned (.bool r) ∧ Drawn0 w w' := by
 have H : (spec_l1Name.l0 k a0 0) = some r := h
 clear h
 have H' := Aside0.mk H
 clear H
 go_enter Try.func84, Try.ntmps84
 go_wp2
 go_loopg [3] k (fun kq v3 w' => ∃ (x3_1 : Int), v3 = .int .i64 x3_1 ∧ Aside0 (spec_l1Name.l0 kq a0 x3_1 = some r) ∧ Aside0 (kq ≤ k) ∧ Drawn0 w w')
 case atStart => exact ⟨(0), eqq_, H', ⟨Nat.le_refl _⟩, by repeat (first | exact Drawn0.refl _ | apply Drawn0.step)⟩
 case round =>
  clear H'
  obtain ⟨x3_1, rfl, HA, HK1, ⟨m1, rfl⟩⟩ := hrel
  cases gk with
  | zero => exact absurd HA.out (by simp [spec_l1Name.l0])
  | succ k1 =>
   have H := HA.out
   clear HA
   simp only [spec_l1Name.l0] at H
   by_cases c2 : x3_1 < (a0.size : Int)
   rotate_left
   ·
    rw [if_neg c2] at H
    have c2b0 : decide (x3_1 < (a0.size : Int)) = false := decide_eq_false c2
    clear c2
    replace H := bd_ H
    obtain ⟨t176, A8, H⟩ := H
    obtain rfl := Option.some.inj H
    go_wp2_with (first | ((with_reducible refine gate_callee (f := 83) rfl ?_); refine gl_ (some 22) Try.func83 #[.int .i64 (a0.size : Int), .int .i64 1, .int .i64 8] ?_; (with_reducible refine (spec_l1In.calls (a0.size : Int) 1 8 t176 _ A8.out).mono ?_); rintro e w' ⟨rfl, ⟨nd, rfl⟩⟩; refine ⟨_, rfl, ?_⟩))
    go_ret
    exact ⟨by first | rfl | (simp; done) | (simp [*]; done), by repeat (first | exact Drawn0.refl _ | apply Drawn0.step)⟩
   rw [if_pos c2] at H
   have c2b0 : decide (x3_1 < (a0.size : Int)) = true := decide_eq_true c2
   clear c2
   by_cases c3 : 0 ≤ x3_1
   case neg => exact nn_ c3 H
   rw [if_pos c3] at H
   have c3b0 : decide (0 ≤ x3_1) = true := decide_eq_true c3
   clear c3
   by_cases c5 : (bt a0 x3_1) < 97
   ·
    rw [if_pos c5] at H
    have c5b0 : decide ((bt a0 x3_1) < 97) = true := decide_eq_true c5
    clear c5
    obtain rfl := Option.some.inj H
    have p4 : 0 ≤ (x3_1 : Int) := od_
    have q4 : x3_1 < (a0.size : Int) := od_
    have hx4 := bt_at a0 x3_1
    replace p4 := eq_true p4
    replace q4 := eq_true q4
    go_wp2
    go_ret
    exact ⟨by first | rfl | (simp; done) | (simp [*]; done), by repeat (first | exact Drawn0.refl _ | apply Drawn0.step)⟩
   rw [if_neg c5] at H
   have c5b0 : decide ((bt a0 x3_1) < 97) = false := decide_eq_false c5
   clear c5
   by_cases c7 : (bt a0 x3_1) > 122
   ·
    rw [if_pos c7] at H
    have c7b0 : decide (122 < (bt a0 x3_1)) = true := decide_eq_true c7
    clear c7
    obtain rfl := Option.some.inj H
    have p4 : 0 ≤ (x3_1 : Int) := od_
    have q4 : x3_1 < (a0.size : Int) := od_
    have hx4 := bt_at a0 x3_1
    replace p4 := eq_true p4
    replace q4 := eq_true q4
    have p6 : 0 ≤ (x3_1 : Int) := od_
    have q6 : x3_1 < (a0.size : Int) := od_
    have hx6 := bt_at a0 x3_1
    replace p6 := eq_true p6
    replace q6 := eq_true q6
    go_wp2
    go_ret
    exact ⟨by first | rfl | (simp; done) | (simp [*]; done), by repeat (first | exact Drawn0.refl _ | apply Drawn0.step)⟩
   rw [if_neg c7] at H
   have c7b0 : decide (122 < (bt a0 x3_1)) = false := decide_eq_false c7
   clear c7
   have H' := Aside0.mk H
   clear H
   have p4 : 0 ≤ (x3_1 : Int) := od_
   have q4 : x3_1 < (a0.size : Int) := od_
   have hx4 := bt_at a0 x3_1
   replace p4 := eq_true p4
   replace q4 := eq_true q4
   have p6 : 0 ≤ (x3_1 : Int) := od_
   have q6 : x3_1 < (a0.size : Int) := od_
   have hx6 := bt_at a0 x3_1
   replace p6 := eq_true p6
   replace q6 := eq_true q6
   go_wp2
   go_roundg k1
   case measure => have := HK1.out; omega
   case rel => exact ⟨(wrap64 (x3_1 + 1)), eqq_, H', ⟨by have := HK1.out; omega⟩, by repeat (first | exact Drawn0.refl _ | apply Drawn0.step)⟩

/-! ### spec_FrameOk: function 123 -/
def spec_FrameOk.j0 : Nat → Int → Bool → Int → ByteArray → Int → Option (Bool)
 | 0, _, _, _, _, _ => none
 | k + 1, x4, x15, x178000, x178001, x178002 => if x15 = true then ((spec_TextOk.f k x178001).bind fun t179 => (if t179 = true then (some (x178002 == 0)) else (some false))) else (if x4 = 5 then (if x178001.toList = ([] : List UInt8) then ((spec_l1In.f x178002 0 2).bind fun t180 => (some t180)) else (some false)) else (if x178000 = 3 then (if x178001.toList = ([] : List UInt8) then (some (x178002 == 0)) else (some false)) else (some false)))
def spec_FrameOk.f (k : Nat) (a0_0 : Int) (a0_1 : ByteArray) (a0_2 : Int) : Option (Bool) := if a0_0 = 1 then ((spec_l1Name.f k a0_1).bind fun t178 => (if t178 = true then (some (a0_2 == 0)) else (some false))) else (if a0_0 = 2 then (spec_FrameOk.j0 k a0_0 (a0_0 == 2) a0_0 a0_1 a0_2) else (if a0_0 = 4 then (spec_FrameOk.j0 k a0_0 (a0_0 == 4) a0_0 a0_1 a0_2) else (spec_FrameOk.j0 k a0_0 (a0_0 == 6) a0_0 a0_1 a0_2)))
theorem spec_FrameOk.mono_l : ∀ k, (∀ y0 y1 y2 y3 y4, LeO (spec_FrameOk.j0 k y0 y1 y2 y3 y4) (spec_FrameOk.j0 (k + 1) y0 y1 y2 y3 y4))
 | 0 => fun _ _ _ _ _ r h => by simp [spec_FrameOk.j0] at h
 | k + 1 => by
  have ih0 := spec_FrameOk.mono_l k
  ·
   intro y0 y1 y2 y3 y4
   unfold spec_FrameOk.j0
   have m0 := @spec_TextOk.mono; have m1 := @spec_l1Name.mono; exact mo_
theorem spec_FrameOk.mono : ∀ a0 a1 a2 k, LeO (spec_FrameOk.f k a0 a1 a2) (spec_FrameOk.f (k + 1) a0 a1 a2) := by
 intro a0 a1 a2 k
 have ih0 := spec_FrameOk.mono_l k
 unfold spec_FrameOk.f
 have m0 := @spec_TextOk.mono; have m1 := @spec_l1Name.mono; exact mo_
set_option maxHeartbeats 8000000 in
set_option maxRecDepth 100000 in
theorem spec_FrameOk.calls (k : Nat) (a0_0 : Int) (a0_1 : ByteArray) (a0_2 : Int) (r : Bool) (w : World) (h : spec_FrameOk.f k a0_0 a0_1 a0_2 = some r) :
  Calls Try.prog 123 #[.agg #[.int .i64 a0_0, .string a0_1, .int .i64 a0_2]] w fun e w' => e = .returned (.bool r) ∧ Below w.heap.size w w' := by
 have hu49 := Try.underlying49
 have HB := Aside0.mk (Below.refl w.heap.size w)
 have H := h
 unfold spec_FrameOk.f at H
 clear h
 have HC2 := Aside0.mk H
 clear H
 go_enter Try.func123, Try.ntmps123
 go_upto_if 5 with (first | ((with_reducible refine gate_dst (N := 1) rfl ?_); refine bx_ (N := 1) (cs := #[.int .i64 a0_0, .string a0_1, .int .i64 a0_2]) (t := 49) ?_; intro gb177 hg w3 hbox hb; have BK177 := am_ (hbox); have GW177 := gA_ hg HB; have GE177 := GW177; have IGE177 := gI_ GE177; replace HB := bS_ HB hb; clear hb hbox hg; (try clear zK177); have zK177 := cz3 BK177.out))
 (try simp only [Act.put, List.setIfInBounds_toArray, List.set_cons_zero, List.set_cons_succ])
 have H := HC2.out
 clear HC2
 by_cases c5 : a0_0 = 1
 ·
  rw [if_pos c5] at H
  have c5b0 : (a0_0 == 1) = true := beq_iff_eq.mpr c5
  have c5b1 : (a0_0 != 1) = false := bne_eq_false_iff_eq.mpr c5
  clear c5
  (first | rw [c5b0] | rw [c5b1] | (simp only [i64_w, i32_w]; rw [c5b0]) | skip)
  replace H := bd_ H
  obtain ⟨t178, A6, H⟩ := H
  by_cases c7 : t178 = true
  ·
   subst c7
   rw [if_pos rfl] at H
   obtain rfl := Option.some.inj H
   (try clear zK177)
   have zK177 := cz3 BK177.out
   go_wp2_with (first | ((with_reducible refine gate_callee (f := 84) rfl ?_); refine gl_ (some 9) Try.func84 #[.string a0_1] ?_; (with_reducible refine (spec_l1Name.calls k a0_1 true _ A6.out).mono ?_); rintro e w' ⟨rfl, ⟨nd, rfl⟩⟩; refine ⟨_, rfl, ?_⟩))
   go_ret
   exact ⟨er_, qB HB⟩
  replace c7 := Bool.eq_false_iff.mpr c7
  subst c7
  rw [if_neg (show ¬ (false = true) by decide)] at H
  obtain rfl := Option.some.inj H
  (try clear zK177)
  have zK177 := cz3 BK177.out
  go_wp2_with (first | ((with_reducible refine gate_callee (f := 84) rfl ?_); refine gl_ (some 9) Try.func84 #[.string a0_1] ?_; (with_reducible refine (spec_l1Name.calls k a0_1 false _ A6.out).mono ?_); rintro e w' ⟨rfl, ⟨nd, rfl⟩⟩; refine ⟨_, rfl, ?_⟩))
  go_ret
  exact ⟨er_, qB HB⟩
 rw [if_neg c5] at H
 have c5b0 : (a0_0 == 1) = false := beq_eq_false_iff_ne.mpr c5
 have c5b1 : (a0_0 != 1) = true := bne_iff_ne.mpr c5
 (first | rw [c5b0] | rw [c5b1] | (simp only [i64_w, i32_w]; rw [c5b0]) | skip)
 have HC10 := Aside0.mk H
 clear H
 go_upto_if 15 with (fail)
 go_cut [15] (fun v15 wc => ∃ (kq : Nat) (x15_9 : Bool), v15 = .bool x15_9 ∧ Aside0 (spec_FrameOk.j0 kq a0_0 x15_9 a0_0 a0_1 a0_2 = some r) ∧ Aside0 (kq ≤ k) ∧ Aside0 (wc.heap[gb177]? = some (.cells #[.int .i64 a0_0, .string a0_1, .int .i64 a0_2] 49 (0, 0))) ∧ Aside0 (Below w.heap.size w wc))
 case first =>
  have H := HC10.out
  clear HC10
  by_cases c11 : a0_0 = 2
  ·
   rw [if_pos c11] at H
   have c11b0 : (a0_0 == 2) = true := beq_iff_eq.mpr c11
   have c11b1 : (a0_0 != 2) = false := bne_eq_false_iff_eq.mpr c11
   clear c11
   (first | rw [c11b0] | rw [c11b1] | (simp only [i64_w, i32_w]; rw [c11b0]) | skip)
   have H' := Aside0.mk H
   clear H
   go_wp2
   go_meet
   case rel => exact ⟨_, ((a0_0 == 2)), eqq_, H', ⟨by first | omega | exact Nat.le_refl _⟩, ⟨qK BK177⟩, ⟨qB HB⟩⟩
  rw [if_neg c11] at H
  have c11b0 : (a0_0 == 2) = false := beq_eq_false_iff_ne.mpr c11
  have c11b1 : (a0_0 != 2) = true := bne_iff_ne.mpr c11
  (first | rw [c11b0] | rw [c11b1] | (simp only [i64_w, i32_w]; rw [c11b0]) | skip)
  by_cases c12 : a0_0 = 4
  rotate_left
  ·
   rw [if_neg c12] at H
   have c12b0 : (a0_0 == 4) = false := beq_eq_false_iff_ne.mpr c12
   have c12b1 : (a0_0 != 4) = true := bne_iff_ne.mpr c12
   have H' := Aside0.mk H
   clear H
   go_wp2
   go_meet
   case rel => exact ⟨_, ((a0_0 == 6)), eqq_, H', ⟨by first | omega | exact Nat.le_refl _⟩, ⟨qK BK177⟩, ⟨qB HB⟩⟩
  rw [if_pos c12] at H
  have c12b0 : (a0_0 == 4) = true := beq_iff_eq.mpr c12
  have c12b1 : (a0_0 != 4) = false := bne_eq_false_iff_eq.mpr c12
  clear c12
  have H' := Aside0.mk H
  clear H
  go_wp2
  go_meet
  case rel => exact ⟨_, ((a0_0 == 4)), eqq_, H', ⟨by first | omega | exact Nat.le_refl _⟩, ⟨qK BK177⟩, ⟨qB HB⟩⟩
 case rest =>
  clear HC10
  try clear c1
  try clear p2
  try clear c5
  try clear c5b0
  try clear c5b1
  try clear c7
  try clear c8
  try clear c11
  try clear c11b0
  try clear c11b1
  try clear c12
  try clear c12b0
  try clear c12b1
  (try clear zK177)
  (try clear zK177)
  (try clear zK177)
  (try clear f4)
  (try clear f8)
  (try clear f9)
  obtain ⟨kq, x15_9, rfl, HA, HJ9, BK177, HB⟩ := hcut
  cases kq with
  | zero => exact absurd HA.out (by simp [spec_FrameOk.j0])
  | succ kj9 =>
   have H := HA.out
   clear HA
   simp only [spec_FrameOk.j0] at H
   by_cases c13 : x15_9 = true
   ·
    subst c13
    rw [if_pos rfl] at H
    replace H := bd_ H
    obtain ⟨t179, A14, H⟩ := H
    by_cases c15 : t179 = true
    ·
     subst c15
     rw [if_pos rfl] at H
     obtain rfl := Option.some.inj H
     (try clear zK177)
     have zK177 := cz3 BK177.out
     go_wp2_with (first | ((with_reducible refine gate_callee (f := 86) rfl ?_); refine gl_ (some 21) Try.func86 #[.string a0_1] ?_; (with_reducible refine (spec_TextOk.calls kj9 a0_1 true _ A14.out).mono ?_); rintro e w' ⟨rfl, ⟨nd, rfl⟩⟩; refine ⟨_, rfl, ?_⟩))
     go_ret
     exact ⟨er_, qB HB⟩
    replace c15 := Bool.eq_false_iff.mpr c15
    subst c15
    rw [if_neg (show ¬ (false = true) by decide)] at H
    obtain rfl := Option.some.inj H
    (try clear zK177)
    have zK177 := cz3 BK177.out
    go_wp2_with (first | ((with_reducible refine gate_callee (f := 86) rfl ?_); refine gl_ (some 21) Try.func86 #[.string a0_1] ?_; (with_reducible refine (spec_TextOk.calls kj9 a0_1 false _ A14.out).mono ?_); rintro e w' ⟨rfl, ⟨nd, rfl⟩⟩; refine ⟨_, rfl, ?_⟩))
    go_ret
    exact ⟨er_, qB HB⟩
   replace c13 := Bool.eq_false_iff.mpr c13
   subst c13
   rw [if_neg (show ¬ (false = true) by decide)] at H
   by_cases c18 : a0_0 = 5
   ·
    rw [if_pos c18] at H
    have c18b0 : (a0_0 == 5) = true := beq_iff_eq.mpr c18
    have c18b1 : (a0_0 != 5) = false := bne_eq_false_iff_eq.mpr c18
    clear c18
    by_cases c19 : a0_1.toList = ([] : List UInt8)
    rotate_left
    ·
     rw [if_neg c19] at H
     have c19b0 : (a0_1.toList == ([] : List UInt8)) = false := beq_eq_false_iff_ne.mpr c19
     (try (have c19b0e := c19b0; simp only [beq_nil, bne_nil] at c19b0e))
     have c19b1 : (a0_1.toList != ([] : List UInt8)) = true := bne_iff_ne.mpr c19
     obtain rfl := Option.some.inj H
     (try clear zK177)
     have zK177 := cz3 BK177.out
     go_wp2
     go_ret
     exact ⟨er_, qB HB⟩
    rw [if_pos c19] at H
    have c19b0 : (a0_1.toList == ([] : List UInt8)) = true := beq_iff_eq.mpr c19
    (try (have c19b0e := c19b0; simp only [beq_nil, bne_nil] at c19b0e))
    have c19b1 : (a0_1.toList != ([] : List UInt8)) = false := bne_eq_false_iff_eq.mpr c19
    clear c19
    replace H := bd_ H
    obtain ⟨t180, A20, H⟩ := H
    obtain rfl := Option.some.inj H
    (try clear zK177)
    have zK177 := cz3 BK177.out
    go_wp2_with (first | (go_at_call 83; (with_reducible refine (spec_l1In.calls a0_2 0 2 t180 _ A20.out).mono ?_); rintro e w' ⟨rfl, ⟨nd, rfl⟩⟩))
    go_ret
    exact ⟨er_, qB HB⟩
   rw [if_neg c18] at H
   have c18b0 : (a0_0 == 5) = false := beq_eq_false_iff_ne.mpr c18
   have c18b1 : (a0_0 != 5) = true := bne_iff_ne.mpr c18
   by_cases c23 : a0_0 = 3
   rotate_left
   ·
    rw [if_neg c23] at H
    have c23b0 : (a0_0 == 3) = false := beq_eq_false_iff_ne.mpr c23
    have c23b1 : (a0_0 != 3) = true := bne_iff_ne.mpr c23
    obtain rfl := Option.some.inj H
    (try clear zK177)
    have zK177 := cz3 BK177.out
    go_wp2
    go_ret
    exact ⟨er_, qB HB⟩
   rw [if_pos c23] at H
   have c23b0 : (a0_0 == 3) = true := beq_iff_eq.mpr c23
   have c23b1 : (a0_0 != 3) = false := bne_eq_false_iff_eq.mpr c23
   clear c23
   by_cases c24 : a0_1.toList = ([] : List UInt8)
   rotate_left
   ·
    rw [if_neg c24] at H
    have c24b0 : (a0_1.toList == ([] : List UInt8)) = false := beq_eq_false_iff_ne.mpr c24
    (try (have c24b0e := c24b0; simp only [beq_nil, bne_nil] at c24b0e))
    have c24b1 : (a0_1.toList != ([] : List UInt8)) = true := bne_iff_ne.mpr c24
    obtain rfl := Option.some.inj H
    (try clear zK177)
    have zK177 := cz3 BK177.out
    go_wp2
    go_ret
    exact ⟨er_, qB HB⟩
   rw [if_pos c24] at H
   have c24b0 : (a0_1.toList == ([] : List UInt8)) = true := beq_iff_eq.mpr c24
   (try (have c24b0e := c24b0; simp only [beq_nil, bne_nil] at c24b0e))
   have c24b1 : (a0_1.toList != ([] : List UInt8)) = false := bne_eq_false_iff_eq.mpr c24
   clear c24
   obtain rfl := Option.some.inj H
   (try clear zK177)
   have zK177 := cz3 BK177.out
   go_wp2
   go_ret
   exact ⟨er_, qB HB⟩

/-! ### spec_PutFrame: function 126 -/
def spec_PutFrame.f (k : Nat) (a0_0 : Int) (a0_1 : ByteArray) (a0_2 : Int) : Option (List Int) := (spec_FrameOk.f k a0_0 a0_1 a0_2).bind fun t182 => (if t182 = true then ((some (([(a0_0) % 256] : List Int) : List Int)).bind fun y186 => (if a0_0 = 5 then (if y186.length < 140737488355328 then (some (y186 ++ [(a0_2) % 256])) else (none)) else (if a0_0 = 3 then (some y186) else ((spec_PutText.f k y186 a0_1).bind fun t192 => (some t192))))) else (some (([] : List Int))))
theorem spec_PutFrame.mono : ∀ a0 a1 a2 k, LeO (spec_PutFrame.f k a0 a1 a2) (spec_PutFrame.f (k + 1) a0 a1 a2) := by
 intro a0 a1 a2 k
 unfold spec_PutFrame.f
 have m0 := @spec_FrameOk.mono; have m1 := @spec_PutText.mono; exact mo_
set_option maxHeartbeats 8000000 in
set_option maxRecDepth 100000 in
theorem spec_PutFrame.calls (k : Nat) (a0_0 : Int) (a0_1 : ByteArray) (a0_2 : Int) (r : List Int) (w : World) (h : spec_PutFrame.f k a0_0 a0_1 a0_2 = some r) :
  Calls Try.prog 126 #[.agg #[.int .i64 a0_0, .string a0_1, .int .i64 a0_2]] w fun e w' => ∃ v0_ : Value, e = .returned (v0_) ∧ Kd.R (Kd.int .u8) 5 w' w.heap.size (fun _ => True) v0_ r ∧ Below w.heap.size w w' := by
 have hu49 := Try.underlying49
 have HB := Aside0.mk (Below.refl w.heap.size w)
 have H := h
 unfold spec_PutFrame.f at H
 clear h
 replace H := bd_ H
 obtain ⟨t182, A2, H⟩ := H
 have HC3 := Aside0.mk H
 clear H
 go_enter Try.func126, Try.ntmps126
 go_upto_if 6 with (first | ((with_reducible refine gate_dst (N := 1) rfl ?_); refine bx_ (N := 1) (cs := #[.int .i64 a0_0, .string a0_1, .int .i64 a0_2]) (t := 49) ?_; intro gb181 hg w4 hbox hb; have BK181 := am_ (hbox); have GW181 := gA_ hg HB; have GE181 := GW181; have IGE181 := gI_ GE181; replace HB := bS_ HB hb; clear hb hbox hg; (try clear zK181); have zK181 := cz3 BK181.out) | ((with_reducible refine gate_callee (f := 123) rfl ?_); refine gl_ (some 5) Try.func123 #[.agg #[.int .i64 a0_0, .string a0_1, .int .i64 a0_2]] ?_; (with_reducible refine (spec_FrameOk.calls k a0_0 a0_1 a0_2 t182 _ A2.out).mono ?_); rintro e w6 ⟨rfl, hb⟩; refine ⟨_, rfl, ?_⟩; replace BK181 := bK_ BK181 hb; replace HB := bS_ HB hb; (try clear hb)))
 (try simp only [Act.put, List.setIfInBounds_toArray, List.set_cons_zero, List.set_cons_succ])
 have H := HC3.out
 clear HC3
 by_cases c7 : t182 = true
 rotate_left
 ·
  replace c7 := Bool.eq_false_iff.mpr c7
  subst c7
  rw [if_neg (show ¬ (false = true) by decide)] at H
  obtain ⟨y183, hy183⟩ : ∃ y_ : List Int, y_ = (([] : List Int)) := ⟨_, rfl⟩
  rw [← hy183] at H
  have Ny183 := Aside0.mk hy183
  clear hy183
  obtain rfl := Option.some.inj H
  go_wp2_with (first | ((with_reducible refine gate_dst (N := 7) rfl ?_); refine Kd.R_lit (Kd.int .u8) _ 5 ?hg (N := 7) ?hd (xs := ([] : List Int)) (inner := []) (ok := fun _ => True) (okp := fun _ => True) ?hr ?hp (fun _ hk => hk) trivial (Below.refl _ _) (Nat.le_refl _) (by simp) ?_; (case hd => rfl); (case hg => rfl); (case hr => first | (go_simp; done) | (go_simp; rfl)); (case hp => exact (Reps.none _ _)); intro v184 w22 ho23 hb hg_ hnew_; clear hg_ hnew_; (first | rw [← Ny183.out] at ho23 | (simp only [Int.reduceToNat] at ho23; rw [← Ny183.out] at ho23)); have HO185 := am_ (Kd.R_lower ho23 (below_size (qB HB))); replace BK181 := bK_ BK181 hb; replace HB := bS_ HB hb; clear hb ho23))
  go_ret
  exact ⟨_, er_, qR HO185, qB HB⟩
 subst c7
 rw [if_pos rfl] at H
 obtain ⟨y186, hy186⟩ : ∃ y_ : List Int, y_ = (([(a0_0) % 256] : List Int)) := ⟨_, rfl⟩
 replace H := mk_ H hy186
 (try dsimp only at H)
 have Ny186 := Aside0.mk hy186
 clear hy186
 have HC8 := Aside0.mk H
 clear H
 (try clear zK181)
 have zK181 := cz3 BK181.out
 go_upto_if 14 with (first | ((with_reducible refine gate_dst (N := 11) rfl ?_); refine Kd.R_lit (Kd.int .u8) _ 5 ?hg (N := 11) ?hd (xs := ([(a0_0) % 256] : List Int)) (inner := [.int .u8 ((a0_0) % 256)]) (ok := fun _ => True) (okp := fun _ => True) ?hr ?hp (fun _ hk => hk) trivial (Below.refl _ _) (Nat.le_refl _) (by simp) ?_; (case hd => rfl); (case hg => rfl); (case hr => first | (go_simp; done) | (go_simp; rfl)); (case hp => exact (Reps.one (show Kd.M (Kd.int .u8) _ _ _ ((a0_0) % 256) [.int .u8 ((a0_0) % 256)] from rfl) (Reps.none _ _))); intro v187 w10 ho11 hb hg_ hnew_; clear hg_ hnew_; (first | rw [← Ny186.out] at ho11 | (simp only [Int.reduceToNat] at ho11; rw [← Ny186.out] at ho11)); have HO188 := am_ (Kd.R_lower ho11 (below_size (qB HB))); replace BK181 := bK_ BK181 hb; replace HB := bS_ HB hb; clear hb ho11; (try clear zK181); have zK181 := cz3 BK181.out))
 (try simp only [Act.put, List.setIfInBounds_toArray, List.set_cons_zero, List.set_cons_succ])
 have H := HC8.out
 clear HC8
 by_cases c13 : a0_0 = 5
 ·
  rw [if_pos c13] at H
  have c13b0 : (a0_0 == 5) = true := beq_iff_eq.mpr c13
  have c13b1 : (a0_0 != 5) = false := bne_eq_false_iff_eq.mpr c13
  clear c13
  (first | rw [c13b0] | rw [c13b1] | (simp only [i64_w, i32_w]; rw [c13b0]) | skip)
  by_cases c14 : y186.length < 140737488355328
  case neg => exact nn_ c14 H
  rw [if_pos c14] at H
  have LMc14 := Aside0.mk c14
  clear c14
  obtain ⟨y189, hy189⟩ : ∃ y_ : List Int, y_ = (y186 ++ [(a0_2) % 256]) := ⟨_, rfl⟩
  rw [← hy189] at H
  have Ny189 := Aside0.mk hy189
  clear hy189
  obtain rfl := Option.some.inj H
  (try clear zK181)
  have zK181 := cz3 BK181.out
  go_wp2_with (first | ((with_reducible refine gate_builtin (b := .append) (xs := #[.tmp 16, .tmp 20]) rfl ?_); at_builtin; refine Kd.R_append (Kd.int .u8) (w0 := w) w.heap.size rfl (.tmp 16) (.tmp 20) 22 5 (.int .u8 0) 1 rfl Try.underlying22 info5 rfl (by decide) (by omega) v187 y186 ((a0_2) % 256) [.int .u8 ((a0_2) % 256)] (fun _ => True) (fun _ => False) rfl rfl ?aP (fun _ hk => hk.elim) ?aF ?aO ?aB ?aS ?aL ?_; (case aP => exact rfl); (case aB => exact (qB HB)); (case aF => exact (fun _ _ => trivial)); (case aO => exact (qR HO188)); (case aS => exact (below_size (qB HB))); (case aL => have := LMc14.out; omega); intro v190 w16 ho hb hg hat; rw [← Ny189.out] at ho; replace BK181 := kG_ BK181 HO188 hg; replace HB := am_ (hb); have HO191 := am_ (ho); clear HO188; clear ho hb hg hat))
  go_ret
  exact ⟨_, er_, qR HO191, qB HB⟩
 rw [if_neg c13] at H
 have c13b0 : (a0_0 == 5) = false := beq_eq_false_iff_ne.mpr c13
 have c13b1 : (a0_0 != 5) = true := bne_iff_ne.mpr c13
 (first | rw [c13b0] | rw [c13b1] | (simp only [i64_w, i32_w]; rw [c13b0]) | skip)
 by_cases c17 : a0_0 = 3
 ·
  rw [if_pos c17] at H
  have c17b0 : (a0_0 == 3) = true := beq_iff_eq.mpr c17
  have c17b1 : (a0_0 != 3) = false := bne_eq_false_iff_eq.mpr c17
  clear c17
  obtain rfl := Option.some.inj H
  go_wp2
  go_ret
  exact ⟨_, er_, qR HO188, qB HB⟩
 rw [if_neg c17] at H
 have c17b0 : (a0_0 == 3) = false := beq_eq_false_iff_ne.mpr c17
 have c17b1 : (a0_0 != 3) = true := bne_iff_ne.mpr c17
 replace H := bd_ H
 obtain ⟨t192, A18, H⟩ := H
 obtain rfl := Option.some.inj H
 (try clear zK181)
 have zK181 := cz3 BK181.out
 obtain ⟨Ao20, co20, eo20⟩ := Kd.R_slice HO188.out
 subst eo20
 go_wp2_with (first | ((with_reducible refine gate_callee (f := 88) rfl ?_); refine gl_ (some 28) Try.func88 #[.slice Ao20 y186.length co20, .string a0_1] ?_; (with_reducible refine (spec_PutText.calls k _ _ y186 a0_1 t192 _ ?side1 ?side2 A18.out).mono ?_); (case side1 => exact qC ((Kd.R_reads' HO188.out).2.2)); (case side2 => exact (Kd.R_reads' HO188.out).2.1); rintro e w21 ⟨v193, rfl, ho0, hb⟩; refine ⟨_, rfl, ?_⟩; have HO194 := am_ (Kd.R_lower (Kd.R_new' ho0 (Kd.R_lt (qR HO188))) (below_size (qB HB))); replace HO188 := eA_ HO188 ho0 hb; replace BK181 := bK_ BK181 hb; replace HB := bS_ HB hb; (try clear hb); (try clear ho0)))
 go_ret
 exact ⟨_, er_, (xR1_ HO194), qB HB⟩

end Go.Proofs.Ytiffahfpfgnjnaa.PFnSocks
