-- Written by a program of this session (myprint.py, over the kit's print): contracts of FnCtls
import Derived.Test.YtiffahfpfgnjnaaPFnCtlsx6
import Derived.Test.YtiffahfpfgnjnaaPFnCtlsx3
namespace Go.Proofs.Ytiffahfpfgnjnaa.PFnCtls
open Go.RowKit Go.Proofs.YtiffahfpfgnjnaaW.PrintWords Go.Proofs.YtiffahfpfgnjnaaW.PrintLast Go.Proofs.YtiffahfpfgnjnaaW.PrintMore Go.Proofs.YtiffahfpfgnjnaaV
attribute [local go_sem] max2_int min2_int max_two min_two max_three min_three max_four min_four
set_option linter.unusedVariables false
set_option linter.unusedSimpArgs false

/-! ### impl_sockIdOk: function 79 -/
def impl_sockIdOk.f (a0 : Int) : Option (Bool) := (impl_isIn.f a0 1 9999).bind fun t423 => (some t423)
set_option maxHeartbeats 8000000 in
set_option maxRecDepth 100000 in
theorem impl_sockIdOk.calls (a0 : Int) (r : Bool) (w : World) (h : impl_sockIdOk.f a0 = some r) :
  Calls Try.prog 79 #[.int .i64 a0] w fun e w' => e = .returned (.bool r) ∧ Drawn0 w w' := by
 have H : ((impl_isIn.f a0 1 9999).bind fun t423 => (some t423)) = some r := h
 clear h
 replace H := bd_ H
 obtain ⟨t423, A2, H⟩ := H
 obtain rfl := si_ H
 go_enter Try.func79, Try.ntmps79
 go_wp2_with (first | (refine gc_ 87 rfl ?_; refine gl_ (some 4) Try.func87 #[.int .i64 a0, .int .i64 1, .int .i64 9999] ?_; (with_reducible refine (impl_isIn.calls a0 1 9999 t423 _ A2.out).mono ?_); rintro e w' ⟨rfl, ⟨nd, rfl⟩⟩; refine ⟨_, rfl, ?_⟩))
 go_ret
 exact ⟨ea_, dn_⟩

/-! ### impl_nameOk: function 80 -/
def impl_nameOk.l0 : Nat → ByteArray → Int → Int → Option (Bool)
 | 0, _, _, _ => none
 | k + 1, x0, x5, x6 => if x6 < x5 then (if 0 ≤ x6 then (if x6 < (x0.size : Int) then (if (bt x0 x6) < 97 then (some false) else (if (bt x0 x6) > 122 then (some false) else (impl_nameOk.l0 k x0 x5 (wrap64 (x6 + 1))))) else (none)) else (none)) else ((impl_isIn.f (x0.size : Int) 1 8).bind fun t424 => (some t424))
def impl_nameOk.f (k : Nat) (a0 : ByteArray) : Option (Bool) := impl_nameOk.l0 k a0 (a0.size : Int) 0
theorem impl_nameOk.mono_l : ∀ k, (∀ y0 y1 y2, LeO (impl_nameOk.l0 k y0 y1 y2) (impl_nameOk.l0 (k + 1) y0 y1 y2))
 | 0 => fun _ _ _ r h => by simp [impl_nameOk.l0] at h
 | k + 1 => by
  have ih0 := impl_nameOk.mono_l k
  ·
   intro y0 y1 y2
   unfold impl_nameOk.l0
   exact mo_
theorem impl_nameOk.mono : ∀ a0 k, LeO (impl_nameOk.f k a0) (impl_nameOk.f (k + 1) a0) := by
 intro a0 k
 have ih0 := impl_nameOk.mono_l k
 unfold impl_nameOk.f
 exact mo_
set_option maxHeartbeats 8000000 in
set_option maxRecDepth 100000 in
theorem impl_nameOk.calls (k : Nat) (a0 : ByteArray) (r : Bool) (w : World) (h : impl_nameOk.f k a0 = some r) :
  Calls Try.prog 80 #[.string a0] w fun e w' => e = .returned (.bool r) ∧ Drawn0 w w' := by
 have H : (impl_nameOk.l0 k a0 (a0.size : Int) 0) = some r := h
 clear h
 have H' := Aside0.mk H
 clear H
 go_enter Try.func80, Try.ntmps80
 go_wp2
 go_loopg [6] k (fun kq v6 w' => ∃ (x6_1 : Int), v6 = .int .i64 x6_1 ∧ Aside0 (impl_nameOk.l0 kq a0 (a0.size : Int) x6_1 = some r) ∧ Aside0 (kq ≤ k) ∧ Drawn0 w w')
 case atStart => exact ⟨(0), eqq_, H', ⟨Nat.le_refl _⟩, by repeat (first | exact Drawn0.refl _ | apply Drawn0.step)⟩
 case round =>
  clear H'
  obtain ⟨x6_1, rfl, HA, HK1, ⟨m1, rfl⟩⟩ := hrel
  cases gk with
  | zero => exact absurd HA.out (by simp [impl_nameOk.l0])
  | succ k1 =>
   have H := HA.out
   clear HA
   simp only [impl_nameOk.l0] at H
   replace H := id_ H
   obtain ⟨-, H, c2b0⟩ | ⟨-, H, c2b0⟩ := H
   rotate_left
   ·
    replace H := bd_ H
    obtain ⟨t424, A9, H⟩ := H
    obtain rfl := si_ H
    go_wp2_with (first | (refine gc_ 87 rfl ?_; refine gl_ (some 22) Try.func87 #[.int .i64 (a0.size : Int), .int .i64 1, .int .i64 8] ?_; (with_reducible refine (impl_isIn.calls (a0.size : Int) 1 8 t424 _ A9.out).mono ?_); rintro e w' ⟨rfl, ⟨nd, rfl⟩⟩; refine ⟨_, rfl, ?_⟩))
    go_ret
    exact ⟨ea_, dn_⟩
   replace H := ip_ H
   obtain ⟨-, H, c3b0⟩ := H
   replace H := ip_ H
   obtain ⟨-, H, c4b0⟩ := H
   replace H := id_ H
   obtain ⟨-, H, c6b0⟩ | ⟨-, H, c6b0⟩ := H
   ·
    obtain rfl := si_ H
    have p5 : 0 ≤ (x6_1 : Int) := od_
    have q5 : x6_1 < (a0.size : Int) := od_
    have hx5 := bt_at a0 x6_1
    replace p5 := eq_true p5
    replace q5 := eq_true q5
    go_wp2
    go_ret
    exact ⟨ea_, dn_⟩
   replace H := id_ H
   obtain ⟨-, H, c8b0⟩ | ⟨-, H, c8b0⟩ := H
   ·
    obtain rfl := si_ H
    have p5 : 0 ≤ (x6_1 : Int) := od_
    have q5 : x6_1 < (a0.size : Int) := od_
    have hx5 := bt_at a0 x6_1
    replace p5 := eq_true p5
    replace q5 := eq_true q5
    have p7 : 0 ≤ (x6_1 : Int) := od_
    have q7 : x6_1 < (a0.size : Int) := od_
    have hx7 := bt_at a0 x6_1
    replace p7 := eq_true p7
    replace q7 := eq_true q7
    go_wp2
    go_ret
    exact ⟨ea_, dn_⟩
   have H' := Aside0.mk H
   clear H
   have p5 : 0 ≤ (x6_1 : Int) := od_
   have q5 : x6_1 < (a0.size : Int) := od_
   have hx5 := bt_at a0 x6_1
   replace p5 := eq_true p5
   replace q5 := eq_true q5
   have p7 : 0 ≤ (x6_1 : Int) := od_
   have q7 : x6_1 < (a0.size : Int) := od_
   have hx7 := bt_at a0 x6_1
   replace p7 := eq_true p7
   replace q7 := eq_true q7
   go_wp2
   go_roundg k1
   case measure => have := HK1.out; omega
   case rel => exact ⟨(wrap64 (x6_1 + 1)), eqq_, H', ⟨by have := HK1.out; omega⟩, by repeat (first | exact Drawn0.refl _ | apply Drawn0.step)⟩

/-! ### impl_sinceOk: function 81 -/
def impl_sinceOk.f (a0 : Int) : Option (Bool) := (impl_isIn.f a0 0 100000).bind fun t425 => (some t425)
set_option maxHeartbeats 8000000 in
set_option maxRecDepth 100000 in
theorem impl_sinceOk.calls (a0 : Int) (r : Bool) (w : World) (h : impl_sinceOk.f a0 = some r) :
  Calls Try.prog 81 #[.int .i64 a0] w fun e w' => e = .returned (.bool r) ∧ Drawn0 w w' := by
 have H : ((impl_isIn.f a0 0 100000).bind fun t425 => (some t425)) = some r := h
 clear h
 replace H := bd_ H
 obtain ⟨t425, A2, H⟩ := H
 obtain rfl := si_ H
 go_enter Try.func81, Try.ntmps81
 go_wp2_with (first | (refine gc_ 87 rfl ?_; refine gl_ (some 4) Try.func87 #[.int .i64 a0, .int .i64 0, .int .i64 100000] ?_; (with_reducible refine (impl_isIn.calls a0 0 100000 t425 _ A2.out).mono ?_); rintro e w' ⟨rfl, ⟨nd, rfl⟩⟩; refine ⟨_, rfl, ?_⟩))
 go_ret
 exact ⟨ea_, dn_⟩

/-! ### impl_TextOk: function 82 -/
def impl_TextOk.l0 : Nat → ByteArray → Int → Int → Option (Bool)
 | 0, _, _, _ => none
 | k + 1, x0, x5, x6 => if x6 < x5 then (if 0 ≤ x6 then (if x6 < (x0.size : Int) then (if (bt x0 x6) < 32 then (some false) else (if (bt x0 x6) > 126 then (some false) else (impl_TextOk.l0 k x0 x5 (wrap64 (x6 + 1))))) else (none)) else (none)) else (some (decide ((x0.size : Int) ≤ 100)))
def impl_TextOk.f (k : Nat) (a0 : ByteArray) : Option (Bool) := impl_TextOk.l0 k a0 (a0.size : Int) 0
theorem impl_TextOk.mono_l : ∀ k, (∀ y0 y1 y2, LeO (impl_TextOk.l0 k y0 y1 y2) (impl_TextOk.l0 (k + 1) y0 y1 y2))
 | 0 => fun _ _ _ r h => by simp [impl_TextOk.l0] at h
 | k + 1 => by
  have ih0 := impl_TextOk.mono_l k
  ·
   intro y0 y1 y2
   unfold impl_TextOk.l0
   exact mo_
theorem impl_TextOk.mono : ∀ a0 k, LeO (impl_TextOk.f k a0) (impl_TextOk.f (k + 1) a0) := by
 intro a0 k
 have ih0 := impl_TextOk.mono_l k
 unfold impl_TextOk.f
 exact mo_
set_option maxHeartbeats 8000000 in
set_option maxRecDepth 100000 in
theorem impl_TextOk.calls (k : Nat) (a0 : ByteArray) (r : Bool) (w : World) (h : impl_TextOk.f k a0 = some r) :
  Calls Try.prog 82 #[.string a0] w fun e w' => e = .returned (.bool r) ∧ Drawn0 w w' := by
 have H : (impl_TextOk.l0 k a0 (a0.size : Int) 0) = some r := h
 clear h
 have H' := Aside0.mk H
 clear H
 go_enter Try.func82, Try.ntmps82
 go_wp2
 go_loopg [6] k (fun kq v6 w' => ∃ (x6_1 : Int), v6 = .int .i64 x6_1 ∧ Aside0 (impl_TextOk.l0 kq a0 (a0.size : Int) x6_1 = some r) ∧ Aside0 (kq ≤ k) ∧ Drawn0 w w')
 case atStart => exact ⟨(0), eqq_, H', ⟨Nat.le_refl _⟩, by repeat (first | exact Drawn0.refl _ | apply Drawn0.step)⟩
 case round =>
  clear H'
  obtain ⟨x6_1, rfl, HA, HK1, ⟨m1, rfl⟩⟩ := hrel
  cases gk with
  | zero => exact absurd HA.out (by simp [impl_TextOk.l0])
  | succ k1 =>
   have H := HA.out
   clear HA
   simp only [impl_TextOk.l0] at H
   replace H := id_ H
   obtain ⟨-, H, c2b0⟩ | ⟨-, H, c2b0⟩ := H
   rotate_left
   ·
    obtain rfl := si_ H
    go_wp2
    go_ret
    exact ⟨ea_, dn_⟩
   replace H := ip_ H
   obtain ⟨-, H, c3b0⟩ := H
   replace H := ip_ H
   obtain ⟨-, H, c4b0⟩ := H
   replace H := id_ H
   obtain ⟨-, H, c6b0⟩ | ⟨-, H, c6b0⟩ := H
   ·
    obtain rfl := si_ H
    have p5 : 0 ≤ (x6_1 : Int) := od_
    have q5 : x6_1 < (a0.size : Int) := od_
    have hx5 := bt_at a0 x6_1
    replace p5 := eq_true p5
    replace q5 := eq_true q5
    go_wp2
    go_ret
    exact ⟨ea_, dn_⟩
   replace H := id_ H
   obtain ⟨-, H, c8b0⟩ | ⟨-, H, c8b0⟩ := H
   ·
    obtain rfl := si_ H
    have p5 : 0 ≤ (x6_1 : Int) := od_
    have q5 : x6_1 < (a0.size : Int) := od_
    have hx5 := bt_at a0 x6_1
    replace p5 := eq_true p5
    replace q5 := eq_true q5
    have p7 : 0 ≤ (x6_1 : Int) := od_
    have q7 : x6_1 < (a0.size : Int) := od_
    have hx7 := bt_at a0 x6_1
    replace p7 := eq_true p7
    replace q7 := eq_true q7
    go_wp2
    go_ret
    exact ⟨ea_, dn_⟩
   have H' := Aside0.mk H
   clear H
   have p5 : 0 ≤ (x6_1 : Int) := od_
   have q5 : x6_1 < (a0.size : Int) := od_
   have hx5 := bt_at a0 x6_1
   replace p5 := eq_true p5
   replace q5 := eq_true q5
   have p7 : 0 ≤ (x6_1 : Int) := od_
   have q7 : x6_1 < (a0.size : Int) := od_
   have hx7 := bt_at a0 x6_1
   replace p7 := eq_true p7
   replace q7 := eq_true q7
   go_wp2
   go_roundg k1
   case measure => have := HK1.out; omega
   case rel => exact ⟨(wrap64 (x6_1 + 1)), eqq_, H', ⟨by have := HK1.out; omega⟩, by repeat (first | exact Drawn0.refl _ | apply Drawn0.step)⟩


attribute [local go_sem high] eqA25
/-! ### impl_AskerOk: function 16 -/
def impl_AskerOk.j0 : Nat → Int → ByteArray → Int → Int → Int → ByteArray → Int → Int → Int → ByteArray → Int → Int → Int → ByteArray → Int → Int → Option (Bool)
 | 0, _, _, _, _, _, _, _, _, _, _, _, _, _, _, _, _ => none
 | k + 1, x427000, x427001, x427002, x427003, x427004, x427005, x427006, x427007, x428000, x428001, x428002, x428003, x428004, x428005, x428006, x428007 => (impl_sockIdOk.f x427000).bind fun t428 => (if t428 = true then (if x427002 = 0 then (some (x427001.toList == ([] : List UInt8) && (x427002 == 0 && (x427003 == 0 && (x427004 == 0 && (x427005.toList == ([] : List UInt8) && (x427006 == 0 && (x427007 == 0)))))))) else ((impl_nameOk.f k x427001).bind fun t429 => (if t429 = true then (if x427002 = 1 then (some (x428000 == 0 && (x428001.toList == ([] : List UInt8) && (x428002 == 0 && (x428003 == 0 && (x428004 == 0 && (x428005.toList == ([] : List UInt8) && (x428006 == 0 && (x428007 == 0))))))))) else (if x427002 = 2 then (if (x428000 == 0 && (x428001.toList == ([] : List UInt8) && (x428002 == 0 && (x428003 == x427003 && (x428004 == x427004 && (x428005.toList == x427005.toList && (x428006 == 0 && (x428007 == 0)))))))) = true then ((impl_wordOk.f x427003).bind fun t430 => (if t430 = true then ((impl_sinceOk.f x427004).bind fun t431 => (if t431 = true then ((impl_TextOk.f k x427005).bind fun t432 => (some t432)) else (some false))) else (some false))) else (some false)) else (if x427002 = 3 then (if (x428000 == 0 && (x428001.toList == ([] : List UInt8) && (x428002 == 0 && (x428003 == 0 && (x428004 == 0 && (x428005.toList == ([] : List UInt8) && (x428006 == x427006 && (x428007 == x427007)))))))) = true then ((impl_sockIdOk.f x427006).bind fun t433 => (if t433 = true then (some (decide (x427007 ≥ 1))) else (some false))) else (some false)) else (if x427002 = 4 then (if (x428000 == 0 && (x428001.toList == ([] : List UInt8) && (x428002 == 0 && (x428003 == 0 && (x428004 == 0 && (x428005.toList == ([] : List UInt8) && (x428006 == x427006 && (x428007 == x427007)))))))) = true then ((impl_sockIdOk.f x427006).bind fun t434 => (if t434 = true then (some (decide (x427007 ≥ 1))) else (some false))) else (some false)) else (some false))))) else (some false)))) else (some false))
def impl_AskerOk.f (k : Nat) (a0_0 : Int) (a0_1 : ByteArray) (a0_2 : Int) (a0_3 : Int) (a0_4 : Int) (a0_5 : ByteArray) (a0_6 : Int) (a0_7 : Int) : Option (Bool) := impl_AskerOk.j0 k a0_0 a0_1 a0_2 a0_3 a0_4 a0_5 a0_6 a0_7 0 (⟨#[]⟩ : ByteArray) 0 a0_3 a0_4 a0_5 a0_6 a0_7
theorem impl_AskerOk.mono_l : ∀ k, (∀ y0 y1 y2 y3 y4 y5 y6 y7 y8 y9 y10 y11 y12 y13 y14 y15, LeO (impl_AskerOk.j0 k y0 y1 y2 y3 y4 y5 y6 y7 y8 y9 y10 y11 y12 y13 y14 y15) (impl_AskerOk.j0 (k + 1) y0 y1 y2 y3 y4 y5 y6 y7 y8 y9 y10 y11 y12 y13 y14 y15))
 | 0 => fun _ _ _ _ _ _ _ _ _ _ _ _ _ _ _ _ r h => by simp [impl_AskerOk.j0] at h
 | k + 1 => by
  have ih0 := impl_AskerOk.mono_l k
  ·
   intro y0 y1 y2 y3 y4 y5 y6 y7 y8 y9 y10 y11 y12 y13 y14 y15
   unfold impl_AskerOk.j0
   have m0 := @impl_TextOk.mono; have m1 := @impl_nameOk.mono; exact mo_
theorem impl_AskerOk.mono : ∀ a0 a1 a2 a3 a4 a5 a6 a7 k, LeO (impl_AskerOk.f k a0 a1 a2 a3 a4 a5 a6 a7) (impl_AskerOk.f (k + 1) a0 a1 a2 a3 a4 a5 a6 a7) := by
 intro a0 a1 a2 a3 a4 a5 a6 a7 k
 have ih0 := impl_AskerOk.mono_l k
 unfold impl_AskerOk.f
 have m0 := @impl_TextOk.mono; have m1 := @impl_nameOk.mono; exact mo_
set_option maxHeartbeats 8000000 in
set_option maxRecDepth 100000 in
theorem impl_AskerOk.calls (k : Nat) (a0_0 : Int) (a0_1 : ByteArray) (a0_2 : Int) (a0_3 : Int) (a0_4 : Int) (a0_5 : ByteArray) (a0_6 : Int) (a0_7 : Int) (r : Bool) (w : World) (h : impl_AskerOk.f k a0_0 a0_1 a0_2 a0_3 a0_4 a0_5 a0_6 a0_7 = some r) :
  Calls Try.prog 16 #[.agg #[.int .i64 a0_0, .string a0_1, .int .i64 a0_2, .int .i64 a0_3, .int .i64 a0_4, .string a0_5, .int .i64 a0_6, .int .i64 a0_7]] w fun e w' => e = .returned (.bool r) ∧ Below w.heap.size w w' := by
 have hu25 := Try.underlying25
 have HB := Aside0.mk (Below.refl w.heap.size w)
 have H := h
 unfold impl_AskerOk.f at H
 clear h
 have HC2 := am_ H
 clear H
 go_enter Try.func16, Try.ntmps16
 go_upto_region 2 with (first | (refine gd_ 1 rfl ?_; refine bx_ (N := 1) (cs := #[.int .i64 a0_0, .string a0_1, .int .i64 a0_2, .int .i64 a0_3, .int .i64 a0_4, .string a0_5, .int .i64 a0_6, .int .i64 a0_7]) (t := 25) ?_; intro gb426 hg w3 hbox hb; have BK426 := am_ (hbox); have GW426 := gA_ hg HB; have GE426 := GW426; have IGE426 := gI_ GE426; replace HB := bS_ HB hb; clear hb hbox hg; (try clear zK426); have zK426 := cf8 BK426.out) | (refine gd_ 3 rfl ?_; refine bx_ (N := 3) (cs := #[.int .i64 0, .string (⟨#[]⟩ : ByteArray), .int .i64 0, .int .i64 0, .int .i64 0, .string (⟨#[]⟩ : ByteArray), .int .i64 0, .int .i64 0]) (t := 25) ?_; intro gb427 hg w5 hbox hb; have BK427 := am_ (hbox); have GW427 := gA_ hg HB; have GE427 := GW427; have IGE427 := gI_ GE427; replace HB := bS_ HB hb; have NB426_427 := am_ ((gN_ hg (qK BK426))); have NB427_426 := am_ ((gM_ hg (qK BK426))); replace BK426 := bK_ BK426 hb; clear hb hbox hg; have hnb6 := nx_ NB427_426; (try clear zK427); have zK427 := cf8 BK427.out))
 (try simp only [Act.put, List.setIfInBounds_toArray, List.set_cons_zero, List.set_cons_succ])
 go_cut [] (fun wc => ∃ (kq : Nat) (x428000_1 : Int) (x428001_1 : ByteArray) (x428002_1 : Int), Aside0 (impl_AskerOk.j0 kq a0_0 a0_1 a0_2 a0_3 a0_4 a0_5 a0_6 a0_7 x428000_1 x428001_1 x428002_1 a0_3 a0_4 a0_5 a0_6 a0_7 = some r) ∧ Aside0 (kq ≤ k) ∧ Aside0 (wc.heap[gb426]? = some (.cells #[.int .i64 a0_0, .string a0_1, .int .i64 a0_2, .int .i64 a0_3, .int .i64 a0_4, .string a0_5, .int .i64 a0_6, .int .i64 a0_7] 25 (0, 0))) ∧ Aside0 (wc.heap[gb427]? = some (.cells #[.int .i64 x428000_1, .string x428001_1, .int .i64 x428002_1, .int .i64 a0_3, .int .i64 a0_4, .string a0_5, .int .i64 a0_6, .int .i64 a0_7] 25 (0, 0))) ∧ Aside0 (Below w.heap.size w wc))
 case first =>
  have H := HC2.out
  clear HC2
  have H' := Aside0.mk H
  clear H
  have hnb8 := nx_ NB427_426
  (try clear zK427)
  have zK427 := cf8 BK427.out
  go_wp2_with (first | ((with_reducible refine gate_store (t := 3) (p := 5) rfl ?_); refine store_event (t := 3) (p := 5) (v := ?vo_w10) (w1 := (((((((((w5.setCell ⟨gb427, 0, none⟩ (.int .i64 a0_0)).setCell ⟨gb427, 1, none⟩ (.string a0_1)).setCell ⟨gb427, 2, none⟩ (.int .i64 a0_2)).setCell ⟨gb427, 3, none⟩ (.int .i64 a0_3)).setCell ⟨gb427, 4, none⟩ (.int .i64 a0_4)).setCell ⟨gb427, 5, none⟩ (.string a0_5)).setCell ⟨gb427, 6, none⟩ (.int .i64 a0_6)).setCell ⟨gb427, 7, none⟩ (.int .i64 a0_7)).setCell ⟨gb427, 0, none⟩ (.int .i64 0))) ?hg ?ho ?hn ?hr ?_; (case ho => rfl); (case hg => rfl); (case hn => rfl); (case hr => first | (go_simp; done) | (go_simp; rfl)); intro w10 hw; have n0_ : Aside0 (w10.heap[gb426]? = some (.cells #[.int .i64 a0_0, .string a0_1, .int .i64 a0_2, .int .i64 a0_3, .int .i64 a0_4, .string a0_5, .int .i64 a0_6, .int .i64 a0_7] 25 (0, 0))) := ⟨(by rw [hw]; exact (by (with_reducible repeat (first | refine blk_drewN ?_ _ | refine blk_drew ?_ | refine blk_alloc ?_ _)); refine blk_far9 ?_ NB426_427.out; exact qK BK426))⟩; have n1_ : Aside0 (w10.heap[gb427]? = some (.cells #[.int .i64 0, .string a0_1, .int .i64 a0_2, .int .i64 a0_3, .int .i64 a0_4, .string a0_5, .int .i64 a0_6, .int .i64 a0_7] 25 (0, 0))) := ⟨(by rw [hw]; exact (by (with_reducible repeat (first | refine blk_drewN ?_ _ | refine blk_drew ?_ | refine blk_alloc ?_ _)); refine blk_put (cs := #[.int .i64 a0_0, .string a0_1, .int .i64 a0_2, .int .i64 a0_3, .int .i64 a0_4, .string a0_5, .int .i64 a0_6, .int .i64 a0_7]) ?_ 0 _ rfl; (with_reducible repeat (first | refine blk_drewN ?_ _ | refine blk_drew ?_ | refine blk_alloc ?_ _)); refine blk_put (cs := #[.int .i64 a0_0, .string a0_1, .int .i64 a0_2, .int .i64 a0_3, .int .i64 a0_4, .string a0_5, .int .i64 a0_6, .int .i64 0]) ?_ 7 _ rfl; (with_reducible repeat (first | refine blk_drewN ?_ _ | refine blk_drew ?_ | refine blk_alloc ?_ _)); refine blk_put (cs := #[.int .i64 a0_0, .string a0_1, .int .i64 a0_2, .int .i64 a0_3, .int .i64 a0_4, .string a0_5, .int .i64 0, .int .i64 0]) ?_ 6 _ rfl; (with_reducible repeat (first | refine blk_drewN ?_ _ | refine blk_drew ?_ | refine blk_alloc ?_ _)); refine blk_put (cs := #[.int .i64 a0_0, .string a0_1, .int .i64 a0_2, .int .i64 a0_3, .int .i64 a0_4, .string (⟨#[]⟩ : ByteArray), .int .i64 0, .int .i64 0]) ?_ 5 _ rfl; (with_reducible repeat (first | refine blk_drewN ?_ _ | refine blk_drew ?_ | refine blk_alloc ?_ _)); refine blk_put (cs := #[.int .i64 a0_0, .string a0_1, .int .i64 a0_2, .int .i64 a0_3, .int .i64 0, .string (⟨#[]⟩ : ByteArray), .int .i64 0, .int .i64 0]) ?_ 4 _ rfl; (with_reducible repeat (first | refine blk_drewN ?_ _ | refine blk_drew ?_ | refine blk_alloc ?_ _)); refine blk_put (cs := #[.int .i64 a0_0, .string a0_1, .int .i64 a0_2, .int .i64 0, .int .i64 0, .string (⟨#[]⟩ : ByteArray), .int .i64 0, .int .i64 0]) ?_ 3 _ rfl; (with_reducible repeat (first | refine blk_drewN ?_ _ | refine blk_drew ?_ | refine blk_alloc ?_ _)); refine blk_put (cs := #[.int .i64 a0_0, .string a0_1, .int .i64 0, .int .i64 0, .int .i64 0, .string (⟨#[]⟩ : ByteArray), .int .i64 0, .int .i64 0]) ?_ 2 _ rfl; (with_reducible repeat (first | refine blk_drewN ?_ _ | refine blk_drew ?_ | refine blk_alloc ?_ _)); refine blk_put (cs := #[.int .i64 a0_0, .string (⟨#[]⟩ : ByteArray), .int .i64 0, .int .i64 0, .int .i64 0, .string (⟨#[]⟩ : ByteArray), .int .i64 0, .int .i64 0]) ?_ 1 _ rfl; (with_reducible repeat (first | refine blk_drewN ?_ _ | refine blk_drew ?_ | refine blk_alloc ?_ _)); refine blk_put (cs := #[.int .i64 0, .string (⟨#[]⟩ : ByteArray), .int .i64 0, .int .i64 0, .int .i64 0, .string (⟨#[]⟩ : ByteArray), .int .i64 0, .int .i64 0]) ?_ 0 _ rfl; exact qK BK427))⟩; have n2_ : Aside0 (Below w.heap.size w w10) := ⟨(by rw [hw]; exact (qB HB))⟩; clear hw; clear BK426; clear BK427; clear HB; have BK426 := n0_; have BK427 := n1_; have HB := n2_; clear n0_ n1_ n2_; (try clear zK427); have zK427 := cf8 BK427.out))
  go_meet
  case rel => exact ⟨_, (0), ((⟨#[]⟩ : ByteArray)), (0), H', ⟨by first | omega | exact Nat.le_refl _⟩, ⟨by (with_reducible repeat (first | refine blk_drewN ?_ _ | refine blk_drew ?_ | refine blk_alloc ?_ _)); refine blk_far2 ?_ NB426_427.out; exact qK BK426⟩, ⟨by (with_reducible repeat (first | refine blk_drewN ?_ _ | refine blk_drew ?_ | refine blk_alloc ?_ _)); refine blk_put (cs := #[.int .i64 0, .string a0_1, .int .i64 0, .int .i64 a0_3, .int .i64 a0_4, .string a0_5, .int .i64 a0_6, .int .i64 a0_7]) ?_ 1 _ rfl; (with_reducible repeat (first | refine blk_drewN ?_ _ | refine blk_drew ?_ | refine blk_alloc ?_ _)); refine blk_put (cs := #[.int .i64 0, .string a0_1, .int .i64 a0_2, .int .i64 a0_3, .int .i64 a0_4, .string a0_5, .int .i64 a0_6, .int .i64 a0_7]) ?_ 2 _ rfl; exact qK BK427⟩, ⟨qB HB⟩⟩
 case rest =>
  clear HC2
  try clear c1
  try clear p2
  try clear c6
  try clear c8
  (try clear zK427)
  (try clear zK426)
  (try clear zK427)
  (try clear zK427)
  (try clear fK427)
  (try clear fK426)
  (try clear fK427)
  (try clear fK427)
  obtain ⟨kq, x428000_1, x428001_1, x428002_1, HA, HJ1, BK426, BK427, HB⟩ := hcut
  cases kq with
  | zero => exact absurd HA.out (by simp [impl_AskerOk.j0])
  | succ kj1 =>
   have H := HA.out
   clear HA
   simp only [impl_AskerOk.j0] at H
   replace H := bd_ H
   obtain ⟨t428, A12, H⟩ := H
   have HC13 := am_ H
   clear H
   have hnb14 := nx_ NB426_427
   (try clear zK426)
   have zK426 := cz8 BK426.out
   go_upto_if 11 with (first | (refine gc_ 79 rfl ?_; refine gl_ (some 10) Try.func79 #[.int .i64 a0_0] ?_; (with_reducible refine (impl_sockIdOk.calls a0_0 t428 _ A12.out).mono ?_); rintro e w' ⟨rfl, ⟨nd, rfl⟩⟩; refine ⟨_, rfl, ?_⟩))
   (try simp only [Act.put, List.setIfInBounds_toArray, List.set_cons_zero, List.set_cons_succ])
   (try (rw [drewN_self wc]; generalize hq_ : World.drewN wc _ = wc; have n0_ : Aside0 (wc.heap[gb426]? = some (.cells #[.int .i64 a0_0, .string a0_1, .int .i64 a0_2, .int .i64 a0_3, .int .i64 a0_4, .string a0_5, .int .i64 a0_6, .int .i64 a0_7] 25 (0, 0))) := ⟨by rw [← hq_]; exact (qK BK426)⟩; have n1_ : Aside0 (wc.heap[gb427]? = some (.cells #[.int .i64 x428000_1, .string x428001_1, .int .i64 x428002_1, .int .i64 a0_3, .int .i64 a0_4, .string a0_5, .int .i64 a0_6, .int .i64 a0_7] 25 (0, 0))) := ⟨by rw [← hq_]; exact (qK BK427)⟩; have n2_ : Aside0 (Below w.heap.size w wc) := ⟨by rw [← hq_]; exact (qB HB)⟩; clear BK426 BK427 HB hq_; have BK426 := n0_; have BK427 := n1_; have HB := n2_; clear n0_ n1_ n2_))
   have H := HC13.out
   clear HC13
   by_cases c16 : t428 = true
   rotate_left
   ·
    replace c16 := nf_ c16
    subst c16
    rw [if_neg (show ¬ (false = true) by decide)] at H
    obtain rfl := si_ H
    go_wp2
    go_ret
    exact ⟨er_, qB HB⟩
   subst c16
   rw [if_pos rfl] at H
   replace H := ie_ H
   obtain ⟨-, H, c17b0, c17b1⟩ | ⟨c17, H, c17b0, c17b1⟩ := H
   ·
    (first | rw [c17b0] | rw [c17b1] | (simp only [i64_w, i32_w]; rw [c17b0]) | skip)
    obtain rfl := si_ H
    have hnb18 := nx_ NB426_427
    (try clear zK426)
    have zK426 := cz8 BK426.out
    go_wp2
    go_ret
    exact ⟨er_, qB HB⟩
   (first | rw [c17b0] | rw [c17b1] | (simp only [i64_w, i32_w]; rw [c17b0]) | skip)
   replace H := bd_ H
   obtain ⟨t429, A20, H⟩ := H
   have HC21 := am_ H
   clear H
   have hnb22 := nx_ NB426_427
   (try clear zK426)
   have zK426 := cz8 BK426.out
   go_upto_if 23 with (first | (refine gc_ 80 rfl ?_; refine gl_ (some 22) Try.func80 #[.string a0_1] ?_; (with_reducible refine (impl_nameOk.calls kj1 a0_1 t429 _ A20.out).mono ?_); rintro e w' ⟨rfl, ⟨nd, rfl⟩⟩; refine ⟨_, rfl, ?_⟩))
   (try simp only [Act.put, List.setIfInBounds_toArray, List.set_cons_zero, List.set_cons_succ])
   (try (rw [drewN_self wc]; generalize hq_ : World.drewN wc _ = wc; have n0_ : Aside0 (wc.heap[gb426]? = some (.cells #[.int .i64 a0_0, .string a0_1, .int .i64 a0_2, .int .i64 a0_3, .int .i64 a0_4, .string a0_5, .int .i64 a0_6, .int .i64 a0_7] 25 (0, 0))) := ⟨by rw [← hq_]; exact (qK BK426)⟩; have n1_ : Aside0 (wc.heap[gb427]? = some (.cells #[.int .i64 x428000_1, .string x428001_1, .int .i64 x428002_1, .int .i64 a0_3, .int .i64 a0_4, .string a0_5, .int .i64 a0_6, .int .i64 a0_7] 25 (0, 0))) := ⟨by rw [← hq_]; exact (qK BK427)⟩; have n2_ : Aside0 (Below w.heap.size w wc) := ⟨by rw [← hq_]; exact (qB HB)⟩; clear BK426 BK427 HB hq_; have BK426 := n0_; have BK427 := n1_; have HB := n2_; clear n0_ n1_ n2_))
   have H := HC21.out
   clear HC21
   by_cases c24 : t429 = true
   rotate_left
   ·
    replace c24 := nf_ c24
    subst c24
    rw [if_neg (show ¬ (false = true) by decide)] at H
    obtain rfl := si_ H
    go_wp2
    go_ret
    exact ⟨er_, qB HB⟩
   subst c24
   rw [if_pos rfl] at H
   replace H := ie_ H
   obtain ⟨-, H, c25b0, c25b1⟩ | ⟨c25, H, c25b0, c25b1⟩ := H
   ·
    (first | rw [c25b0] | rw [c25b1] | (simp only [i64_w, i32_w]; rw [c25b0]) | skip)
    obtain rfl := si_ H
    have hnb26 := nx_ NB426_427
    (try clear zK426)
    have zK426 := cz8 BK426.out
    (try clear zK427)
    have zK427 := cz8 BK427.out
    go_wp2
    go_ret
    exact ⟨er_, qB HB⟩
   (first | rw [c25b0] | rw [c25b1] | (simp only [i64_w, i32_w]; rw [c25b0]) | skip)
   replace H := ie_ H
   obtain ⟨-, H, c29b0, c29b1⟩ | ⟨c29, H, c29b0, c29b1⟩ := H
   ·
    replace H := id_ H
    obtain ⟨c30, H, -⟩ | ⟨c30, H, -⟩ := H
    rotate_left
    ·
     have c30b0 : (x428000_1 == 0 && (x428001_1.toList == ([] : List UInt8) && (x428002_1 == 0 && (a0_3 == a0_3 && (a0_4 == a0_4 && (a0_5.toList == a0_5.toList && (a0_6 == 0 && (a0_7 == 0)))))))) = false := by simpa using c30
     (try (have c30b0e := c30b0; simp only [beq_nil, bne_nil] at c30b0e))
     (try simp only [beq_self_eq_true, Bool.true_and, Bool.and_true, beq_nil] at c30b0)
     (try (have c30b1 : decide (x428000_1 = 0 && (x428001_1.toList == ([] : List UInt8) && (x428002_1 == 0 && (a0_3 == a0_3 && (a0_4 == a0_4 && (a0_5.toList == a0_5.toList && (a0_6 == 0 && (a0_7 == 0)))))))) = false := by simpa using c30))
     (try (have c30b1e := c30b1; simp only [beq_nil, bne_nil] at c30b1e))
     (try simp only [beq_self_eq_true, Bool.true_and, Bool.and_true, beq_nil] at c30b1)
     (try (have c30b2 : (x428000_1 == 0 && (x428001_1.toList == ([] : List UInt8) && (x428002_1 == 0 && (a0_3 == a0_3 && (a0_4 == a0_4 && (a0_5.toList == a0_5.toList && (a0_6 == 0 && (a0_7 == 0)))))))) = false := by simpa using c30))
     (try (have c30b2e := c30b2; simp only [beq_nil, bne_nil] at c30b2e))
     (try simp only [beq_self_eq_true, Bool.true_and, Bool.and_true, beq_nil] at c30b2)
     (try (have c30b3 : ¬ (x428000_1 = 0 && (x428001_1.toList == ([] : List UInt8) && (x428002_1 == 0 && (a0_3 == a0_3 && (a0_4 == a0_4 && (a0_5.toList == a0_5.toList && (a0_6 == 0 && (a0_7 == 0)))))))) := by simpa using c30))
     (try (have c30b3e := c30b3; simp only [beq_nil, bne_nil] at c30b3e))
     (try simp only [beq_self_eq_true, Bool.true_and, Bool.and_true, beq_nil] at c30b3)
     clear c30
     obtain rfl := si_ H
     have hnb45 := nx_ NB426_427
     (try clear zK426)
     have zK426 := cz8 BK426.out
     (try clear zK427)
     have zK427 := cz8 BK427.out
     go_wp2
     go_ret
     exact ⟨er_, qB HB⟩
    have c30b0 : (x428000_1 == 0 && (x428001_1.toList == ([] : List UInt8) && (x428002_1 == 0 && (a0_3 == a0_3 && (a0_4 == a0_4 && (a0_5.toList == a0_5.toList && (a0_6 == 0 && (a0_7 == 0)))))))) = true := c30
    (try (have c30b0e := c30b0; simp only [beq_nil, bne_nil] at c30b0e))
    (try simp only [beq_self_eq_true, Bool.true_and, Bool.and_true, beq_nil] at c30b0)
    (try (have c30b1 : decide (x428000_1 = 0 && (x428001_1.toList == ([] : List UInt8) && (x428002_1 == 0 && (a0_3 == a0_3 && (a0_4 == a0_4 && (a0_5.toList == a0_5.toList && (a0_6 == 0 && (a0_7 == 0)))))))) = true := by simpa using c30))
    (try (have c30b1e := c30b1; simp only [beq_nil, bne_nil] at c30b1e))
    (try simp only [beq_self_eq_true, Bool.true_and, Bool.and_true, beq_nil] at c30b1)
    (try (have c30b2 : (x428000_1 == 0 && (x428001_1.toList == ([] : List UInt8) && (x428002_1 == 0 && (a0_3 == a0_3 && (a0_4 == a0_4 && (a0_5.toList == a0_5.toList && (a0_6 == 0 && (a0_7 == 0)))))))) = true := by simpa using c30))
    (try (have c30b2e := c30b2; simp only [beq_nil, bne_nil] at c30b2e))
    (try simp only [beq_self_eq_true, Bool.true_and, Bool.and_true, beq_nil] at c30b2)
    clear c30
    replace H := bd_ H
    obtain ⟨t430, A31, H⟩ := H
    by_cases c32 : t430 = true
    rotate_left
    ·
     replace c32 := nf_ c32
     subst c32
     rw [if_neg (show ¬ (false = true) by decide)] at H
     obtain rfl := si_ H
     have hnb42 := nx_ NB426_427
     (try clear zK426)
     have zK426 := cz8 BK426.out
     (try clear zK427)
     have zK427 := cz8 BK427.out
     go_wp2_with (first | (go_at_call 65; (with_reducible refine (impl_wordOk.calls a0_3 false _ A31.out).mono ?_); rintro e w' ⟨rfl, ⟨nd, rfl⟩⟩))
     go_ret
     exact ⟨er_, qB HB⟩
    subst c32
    rw [if_pos rfl] at H
    replace H := bd_ H
    obtain ⟨t431, A33, H⟩ := H
    by_cases c34 : t431 = true
    rotate_left
    ·
     replace c34 := nf_ c34
     subst c34
     rw [if_neg (show ¬ (false = true) by decide)] at H
     obtain rfl := si_ H
     have hnb39 := nx_ NB426_427
     (try clear zK426)
     have zK426 := cz8 BK426.out
     (try clear zK427)
     have zK427 := cz8 BK427.out
     go_wp2_with (first | (go_at_call 65; (with_reducible refine (impl_wordOk.calls a0_3 true _ A31.out).mono ?_); rintro e w' ⟨rfl, ⟨nd, rfl⟩⟩) | (go_at_call 81; (with_reducible refine (impl_sinceOk.calls a0_4 false _ A33.out).mono ?_); rintro e w' ⟨rfl, ⟨nd, rfl⟩⟩))
     go_ret
     exact ⟨er_, qB HB⟩
    subst c34
    rw [if_pos rfl] at H
    replace H := bd_ H
    obtain ⟨t432, A35, H⟩ := H
    obtain rfl := si_ H
    have hnb36 := nx_ NB426_427
    (try clear zK426)
    have zK426 := cz8 BK426.out
    (try clear zK427)
    have zK427 := cz8 BK427.out
    go_wp2_with (first | (go_at_call 65; (with_reducible refine (impl_wordOk.calls a0_3 true _ A31.out).mono ?_); rintro e w' ⟨rfl, ⟨nd, rfl⟩⟩) | (go_at_call 81; (with_reducible refine (impl_sinceOk.calls a0_4 true _ A33.out).mono ?_); rintro e w' ⟨rfl, ⟨nd, rfl⟩⟩) | (go_at_call 82; (with_reducible refine (impl_TextOk.calls kj1 a0_5 t432 _ A35.out).mono ?_); rintro e w' ⟨rfl, ⟨nd, rfl⟩⟩))
    go_ret
    exact ⟨er_, qB HB⟩
   replace H := ie_ H
   obtain ⟨-, H, c48b0, c48b1⟩ | ⟨c48, H, c48b0, c48b1⟩ := H
   ·
    replace H := id_ H
    obtain ⟨c49, H, -⟩ | ⟨c49, H, -⟩ := H
    rotate_left
    ·
     have c49b0 : (x428000_1 == 0 && (x428001_1.toList == ([] : List UInt8) && (x428002_1 == 0 && (a0_3 == 0 && (a0_4 == 0 && (a0_5.toList == ([] : List UInt8) && (a0_6 == a0_6 && (a0_7 == a0_7)))))))) = false := by simpa using c49
     (try (have c49b0e := c49b0; simp only [beq_nil, bne_nil] at c49b0e))
     (try simp only [beq_self_eq_true, Bool.true_and, Bool.and_true, beq_nil] at c49b0)
     (try (have c49b1 : decide (x428000_1 = 0 && (x428001_1.toList == ([] : List UInt8) && (x428002_1 == 0 && (a0_3 == 0 && (a0_4 == 0 && (a0_5.toList == ([] : List UInt8) && (a0_6 == a0_6 && (a0_7 == a0_7)))))))) = false := by simpa using c49))
     (try (have c49b1e := c49b1; simp only [beq_nil, bne_nil] at c49b1e))
     (try simp only [beq_self_eq_true, Bool.true_and, Bool.and_true, beq_nil] at c49b1)
     (try (have c49b2 : (x428000_1 == 0 && (x428001_1.toList == ([] : List UInt8) && (x428002_1 == 0 && (a0_3 == 0 && (a0_4 == 0 && (a0_5.toList == ([] : List UInt8) && (a0_6 == a0_6 && (a0_7 == a0_7)))))))) = false := by simpa using c49))
     (try (have c49b2e := c49b2; simp only [beq_nil, bne_nil] at c49b2e))
     (try simp only [beq_self_eq_true, Bool.true_and, Bool.and_true, beq_nil] at c49b2)
     (try (have c49b3 : ¬ (x428000_1 = 0 && (x428001_1.toList == ([] : List UInt8) && (x428002_1 == 0 && (a0_3 == 0 && (a0_4 == 0 && (a0_5.toList == ([] : List UInt8) && (a0_6 == a0_6 && (a0_7 == a0_7)))))))) := by simpa using c49))
     (try (have c49b3e := c49b3; simp only [beq_nil, bne_nil] at c49b3e))
     (try simp only [beq_self_eq_true, Bool.true_and, Bool.and_true, beq_nil] at c49b3)
     clear c49
     obtain rfl := si_ H
     have hnb58 := nx_ NB426_427
     (try clear zK426)
     have zK426 := cz8 BK426.out
     (try clear zK427)
     have zK427 := cz8 BK427.out
     go_wp2
     go_ret
     exact ⟨er_, qB HB⟩
    have c49b0 : (x428000_1 == 0 && (x428001_1.toList == ([] : List UInt8) && (x428002_1 == 0 && (a0_3 == 0 && (a0_4 == 0 && (a0_5.toList == ([] : List UInt8) && (a0_6 == a0_6 && (a0_7 == a0_7)))))))) = true := c49
    (try (have c49b0e := c49b0; simp only [beq_nil, bne_nil] at c49b0e))
    (try simp only [beq_self_eq_true, Bool.true_and, Bool.and_true, beq_nil] at c49b0)
    (try (have c49b1 : decide (x428000_1 = 0 && (x428001_1.toList == ([] : List UInt8) && (x428002_1 == 0 && (a0_3 == 0 && (a0_4 == 0 && (a0_5.toList == ([] : List UInt8) && (a0_6 == a0_6 && (a0_7 == a0_7)))))))) = true := by simpa using c49))
    (try (have c49b1e := c49b1; simp only [beq_nil, bne_nil] at c49b1e))
    (try simp only [beq_self_eq_true, Bool.true_and, Bool.and_true, beq_nil] at c49b1)
    (try (have c49b2 : (x428000_1 == 0 && (x428001_1.toList == ([] : List UInt8) && (x428002_1 == 0 && (a0_3 == 0 && (a0_4 == 0 && (a0_5.toList == ([] : List UInt8) && (a0_6 == a0_6 && (a0_7 == a0_7)))))))) = true := by simpa using c49))
    (try (have c49b2e := c49b2; simp only [beq_nil, bne_nil] at c49b2e))
    (try simp only [beq_self_eq_true, Bool.true_and, Bool.and_true, beq_nil] at c49b2)
    clear c49
    replace H := bd_ H
    obtain ⟨t433, A50, H⟩ := H
    by_cases c51 : t433 = true
    ·
     subst c51
     rw [if_pos rfl] at H
     obtain rfl := si_ H
     have hnb52 := nx_ NB426_427
     (try clear zK426)
     have zK426 := cz8 BK426.out
     (try clear zK427)
     have zK427 := cz8 BK427.out
     go_wp2_with (first | (go_at_call 79; (with_reducible refine (impl_sockIdOk.calls a0_6 true _ A50.out).mono ?_); rintro e w' ⟨rfl, ⟨nd, rfl⟩⟩))
     go_ret
     exact ⟨er_, qB HB⟩
    replace c51 := nf_ c51
    subst c51
    rw [if_neg (show ¬ (false = true) by decide)] at H
    obtain rfl := si_ H
    have hnb55 := nx_ NB426_427
    (try clear zK426)
    have zK426 := cz8 BK426.out
    (try clear zK427)
    have zK427 := cz8 BK427.out
    go_wp2_with (first | (go_at_call 79; (with_reducible refine (impl_sockIdOk.calls a0_6 false _ A50.out).mono ?_); rintro e w' ⟨rfl, ⟨nd, rfl⟩⟩))
    go_ret
    exact ⟨er_, qB HB⟩
   replace H := ie_ H
   obtain ⟨-, H, c61b0, c61b1⟩ | ⟨c61, H, c61b0, c61b1⟩ := H
   rotate_left
   ·
    obtain rfl := si_ H
    have hnb74 := nx_ NB426_427
    (try clear zK426)
    have zK426 := cz8 BK426.out
    go_wp2
    go_ret
    exact ⟨er_, qB HB⟩
   replace H := id_ H
   obtain ⟨c62, H, -⟩ | ⟨c62, H, -⟩ := H
   rotate_left
   ·
    have c62b0 : (x428000_1 == 0 && (x428001_1.toList == ([] : List UInt8) && (x428002_1 == 0 && (a0_3 == 0 && (a0_4 == 0 && (a0_5.toList == ([] : List UInt8) && (a0_6 == a0_6 && (a0_7 == a0_7)))))))) = false := by simpa using c62
    (try (have c62b0e := c62b0; simp only [beq_nil, bne_nil] at c62b0e))
    (try simp only [beq_self_eq_true, Bool.true_and, Bool.and_true, beq_nil] at c62b0)
    (try (have c62b1 : decide (x428000_1 = 0 && (x428001_1.toList == ([] : List UInt8) && (x428002_1 == 0 && (a0_3 == 0 && (a0_4 == 0 && (a0_5.toList == ([] : List UInt8) && (a0_6 == a0_6 && (a0_7 == a0_7)))))))) = false := by simpa using c62))
    (try (have c62b1e := c62b1; simp only [beq_nil, bne_nil] at c62b1e))
    (try simp only [beq_self_eq_true, Bool.true_and, Bool.and_true, beq_nil] at c62b1)
    (try (have c62b2 : (x428000_1 == 0 && (x428001_1.toList == ([] : List UInt8) && (x428002_1 == 0 && (a0_3 == 0 && (a0_4 == 0 && (a0_5.toList == ([] : List UInt8) && (a0_6 == a0_6 && (a0_7 == a0_7)))))))) = false := by simpa using c62))
    (try (have c62b2e := c62b2; simp only [beq_nil, bne_nil] at c62b2e))
    (try simp only [beq_self_eq_true, Bool.true_and, Bool.and_true, beq_nil] at c62b2)
    (try (have c62b3 : ¬ (x428000_1 = 0 && (x428001_1.toList == ([] : List UInt8) && (x428002_1 == 0 && (a0_3 == 0 && (a0_4 == 0 && (a0_5.toList == ([] : List UInt8) && (a0_6 == a0_6 && (a0_7 == a0_7)))))))) := by simpa using c62))
    (try (have c62b3e := c62b3; simp only [beq_nil, bne_nil] at c62b3e))
    (try simp only [beq_self_eq_true, Bool.true_and, Bool.and_true, beq_nil] at c62b3)
    clear c62
    obtain rfl := si_ H
    have hnb71 := nx_ NB426_427
    (try clear zK426)
    have zK426 := cz8 BK426.out
    (try clear zK427)
    have zK427 := cz8 BK427.out
    go_wp2
    go_ret
    exact ⟨er_, qB HB⟩
   have c62b0 : (x428000_1 == 0 && (x428001_1.toList == ([] : List UInt8) && (x428002_1 == 0 && (a0_3 == 0 && (a0_4 == 0 && (a0_5.toList == ([] : List UInt8) && (a0_6 == a0_6 && (a0_7 == a0_7)))))))) = true := c62
   (try (have c62b0e := c62b0; simp only [beq_nil, bne_nil] at c62b0e))
   (try simp only [beq_self_eq_true, Bool.true_and, Bool.and_true, beq_nil] at c62b0)
   (try (have c62b1 : decide (x428000_1 = 0 && (x428001_1.toList == ([] : List UInt8) && (x428002_1 == 0 && (a0_3 == 0 && (a0_4 == 0 && (a0_5.toList == ([] : List UInt8) && (a0_6 == a0_6 && (a0_7 == a0_7)))))))) = true := by simpa using c62))
   (try (have c62b1e := c62b1; simp only [beq_nil, bne_nil] at c62b1e))
   (try simp only [beq_self_eq_true, Bool.true_and, Bool.and_true, beq_nil] at c62b1)
   (try (have c62b2 : (x428000_1 == 0 && (x428001_1.toList == ([] : List UInt8) && (x428002_1 == 0 && (a0_3 == 0 && (a0_4 == 0 && (a0_5.toList == ([] : List UInt8) && (a0_6 == a0_6 && (a0_7 == a0_7)))))))) = true := by simpa using c62))
   (try (have c62b2e := c62b2; simp only [beq_nil, bne_nil] at c62b2e))
   (try simp only [beq_self_eq_true, Bool.true_and, Bool.and_true, beq_nil] at c62b2)
   clear c62
   replace H := bd_ H
   obtain ⟨t434, A63, H⟩ := H
   by_cases c64 : t434 = true
   ·
    subst c64
    rw [if_pos rfl] at H
    obtain rfl := si_ H
    have hnb65 := nx_ NB426_427
    (try clear zK426)
    have zK426 := cz8 BK426.out
    (try clear zK427)
    have zK427 := cz8 BK427.out
    go_wp2_with (first | (go_at_call 79; (with_reducible refine (impl_sockIdOk.calls a0_6 true _ A63.out).mono ?_); rintro e w' ⟨rfl, ⟨nd, rfl⟩⟩))
    go_ret
    exact ⟨er_, qB HB⟩
   replace c64 := nf_ c64
   subst c64
   rw [if_neg (show ¬ (false = true) by decide)] at H
   obtain rfl := si_ H
   have hnb68 := nx_ NB426_427
   (try clear zK426)
   have zK426 := cz8 BK426.out
   (try clear zK427)
   have zK427 := cz8 BK427.out
   go_wp2_with (first | (go_at_call 79; (with_reducible refine (impl_sockIdOk.calls a0_6 false _ A63.out).mono ?_); rintro e w' ⟨rfl, ⟨nd, rfl⟩⟩))
   go_ret
   exact ⟨er_, qB HB⟩


/-! ### impl_LineOk: function 18 -/
def impl_LineOk.j0 : Nat → Bool → Int → ByteArray → Int → Int → Int → Int → Int → Option (Bool)
 | 0, _, _, _, _, _, _, _, _ => none
 | k + 1, x18, x436000, x436001, x436002, x436003, x436004, x436005, x436006 => if x18 = true then (some false) else (if x436003 = 0 then ((impl_sinceOk.f x436004).bind fun t439 => (if t439 = true then (if x436005 = 0 then (some (x436006 == 0)) else (some false)) else (some false))) else (if x436003 = 1 then (if x436004 = 0 then ((impl_sockIdOk.f x436005).bind fun t440 => (if t440 = true then (some (decide (x436006 ≥ 1))) else (some false))) else (some false)) else (if x436003 = 2 then (if x436004 = 0 then ((impl_sockIdOk.f x436005).bind fun t441 => (if t441 = true then (some (decide (x436006 ≥ 1))) else (some false))) else (some false)) else (some false))))
def impl_LineOk.f (k : Nat) (a0_0 : Int) (a0_1 : ByteArray) (a0_2 : Int) (a0_3 : Int) (a0_4 : Int) (a0_5 : Int) (a0_6 : Int) : Option (Bool) := (impl_sockIdOk.f a0_0).bind fun t436 => (if t436 = true then ((impl_nameOk.f k a0_1).bind fun t437 => (if t437 = true then ((impl_isIn.f a0_2 1 60000).bind fun t438 => (impl_LineOk.j0 k (!t438) a0_0 a0_1 a0_2 a0_3 a0_4 a0_5 a0_6)) else (impl_LineOk.j0 k true a0_0 a0_1 a0_2 a0_3 a0_4 a0_5 a0_6))) else (impl_LineOk.j0 k true a0_0 a0_1 a0_2 a0_3 a0_4 a0_5 a0_6))
theorem impl_LineOk.mono_l : ∀ k, (∀ y0 y1 y2 y3 y4 y5 y6 y7, LeO (impl_LineOk.j0 k y0 y1 y2 y3 y4 y5 y6 y7) (impl_LineOk.j0 (k + 1) y0 y1 y2 y3 y4 y5 y6 y7))
 | 0 => fun _ _ _ _ _ _ _ _ r h => by simp [impl_LineOk.j0] at h
 | k + 1 => by
  have ih0 := impl_LineOk.mono_l k
  ·
   intro y0 y1 y2 y3 y4 y5 y6 y7
   unfold impl_LineOk.j0
   have m0 := @impl_nameOk.mono; exact mo_
theorem impl_LineOk.mono : ∀ a0 a1 a2 a3 a4 a5 a6 k, LeO (impl_LineOk.f k a0 a1 a2 a3 a4 a5 a6) (impl_LineOk.f (k + 1) a0 a1 a2 a3 a4 a5 a6) := by
 intro a0 a1 a2 a3 a4 a5 a6 k
 have ih0 := impl_LineOk.mono_l k
 unfold impl_LineOk.f
 have m0 := @impl_nameOk.mono; exact mo_
set_option maxHeartbeats 8000000 in
set_option maxRecDepth 100000 in
theorem impl_LineOk.calls (k : Nat) (a0_0 : Int) (a0_1 : ByteArray) (a0_2 : Int) (a0_3 : Int) (a0_4 : Int) (a0_5 : Int) (a0_6 : Int) (r : Bool) (w : World) (h : impl_LineOk.f k a0_0 a0_1 a0_2 a0_3 a0_4 a0_5 a0_6 = some r) :
  Calls Try.prog 18 #[.agg #[.int .i64 a0_0, .string a0_1, .int .i64 a0_2, .int .i64 a0_3, .int .i64 a0_4, .int .i64 a0_5, .int .i64 a0_6]] w fun e w' => e = .returned (.bool r) ∧ Below w.heap.size w w' := by
 have hu27 := Try.underlying27
 have HB := Aside0.mk (Below.refl w.heap.size w)
 have H := h
 unfold impl_LineOk.f at H
 clear h
 have HC2 := am_ H
 clear H
 go_enter Try.func18, Try.ntmps18
 go_upto_region 1 with (first | (refine gd_ 1 rfl ?_; refine bx_ (N := 1) (cs := #[.int .i64 a0_0, .string a0_1, .int .i64 a0_2, .int .i64 a0_3, .int .i64 a0_4, .int .i64 a0_5, .int .i64 a0_6]) (t := 27) ?_; intro gb435 hg w3 hbox hb; have BK435 := am_ (hbox); have GW435 := gA_ hg HB; have GE435 := GW435; have IGE435 := gI_ GE435; replace HB := bS_ HB hb; clear hb hbox hg))
 (try simp only [Act.put, List.setIfInBounds_toArray, List.set_cons_zero, List.set_cons_succ])
 go_cut [18] (fun v18 wc => ∃ (kq : Nat) (x18_1 : Bool), v18 = .bool x18_1 ∧ Aside0 (impl_LineOk.j0 kq x18_1 a0_0 a0_1 a0_2 a0_3 a0_4 a0_5 a0_6 = some r) ∧ Aside0 (kq ≤ k) ∧ Aside0 (wc.heap[gb435]? = some (.cells #[.int .i64 a0_0, .string a0_1, .int .i64 a0_2, .int .i64 a0_3, .int .i64 a0_4, .int .i64 a0_5, .int .i64 a0_6] 27 (0, 0))) ∧ Aside0 (Below w.heap.size w wc))
 case first =>
  have H := HC2.out
  clear HC2
  replace H := bd_ H
  obtain ⟨t436, A4, H⟩ := H
  by_cases c5 : t436 = true
  rotate_left
  ·
   replace c5 := nf_ c5
   subst c5
   rw [if_neg (show ¬ (false = true) by decide)] at H
   have H' := Aside0.mk H
   clear H
   (try clear zK435)
   have zK435 := cz7 BK435.out
   go_wp2_with (first | (refine gc_ 79 rfl ?_; refine gl_ (some 5) Try.func79 #[.int .i64 a0_0] ?_; (with_reducible refine (impl_sockIdOk.calls a0_0 false _ A4.out).mono ?_); rintro e w' ⟨rfl, ⟨nd, rfl⟩⟩; refine ⟨_, rfl, ?_⟩))
   go_meet
   case rel => exact ⟨_, (true), eqq_, H', ⟨by first | omega | exact Nat.le_refl _⟩, ⟨qK BK435⟩, ⟨qB HB⟩⟩
  subst c5
  rw [if_pos rfl] at H
  replace H := bd_ H
  obtain ⟨t437, A6, H⟩ := H
  by_cases c7 : t437 = true
  rotate_left
  ·
   replace c7 := nf_ c7
   subst c7
   rw [if_neg (show ¬ (false = true) by decide)] at H
   have H' := Aside0.mk H
   clear H
   (try clear zK435)
   have zK435 := cz7 BK435.out
   go_wp2_with (first | (refine gc_ 79 rfl ?_; refine gl_ (some 5) Try.func79 #[.int .i64 a0_0] ?_; (with_reducible refine (impl_sockIdOk.calls a0_0 true _ A4.out).mono ?_); rintro e w' ⟨rfl, ⟨nd, rfl⟩⟩; refine ⟨_, rfl, ?_⟩) | (go_at_call 80; (with_reducible refine (impl_nameOk.calls k a0_1 false _ A6.out).mono ?_); rintro e w' ⟨rfl, ⟨nd, rfl⟩⟩))
   go_meet
   case rel => exact ⟨_, (true), eqq_, H', ⟨by first | omega | exact Nat.le_refl _⟩, ⟨qK BK435⟩, ⟨qB HB⟩⟩
  subst c7
  rw [if_pos rfl] at H
  replace H := bd_ H
  obtain ⟨t438, A8, H⟩ := H
  have H' := Aside0.mk H
  clear H
  (try clear zK435)
  have zK435 := cz7 BK435.out
  go_wp2_with (first | (refine gc_ 79 rfl ?_; refine gl_ (some 5) Try.func79 #[.int .i64 a0_0] ?_; (with_reducible refine (impl_sockIdOk.calls a0_0 true _ A4.out).mono ?_); rintro e w' ⟨rfl, ⟨nd, rfl⟩⟩; refine ⟨_, rfl, ?_⟩) | (go_at_call 80; (with_reducible refine (impl_nameOk.calls k a0_1 true _ A6.out).mono ?_); rintro e w' ⟨rfl, ⟨nd, rfl⟩⟩) | (go_at_call 87; (with_reducible refine (impl_isIn.calls a0_2 1 60000 t438 _ A8.out).mono ?_); rintro e w' ⟨rfl, ⟨nd, rfl⟩⟩))
  go_meet
  case rel => exact ⟨_, (!t438), eqq_, H', ⟨by first | omega | exact Nat.le_refl _⟩, ⟨qK BK435⟩, ⟨qB HB⟩⟩
 case rest =>
  clear HC2
  try clear c1
  try clear p2
  try clear c5
  try clear c7
  (try clear zK435)
  (try clear zK435)
  (try clear zK435)
  (try clear f10)
  (try clear f11)
  (try clear f9)
  obtain ⟨kq, x18_1, rfl, HA, HJ1, BK435, HB⟩ := hcut
  cases kq with
  | zero => exact absurd HA.out (by simp [impl_LineOk.j0])
  | succ kj1 =>
   have H := HA.out
   clear HA
   simp only [impl_LineOk.j0] at H
   by_cases c12 : x18_1 = true
   ·
    subst c12
    rw [if_pos rfl] at H
    obtain rfl := si_ H
    go_wp2
    go_ret
    exact ⟨er_, qB HB⟩
   replace c12 := nf_ c12
   subst c12
   rw [if_neg (show ¬ (false = true) by decide)] at H
   replace H := ie_ H
   obtain ⟨-, H, c13b0, c13b1⟩ | ⟨c13, H, c13b0, c13b1⟩ := H
   ·
    replace H := bd_ H
    obtain ⟨t439, A14, H⟩ := H
    by_cases c15 : t439 = true
    rotate_left
    ·
     replace c15 := nf_ c15
     subst c15
     rw [if_neg (show ¬ (false = true) by decide)] at H
     obtain rfl := si_ H
     (try clear zK435)
     have zK435 := cz7 BK435.out
     go_wp2_with (first | (refine gc_ 81 rfl ?_; refine gl_ (some 25) Try.func81 #[.int .i64 a0_4] ?_; (with_reducible refine (impl_sinceOk.calls a0_4 false _ A14.out).mono ?_); rintro e w' ⟨rfl, ⟨nd, rfl⟩⟩; refine ⟨_, rfl, ?_⟩))
     go_ret
     exact ⟨er_, qB HB⟩
    subst c15
    rw [if_pos rfl] at H
    replace H := ie_ H
    obtain ⟨-, H, c16b0, c16b1⟩ | ⟨c16, H, c16b0, c16b1⟩ := H
    rotate_left
    ·
     obtain rfl := si_ H
     (try clear zK435)
     have zK435 := cz7 BK435.out
     go_wp2_with (first | (refine gc_ 81 rfl ?_; refine gl_ (some 25) Try.func81 #[.int .i64 a0_4] ?_; (with_reducible refine (impl_sinceOk.calls a0_4 true _ A14.out).mono ?_); rintro e w' ⟨rfl, ⟨nd, rfl⟩⟩; refine ⟨_, rfl, ?_⟩))
     go_ret
     exact ⟨er_, qB HB⟩
    obtain rfl := si_ H
    (try clear zK435)
    have zK435 := cz7 BK435.out
    go_wp2_with (first | (refine gc_ 81 rfl ?_; refine gl_ (some 25) Try.func81 #[.int .i64 a0_4] ?_; (with_reducible refine (impl_sinceOk.calls a0_4 true _ A14.out).mono ?_); rintro e w' ⟨rfl, ⟨nd, rfl⟩⟩; refine ⟨_, rfl, ?_⟩))
    go_ret
    exact ⟨er_, qB HB⟩
   replace H := ie_ H
   obtain ⟨-, H, c20b0, c20b1⟩ | ⟨c20, H, c20b0, c20b1⟩ := H
   ·
    replace H := ie_ H
    obtain ⟨-, H, c21b0, c21b1⟩ | ⟨c21, H, c21b0, c21b1⟩ := H
    rotate_left
    ·
     obtain rfl := si_ H
     (try clear zK435)
     have zK435 := cz7 BK435.out
     go_wp2
     go_ret
     exact ⟨er_, qB HB⟩
    replace H := bd_ H
    obtain ⟨t440, A22, H⟩ := H
    by_cases c23 : t440 = true
    ·
     subst c23
     rw [if_pos rfl] at H
     obtain rfl := si_ H
     (try clear zK435)
     have zK435 := cz7 BK435.out
     go_wp2_with (first | (go_at_call 79; (with_reducible refine (impl_sockIdOk.calls a0_5 true _ A22.out).mono ?_); rintro e w' ⟨rfl, ⟨nd, rfl⟩⟩))
     go_ret
     exact ⟨er_, qB HB⟩
    replace c23 := nf_ c23
    subst c23
    rw [if_neg (show ¬ (false = true) by decide)] at H
    obtain rfl := si_ H
    (try clear zK435)
    have zK435 := cz7 BK435.out
    go_wp2_with (first | (go_at_call 79; (with_reducible refine (impl_sockIdOk.calls a0_5 false _ A22.out).mono ?_); rintro e w' ⟨rfl, ⟨nd, rfl⟩⟩))
    go_ret
    exact ⟨er_, qB HB⟩
   replace H := ie_ H
   obtain ⟨-, H, c27b0, c27b1⟩ | ⟨c27, H, c27b0, c27b1⟩ := H
   rotate_left
   ·
    obtain rfl := si_ H
    (try clear zK435)
    have zK435 := cz7 BK435.out
    go_wp2
    go_ret
    exact ⟨er_, qB HB⟩
   replace H := ie_ H
   obtain ⟨-, H, c28b0, c28b1⟩ | ⟨c28, H, c28b0, c28b1⟩ := H
   rotate_left
   ·
    obtain rfl := si_ H
    (try clear zK435)
    have zK435 := cz7 BK435.out
    go_wp2
    go_ret
    exact ⟨er_, qB HB⟩
   replace H := bd_ H
   obtain ⟨t441, A29, H⟩ := H
   by_cases c30 : t441 = true
   ·
    subst c30
    rw [if_pos rfl] at H
    obtain rfl := si_ H
    (try clear zK435)
    have zK435 := cz7 BK435.out
    go_wp2_with (first | (go_at_call 79; (with_reducible refine (impl_sockIdOk.calls a0_5 true _ A29.out).mono ?_); rintro e w' ⟨rfl, ⟨nd, rfl⟩⟩))
    go_ret
    exact ⟨er_, qB HB⟩
   replace c30 := nf_ c30
   subst c30
   rw [if_neg (show ¬ (false = true) by decide)] at H
   obtain rfl := si_ H
   (try clear zK435)
   have zK435 := cz7 BK435.out
   go_wp2_with (first | (go_at_call 79; (with_reducible refine (impl_sockIdOk.calls a0_5 false _ A29.out).mono ?_); rintro e w' ⟨rfl, ⟨nd, rfl⟩⟩))
   go_ret
   exact ⟨er_, qB HB⟩

/-! ### slices_Clone_byte: function 118 -/
def slices_Clone_byte.f (l0 : List Int) : Option (List Int) := (some (([] : List Int) : List Int)).bind fun y442 => (if y442.length + l0.length < 140737488355328 then (some (y442 ++ l0)) else (none))
set_option maxHeartbeats 8000000 in
set_option maxRecDepth 100000 in
theorem slices_Clone_byte.calls_some (a0_ : Addr) (c0 : Nat) (l0 : List Int) (r : List Int) (w : World) (hr0 : Kd.C (Kd.int .u8) w (some a0_) l0.length l0) (hc0 : l0.length ≤ c0) (h : slices_Clone_byte.f l0 = some r) :
  Calls Try.prog 118 #[.slice (some a0_) l0.length c0] w fun e w' => ∃ v0_ : Value, e = .returned (v0_) ∧ Kd.R (Kd.int .u8) 5 w' w.heap.size (fun _ => True) v0_ r ∧ Below w.heap.size w w' := by
 have HR0 := am_ hr0
 have HC0 := am_ hc0
 clear hr0 hc0
 have HB := Aside0.mk (Below.refl w.heap.size w)
 have H := h
 unfold slices_Clone_byte.f at H
 clear h
 replace H := my_ (([] : List Int)) H
 obtain ⟨y442, Ny442, H⟩ := H
 (try dsimp only at H)
 replace H := ip_ H
 obtain ⟨c2, H, -⟩ := H
 have LMc2 := am_ c2
 clear c2
 obtain ⟨y445, hy445⟩ : ∃ y_ : List Int, y_ = (y442 ++ l0) := ⟨_, rfl⟩
 replace H : (some y445) = some r := by first | (rw [hy445]; with_reducible exact H) | (have H2_ := (Option.bind_some _ _).symm.trans H; rw [hy445]; with_reducible exact H2_) | (have H2_ := (Option.bind_some _ _).symm.trans H; with_reducible exact H2_) | with_reducible exact H | (rw [hy445]; exact H) | exact H
 have Ny445 := am_ hy445
 clear hy445
 obtain rfl := si_ H
 have hnil := fun (W : World) => Lib.run_eql_slice_nil (P := Try.prog) W 22 5 (some a0_) l0.length c0 0 0 Try.underlying22
 go_enter Try.func118, Try.ntmps118
 go_wp2_with (first | (refine gd_ 5 rfl ?_; refine l8_ 5 5 ([] : List Int) [] ?_; intro v443 w3 ho4 hb hg_ hnew_; clear hg_ hnew_; (first | rw [← Ny442.out] at ho4 | (simp only [Int.reduceToNat] at ho4; rw [← Ny442.out] at ho4)); have HO444 := am_ (Kd.R_lower ho4 (below_size (qB HB))); replace HB := bS_ HB hb; clear hb ho4) | ((with_reducible refine gate_builtin (b := .append) (xs := #[.tmp 5, .tmp 6]) rfl ?_); at_builtin; refine Kd.R_append_rows (Kd.int .u8) (w0 := w) w.heap.size rfl (.tmp 5) (.tmp 6) 22 5 (.int .u8 0) 1 rfl Try.underlying22 info5 rfl (by decide) (by omega) v443 y442 l0 _ _ _ (fun _ => True) (fun _ => False) rfl rfl ?aO ?aR (fun _ _ h => h) (fun _ h => h.elim) ?aF ?aB ?aS ?aL ?_; (case aR => exact qC (Kd.C_below HR0.out HB.out)); (case aB => exact (qB HB)); (case aF => exact (fun _ _ => trivial)); (case aO => exact (qR HO444)); (case aS => exact (below_size (qB HB))); (case aL => have := LMc2.out; omega); intro v446 w5 ho hb hg hat; rw [← Ny445.out] at ho; replace HB := am_ (hb); have HO447 := am_ (ho); clear HO444; clear ho hb hg hat))
 go_ret
 exact ⟨_, er_, qR HO447, qB HB⟩
set_option maxHeartbeats 4000000 in
set_option maxRecDepth 100000 in
theorem slices_Clone_byte.calls_nil (c0 : Nat) (w : World) : Calls Try.prog 118 #[.slice none 0 c0] w fun e w' => e = .returned (.slice none 0 0) ∧ Below w.heap.size w w' := by
 have hnil := fun (W : World) => Lib.run_eql_slice_nil (P := Try.prog) W 22 5 none 0 c0 0 0 Try.underlying22
 go_enter Try.func118, Try.ntmps118
 go_wp2
 go_ret
 exact ⟨rfl, Below.refl _ _⟩
theorem slices_Clone_byte.calls (A0 : Option Addr) (c0 : Nat) (l0 : List Int) (r : List Int) (w : World) (hr0 : Kd.C (Kd.int .u8) w A0 l0.length l0) (hc0 : l0.length ≤ c0) (h : slices_Clone_byte.f l0 = some r) :
  Calls Try.prog 118 #[.slice A0 l0.length c0] w fun e w' => ∃ v0_ : Value, e = .returned (v0_) ∧ Kd.R (Kd.int .u8) 5 w' w.heap.size (fun _ => True) v0_ r ∧ Below w.heap.size w w' := by
 cases A0 with
 | some a0_ => exact slices_Clone_byte.calls_some a0_ c0 l0 r w hr0 hc0 h
 | none =>
  obtain rfl : l0 = [] := by
   rcases l0 with _ | ⟨x_, l_⟩
   ·
    rfl
   ·
    obtain ⟨_, e_, _⟩ := hr0.2.2 (by simp)
    cases e_
  obtain rfl : r = [] := by
   have h' := h
   simp [slices_Clone_byte.f] at h'
   exact h'
  refine (slices_Clone_byte.calls_nil c0 w).mono ?_
  rintro e w' ⟨rfl, hb⟩
  exact ⟨_, rfl, Kd.R_nil _ _ _ _ _, hb⟩

/-! ### impl_PutText: function 66 -/
def impl_PutText.f (k : Nat) (l0 : List Int) (a1 : ByteArray) : Option (List Int) := (slices_Clone_byte.f l0).bind fun t448 => ((impl_TextOk.f k a1).bind fun t451 => (if t451 = true then (if t448.length < 140737488355328 then ((some (t448 ++ [((a1.size : Int)) % 256] : List Int)).bind fun y452 => (if y452.length + a1.size < 140737488355328 then (some (y452 ++ bytesOf a1)) else (none))) else (none)) else (some t448)))
theorem impl_PutText.mono : ∀ a0 a1 k, LeO (impl_PutText.f k a0 a1) (impl_PutText.f (k + 1) a0 a1) := by
 intro a0 a1 k
 unfold impl_PutText.f
 have m0 := @impl_TextOk.mono; exact mo_
set_option maxHeartbeats 8000000 in
set_option maxRecDepth 100000 in
theorem impl_PutText.calls (k : Nat) (A0 : Option Addr) (c0 : Nat) (l0 : List Int) (a1 : ByteArray) (r : List Int) (w : World) (hr0 : Kd.C (Kd.int .u8) w A0 l0.length l0) (hc0 : l0.length ≤ c0) (h : impl_PutText.f k l0 a1 = some r) :
  Calls Try.prog 66 #[.slice A0 l0.length c0, .string a1] w fun e w' => ∃ v0_ : Value, e = .returned (v0_) ∧ Kd.R (Kd.int .u8) 5 w' w.heap.size (fun _ => True) v0_ r ∧ Below w.heap.size w w' := by
 have HR0 := am_ hr0
 have HC0 := am_ hc0
 clear hr0 hc0
 have HB := Aside0.mk (Below.refl w.heap.size w)
 have H := h
 unfold impl_PutText.f at H
 clear h
 replace H := bd_ H
 obtain ⟨t448, A3, H⟩ := H
 replace H := bd_ H
 obtain ⟨t451, A4, H⟩ := H
 have HC5 := am_ H
 clear H
 go_enter Try.func66, Try.ntmps66
 go_upto_if 10 with (first | (refine gc_ 118 rfl ?_; refine gl_ (some 7) Try.func118 #[.slice A0 l0.length c0] ?_; (with_reducible refine (slices_Clone_byte.calls _ _ l0 t448 _ (qC (HR0.out)) HC0.out A3.out).mono ?_); rintro e w6 ⟨v449, rfl, ho0, hb⟩; refine ⟨_, rfl, ?_⟩; have HO450 := am_ (Kd.R_lower ho0 (below_size (qB HB))); replace HB := bS_ HB hb; (try clear hb); (try clear ho0)) | (refine gc_ 82 rfl ?_; refine gl_ (some 9) Try.func82 #[.string a1] ?_; (with_reducible refine (impl_TextOk.calls k a1 t451 _ A4.out).mono ?_); rintro e w' ⟨rfl, ⟨nd, rfl⟩⟩; refine ⟨_, rfl, ?_⟩))
 (try simp only [Act.put, List.setIfInBounds_toArray, List.set_cons_zero, List.set_cons_succ])
 (try (rw [drewN_self w6]; generalize hq_ : World.drewN w6 _ = w6; have n0_ : Aside0 (Kd.R (Kd.int .u8) 5 w6 w.heap.size (fun _ => True) v449 t448) := ⟨by rw [← hq_]; exact (qR HO450)⟩; have n1_ : Aside0 (Below w.heap.size w w6) := ⟨by rw [← hq_]; exact (qB HB)⟩; clear HO450 HB hq_; have HO450 := n0_; have HB := n1_; clear n0_ n1_))
 have H := HC5.out
 clear HC5
 by_cases c7 : t451 = true
 rotate_left
 ·
  replace c7 := nf_ c7
  subst c7
  rw [if_neg (show ¬ (false = true) by decide)] at H
  obtain rfl := si_ H
  go_wp2
  go_ret
  exact ⟨_, er_, qR HO450, qB HB⟩
 subst c7
 rw [if_pos rfl] at H
 replace H := ip_ H
 obtain ⟨c8, H, -⟩ := H
 have LMc8 := am_ c8
 clear c8
 replace H := my_ (t448 ++ [((a1.size : Int)) % 256]) H
 obtain ⟨y452, Ny452, H⟩ := H
 (try dsimp only at H)
 replace H := ip_ H
 obtain ⟨c9, H, -⟩ := H
 have LMc9 := am_ c9
 clear c9
 obtain ⟨y455, hy455⟩ : ∃ y_ : List Int, y_ = (y452 ++ bytesOf a1) := ⟨_, rfl⟩
 rw [← hy455] at H
 have Ny455 := am_ hy455
 clear hy455
 obtain rfl := si_ H
 go_wp2_with (first | ((with_reducible refine gate_builtin (b := .append) (xs := #[.tmp 12, .tmp 16]) rfl ?_); at_builtin; refine Kd.R_append (Kd.int .u8) (w0 := w) w.heap.size rfl (.tmp 12) (.tmp 16) 22 5 (.int .u8 0) 1 rfl Try.underlying22 info5 rfl (by decide) (by omega) v449 t448 (((a1.size : Int)) % 256) [.int .u8 (((a1.size : Int)) % 256)] (fun _ => True) (fun _ => False) rfl rfl ?aP (fun _ hk => hk.elim) ?aF ?aO ?aB ?aS ?aL ?_; (case aP => exact rfl); (case aB => exact (qB HB)); (case aF => exact (fun _ _ => trivial)); (case aO => exact (qR HO450)); (case aS => exact (below_size (qB HB))); (case aL => have := LMc8.out; omega); intro v453 w10 ho hb hg hat; rw [← Ny452.out] at ho; replace HB := am_ (hb); have HO454 := am_ (ho); clear HO450; clear ho hb hg hat) | (at_builtin; refine print_append_str (w0 := w) w.heap.size rfl (.tmp 17) _ 22 9 5 rfl Try.underlying22 Try.underlying9 info5 v453 y452 a1 rfl rfl ?aO ?aB ?aS ?aL ?_; (case aB => exact (qB HB)); (case aO => exact (Kd.own_of_R (qR HO454))); (case aS => exact (below_size (qB HB))); (case aL => have := LMc9.out; omega); intro v456 w11 ho0 hb hg; have ho := Kd.R_of_own (h1 := fun _ => rfl) (ok := fun _ => True) ho0 (fun _ _ => trivial); clear ho0; have hat := True.intro; rw [← Ny455.out] at ho; change Kd.R (Kd.int .u8) 5 w11 w.heap.size (fun _ => True) v456 y455 at ho; replace HB := am_ (hb); have HO457 := am_ (ho); clear HO454; clear ho hb hg hat))
 go_ret
 exact ⟨_, er_, qR HO457, qB HB⟩

/-! ### impl_PutWord: function 67 -/
def impl_PutWord.f (l0 : List Int) (a1 : Int) : Option (List Int) := (slices_Clone_byte.f l0).bind fun t458 => ((some (([(a1 / 256) % 256, (a1) % 256] : List Int) : List Int)).bind fun y461 => (if t458.length + y461.length < 140737488355328 then (some (t458 ++ y461)) else (none)))
set_option maxHeartbeats 8000000 in
set_option maxRecDepth 100000 in
theorem impl_PutWord.calls (A0 : Option Addr) (c0 : Nat) (l0 : List Int) (a1 : Int) (r : List Int) (w : World) (hr0 : Kd.C (Kd.int .u8) w A0 l0.length l0) (hc0 : l0.length ≤ c0) (h : impl_PutWord.f l0 a1 = some r) :
  Calls Try.prog 67 #[.slice A0 l0.length c0, .int .i64 a1] w fun e w' => ∃ v0_ : Value, e = .returned (v0_) ∧ Kd.R (Kd.int .u8) 5 w' w.heap.size (fun _ => True) v0_ r ∧ Below w.heap.size w w' := by
 have HR0 := am_ hr0
 have HC0 := am_ hc0
 clear hr0 hc0
 have HB := Aside0.mk (Below.refl w.heap.size w)
 have H := h
 unfold impl_PutWord.f at H
 clear h
 replace H := bd_ H
 obtain ⟨t458, A3, H⟩ := H
 replace H := my_ (([(a1 / 256) % 256, (a1) % 256] : List Int)) H
 obtain ⟨y461, Ny461, H⟩ := H
 (try dsimp only at H)
 replace H := ip_ H
 obtain ⟨c4, H, -⟩ := H
 have LMc4 := am_ c4
 clear c4
 obtain ⟨y464, hy464⟩ : ∃ y_ : List Int, y_ = (t458 ++ y461) := ⟨_, rfl⟩
 replace H : (some y464) = some r := by first | (rw [hy464]; with_reducible exact H) | (have H2_ := (Option.bind_some _ _).symm.trans H; rw [hy464]; with_reducible exact H2_) | (have H2_ := (Option.bind_some _ _).symm.trans H; with_reducible exact H2_) | with_reducible exact H | (rw [hy464]; exact H) | exact H
 have Ny464 := am_ hy464
 clear hy464
 obtain rfl := si_ H
 go_enter Try.func67, Try.ntmps67
 go_wp2_with (first | (refine gc_ 118 rfl ?_; refine gl_ (some 6) Try.func118 #[.slice A0 l0.length c0] ?_; (with_reducible refine (slices_Clone_byte.calls _ _ l0 t458 _ (qC (HR0.out)) HC0.out A3.out).mono ?_); rintro e w5 ⟨v459, rfl, ho0, hb⟩; refine ⟨_, rfl, ?_⟩; have HO460 := am_ (Kd.R_lower ho0 (below_size (qB HB))); replace HB := bS_ HB hb; (try clear hb); (try clear ho0)) | (refine gd_ 12 rfl ?_; refine l8_ 5 12 ([(a1 / 256) % 256, (a1) % 256] : List Int) [.int .u8 ((a1 / 256) % 256), .int .u8 ((a1) % 256)] ?_; intro v462 w6 ho7 hb hg_ hnew_; clear hg_ hnew_; (first | rw [← Ny461.out] at ho7 | (simp only [Int.reduceToNat] at ho7; rw [← Ny461.out] at ho7)); have HO463 := am_ (Kd.R_lower (Kd.R_new' ho7 (Kd.R_lt (qR HO460))) (below_size (qB HB))); replace HO460 := eA_ HO460 ho7 hb; replace HB := bS_ HB hb; clear hb ho7; obtain ⟨Ao9, co9, eo9⟩ := Kd.R_slice HO463.out; subst eo9) | ((with_reducible refine gate_builtin (b := .append) (xs := #[.tmp 6, .tmp 12]) rfl ?_); at_builtin; refine Kd.R_append_rows (Kd.int .u8) (w0 := w) w.heap.size rfl (.tmp 6) (.tmp 12) 22 5 (.int .u8 0) 1 rfl Try.underlying22 info5 rfl (by decide) (by omega) v459 t458 y461 _ _ _ (fun k_ => nb Ao9 y461.length co9 k_) (fun _ => False) rfl rfl ?aO ?aR (fun _ _ h => h) (fun _ h => h.elim) ?aF ?aB ?aS ?aL ?_; (case aR => exact rC_ HO463); (case aB => exact (qB HB)); (case aF => exact (fun k_ hk => Kd.fresh' (Kd.R_lt (qR HO463)) k_ hk)); (case aO => exact (xR1_ HO460)); (case aS => exact (below_size (qB HB))); (case aL => have := LMc4.out; omega); intro v465 w8 ho hb hg hat; rw [← Ny464.out] at ho; replace HO463 := aR_ HO463 hg hat; replace HB := am_ (hb); have HO466 := am_ (ho); clear HO460; clear ho hb hg hat))
 go_ret
 exact ⟨_, er_, (xR1_ HO466), qB HB⟩

/-! ### impl_putSince: function 68 -/
def impl_putSince.f (l0 : List Int) (a1 : Int) : Option (List Int) := (impl_PutWord.f l0 (wrap64 (Int.tdiv a1 256))).bind fun t467 => (if t467.length < 140737488355328 then (some (t467 ++ [(Int.tmod a1 256) % 256])) else (none))
set_option maxHeartbeats 8000000 in
set_option maxRecDepth 100000 in
theorem impl_putSince.calls (A0 : Option Addr) (c0 : Nat) (l0 : List Int) (a1 : Int) (r : List Int) (w : World) (hr0 : Kd.C (Kd.int .u8) w A0 l0.length l0) (hc0 : l0.length ≤ c0) (h : impl_putSince.f l0 a1 = some r) :
  Calls Try.prog 68 #[.slice A0 l0.length c0, .int .i64 a1] w fun e w' => ∃ v0_ : Value, e = .returned (v0_) ∧ Kd.R (Kd.int .u8) 5 w' w.heap.size (fun _ => True) v0_ r ∧ Below w.heap.size w w' := by
 have HR0 := am_ hr0
 have HC0 := am_ hc0
 clear hr0 hc0
 have HB := Aside0.mk (Below.refl w.heap.size w)
 have H := h
 unfold impl_putSince.f at H
 clear h
 replace H := bd_ H
 obtain ⟨t467, A3, H⟩ := H
 replace H := ip_ H
 obtain ⟨c4, H, -⟩ := H
 have LMc4 := am_ c4
 clear c4
 obtain ⟨y470, hy470⟩ : ∃ y_ : List Int, y_ = (t467 ++ [(Int.tmod a1 256) % 256]) := ⟨_, rfl⟩
 rw [← hy470] at H
 have Ny470 := am_ hy470
 clear hy470
 obtain rfl := si_ H
 go_enter Try.func68, Try.ntmps68
 go_wp2_with (first | (refine gc_ 67 rfl ?_; refine gl_ (some 8) Try.func67 #[.slice A0 l0.length c0, .int .i64 (wrap64 (Int.tdiv a1 256))] ?_; (with_reducible refine (impl_PutWord.calls _ _ l0 (wrap64 (Int.tdiv a1 256)) t467 _ (qC (HR0.out)) HC0.out A3.out).mono ?_); rintro e w5 ⟨v468, rfl, ho0, hb⟩; refine ⟨_, rfl, ?_⟩; have HO469 := am_ (Kd.R_lower ho0 (below_size (qB HB))); replace HB := bS_ HB hb; (try clear hb); (try clear ho0)) | ((with_reducible refine gate_builtin (b := .append) (xs := #[.tmp 8, .tmp 12]) rfl ?_); at_builtin; refine Kd.R_append (Kd.int .u8) (w0 := w) w.heap.size rfl (.tmp 8) (.tmp 12) 22 5 (.int .u8 0) 1 rfl Try.underlying22 info5 rfl (by decide) (by omega) v468 t467 ((Int.tmod a1 256) % 256) [.int .u8 ((Int.tmod a1 256) % 256)] (fun _ => True) (fun _ => False) rfl rfl ?aP (fun _ hk => hk.elim) ?aF ?aO ?aB ?aS ?aL ?_; (case aP => exact rfl); (case aB => exact (qB HB)); (case aF => exact (fun _ _ => trivial)); (case aO => exact (qR HO469)); (case aS => exact (below_size (qB HB))); (case aL => have := LMc4.out; omega); intro v471 w6 ho hb hg hat; rw [← Ny470.out] at ho; replace HB := am_ (hb); have HO472 := am_ (ho); clear HO469; clear ho hb hg hat))
 go_ret
 exact ⟨_, er_, qR HO472, qB HB⟩
end Go.Proofs.Ytiffahfpfgnjnaa.PFnCtls
