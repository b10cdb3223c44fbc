-- Written by a program of this session (myprint.py, over the kit's print): contracts of FnExactGetCtl
import Derived.Test.YtiffahfpfgnjnabPFnExactGetCtlx0
import Derived.Test.YtiffahfpfgnjnabPFnExactGetCtlx1
import Derived.Test.YtiffahfpfgnjnabPFnExactGetCtlx13
namespace Go.Proofs.Ytiffahfpfgnjnab.PFnExactGetCtl
open Go.RowKit Go.Proofs.YtiffahfpfgnjnabW.PrintWords Go.Proofs.YtiffahfpfgnjnabW.PrintLast Go.Proofs.YtiffahfpfgnjnabW.PrintMore Go.Proofs.YtiffahfpfgnjnabV
attribute [local go_sem] max2_int min2_int max_two min_two max_three min_three max_four min_four   -- for this text's walks alone
set_option linter.unusedVariables false
set_option linter.unusedSimpArgs false

attribute [local go_sem high] eqA90
/-! ### impl_AskerOk: function 125 -/
def impl_AskerOk.j0 : Nat → Int → ByteArray → Int → Int → Int → ByteArray → Int → Int → Int → ByteArray → Int → Int → Int → ByteArray → Int → Int → Option (Bool)
 | 0, _, _, _, _, _, _, _, _, _, _, _, _, _, _, _, _ => none
 | k + 1, x455000, x455001, x455002, x455003, x455004, x455005, x455006, x455007, x456000, x456001, x456002, x456003, x456004, x456005, x456006, x456007 => (impl_sockIdOk.f x455000).bind fun t456 => (if t456 = true then (if x455002 = 0 then (some (x455001.toList == ([] : List UInt8) && (x455002 == 0 && (x455003 == 0 && (x455004 == 0 && (x455005.toList == ([] : List UInt8) && (x455006 == 0 && (x455007 == 0)))))))) else ((impl_nameOk.f k x455001).bind fun t457 => (if t457 = true then (if x455002 = 1 then (some (x456000 == 0 && (x456001.toList == ([] : List UInt8) && (x456002 == 0 && (x456003 == 0 && (x456004 == 0 && (x456005.toList == ([] : List UInt8) && (x456006 == 0 && (x456007 == 0))))))))) else (if x455002 = 2 then (if (x456000 == 0 && (x456001.toList == ([] : List UInt8) && (x456002 == 0 && (x456003 == x455003 && (x456004 == x455004 && (x456005.toList == x455005.toList && (x456006 == 0 && (x456007 == 0)))))))) = true then ((impl_wordOk.f x455003).bind fun t458 => (if t458 = true then ((impl_sinceOk.f x455004).bind fun t459 => (if t459 = true then ((impl_TextOk.f k x455005).bind fun t460 => (some t460)) else (some false))) else (some false))) else (some false)) else (if x455002 = 3 then (if (x456000 == 0 && (x456001.toList == ([] : List UInt8) && (x456002 == 0 && (x456003 == 0 && (x456004 == 0 && (x456005.toList == ([] : List UInt8) && (x456006 == x455006 && (x456007 == x455007)))))))) = true then ((impl_sockIdOk.f x455006).bind fun t461 => (if t461 = true then (some (decide (x455007 ≥ 1))) else (some false))) else (some false)) else (if x455002 = 4 then (if (x456000 == 0 && (x456001.toList == ([] : List UInt8) && (x456002 == 0 && (x456003 == 0 && (x456004 == 0 && (x456005.toList == ([] : List UInt8) && (x456006 == x455006 && (x456007 == x455007)))))))) = true then ((impl_sockIdOk.f x455006).bind fun t462 => (if t462 = true then (some (decide (x455007 ≥ 1))) else (some false))) else (some false)) else (some false))))) else (some false)))) else (some false))
def impl_AskerOk.f (k : Nat) (a0_0 : Int) (a0_1 : ByteArray) (a0_2 : Int) (a0_3 : Int) (a0_4 : Int) (a0_5 : ByteArray) (a0_6 : Int) (a0_7 : Int) : Option (Bool) := impl_AskerOk.j0 k a0_0 a0_1 a0_2 a0_3 a0_4 a0_5 a0_6 a0_7 0 (⟨#[]⟩ : ByteArray) 0 a0_3 a0_4 a0_5 a0_6 a0_7
theorem impl_AskerOk.mono_l : ∀ k, (∀ y0 y1 y2 y3 y4 y5 y6 y7 y8 y9 y10 y11 y12 y13 y14 y15, LeO (impl_AskerOk.j0 k y0 y1 y2 y3 y4 y5 y6 y7 y8 y9 y10 y11 y12 y13 y14 y15) (impl_AskerOk.j0 (k + 1) y0 y1 y2 y3 y4 y5 y6 y7 y8 y9 y10 y11 y12 y13 y14 y15))
 | 0 => fun _ _ _ _ _ _ _ _ _ _ _ _ _ _ _ _ r h => by simp [impl_AskerOk.j0] at h
 | k + 1 => by
  have ih0 := impl_AskerOk.mono_l k
  ·
   intro y0 y1 y2 y3 y4 y5 y6 y7 y8 y9 y10 y11 y12 y13 y14 y15
   unfold impl_AskerOk.j0
   have m0 := @impl_TextOk.mono; have m1 := @impl_nameOk.mono; exact mo_
theorem impl_AskerOk.mono : ∀ a0 a1 a2 a3 a4 a5 a6 a7 k, LeO (impl_AskerOk.f k a0 a1 a2 a3 a4 a5 a6 a7) (impl_AskerOk.f (k + 1) a0 a1 a2 a3 a4 a5 a6 a7) := by
 intro a0 a1 a2 a3 a4 a5 a6 a7 k
 have ih0 := impl_AskerOk.mono_l k
 unfold impl_AskerOk.f
 have m0 := @impl_TextOk.mono; have m1 := @impl_nameOk.mono; exact mo_
set_option maxHeartbeats 8000000 in
set_option maxRecDepth 100000 in
theorem impl_AskerOk.calls (k : Nat) (a0_0 : Int) (a0_1 : ByteArray) (a0_2 : Int) (a0_3 : Int) (a0_4 : Int) (a0_5 : ByteArray) (a0_6 : Int) (a0_7 : Int) (r : Bool) (w : World) (h : impl_AskerOk.f k a0_0 a0_1 a0_2 a0_3 a0_4 a0_5 a0_6 a0_7 = some r) :
  Calls Try.prog 125 #[.agg #[.int .i64 a0_0, .string a0_1, .int .i64 a0_2, .int .i64 a0_3, .int .i64 a0_4, .string a0_5, .int .i64 a0_6, .int .i64 a0_7]] w fun e w' => e = .returned (.bool r) ∧ Below w.heap.size w w' := by
 have hu90 := Try.underlying90
 have HB := Aside0.mk (Below.refl w.heap.size w)
 have H := h
 unfold impl_AskerOk.f at H
 clear h
 have HC2 := Aside0.mk H
 clear H
 go_enter Try.func125, Try.ntmps125
 go_upto_region 2 with (first | ((with_reducible refine gate_dst (N := 1) rfl ?_); refine bx_ (N := 1) (cs := #[.int .i64 a0_0, .string a0_1, .int .i64 a0_2, .int .i64 a0_3, .int .i64 a0_4, .string a0_5, .int .i64 a0_6, .int .i64 a0_7]) (t := 90) ?_; intro gb454 hg w3 hbox hb; have BK454 := am_ (hbox); have GW454 := gA_ hg HB; have GE454 := GW454; have IGE454 := gI_ GE454; replace HB := bS_ HB hb; clear hb hbox hg; (try clear zK454); have zK454 := cz8 BK454.out; (try clear fK454); have fK454 := fz8 BK454.out) | ((with_reducible refine gate_dst (N := 3) rfl ?_); refine bx_ (N := 3) (cs := #[.int .i64 0, .string (⟨#[]⟩ : ByteArray), .int .i64 0, .int .i64 0, .int .i64 0, .string (⟨#[]⟩ : ByteArray), .int .i64 0, .int .i64 0]) (t := 90) ?_; intro gb455 hg w5 hbox hb; have BK455 := am_ (hbox); have GW455 := gA_ hg HB; have GE455 := GW455; have IGE455 := gI_ GE455; replace HB := bS_ HB hb; have NB454_455 := am_ ((gN_ hg (qK BK454))); have NB455_454 := am_ ((gM_ hg (qK BK454))); replace BK454 := bK_ BK454 hb; clear hb hbox hg; have hnb6 := NB455_454.out; have hnc6 := NB454_455.out; (try clear zK455); have zK455 := cz8 BK455.out; (try clear fK455); have fK455 := fz8 BK455.out))
 (try simp only [Act.put, List.setIfInBounds_toArray, List.set_cons_zero, List.set_cons_succ])
 go_cut [] (fun wc => ∃ (kq : Nat) (x456000_1 : Int) (x456001_1 : ByteArray) (x456002_1 : Int), Aside0 (impl_AskerOk.j0 kq a0_0 a0_1 a0_2 a0_3 a0_4 a0_5 a0_6 a0_7 x456000_1 x456001_1 x456002_1 a0_3 a0_4 a0_5 a0_6 a0_7 = some r) ∧ Aside0 (kq ≤ k) ∧ Aside0 (wc.heap[gb454]? = some (.cells #[.int .i64 a0_0, .string a0_1, .int .i64 a0_2, .int .i64 a0_3, .int .i64 a0_4, .string a0_5, .int .i64 a0_6, .int .i64 a0_7] 90 (0, 0))) ∧ Aside0 (wc.heap[gb455]? = some (.cells #[.int .i64 x456000_1, .string x456001_1, .int .i64 x456002_1, .int .i64 a0_3, .int .i64 a0_4, .string a0_5, .int .i64 a0_6, .int .i64 a0_7] 90 (0, 0))) ∧ Aside0 (Below w.heap.size w wc))
 case first =>
  have H := HC2.out
  clear HC2
  have H' := Aside0.mk H
  clear H
  have hnb8 := NB455_454.out
  have hnc8 := NB454_455.out
  (try clear zK455)
  have zK455 := cz8 BK455.out
  (try clear fK455)
  have fK455 := fz8 BK455.out
  go_wp2_with (first | ((with_reducible refine gate_store (t := 3) (p := 5) rfl ?_); refine store_event (t := 3) (p := 5) (v := ?vo_w10) (w1 := (((((((((w5.setCell ⟨gb455, 0, none⟩ (.int .i64 a0_0)).setCell ⟨gb455, 1, none⟩ (.string a0_1)).setCell ⟨gb455, 2, none⟩ (.int .i64 a0_2)).setCell ⟨gb455, 3, none⟩ (.int .i64 a0_3)).setCell ⟨gb455, 4, none⟩ (.int .i64 a0_4)).setCell ⟨gb455, 5, none⟩ (.string a0_5)).setCell ⟨gb455, 6, none⟩ (.int .i64 a0_6)).setCell ⟨gb455, 7, none⟩ (.int .i64 a0_7)).setCell ⟨gb455, 0, none⟩ (.int .i64 0))) ?hg ?ho ?hn ?hr ?_; (case ho => rfl); (case hg => rfl); (case hn => rfl); (case hr => first | (go_simp; done) | (go_simp; rfl)); intro w10 hw; have n0_ : Aside0 (w10.heap[gb454]? = some (.cells #[.int .i64 a0_0, .string a0_1, .int .i64 a0_2, .int .i64 a0_3, .int .i64 a0_4, .string a0_5, .int .i64 a0_6, .int .i64 a0_7] 90 (0, 0))) := ⟨(by rw [hw]; exact (by (with_reducible repeat (first | refine blk_drewN ?_ _ | refine blk_drew ?_ | refine blk_alloc ?_ _)); refine blk_far9 ?_ NB454_455.out; exact qK BK454))⟩; have n1_ : Aside0 (w10.heap[gb455]? = some (.cells #[.int .i64 0, .string a0_1, .int .i64 a0_2, .int .i64 a0_3, .int .i64 a0_4, .string a0_5, .int .i64 a0_6, .int .i64 a0_7] 90 (0, 0))) := ⟨(by rw [hw]; exact (by (with_reducible repeat (first | refine blk_drewN ?_ _ | refine blk_drew ?_ | refine blk_alloc ?_ _)); refine blk_put (cs := #[.int .i64 a0_0, .string a0_1, .int .i64 a0_2, .int .i64 a0_3, .int .i64 a0_4, .string a0_5, .int .i64 a0_6, .int .i64 a0_7]) ?_ 0 _ rfl; (with_reducible repeat (first | refine blk_drewN ?_ _ | refine blk_drew ?_ | refine blk_alloc ?_ _)); refine blk_put (cs := #[.int .i64 a0_0, .string a0_1, .int .i64 a0_2, .int .i64 a0_3, .int .i64 a0_4, .string a0_5, .int .i64 a0_6, .int .i64 0]) ?_ 7 _ rfl; (with_reducible repeat (first | refine blk_drewN ?_ _ | refine blk_drew ?_ | refine blk_alloc ?_ _)); refine blk_put (cs := #[.int .i64 a0_0, .string a0_1, .int .i64 a0_2, .int .i64 a0_3, .int .i64 a0_4, .string a0_5, .int .i64 0, .int .i64 0]) ?_ 6 _ rfl; (with_reducible repeat (first | refine blk_drewN ?_ _ | refine blk_drew ?_ | refine blk_alloc ?_ _)); refine blk_put (cs := #[.int .i64 a0_0, .string a0_1, .int .i64 a0_2, .int .i64 a0_3, .int .i64 a0_4, .string (⟨#[]⟩ : ByteArray), .int .i64 0, .int .i64 0]) ?_ 5 _ rfl; (with_reducible repeat (first | refine blk_drewN ?_ _ | refine blk_drew ?_ | refine blk_alloc ?_ _)); refine blk_put (cs := #[.int .i64 a0_0, .string a0_1, .int .i64 a0_2, .int .i64 a0_3, .int .i64 0, .string (⟨#[]⟩ : ByteArray), .int .i64 0, .int .i64 0]) ?_ 4 _ rfl; (with_reducible repeat (first | refine blk_drewN ?_ _ | refine blk_drew ?_ | refine blk_alloc ?_ _)); refine blk_put (cs := #[.int .i64 a0_0, .string a0_1, .int .i64 a0_2, .int .i64 0, .int .i64 0, .string (⟨#[]⟩ : ByteArray), .int .i64 0, .int .i64 0]) ?_ 3 _ rfl; (with_reducible repeat (first | refine blk_drewN ?_ _ | refine blk_drew ?_ | refine blk_alloc ?_ _)); refine blk_put (cs := #[.int .i64 a0_0, .string a0_1, .int .i64 0, .int .i64 0, .int .i64 0, .string (⟨#[]⟩ : ByteArray), .int .i64 0, .int .i64 0]) ?_ 2 _ rfl; (with_reducible repeat (first | refine blk_drewN ?_ _ | refine blk_drew ?_ | refine blk_alloc ?_ _)); refine blk_put (cs := #[.int .i64 a0_0, .string (⟨#[]⟩ : ByteArray), .int .i64 0, .int .i64 0, .int .i64 0, .string (⟨#[]⟩ : ByteArray), .int .i64 0, .int .i64 0]) ?_ 1 _ rfl; (with_reducible repeat (first | refine blk_drewN ?_ _ | refine blk_drew ?_ | refine blk_alloc ?_ _)); refine blk_put (cs := #[.int .i64 0, .string (⟨#[]⟩ : ByteArray), .int .i64 0, .int .i64 0, .int .i64 0, .string (⟨#[]⟩ : ByteArray), .int .i64 0, .int .i64 0]) ?_ 0 _ rfl; exact qK BK455))⟩; have n2_ : Aside0 (Below w.heap.size w w10) := ⟨(by rw [hw]; exact (qB HB))⟩; clear hw; clear BK454; clear BK455; clear HB; have BK454 := n0_; have BK455 := n1_; have HB := n2_; clear n0_ n1_ n2_; (try clear zK455); have zK455 := cz8 BK455.out; (try clear fK455); have fK455 := fz8 BK455.out))
  go_meet
  case rel => exact ⟨_, (0), ((⟨#[]⟩ : ByteArray)), (0), H', ⟨by first | omega | exact Nat.le_refl _⟩, ⟨by (with_reducible repeat (first | refine blk_drewN ?_ _ | refine blk_drew ?_ | refine blk_alloc ?_ _)); refine blk_far2 ?_ NB454_455.out; exact qK BK454⟩, ⟨by (with_reducible repeat (first | refine blk_drewN ?_ _ | refine blk_drew ?_ | refine blk_alloc ?_ _)); refine blk_put (cs := #[.int .i64 0, .string a0_1, .int .i64 0, .int .i64 a0_3, .int .i64 a0_4, .string a0_5, .int .i64 a0_6, .int .i64 a0_7]) ?_ 1 _ rfl; (with_reducible repeat (first | refine blk_drewN ?_ _ | refine blk_drew ?_ | refine blk_alloc ?_ _)); refine blk_put (cs := #[.int .i64 0, .string a0_1, .int .i64 a0_2, .int .i64 a0_3, .int .i64 a0_4, .string a0_5, .int .i64 a0_6, .int .i64 a0_7]) ?_ 2 _ rfl; exact qK BK455⟩, ⟨qB HB⟩⟩
 case rest =>
  clear HC2
  try clear c1
  try clear p2
  try clear c6
  try clear c8
  (try clear zK455)
  (try clear zK454)
  (try clear zK455)
  (try clear zK455)
  (try clear fK455)
  (try clear fK454)
  (try clear fK455)
  (try clear fK455)
  obtain ⟨kq, x456000_1, x456001_1, x456002_1, HA, HJ1, BK454, BK455, HB⟩ := hcut
  cases kq with
  | zero => exact absurd HA.out (by simp [impl_AskerOk.j0])
  | succ kj1 =>
   have H := HA.out
   clear HA
   simp only [impl_AskerOk.j0] at H
   replace H := bd_ H
   obtain ⟨t456, A12, H⟩ := H
   have HC13 := Aside0.mk H
   clear H
   have hnb14 := NB454_455.out
   have hnc14 := NB455_454.out
   (try clear zK454)
   have zK454 := cz8 BK454.out
   go_upto_if 11 with (first | ((with_reducible refine gate_callee (f := 135) rfl ?_); refine gl_ (some 10) Try.func135 #[.int .i64 a0_0] ?_; (with_reducible refine (impl_sockIdOk.calls a0_0 t456 _ A12.out).mono ?_); rintro e w' ⟨rfl, ⟨nd, rfl⟩⟩; refine ⟨_, rfl, ?_⟩))
   (try simp only [Act.put, List.setIfInBounds_toArray, List.set_cons_zero, List.set_cons_succ])
   (try (rw [drewN_self wc]; generalize hq_ : World.drewN wc _ = wc; have n0_ : Aside0 (wc.heap[gb454]? = some (.cells #[.int .i64 a0_0, .string a0_1, .int .i64 a0_2, .int .i64 a0_3, .int .i64 a0_4, .string a0_5, .int .i64 a0_6, .int .i64 a0_7] 90 (0, 0))) := ⟨by rw [← hq_]; exact (qK BK454)⟩; have n1_ : Aside0 (wc.heap[gb455]? = some (.cells #[.int .i64 x456000_1, .string x456001_1, .int .i64 x456002_1, .int .i64 a0_3, .int .i64 a0_4, .string a0_5, .int .i64 a0_6, .int .i64 a0_7] 90 (0, 0))) := ⟨by rw [← hq_]; exact (qK BK455)⟩; have n2_ : Aside0 (Below w.heap.size w wc) := ⟨by rw [← hq_]; exact (qB HB)⟩; clear BK454 BK455 HB hq_; have BK454 := n0_; have BK455 := n1_; have HB := n2_; clear n0_ n1_ n2_))
   have H := HC13.out
   clear HC13
   by_cases c16 : t456 = true
   rotate_left
   ·
    replace c16 := Bool.eq_false_iff.mpr c16
    subst c16
    rw [if_neg (show ¬ (false = true) by decide)] at H
    obtain rfl := Option.some.inj H
    go_wp2
    go_ret
    exact ⟨er_, qB HB⟩
   subst c16
   rw [if_pos rfl] at H
   replace H := ie_ H
   obtain ⟨-, H, c17b0, c17b1⟩ | ⟨c17, H, c17b0, c17b1⟩ := H
   ·
    (first | rw [c17b0] | rw [c17b1] | (simp only [i64_w, i32_w]; rw [c17b0]) | skip)
    obtain rfl := Option.some.inj H
    have hnb18 := NB454_455.out
    have hnc18 := NB455_454.out
    (try clear zK454)
    have zK454 := cz8 BK454.out
    go_wp2
    go_ret
    exact ⟨er_, qB HB⟩
   (first | rw [c17b0] | rw [c17b1] | (simp only [i64_w, i32_w]; rw [c17b0]) | skip)
   replace H := bd_ H
   obtain ⟨t457, A20, H⟩ := H
   have HC21 := Aside0.mk H
   clear H
   have hnb22 := NB454_455.out
   have hnc22 := NB455_454.out
   (try clear zK454)
   have zK454 := cz8 BK454.out
   go_upto_if 23 with (first | ((with_reducible refine gate_callee (f := 136) rfl ?_); refine gl_ (some 22) Try.func136 #[.string a0_1] ?_; (with_reducible refine (impl_nameOk.calls kj1 a0_1 t457 _ A20.out).mono ?_); rintro e w' ⟨rfl, ⟨nd, rfl⟩⟩; refine ⟨_, rfl, ?_⟩))
   (try simp only [Act.put, List.setIfInBounds_toArray, List.set_cons_zero, List.set_cons_succ])
   (try (rw [drewN_self wc]; generalize hq_ : World.drewN wc _ = wc; have n0_ : Aside0 (wc.heap[gb454]? = some (.cells #[.int .i64 a0_0, .string a0_1, .int .i64 a0_2, .int .i64 a0_3, .int .i64 a0_4, .string a0_5, .int .i64 a0_6, .int .i64 a0_7] 90 (0, 0))) := ⟨by rw [← hq_]; exact (qK BK454)⟩; have n1_ : Aside0 (wc.heap[gb455]? = some (.cells #[.int .i64 x456000_1, .string x456001_1, .int .i64 x456002_1, .int .i64 a0_3, .int .i64 a0_4, .string a0_5, .int .i64 a0_6, .int .i64 a0_7] 90 (0, 0))) := ⟨by rw [← hq_]; exact (qK BK455)⟩; have n2_ : Aside0 (Below w.heap.size w wc) := ⟨by rw [← hq_]; exact (qB HB)⟩; clear BK454 BK455 HB hq_; have BK454 := n0_; have BK455 := n1_; have HB := n2_; clear n0_ n1_ n2_))
   have H := HC21.out
   clear HC21
   by_cases c24 : t457 = true
   rotate_left
   ·
    replace c24 := Bool.eq_false_iff.mpr c24
    subst c24
    rw [if_neg (show ¬ (false = true) by decide)] at H
    obtain rfl := Option.some.inj H
    go_wp2
    go_ret
    exact ⟨er_, qB HB⟩
   subst c24
   rw [if_pos rfl] at H
   replace H := ie_ H
   obtain ⟨-, H, c25b0, c25b1⟩ | ⟨c25, H, c25b0, c25b1⟩ := H
   ·
    (first | rw [c25b0] | rw [c25b1] | (simp only [i64_w, i32_w]; rw [c25b0]) | skip)
    obtain rfl := Option.some.inj H
    have hnb26 := NB454_455.out
    have hnc26 := NB455_454.out
    (try clear zK454)
    have zK454 := cz8 BK454.out
    (try clear zK455)
    have zK455 := cz8 BK455.out
    go_wp2
    go_ret
    exact ⟨er_, qB HB⟩
   (first | rw [c25b0] | rw [c25b1] | (simp only [i64_w, i32_w]; rw [c25b0]) | skip)
   replace H := ie_ H
   obtain ⟨-, H, c29b0, c29b1⟩ | ⟨c29, H, c29b0, c29b1⟩ := H
   ·
    replace H := id_ H
    obtain ⟨c30, H, -⟩ | ⟨c30, H, -⟩ := H
    rotate_left
    ·
     have c30b0 : (x456000_1 == 0 && (x456001_1.toList == ([] : List UInt8) && (x456002_1 == 0 && (a0_3 == a0_3 && (a0_4 == a0_4 && (a0_5.toList == a0_5.toList && (a0_6 == 0 && (a0_7 == 0)))))))) = false := by simpa using c30
     (try (have c30b0e := c30b0; simp only [beq_nil, bne_nil] at c30b0e))
     (try simp only [beq_self_eq_true, Bool.true_and, Bool.and_true, beq_nil] at c30b0)
     (try (have c30b1 : decide (x456000_1 = 0 && (x456001_1.toList == ([] : List UInt8) && (x456002_1 == 0 && (a0_3 == a0_3 && (a0_4 == a0_4 && (a0_5.toList == a0_5.toList && (a0_6 == 0 && (a0_7 == 0)))))))) = false := by simpa using c30))
     (try (have c30b1e := c30b1; simp only [beq_nil, bne_nil] at c30b1e))
     (try simp only [beq_self_eq_true, Bool.true_and, Bool.and_true, beq_nil] at c30b1)
     (try (have c30b2 : (x456000_1 == 0 && (x456001_1.toList == ([] : List UInt8) && (x456002_1 == 0 && (a0_3 == a0_3 && (a0_4 == a0_4 && (a0_5.toList == a0_5.toList && (a0_6 == 0 && (a0_7 == 0)))))))) = false := by simpa using c30))
     (try (have c30b2e := c30b2; simp only [beq_nil, bne_nil] at c30b2e))
     (try simp only [beq_self_eq_true, Bool.true_and, Bool.and_true, beq_nil] at c30b2)
     (try (have c30b3 : ¬ (x456000_1 = 0 && (x456001_1.toList == ([] : List UInt8) && (x456002_1 == 0 && (a0_3 == a0_3 && (a0_4 == a0_4 && (a0_5.toList == a0_5.toList && (a0_6 == 0 && (a0_7 == 0)))))))) := by simpa using c30))
     (try (have c30b3e := c30b3; simp only [beq_nil, bne_nil] at c30b3e))
     (try simp only [beq_self_eq_true, Bool.true_and, Bool.and_true, beq_nil] at c30b3)
     clear c30
     obtain rfl := Option.some.inj H
     have hnb45 := NB454_455.out
     have hnc45 := NB455_454.out
     (try clear zK454)
     have zK454 := cz8 BK454.out
     (try clear zK455)
     have zK455 := cz8 BK455.out
     go_wp2
     go_ret
     exact ⟨er_, qB HB⟩
    have c30b0 : (x456000_1 == 0 && (x456001_1.toList == ([] : List UInt8) && (x456002_1 == 0 && (a0_3 == a0_3 && (a0_4 == a0_4 && (a0_5.toList == a0_5.toList && (a0_6 == 0 && (a0_7 == 0)))))))) = true := c30
    (try (have c30b0e := c30b0; simp only [beq_nil, bne_nil] at c30b0e))
    (try simp only [beq_self_eq_true, Bool.true_and, Bool.and_true, beq_nil] at c30b0)
    (try (have c30b1 : decide (x456000_1 = 0 && (x456001_1.toList == ([] : List UInt8) && (x456002_1 == 0 && (a0_3 == a0_3 && (a0_4 == a0_4 && (a0_5.toList == a0_5.toList && (a0_6 == 0 && (a0_7 == 0)))))))) = true := by simpa using c30))
    (try (have c30b1e := c30b1; simp only [beq_nil, bne_nil] at c30b1e))
    (try simp only [beq_self_eq_true, Bool.true_and, Bool.and_true, beq_nil] at c30b1)
    (try (have c30b2 : (x456000_1 == 0 && (x456001_1.toList == ([] : List UInt8) && (x456002_1 == 0 && (a0_3 == a0_3 && (a0_4 == a0_4 && (a0_5.toList == a0_5.toList && (a0_6 == 0 && (a0_7 == 0)))))))) = true := by simpa using c30))
    (try (have c30b2e := c30b2; simp only [beq_nil, bne_nil] at c30b2e))
    (try simp only [beq_self_eq_true, Bool.true_and, Bool.and_true, beq_nil] at c30b2)
    clear c30
    replace H := bd_ H
    obtain ⟨t458, A31, H⟩ := H
    by_cases c32 : t458 = true
    rotate_left
    ·
     replace c32 := Bool.eq_false_iff.mpr c32
     subst c32
     rw [if_neg (show ¬ (false = true) by decide)] at H
     obtain rfl := Option.some.inj H
     have hnb42 := NB454_455.out
     have hnc42 := NB455_454.out
     (try clear zK454)
     have zK454 := cz8 BK454.out
     (try clear zK455)
     have zK455 := cz8 BK455.out
     go_wp2_with (first | (go_at_call 111; (with_reducible refine (impl_wordOk.calls a0_3 false _ A31.out).mono ?_); rintro e w' ⟨rfl, ⟨nd, rfl⟩⟩))
     go_ret
     exact ⟨er_, qB HB⟩
    subst c32
    rw [if_pos rfl] at H
    replace H := bd_ H
    obtain ⟨t459, A33, H⟩ := H
    by_cases c34 : t459 = true
    rotate_left
    ·
     replace c34 := Bool.eq_false_iff.mpr c34
     subst c34
     rw [if_neg (show ¬ (false = true) by decide)] at H
     obtain rfl := Option.some.inj H
     have hnb39 := NB454_455.out
     have hnc39 := NB455_454.out
     (try clear zK454)
     have zK454 := cz8 BK454.out
     (try clear zK455)
     have zK455 := cz8 BK455.out
     go_wp2_with (first | (go_at_call 111; (with_reducible refine (impl_wordOk.calls a0_3 true _ A31.out).mono ?_); rintro e w' ⟨rfl, ⟨nd, rfl⟩⟩) | (go_at_call 137; (with_reducible refine (impl_sinceOk.calls a0_4 false _ A33.out).mono ?_); rintro e w' ⟨rfl, ⟨nd, rfl⟩⟩))
     go_ret
     exact ⟨er_, qB HB⟩
    subst c34
    rw [if_pos rfl] at H
    replace H := bd_ H
    obtain ⟨t460, A35, H⟩ := H
    obtain rfl := Option.some.inj H
    have hnb36 := NB454_455.out
    have hnc36 := NB455_454.out
    (try clear zK454)
    have zK454 := cz8 BK454.out
    (try clear zK455)
    have zK455 := cz8 BK455.out
    go_wp2_with (first | (go_at_call 111; (with_reducible refine (impl_wordOk.calls a0_3 true _ A31.out).mono ?_); rintro e w' ⟨rfl, ⟨nd, rfl⟩⟩) | (go_at_call 137; (with_reducible refine (impl_sinceOk.calls a0_4 true _ A33.out).mono ?_); rintro e w' ⟨rfl, ⟨nd, rfl⟩⟩) | (go_at_call 138; (with_reducible refine (impl_TextOk.calls kj1 a0_5 t460 _ A35.out).mono ?_); rintro e w' ⟨rfl, ⟨nd, rfl⟩⟩))
    go_ret
    exact ⟨er_, qB HB⟩
   replace H := ie_ H
   obtain ⟨-, H, c48b0, c48b1⟩ | ⟨c48, H, c48b0, c48b1⟩ := H
   ·
    replace H := id_ H
    obtain ⟨c49, H, -⟩ | ⟨c49, H, -⟩ := H
    rotate_left
    ·
     have c49b0 : (x456000_1 == 0 && (x456001_1.toList == ([] : List UInt8) && (x456002_1 == 0 && (a0_3 == 0 && (a0_4 == 0 && (a0_5.toList == ([] : List UInt8) && (a0_6 == a0_6 && (a0_7 == a0_7)))))))) = false := by simpa using c49
     (try (have c49b0e := c49b0; simp only [beq_nil, bne_nil] at c49b0e))
     (try simp only [beq_self_eq_true, Bool.true_and, Bool.and_true, beq_nil] at c49b0)
     (try (have c49b1 : decide (x456000_1 = 0 && (x456001_1.toList == ([] : List UInt8) && (x456002_1 == 0 && (a0_3 == 0 && (a0_4 == 0 && (a0_5.toList == ([] : List UInt8) && (a0_6 == a0_6 && (a0_7 == a0_7)))))))) = false := by simpa using c49))
     (try (have c49b1e := c49b1; simp only [beq_nil, bne_nil] at c49b1e))
     (try simp only [beq_self_eq_true, Bool.true_and, Bool.and_true, beq_nil] at c49b1)
     (try (have c49b2 : (x456000_1 == 0 && (x456001_1.toList == ([] : List UInt8) && (x456002_1 == 0 && (a0_3 == 0 && (a0_4 == 0 && (a0_5.toList == ([] : List UInt8) && (a0_6 == a0_6 && (a0_7 == a0_7)))))))) = false := by simpa using c49))
     (try (have c49b2e := c49b2; simp only [beq_nil, bne_nil] at c49b2e))
     (try simp only [beq_self_eq_true, Bool.true_and, Bool.and_true, beq_nil] at c49b2)
     (try (have c49b3 : ¬ (x456000_1 = 0 && (x456001_1.toList == ([] : List UInt8) && (x456002_1 == 0 && (a0_3 == 0 && (a0_4 == 0 && (a0_5.toList == ([] : List UInt8) && (a0_6 == a0_6 && (a0_7 == a0_7)))))))) := by simpa using c49))
     (try (have c49b3e := c49b3; simp only [beq_nil, bne_nil] at c49b3e))
     (try simp only [beq_self_eq_true, Bool.true_and, Bool.and_true, beq_nil] at c49b3)
     clear c49
     obtain rfl := Option.some.inj H
     have hnb58 := NB454_455.out
     have hnc58 := NB455_454.out
     (try clear zK454)
     have zK454 := cz8 BK454.out
     (try clear zK455)
     have zK455 := cz8 BK455.out
     go_wp2
     go_ret
     exact ⟨er_, qB HB⟩
    have c49b0 : (x456000_1 == 0 && (x456001_1.toList == ([] : List UInt8) && (x456002_1 == 0 && (a0_3 == 0 && (a0_4 == 0 && (a0_5.toList == ([] : List UInt8) && (a0_6 == a0_6 && (a0_7 == a0_7)))))))) = true := c49
    (try (have c49b0e := c49b0; simp only [beq_nil, bne_nil] at c49b0e))
    (try simp only [beq_self_eq_true, Bool.true_and, Bool.and_true, beq_nil] at c49b0)
    (try (have c49b1 : decide (x456000_1 = 0 && (x456001_1.toList == ([] : List UInt8) && (x456002_1 == 0 && (a0_3 == 0 && (a0_4 == 0 && (a0_5.toList == ([] : List UInt8) && (a0_6 == a0_6 && (a0_7 == a0_7)))))))) = true := by simpa using c49))
    (try (have c49b1e := c49b1; simp only [beq_nil, bne_nil] at c49b1e))
    (try simp only [beq_self_eq_true, Bool.true_and, Bool.and_true, beq_nil] at c49b1)
    (try (have c49b2 : (x456000_1 == 0 && (x456001_1.toList == ([] : List UInt8) && (x456002_1 == 0 && (a0_3 == 0 && (a0_4 == 0 && (a0_5.toList == ([] : List UInt8) && (a0_6 == a0_6 && (a0_7 == a0_7)))))))) = true := by simpa using c49))
    (try (have c49b2e := c49b2; simp only [beq_nil, bne_nil] at c49b2e))
    (try simp only [beq_self_eq_true, Bool.true_and, Bool.and_true, beq_nil] at c49b2)
    clear c49
    replace H := bd_ H
    obtain ⟨t461, A50, H⟩ := H
    by_cases c51 : t461 = true
    ·
     subst c51
     rw [if_pos rfl] at H
     obtain rfl := Option.some.inj H
     have hnb52 := NB454_455.out
     have hnc52 := NB455_454.out
     (try clear zK454)
     have zK454 := cz8 BK454.out
     (try clear zK455)
     have zK455 := cz8 BK455.out
     go_wp2_with (first | (go_at_call 135; (with_reducible refine (impl_sockIdOk.calls a0_6 true _ A50.out).mono ?_); rintro e w' ⟨rfl, ⟨nd, rfl⟩⟩))
     go_ret
     exact ⟨er_, qB HB⟩
    replace c51 := Bool.eq_false_iff.mpr c51
    subst c51
    rw [if_neg (show ¬ (false = true) by decide)] at H
    obtain rfl := Option.some.inj H
    have hnb55 := NB454_455.out
    have hnc55 := NB455_454.out
    (try clear zK454)
    have zK454 := cz8 BK454.out
    (try clear zK455)
    have zK455 := cz8 BK455.out
    go_wp2_with (first | (go_at_call 135; (with_reducible refine (impl_sockIdOk.calls a0_6 false _ A50.out).mono ?_); rintro e w' ⟨rfl, ⟨nd, rfl⟩⟩))
    go_ret
    exact ⟨er_, qB HB⟩
   replace H := ie_ H
   obtain ⟨-, H, c61b0, c61b1⟩ | ⟨c61, H, c61b0, c61b1⟩ := H
   rotate_left
   ·
    obtain rfl := Option.some.inj H
    have hnb74 := NB454_455.out
    have hnc74 := NB455_454.out
    (try clear zK454)
    have zK454 := cz8 BK454.out
    go_wp2
    go_ret
    exact ⟨er_, qB HB⟩
   replace H := id_ H
   obtain ⟨c62, H, -⟩ | ⟨c62, H, -⟩ := H
   rotate_left
   ·
    have c62b0 : (x456000_1 == 0 && (x456001_1.toList == ([] : List UInt8) && (x456002_1 == 0 && (a0_3 == 0 && (a0_4 == 0 && (a0_5.toList == ([] : List UInt8) && (a0_6 == a0_6 && (a0_7 == a0_7)))))))) = false := by simpa using c62
    (try (have c62b0e := c62b0; simp only [beq_nil, bne_nil] at c62b0e))
    (try simp only [beq_self_eq_true, Bool.true_and, Bool.and_true, beq_nil] at c62b0)
    (try (have c62b1 : decide (x456000_1 = 0 && (x456001_1.toList == ([] : List UInt8) && (x456002_1 == 0 && (a0_3 == 0 && (a0_4 == 0 && (a0_5.toList == ([] : List UInt8) && (a0_6 == a0_6 && (a0_7 == a0_7)))))))) = false := by simpa using c62))
    (try (have c62b1e := c62b1; simp only [beq_nil, bne_nil] at c62b1e))
    (try simp only [beq_self_eq_true, Bool.true_and, Bool.and_true, beq_nil] at c62b1)
    (try (have c62b2 : (x456000_1 == 0 && (x456001_1.toList == ([] : List UInt8) && (x456002_1 == 0 && (a0_3 == 0 && (a0_4 == 0 && (a0_5.toList == ([] : List UInt8) && (a0_6 == a0_6 && (a0_7 == a0_7)))))))) = false := by simpa using c62))
    (try (have c62b2e := c62b2; simp only [beq_nil, bne_nil] at c62b2e))
    (try simp only [beq_self_eq_true, Bool.true_and, Bool.and_true, beq_nil] at c62b2)
    (try (have c62b3 : ¬ (x456000_1 = 0 && (x456001_1.toList == ([] : List UInt8) && (x456002_1 == 0 && (a0_3 == 0 && (a0_4 == 0 && (a0_5.toList == ([] : List UInt8) && (a0_6 == a0_6 && (a0_7 == a0_7)))))))) := by simpa using c62))
    (try (have c62b3e := c62b3; simp only [beq_nil, bne_nil] at c62b3e))
    (try simp only [beq_self_eq_true, Bool.true_and, Bool.and_true, beq_nil] at c62b3)
    clear c62
    obtain rfl := Option.some.inj H
    have hnb71 := NB454_455.out
    have hnc71 := NB455_454.out
    (try clear zK454)
    have zK454 := cz8 BK454.out
    (try clear zK455)
    have zK455 := cz8 BK455.out
    go_wp2
    go_ret
    exact ⟨er_, qB HB⟩
   have c62b0 : (x456000_1 == 0 && (x456001_1.toList == ([] : List UInt8) && (x456002_1 == 0 && (a0_3 == 0 && (a0_4 == 0 && (a0_5.toList == ([] : List UInt8) && (a0_6 == a0_6 && (a0_7 == a0_7)))))))) = true := c62
   (try (have c62b0e := c62b0; simp only [beq_nil, bne_nil] at c62b0e))
   (try simp only [beq_self_eq_true, Bool.true_and, Bool.and_true, beq_nil] at c62b0)
   (try (have c62b1 : decide (x456000_1 = 0 && (x456001_1.toList == ([] : List UInt8) && (x456002_1 == 0 && (a0_3 == 0 && (a0_4 == 0 && (a0_5.toList == ([] : List UInt8) && (a0_6 == a0_6 && (a0_7 == a0_7)))))))) = true := by simpa using c62))
   (try (have c62b1e := c62b1; simp only [beq_nil, bne_nil] at c62b1e))
   (try simp only [beq_self_eq_true, Bool.true_and, Bool.and_true, beq_nil] at c62b1)
   (try (have c62b2 : (x456000_1 == 0 && (x456001_1.toList == ([] : List UInt8) && (x456002_1 == 0 && (a0_3 == 0 && (a0_4 == 0 && (a0_5.toList == ([] : List UInt8) && (a0_6 == a0_6 && (a0_7 == a0_7)))))))) = true := by simpa using c62))
   (try (have c62b2e := c62b2; simp only [beq_nil, bne_nil] at c62b2e))
   (try simp only [beq_self_eq_true, Bool.true_and, Bool.and_true, beq_nil] at c62b2)
   clear c62
   replace H := bd_ H
   obtain ⟨t462, A63, H⟩ := H
   by_cases c64 : t462 = true
   ·
    subst c64
    rw [if_pos rfl] at H
    obtain rfl := Option.some.inj H
    have hnb65 := NB454_455.out
    have hnc65 := NB455_454.out
    (try clear zK454)
    have zK454 := cz8 BK454.out
    (try clear zK455)
    have zK455 := cz8 BK455.out
    go_wp2_with (first | (go_at_call 135; (with_reducible refine (impl_sockIdOk.calls a0_6 true _ A63.out).mono ?_); rintro e w' ⟨rfl, ⟨nd, rfl⟩⟩))
    go_ret
    exact ⟨er_, qB HB⟩
   replace c64 := Bool.eq_false_iff.mpr c64
   subst c64
   rw [if_neg (show ¬ (false = true) by decide)] at H
   obtain rfl := Option.some.inj H
   have hnb68 := NB454_455.out
   have hnc68 := NB455_454.out
   (try clear zK454)
   have zK454 := cz8 BK454.out
   (try clear zK455)
   have zK455 := cz8 BK455.out
   go_wp2_with (first | (go_at_call 135; (with_reducible refine (impl_sockIdOk.calls a0_6 false _ A63.out).mono ?_); rintro e w' ⟨rfl, ⟨nd, rfl⟩⟩))
   go_ret
   exact ⟨er_, qB HB⟩

/-! ### impl_PutText: function 126 -/
def impl_PutText.f (k : Nat) (l0 : List Int) (a1 : ByteArray) : Option (List Int) := (slices_Clone_byte.f l0).bind fun t463 => ((impl_TextOk.f k a1).bind fun t466 => (if t466 = true then (if t463.length < 140737488355328 then ((some (t463 ++ [((a1.size : Int)) % 256] : List Int)).bind fun y467 => (if y467.length + a1.size < 140737488355328 then (some (y467 ++ bytesOf a1)) else (none))) else (none)) else (some t463)))
theorem impl_PutText.mono : ∀ a0 a1 k, LeO (impl_PutText.f k a0 a1) (impl_PutText.f (k + 1) a0 a1) := by
 intro a0 a1 k
 unfold impl_PutText.f
 have m0 := @impl_TextOk.mono; exact mo_
set_option maxHeartbeats 8000000 in
set_option maxRecDepth 100000 in
theorem impl_PutText.calls (k : Nat) (A0 : Option Addr) (c0 : Nat) (l0 : List Int) (a1 : ByteArray) (r : List Int) (w : World) (hr0 : Kd.C (Kd.int .u8) w A0 l0.length l0) (hc0 : l0.length ≤ c0) (h : impl_PutText.f k l0 a1 = some r) :
  Calls Try.prog 126 #[.slice A0 l0.length c0, .string a1] w fun e w' => ∃ v0_ : Value, e = .returned (v0_) ∧ Kd.R (Kd.int .u8) 5 w' w.heap.size (fun _ => True) v0_ r ∧ Below w.heap.size w w' := by
 have HR0 := Aside0.mk hr0
 have HC0 := Aside0.mk hc0
 clear hr0 hc0
 have HB := Aside0.mk (Below.refl w.heap.size w)
 have H := h
 unfold impl_PutText.f at H
 clear h
 replace H := bd_ H
 obtain ⟨t463, A3, H⟩ := H
 replace H := bd_ H
 obtain ⟨t466, A4, H⟩ := H
 have HC5 := Aside0.mk H
 clear H
 go_enter Try.func126, Try.ntmps126
 go_upto_if 10 with (first | ((with_reducible refine gate_callee (f := 119) rfl ?_); refine gl_ (some 7) Try.func119 #[.slice A0 l0.length c0] ?_; (with_reducible refine (slices_Clone_byte.calls _ _ l0 t463 _ ?side1 ?side2 A3.out).mono ?_); (case side1 => exact qC (HR0.out)); (case side2 => exact HC0.out); rintro e w6 ⟨v464, rfl, ho0, hb⟩; refine ⟨_, rfl, ?_⟩; have HO465 := am_ (Kd.R_lower ho0 (below_size (qB HB))); replace HB := bS_ HB hb; (try clear hb); (try clear ho0)) | ((with_reducible refine gate_callee (f := 138) rfl ?_); refine gl_ (some 9) Try.func138 #[.string a1] ?_; (with_reducible refine (impl_TextOk.calls k a1 t466 _ A4.out).mono ?_); rintro e w' ⟨rfl, ⟨nd, rfl⟩⟩; refine ⟨_, rfl, ?_⟩))
 (try simp only [Act.put, List.setIfInBounds_toArray, List.set_cons_zero, List.set_cons_succ])
 (try (rw [drewN_self w6]; generalize hq_ : World.drewN w6 _ = w6; have n0_ : Aside0 (Kd.R (Kd.int .u8) 5 w6 w.heap.size (fun _ => True) v464 t463) := ⟨by rw [← hq_]; exact (qR HO465)⟩; have n1_ : Aside0 (Below w.heap.size w w6) := ⟨by rw [← hq_]; exact (qB HB)⟩; clear HO465 HB hq_; have HO465 := n0_; have HB := n1_; clear n0_ n1_))
 have H := HC5.out
 clear HC5
 by_cases c7 : t466 = true
 rotate_left
 ·
  replace c7 := Bool.eq_false_iff.mpr c7
  subst c7
  rw [if_neg (show ¬ (false = true) by decide)] at H
  obtain rfl := Option.some.inj H
  go_wp2
  go_ret
  exact ⟨_, er_, qR HO465, qB HB⟩
 subst c7
 rw [if_pos rfl] at H
 replace H := ip_ H
 obtain ⟨c8, H, -⟩ := H
 have LMc8 := Aside0.mk c8
 clear c8
 obtain ⟨y467, hy467⟩ : ∃ y_ : List Int, y_ = (t463 ++ [((a1.size : Int)) % 256]) := ⟨_, rfl⟩
 replace H := mk_ H hy467
 (try dsimp only at H)
 have Ny467 := Aside0.mk hy467
 clear hy467
 replace H := ip_ H
 obtain ⟨c9, H, -⟩ := H
 have LMc9 := Aside0.mk c9
 clear c9
 obtain ⟨y470, hy470⟩ : ∃ y_ : List Int, y_ = (y467 ++ bytesOf a1) := ⟨_, rfl⟩
 rw [← hy470] at H
 have Ny470 := Aside0.mk hy470
 clear hy470
 obtain rfl := Option.some.inj H
 go_wp2_with (first | ((with_reducible refine gate_builtin (b := .append) (xs := #[.tmp 12, .tmp 16]) rfl ?_); at_builtin; refine Kd.R_append (Kd.int .u8) (w0 := w) w.heap.size rfl (.tmp 12) (.tmp 16) 70 5 (.int .u8 0) 1 rfl Try.underlying70 info5 rfl (by decide) (by omega) v464 t463 (((a1.size : Int)) % 256) [.int .u8 (((a1.size : Int)) % 256)] (fun _ => True) (fun _ => False) rfl rfl ?aP (fun _ hk => hk.elim) ?aF ?aO ?aB ?aS ?aL ?_; (case aP => exact rfl); (case aB => exact (qB HB)); (case aF => exact (fun _ _ => trivial)); (case aO => exact (qR HO465)); (case aS => exact (below_size (qB HB))); (case aL => have := LMc8.out; omega); intro v468 w10 ho hb hg hat; rw [← Ny467.out] at ho; replace HB := am_ (hb); have HO469 := am_ (ho); clear HO465; clear ho hb hg hat) | (at_builtin; refine print_append_str (w0 := w) w.heap.size rfl (.tmp 17) _ 70 9 5 rfl Try.underlying70 Try.underlying9 info5 v468 y467 a1 rfl rfl ?aO ?aB ?aS ?aL ?_; (case aB => exact (qB HB)); (case aO => exact (Kd.own_of_R (qR HO469))); (case aS => exact (below_size (qB HB))); (case aL => have := LMc9.out; omega); intro v471 w11 ho0 hb hg; have ho := Kd.R_of_own (h1 := fun _ => rfl) (ok := fun _ => True) ho0 (fun _ _ => trivial); clear ho0; have hat := True.intro; rw [← Ny470.out] at ho; change Kd.R (Kd.int .u8) 5 w11 w.heap.size (fun _ => True) v471 y470 at ho; replace HB := am_ (hb); have HO472 := am_ (ho); clear HO469; clear ho hb hg hat))
 go_ret
 exact ⟨_, er_, qR HO472, qB HB⟩

end Go.Proofs.Ytiffahfpfgnjnab.PFnExactGetCtl
