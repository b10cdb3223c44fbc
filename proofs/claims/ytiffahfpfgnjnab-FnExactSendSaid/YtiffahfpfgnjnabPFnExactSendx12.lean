-- Written by a program of this session (myprint.py, over the kit's print): contracts of FnExactSend
import Derived.Test.YtiffahfpfgnjnabPFnExactSendx0
import Derived.Test.YtiffahfpfgnjnabPFnExactSendx1
import Derived.Test.YtiffahfpfgnjnabPFnExactSendx10
import Derived.Test.YtiffahfpfgnjnabPFnExactSendx11
namespace Go.Proofs.Ytiffahfpfgnjnab.PFnExactSend
open Go.RowKit Go.Proofs.YtiffahfpfgnjnabW.PrintWords Go.Proofs.YtiffahfpfgnjnabW.PrintLast Go.Proofs.YtiffahfpfgnjnabW.PrintMore Go.Proofs.YtiffahfpfgnjnabV
attribute [local go_sem] max2_int min2_int max_two min_two max_three min_three max_four min_four   -- for this text's walks alone
set_option linter.unusedVariables false
set_option linter.unusedSimpArgs false

attribute [local go_sem high] eqA90
/-! ### impl_AskerOk: function 125 -/
def impl_AskerOk.j0 : Nat → Int → ByteArray → Int → Int → Int → ByteArray → Int → Int → Int → ByteArray → Int → Int → Int → ByteArray → Int → Int → Option (Bool)
 | 0, _, _, _, _, _, _, _, _, _, _, _, _, _, _, _, _ => none
 | k + 1, x434000, x434001, x434002, x434003, x434004, x434005, x434006, x434007, x435000, x435001, x435002, x435003, x435004, x435005, x435006, x435007 => (impl_sockIdOk.f x434000).bind fun t435 => (if t435 = true then (if x434002 = 0 then (some (x434001.toList == ([] : List UInt8) && (x434002 == 0 && (x434003 == 0 && (x434004 == 0 && (x434005.toList == ([] : List UInt8) && (x434006 == 0 && (x434007 == 0)))))))) else ((impl_nameOk.f k x434001).bind fun t436 => (if t436 = true then (if x434002 = 1 then (some (x435000 == 0 && (x435001.toList == ([] : List UInt8) && (x435002 == 0 && (x435003 == 0 && (x435004 == 0 && (x435005.toList == ([] : List UInt8) && (x435006 == 0 && (x435007 == 0))))))))) else (if x434002 = 2 then (if (x435000 == 0 && (x435001.toList == ([] : List UInt8) && (x435002 == 0 && (x435003 == x434003 && (x435004 == x434004 && (x435005.toList == x434005.toList && (x435006 == 0 && (x435007 == 0)))))))) = true then ((impl_wordOk.f x434003).bind fun t437 => (if t437 = true then ((impl_sinceOk.f x434004).bind fun t438 => (if t438 = true then ((impl_TextOk.f k x434005).bind fun t439 => (some t439)) else (some false))) else (some false))) else (some false)) else (if x434002 = 3 then (if (x435000 == 0 && (x435001.toList == ([] : List UInt8) && (x435002 == 0 && (x435003 == 0 && (x435004 == 0 && (x435005.toList == ([] : List UInt8) && (x435006 == x434006 && (x435007 == x434007)))))))) = true then ((impl_sockIdOk.f x434006).bind fun t440 => (if t440 = true then (some (decide (x434007 ≥ 1))) else (some false))) else (some false)) else (if x434002 = 4 then (if (x435000 == 0 && (x435001.toList == ([] : List UInt8) && (x435002 == 0 && (x435003 == 0 && (x435004 == 0 && (x435005.toList == ([] : List UInt8) && (x435006 == x434006 && (x435007 == x434007)))))))) = true then ((impl_sockIdOk.f x434006).bind fun t441 => (if t441 = true then (some (decide (x434007 ≥ 1))) else (some false))) else (some false)) else (some false))))) else (some false)))) else (some false))
def impl_AskerOk.f (k : Nat) (a0_0 : Int) (a0_1 : ByteArray) (a0_2 : Int) (a0_3 : Int) (a0_4 : Int) (a0_5 : ByteArray) (a0_6 : Int) (a0_7 : Int) : Option (Bool) := impl_AskerOk.j0 k a0_0 a0_1 a0_2 a0_3 a0_4 a0_5 a0_6 a0_7 0 (⟨#[]⟩ : ByteArray) 0 a0_3 a0_4 a0_5 a0_6 a0_7
theorem impl_AskerOk.mono_l : ∀ k, (∀ y0 y1 y2 y3 y4 y5 y6 y7 y8 y9 y10 y11 y12 y13 y14 y15, LeO (impl_AskerOk.j0 k y0 y1 y2 y3 y4 y5 y6 y7 y8 y9 y10 y11 y12 y13 y14 y15) (impl_AskerOk.j0 (k + 1) y0 y1 y2 y3 y4 y5 y6 y7 y8 y9 y10 y11 y12 y13 y14 y15))
 | 0 => fun _ _ _ _ _ _ _ _ _ _ _ _ _ _ _ _ r h => by simp [impl_AskerOk.j0] at h
 | k + 1 => by
  have ih0 := impl_AskerOk.mono_l k
  ·
   intro y0 y1 y2 y3 y4 y5 y6 y7 y8 y9 y10 y11 y12 y13 y14 y15
   unfold impl_AskerOk.j0
   repeat' first
   | (with_reducible exact ih0 _ _ _ _ _ _ _ _ _ _ _ _ _ _ _ _)
   | (with_reducible exact impl_TextOk.mono _ _)
   | (with_reducible exact impl_nameOk.mono _ _)
   | (with_reducible exact LeO.refl _)
   | (with_reducible exact LeO.none _)
   | (with_reducible refine LeO.ite ?_ ?_)
   | (with_reducible refine LeO.bind ?_ (fun _ => ?_))
theorem impl_AskerOk.mono : ∀ a0 a1 a2 a3 a4 a5 a6 a7 k, LeO (impl_AskerOk.f k a0 a1 a2 a3 a4 a5 a6 a7) (impl_AskerOk.f (k + 1) a0 a1 a2 a3 a4 a5 a6 a7) := by
 intro a0 a1 a2 a3 a4 a5 a6 a7 k
 have ih0 := impl_AskerOk.mono_l k
 unfold impl_AskerOk.f
 repeat' first
   | (with_reducible exact ih0 _ _ _ _ _ _ _ _ _ _ _ _ _ _ _ _)
   | (with_reducible exact impl_TextOk.mono _ _)
   | (with_reducible exact impl_nameOk.mono _ _)
   | (with_reducible exact LeO.refl _)
   | (with_reducible exact LeO.none _)
   | (with_reducible refine LeO.ite ?_ ?_)
   | (with_reducible refine LeO.bind ?_ (fun _ => ?_))
set_option maxHeartbeats 8000000 in
set_option maxRecDepth 100000 in
theorem impl_AskerOk.calls (k : Nat) (a0_0 : Int) (a0_1 : ByteArray) (a0_2 : Int) (a0_3 : Int) (a0_4 : Int) (a0_5 : ByteArray) (a0_6 : Int) (a0_7 : Int) (r : Bool) (w : World) (h : impl_AskerOk.f k a0_0 a0_1 a0_2 a0_3 a0_4 a0_5 a0_6 a0_7 = some r) :
  Calls Try.prog 125 #[.agg #[.int .i64 a0_0, .string a0_1, .int .i64 a0_2, .int .i64 a0_3, .int .i64 a0_4, .string a0_5, .int .i64 a0_6, .int .i64 a0_7]] w fun e w' => e = .returned (.bool r) ∧ Below w.heap.size w w' := by
 have hu90 := Try.underlying90
 have HB := Aside0.mk (Below.refl w.heap.size w)
 have H := h
 unfold impl_AskerOk.f at H
 clear h
 have HC2 := Aside0.mk H
 clear H
 go_enter Try.func125, Try.ntmps125
 go_upto_region 2 with (first | ((with_reducible refine gate_dst (N := 1) rfl ?_); refine box_event ?hg (N := 1) ?hd (cs := #[.int .i64 a0_0, .string a0_1, .int .i64 a0_2, .int .i64 a0_3, .int .i64 a0_4, .string a0_5, .int .i64 a0_6, .int .i64 a0_7]) (t := 90) ?hr ?_; (case hd => rfl); (case hg => rfl); (case hr => first | (go_simp; done) | (go_simp; rfl)); intro gb433 hg w3 hbox hb; have BK433 := am_ (hbox); have GW433 := gA_ hg HB; have GE433 := GW433; have IGE433 := gI_ GE433; replace HB := bS_ HB hb; clear hb hbox hg; have z4 := cz8 BK433.out; have f4 := fz8 BK433.out) | ((with_reducible refine gate_dst (N := 3) rfl ?_); refine box_event ?hg (N := 3) ?hd (cs := #[.int .i64 0, .string (⟨#[]⟩ : ByteArray), .int .i64 0, .int .i64 0, .int .i64 0, .string (⟨#[]⟩ : ByteArray), .int .i64 0, .int .i64 0]) (t := 90) ?hr ?_; (case hd => rfl); (case hg => rfl); (case hr => first | (go_simp; done) | (go_simp; rfl)); intro gb434 hg w5 hbox hb; have BK434 := am_ (hbox); have GW434 := gA_ hg HB; have GE434 := GW434; have IGE434 := gI_ GE434; replace HB := bS_ HB hb; have NB433_434 := am_ ((gN_ hg (qK BK433))); have NB434_433 := am_ ((gM_ hg (qK BK433))); replace BK433 := bK_ BK433 hb; clear hb hbox hg; have hnb6 := NB434_433.out; have hnc6 := NB433_434.out; have z7 := cz8 BK434.out; have f7 := fz8 BK434.out))
 (try simp only [Act.put, List.setIfInBounds_toArray, List.set_cons_zero, List.set_cons_succ])
 go_cut [] (fun wc => ∃ (kq : Nat) (x435000_1 : Int) (x435001_1 : ByteArray) (x435002_1 : Int), Aside0 (impl_AskerOk.j0 kq a0_0 a0_1 a0_2 a0_3 a0_4 a0_5 a0_6 a0_7 x435000_1 x435001_1 x435002_1 a0_3 a0_4 a0_5 a0_6 a0_7 = some r) ∧ Aside0 (kq ≤ k) ∧ Aside0 (wc.heap[gb433]? = some (.cells #[.int .i64 a0_0, .string a0_1, .int .i64 a0_2, .int .i64 a0_3, .int .i64 a0_4, .string a0_5, .int .i64 a0_6, .int .i64 a0_7] 90 (0, 0))) ∧ Aside0 (wc.heap[gb434]? = some (.cells #[.int .i64 x435000_1, .string x435001_1, .int .i64 x435002_1, .int .i64 a0_3, .int .i64 a0_4, .string a0_5, .int .i64 a0_6, .int .i64 a0_7] 90 (0, 0))) ∧ Aside0 (Below w.heap.size w wc))
 case first =>
  have H := HC2.out
  clear HC2
  have H' := Aside0.mk H
  clear H
  have hnb8 := NB434_433.out
  have hnc8 := NB433_434.out
  have z9 := cz8 BK434.out
  have f9 := fz8 BK434.out
  go_wp2_with (first | ((with_reducible refine gate_store (t := 3) (p := 5) rfl ?_); refine store_event (t := 3) (p := 5) (v := ?vo_w10) (w1 := (((((((((w5.setCell ⟨gb434, 0, none⟩ (.int .i64 a0_0)).setCell ⟨gb434, 1, none⟩ (.string a0_1)).setCell ⟨gb434, 2, none⟩ (.int .i64 a0_2)).setCell ⟨gb434, 3, none⟩ (.int .i64 a0_3)).setCell ⟨gb434, 4, none⟩ (.int .i64 a0_4)).setCell ⟨gb434, 5, none⟩ (.string a0_5)).setCell ⟨gb434, 6, none⟩ (.int .i64 a0_6)).setCell ⟨gb434, 7, none⟩ (.int .i64 a0_7)).setCell ⟨gb434, 0, none⟩ (.int .i64 0))) ?hg ?ho ?hn ?hr ?_; (case ho => rfl); (case hg => rfl); (case hn => rfl); (case hr => first | (go_simp; done) | (go_simp; rfl)); intro w10 hw; have n0_ : Aside0 (w10.heap[gb433]? = some (.cells #[.int .i64 a0_0, .string a0_1, .int .i64 a0_2, .int .i64 a0_3, .int .i64 a0_4, .string a0_5, .int .i64 a0_6, .int .i64 a0_7] 90 (0, 0))) := ⟨(by rw [hw]; exact (by (with_reducible repeat (first | refine blk_drewN ?_ _ | refine blk_drew ?_ | refine blk_alloc ?_ _)); refine blk_far9 ?_ NB433_434.out; exact qK BK433))⟩; have n1_ : Aside0 (w10.heap[gb434]? = some (.cells #[.int .i64 0, .string a0_1, .int .i64 a0_2, .int .i64 a0_3, .int .i64 a0_4, .string a0_5, .int .i64 a0_6, .int .i64 a0_7] 90 (0, 0))) := ⟨(by rw [hw]; exact (by (with_reducible repeat (first | refine blk_drewN ?_ _ | refine blk_drew ?_ | refine blk_alloc ?_ _)); refine blk_put (cs := #[.int .i64 a0_0, .string a0_1, .int .i64 a0_2, .int .i64 a0_3, .int .i64 a0_4, .string a0_5, .int .i64 a0_6, .int .i64 a0_7]) ?_ 0 _ rfl; (with_reducible repeat (first | refine blk_drewN ?_ _ | refine blk_drew ?_ | refine blk_alloc ?_ _)); refine blk_put (cs := #[.int .i64 a0_0, .string a0_1, .int .i64 a0_2, .int .i64 a0_3, .int .i64 a0_4, .string a0_5, .int .i64 a0_6, .int .i64 0]) ?_ 7 _ rfl; (with_reducible repeat (first | refine blk_drewN ?_ _ | refine blk_drew ?_ | refine blk_alloc ?_ _)); refine blk_put (cs := #[.int .i64 a0_0, .string a0_1, .int .i64 a0_2, .int .i64 a0_3, .int .i64 a0_4, .string a0_5, .int .i64 0, .int .i64 0]) ?_ 6 _ rfl; (with_reducible repeat (first | refine blk_drewN ?_ _ | refine blk_drew ?_ | refine blk_alloc ?_ _)); refine blk_put (cs := #[.int .i64 a0_0, .string a0_1, .int .i64 a0_2, .int .i64 a0_3, .int .i64 a0_4, .string (⟨#[]⟩ : ByteArray), .int .i64 0, .int .i64 0]) ?_ 5 _ rfl; (with_reducible repeat (first | refine blk_drewN ?_ _ | refine blk_drew ?_ | refine blk_alloc ?_ _)); refine blk_put (cs := #[.int .i64 a0_0, .string a0_1, .int .i64 a0_2, .int .i64 a0_3, .int .i64 0, .string (⟨#[]⟩ : ByteArray), .int .i64 0, .int .i64 0]) ?_ 4 _ rfl; (with_reducible repeat (first | refine blk_drewN ?_ _ | refine blk_drew ?_ | refine blk_alloc ?_ _)); refine blk_put (cs := #[.int .i64 a0_0, .string a0_1, .int .i64 a0_2, .int .i64 0, .int .i64 0, .string (⟨#[]⟩ : ByteArray), .int .i64 0, .int .i64 0]) ?_ 3 _ rfl; (with_reducible repeat (first | refine blk_drewN ?_ _ | refine blk_drew ?_ | refine blk_alloc ?_ _)); refine blk_put (cs := #[.int .i64 a0_0, .string a0_1, .int .i64 0, .int .i64 0, .int .i64 0, .string (⟨#[]⟩ : ByteArray), .int .i64 0, .int .i64 0]) ?_ 2 _ rfl; (with_reducible repeat (first | refine blk_drewN ?_ _ | refine blk_drew ?_ | refine blk_alloc ?_ _)); refine blk_put (cs := #[.int .i64 a0_0, .string (⟨#[]⟩ : ByteArray), .int .i64 0, .int .i64 0, .int .i64 0, .string (⟨#[]⟩ : ByteArray), .int .i64 0, .int .i64 0]) ?_ 1 _ rfl; (with_reducible repeat (first | refine blk_drewN ?_ _ | refine blk_drew ?_ | refine blk_alloc ?_ _)); refine blk_put (cs := #[.int .i64 0, .string (⟨#[]⟩ : ByteArray), .int .i64 0, .int .i64 0, .int .i64 0, .string (⟨#[]⟩ : ByteArray), .int .i64 0, .int .i64 0]) ?_ 0 _ rfl; exact qK BK434))⟩; have n2_ : Aside0 (Below w.heap.size w w10) := ⟨(by rw [hw]; exact (qB HB))⟩; clear hw; clear BK433; clear BK434; clear HB; have BK433 := n0_; have BK434 := n1_; have HB := n2_; clear n0_ n1_ n2_; have z11 := cz8 BK434.out; have f11 := fz8 BK434.out))
  go_meet
  case rel => exact ⟨_, (0), ((⟨#[]⟩ : ByteArray)), (0), H', ⟨by first | omega | exact Nat.le_refl _⟩, ⟨by (with_reducible repeat (first | refine blk_drewN ?_ _ | refine blk_drew ?_ | refine blk_alloc ?_ _)); refine blk_far2 ?_ NB433_434.out; exact qK BK433⟩, ⟨by (with_reducible repeat (first | refine blk_drewN ?_ _ | refine blk_drew ?_ | refine blk_alloc ?_ _)); refine blk_put (cs := #[.int .i64 0, .string a0_1, .int .i64 0, .int .i64 a0_3, .int .i64 a0_4, .string a0_5, .int .i64 a0_6, .int .i64 a0_7]) ?_ 1 _ rfl; (with_reducible repeat (first | refine blk_drewN ?_ _ | refine blk_drew ?_ | refine blk_alloc ?_ _)); refine blk_put (cs := #[.int .i64 0, .string a0_1, .int .i64 a0_2, .int .i64 a0_3, .int .i64 a0_4, .string a0_5, .int .i64 a0_6, .int .i64 a0_7]) ?_ 2 _ rfl; exact qK BK434⟩, ⟨qB HB⟩⟩
 case rest =>
  clear HC2
  try clear c1
  try clear p2
  try clear c6
  try clear c8
  (try clear z11)
  (try clear z4)
  (try clear z7)
  (try clear z9)
  (try clear f11)
  (try clear f4)
  (try clear f7)
  (try clear f9)
  obtain ⟨kq, x435000_1, x435001_1, x435002_1, HA, HJ1, BK433, BK434, HB⟩ := hcut
  cases kq with
  | zero => exact absurd HA.out (by simp [impl_AskerOk.j0])
  | succ kj1 =>
   have H := HA.out
   clear HA
   simp only [impl_AskerOk.j0] at H
   replace H := bd_ H
   obtain ⟨t435, A12, H⟩ := H
   have HC13 := Aside0.mk H
   clear H
   have hnb14 := NB433_434.out
   have hnc14 := NB434_433.out
   have z15 := cz8 BK433.out
   go_upto_if 11 with (first | ((with_reducible refine gate_callee (f := 135) rfl ?_); refine goesL_ (some 10) rfl rfl Try.func135 (by kernel_rfl) rfl #[.int .i64 a0_0] rfl la_ ?_; (with_reducible refine (impl_sockIdOk.calls a0_0 t435 _ A12.out).mono ?_); rintro e w' ⟨rfl, ⟨nd, rfl⟩⟩; refine ⟨_, rfl, ?_⟩))
   (try simp only [Act.put, List.setIfInBounds_toArray, List.set_cons_zero, List.set_cons_succ])
   (try (rw [drewN_self wc]; generalize hq_ : World.drewN wc _ = wc; have n0_ : Aside0 (wc.heap[gb433]? = some (.cells #[.int .i64 a0_0, .string a0_1, .int .i64 a0_2, .int .i64 a0_3, .int .i64 a0_4, .string a0_5, .int .i64 a0_6, .int .i64 a0_7] 90 (0, 0))) := ⟨by rw [← hq_]; exact (qK BK433)⟩; have n1_ : Aside0 (wc.heap[gb434]? = some (.cells #[.int .i64 x435000_1, .string x435001_1, .int .i64 x435002_1, .int .i64 a0_3, .int .i64 a0_4, .string a0_5, .int .i64 a0_6, .int .i64 a0_7] 90 (0, 0))) := ⟨by rw [← hq_]; exact (qK BK434)⟩; have n2_ : Aside0 (Below w.heap.size w wc) := ⟨by rw [← hq_]; exact (qB HB)⟩; clear BK433 BK434 HB hq_; have BK433 := n0_; have BK434 := n1_; have HB := n2_; clear n0_ n1_ n2_))
   have H := HC13.out
   clear HC13
   by_cases c16 : t435 = true
   rotate_left
   ·
    replace c16 := Bool.eq_false_iff.mpr c16
    subst c16
    rw [if_neg (show ¬ (false = true) by decide)] at H
    obtain rfl := Option.some.inj H
    go_wp2
    go_ret
    exact ⟨er_, qB HB⟩
   subst c16
   rw [if_pos rfl] at H
   by_cases c17 : a0_2 = 0
   ·
    rw [if_pos c17] at H
    have c17b0 : (a0_2 == 0) = true := beq_iff_eq.mpr c17
    have c17b1 : (a0_2 != 0) = false := bne_eq_false_iff_eq.mpr c17
    clear c17
    (first | rw [c17b0] | rw [c17b1] | (simp only [i64_w, i32_w]; rw [c17b0]) | skip)
    obtain rfl := Option.some.inj H
    have hnb18 := NB433_434.out
    have hnc18 := NB434_433.out
    have z19 := cz8 BK433.out
    go_wp2
    go_ret
    exact ⟨er_, qB HB⟩
   rw [if_neg c17] at H
   have c17b0 : (a0_2 == 0) = false := beq_eq_false_iff_ne.mpr c17
   have c17b1 : (a0_2 != 0) = true := bne_iff_ne.mpr c17
   (first | rw [c17b0] | rw [c17b1] | (simp only [i64_w, i32_w]; rw [c17b0]) | skip)
   replace H := bd_ H
   obtain ⟨t436, A20, H⟩ := H
   have HC21 := Aside0.mk H
   clear H
   have hnb22 := NB433_434.out
   have hnc22 := NB434_433.out
   have z23 := cz8 BK433.out
   go_upto_if 23 with (first | ((with_reducible refine gate_callee (f := 136) rfl ?_); refine goesL_ (some 22) rfl rfl Try.func136 (by kernel_rfl) rfl #[.string a0_1] rfl la_ ?_; (with_reducible refine (impl_nameOk.calls kj1 a0_1 t436 _ A20.out).mono ?_); rintro e w' ⟨rfl, ⟨nd, rfl⟩⟩; refine ⟨_, rfl, ?_⟩))
   (try simp only [Act.put, List.setIfInBounds_toArray, List.set_cons_zero, List.set_cons_succ])
   (try (rw [drewN_self wc]; generalize hq_ : World.drewN wc _ = wc; have n0_ : Aside0 (wc.heap[gb433]? = some (.cells #[.int .i64 a0_0, .string a0_1, .int .i64 a0_2, .int .i64 a0_3, .int .i64 a0_4, .string a0_5, .int .i64 a0_6, .int .i64 a0_7] 90 (0, 0))) := ⟨by rw [← hq_]; exact (qK BK433)⟩; have n1_ : Aside0 (wc.heap[gb434]? = some (.cells #[.int .i64 x435000_1, .string x435001_1, .int .i64 x435002_1, .int .i64 a0_3, .int .i64 a0_4, .string a0_5, .int .i64 a0_6, .int .i64 a0_7] 90 (0, 0))) := ⟨by rw [← hq_]; exact (qK BK434)⟩; have n2_ : Aside0 (Below w.heap.size w wc) := ⟨by rw [← hq_]; exact (qB HB)⟩; clear BK433 BK434 HB hq_; have BK433 := n0_; have BK434 := n1_; have HB := n2_; clear n0_ n1_ n2_))
   have H := HC21.out
   clear HC21
   by_cases c24 : t436 = true
   rotate_left
   ·
    replace c24 := Bool.eq_false_iff.mpr c24
    subst c24
    rw [if_neg (show ¬ (false = true) by decide)] at H
    obtain rfl := Option.some.inj H
    go_wp2
    go_ret
    exact ⟨er_, qB HB⟩
   subst c24
   rw [if_pos rfl] at H
   by_cases c25 : a0_2 = 1
   ·
    rw [if_pos c25] at H
    have c25b0 : (a0_2 == 1) = true := beq_iff_eq.mpr c25
    have c25b1 : (a0_2 != 1) = false := bne_eq_false_iff_eq.mpr c25
    clear c25
    (first | rw [c25b0] | rw [c25b1] | (simp only [i64_w, i32_w]; rw [c25b0]) | skip)
    obtain rfl := Option.some.inj H
    have hnb26 := NB433_434.out
    have hnc26 := NB434_433.out
    have z27 := cz8 BK433.out
    have z28 := cz8 BK434.out
    go_wp2
    go_ret
    exact ⟨er_, qB HB⟩
   rw [if_neg c25] at H
   have c25b0 : (a0_2 == 1) = false := beq_eq_false_iff_ne.mpr c25
   have c25b1 : (a0_2 != 1) = true := bne_iff_ne.mpr c25
   (first | rw [c25b0] | rw [c25b1] | (simp only [i64_w, i32_w]; rw [c25b0]) | skip)
   by_cases c29 : a0_2 = 2
   ·
    rw [if_pos c29] at H
    have c29b0 : (a0_2 == 2) = true := beq_iff_eq.mpr c29
    have c29b1 : (a0_2 != 2) = false := bne_eq_false_iff_eq.mpr c29
    clear c29
    by_cases c30 : (x435000_1 == 0 && (x435001_1.toList == ([] : List UInt8) && (x435002_1 == 0 && (a0_3 == a0_3 && (a0_4 == a0_4 && (a0_5.toList == a0_5.toList && (a0_6 == 0 && (a0_7 == 0)))))))) = true
    rotate_left
    ·
     rw [if_neg c30] at H
     have c30b0 : (x435000_1 == 0 && (x435001_1.toList == ([] : List UInt8) && (x435002_1 == 0 && (a0_3 == a0_3 && (a0_4 == a0_4 && (a0_5.toList == a0_5.toList && (a0_6 == 0 && (a0_7 == 0)))))))) = false := by simpa using c30
     (try (have c30b0e := c30b0; simp only [beq_nil, bne_nil] at c30b0e))
     (try simp only [beq_self_eq_true, Bool.true_and, Bool.and_true, beq_nil] at c30b0)
     (try (have c30b1 : decide (x435000_1 = 0 && (x435001_1.toList == ([] : List UInt8) && (x435002_1 == 0 && (a0_3 == a0_3 && (a0_4 == a0_4 && (a0_5.toList == a0_5.toList && (a0_6 == 0 && (a0_7 == 0)))))))) = false := by simpa using c30))
     (try (have c30b1e := c30b1; simp only [beq_nil, bne_nil] at c30b1e))
     (try simp only [beq_self_eq_true, Bool.true_and, Bool.and_true, beq_nil] at c30b1)
     (try (have c30b2 : (x435000_1 == 0 && (x435001_1.toList == ([] : List UInt8) && (x435002_1 == 0 && (a0_3 == a0_3 && (a0_4 == a0_4 && (a0_5.toList == a0_5.toList && (a0_6 == 0 && (a0_7 == 0)))))))) = false := by simpa using c30))
     (try (have c30b2e := c30b2; simp only [beq_nil, bne_nil] at c30b2e))
     (try simp only [beq_self_eq_true, Bool.true_and, Bool.and_true, beq_nil] at c30b2)
     (try (have c30b3 : ¬ (x435000_1 = 0 && (x435001_1.toList == ([] : List UInt8) && (x435002_1 == 0 && (a0_3 == a0_3 && (a0_4 == a0_4 && (a0_5.toList == a0_5.toList && (a0_6 == 0 && (a0_7 == 0)))))))) := by simpa using c30))
     (try (have c30b3e := c30b3; simp only [beq_nil, bne_nil] at c30b3e))
     (try simp only [beq_self_eq_true, Bool.true_and, Bool.and_true, beq_nil] at c30b3)
     clear c30
     obtain rfl := Option.some.inj H
     have hnb45 := NB433_434.out
     have hnc45 := NB434_433.out
     have z46 := cz8 BK433.out
     have z47 := cz8 BK434.out
     go_wp2
     go_ret
     exact ⟨er_, qB HB⟩
    rw [if_pos c30] at H
    have c30b0 : (x435000_1 == 0 && (x435001_1.toList == ([] : List UInt8) && (x435002_1 == 0 && (a0_3 == a0_3 && (a0_4 == a0_4 && (a0_5.toList == a0_5.toList && (a0_6 == 0 && (a0_7 == 0)))))))) = true := c30
    (try (have c30b0e := c30b0; simp only [beq_nil, bne_nil] at c30b0e))
    (try simp only [beq_self_eq_true, Bool.true_and, Bool.and_true, beq_nil] at c30b0)
    (try (have c30b1 : decide (x435000_1 = 0 && (x435001_1.toList == ([] : List UInt8) && (x435002_1 == 0 && (a0_3 == a0_3 && (a0_4 == a0_4 && (a0_5.toList == a0_5.toList && (a0_6 == 0 && (a0_7 == 0)))))))) = true := by simpa using c30))
    (try (have c30b1e := c30b1; simp only [beq_nil, bne_nil] at c30b1e))
    (try simp only [beq_self_eq_true, Bool.true_and, Bool.and_true, beq_nil] at c30b1)
    (try (have c30b2 : (x435000_1 == 0 && (x435001_1.toList == ([] : List UInt8) && (x435002_1 == 0 && (a0_3 == a0_3 && (a0_4 == a0_4 && (a0_5.toList == a0_5.toList && (a0_6 == 0 && (a0_7 == 0)))))))) = true := by simpa using c30))
    (try (have c30b2e := c30b2; simp only [beq_nil, bne_nil] at c30b2e))
    (try simp only [beq_self_eq_true, Bool.true_and, Bool.and_true, beq_nil] at c30b2)
    clear c30
    replace H := bd_ H
    obtain ⟨t437, A31, H⟩ := H
    by_cases c32 : t437 = true
    rotate_left
    ·
     replace c32 := Bool.eq_false_iff.mpr c32
     subst c32
     rw [if_neg (show ¬ (false = true) by decide)] at H
     obtain rfl := Option.some.inj H
     have hnb42 := NB433_434.out
     have hnc42 := NB434_433.out
     have z43 := cz8 BK433.out
     have z44 := cz8 BK434.out
     go_wp2_with (first | (go_at_call 111; (with_reducible refine (impl_wordOk.calls a0_3 false _ A31.out).mono ?_); rintro e w' ⟨rfl, ⟨nd, rfl⟩⟩))
     go_ret
     exact ⟨er_, qB HB⟩
    subst c32
    rw [if_pos rfl] at H
    replace H := bd_ H
    obtain ⟨t438, A33, H⟩ := H
    by_cases c34 : t438 = true
    rotate_left
    ·
     replace c34 := Bool.eq_false_iff.mpr c34
     subst c34
     rw [if_neg (show ¬ (false = true) by decide)] at H
     obtain rfl := Option.some.inj H
     have hnb39 := NB433_434.out
     have hnc39 := NB434_433.out
     have z40 := cz8 BK433.out
     have z41 := cz8 BK434.out
     go_wp2_with (first | (go_at_call 111; (with_reducible refine (impl_wordOk.calls a0_3 true _ A31.out).mono ?_); rintro e w' ⟨rfl, ⟨nd, rfl⟩⟩) | (go_at_call 137; (with_reducible refine (impl_sinceOk.calls a0_4 false _ A33.out).mono ?_); rintro e w' ⟨rfl, ⟨nd, rfl⟩⟩))
     go_ret
     exact ⟨er_, qB HB⟩
    subst c34
    rw [if_pos rfl] at H
    replace H := bd_ H
    obtain ⟨t439, A35, H⟩ := H
    obtain rfl := Option.some.inj H
    have hnb36 := NB433_434.out
    have hnc36 := NB434_433.out
    have z37 := cz8 BK433.out
    have z38 := cz8 BK434.out
    go_wp2_with (first | (go_at_call 111; (with_reducible refine (impl_wordOk.calls a0_3 true _ A31.out).mono ?_); rintro e w' ⟨rfl, ⟨nd, rfl⟩⟩) | (go_at_call 137; (with_reducible refine (impl_sinceOk.calls a0_4 true _ A33.out).mono ?_); rintro e w' ⟨rfl, ⟨nd, rfl⟩⟩) | (go_at_call 138; (with_reducible refine (impl_TextOk.calls kj1 a0_5 t439 _ A35.out).mono ?_); rintro e w' ⟨rfl, ⟨nd, rfl⟩⟩))
    go_ret
    exact ⟨er_, qB HB⟩
   rw [if_neg c29] at H
   have c29b0 : (a0_2 == 2) = false := beq_eq_false_iff_ne.mpr c29
   have c29b1 : (a0_2 != 2) = true := bne_iff_ne.mpr c29
   by_cases c48 : a0_2 = 3
   ·
    rw [if_pos c48] at H
    have c48b0 : (a0_2 == 3) = true := beq_iff_eq.mpr c48
    have c48b1 : (a0_2 != 3) = false := bne_eq_false_iff_eq.mpr c48
    clear c48
    by_cases c49 : (x435000_1 == 0 && (x435001_1.toList == ([] : List UInt8) && (x435002_1 == 0 && (a0_3 == 0 && (a0_4 == 0 && (a0_5.toList == ([] : List UInt8) && (a0_6 == a0_6 && (a0_7 == a0_7)))))))) = true
    rotate_left
    ·
     rw [if_neg c49] at H
     have c49b0 : (x435000_1 == 0 && (x435001_1.toList == ([] : List UInt8) && (x435002_1 == 0 && (a0_3 == 0 && (a0_4 == 0 && (a0_5.toList == ([] : List UInt8) && (a0_6 == a0_6 && (a0_7 == a0_7)))))))) = false := by simpa using c49
     (try (have c49b0e := c49b0; simp only [beq_nil, bne_nil] at c49b0e))
     (try simp only [beq_self_eq_true, Bool.true_and, Bool.and_true, beq_nil] at c49b0)
     (try (have c49b1 : decide (x435000_1 = 0 && (x435001_1.toList == ([] : List UInt8) && (x435002_1 == 0 && (a0_3 == 0 && (a0_4 == 0 && (a0_5.toList == ([] : List UInt8) && (a0_6 == a0_6 && (a0_7 == a0_7)))))))) = false := by simpa using c49))
     (try (have c49b1e := c49b1; simp only [beq_nil, bne_nil] at c49b1e))
     (try simp only [beq_self_eq_true, Bool.true_and, Bool.and_true, beq_nil] at c49b1)
     (try (have c49b2 : (x435000_1 == 0 && (x435001_1.toList == ([] : List UInt8) && (x435002_1 == 0 && (a0_3 == 0 && (a0_4 == 0 && (a0_5.toList == ([] : List UInt8) && (a0_6 == a0_6 && (a0_7 == a0_7)))))))) = false := by simpa using c49))
     (try (have c49b2e := c49b2; simp only [beq_nil, bne_nil] at c49b2e))
     (try simp only [beq_self_eq_true, Bool.true_and, Bool.and_true, beq_nil] at c49b2)
     (try (have c49b3 : ¬ (x435000_1 = 0 && (x435001_1.toList == ([] : List UInt8) && (x435002_1 == 0 && (a0_3 == 0 && (a0_4 == 0 && (a0_5.toList == ([] : List UInt8) && (a0_6 == a0_6 && (a0_7 == a0_7)))))))) := by simpa using c49))
     (try (have c49b3e := c49b3; simp only [beq_nil, bne_nil] at c49b3e))
     (try simp only [beq_self_eq_true, Bool.true_and, Bool.and_true, beq_nil] at c49b3)
     clear c49
     obtain rfl := Option.some.inj H
     have hnb58 := NB433_434.out
     have hnc58 := NB434_433.out
     have z59 := cz8 BK433.out
     have z60 := cz8 BK434.out
     go_wp2
     go_ret
     exact ⟨er_, qB HB⟩
    rw [if_pos c49] at H
    have c49b0 : (x435000_1 == 0 && (x435001_1.toList == ([] : List UInt8) && (x435002_1 == 0 && (a0_3 == 0 && (a0_4 == 0 && (a0_5.toList == ([] : List UInt8) && (a0_6 == a0_6 && (a0_7 == a0_7)))))))) = true := c49
    (try (have c49b0e := c49b0; simp only [beq_nil, bne_nil] at c49b0e))
    (try simp only [beq_self_eq_true, Bool.true_and, Bool.and_true, beq_nil] at c49b0)
    (try (have c49b1 : decide (x435000_1 = 0 && (x435001_1.toList == ([] : List UInt8) && (x435002_1 == 0 && (a0_3 == 0 && (a0_4 == 0 && (a0_5.toList == ([] : List UInt8) && (a0_6 == a0_6 && (a0_7 == a0_7)))))))) = true := by simpa using c49))
    (try (have c49b1e := c49b1; simp only [beq_nil, bne_nil] at c49b1e))
    (try simp only [beq_self_eq_true, Bool.true_and, Bool.and_true, beq_nil] at c49b1)
    (try (have c49b2 : (x435000_1 == 0 && (x435001_1.toList == ([] : List UInt8) && (x435002_1 == 0 && (a0_3 == 0 && (a0_4 == 0 && (a0_5.toList == ([] : List UInt8) && (a0_6 == a0_6 && (a0_7 == a0_7)))))))) = true := by simpa using c49))
    (try (have c49b2e := c49b2; simp only [beq_nil, bne_nil] at c49b2e))
    (try simp only [beq_self_eq_true, Bool.true_and, Bool.and_true, beq_nil] at c49b2)
    clear c49
    replace H := bd_ H
    obtain ⟨t440, A50, H⟩ := H
    by_cases c51 : t440 = true
    ·
     subst c51
     rw [if_pos rfl] at H
     obtain rfl := Option.some.inj H
     have hnb52 := NB433_434.out
     have hnc52 := NB434_433.out
     have z53 := cz8 BK433.out
     have z54 := cz8 BK434.out
     go_wp2_with (first | (go_at_call 135; (with_reducible refine (impl_sockIdOk.calls a0_6 true _ A50.out).mono ?_); rintro e w' ⟨rfl, ⟨nd, rfl⟩⟩))
     go_ret
     exact ⟨er_, qB HB⟩
    replace c51 := Bool.eq_false_iff.mpr c51
    subst c51
    rw [if_neg (show ¬ (false = true) by decide)] at H
    obtain rfl := Option.some.inj H
    have hnb55 := NB433_434.out
    have hnc55 := NB434_433.out
    have z56 := cz8 BK433.out
    have z57 := cz8 BK434.out
    go_wp2_with (first | (go_at_call 135; (with_reducible refine (impl_sockIdOk.calls a0_6 false _ A50.out).mono ?_); rintro e w' ⟨rfl, ⟨nd, rfl⟩⟩))
    go_ret
    exact ⟨er_, qB HB⟩
   rw [if_neg c48] at H
   have c48b0 : (a0_2 == 3) = false := beq_eq_false_iff_ne.mpr c48
   have c48b1 : (a0_2 != 3) = true := bne_iff_ne.mpr c48
   by_cases c61 : a0_2 = 4
   rotate_left
   ·
    rw [if_neg c61] at H
    have c61b0 : (a0_2 == 4) = false := beq_eq_false_iff_ne.mpr c61
    have c61b1 : (a0_2 != 4) = true := bne_iff_ne.mpr c61
    obtain rfl := Option.some.inj H
    have hnb74 := NB433_434.out
    have hnc74 := NB434_433.out
    have z75 := cz8 BK433.out
    go_wp2
    go_ret
    exact ⟨er_, qB HB⟩
   rw [if_pos c61] at H
   have c61b0 : (a0_2 == 4) = true := beq_iff_eq.mpr c61
   have c61b1 : (a0_2 != 4) = false := bne_eq_false_iff_eq.mpr c61
   clear c61
   by_cases c62 : (x435000_1 == 0 && (x435001_1.toList == ([] : List UInt8) && (x435002_1 == 0 && (a0_3 == 0 && (a0_4 == 0 && (a0_5.toList == ([] : List UInt8) && (a0_6 == a0_6 && (a0_7 == a0_7)))))))) = true
   rotate_left
   ·
    rw [if_neg c62] at H
    have c62b0 : (x435000_1 == 0 && (x435001_1.toList == ([] : List UInt8) && (x435002_1 == 0 && (a0_3 == 0 && (a0_4 == 0 && (a0_5.toList == ([] : List UInt8) && (a0_6 == a0_6 && (a0_7 == a0_7)))))))) = false := by simpa using c62
    (try (have c62b0e := c62b0; simp only [beq_nil, bne_nil] at c62b0e))
    (try simp only [beq_self_eq_true, Bool.true_and, Bool.and_true, beq_nil] at c62b0)
    (try (have c62b1 : decide (x435000_1 = 0 && (x435001_1.toList == ([] : List UInt8) && (x435002_1 == 0 && (a0_3 == 0 && (a0_4 == 0 && (a0_5.toList == ([] : List UInt8) && (a0_6 == a0_6 && (a0_7 == a0_7)))))))) = false := by simpa using c62))
    (try (have c62b1e := c62b1; simp only [beq_nil, bne_nil] at c62b1e))
    (try simp only [beq_self_eq_true, Bool.true_and, Bool.and_true, beq_nil] at c62b1)
    (try (have c62b2 : (x435000_1 == 0 && (x435001_1.toList == ([] : List UInt8) && (x435002_1 == 0 && (a0_3 == 0 && (a0_4 == 0 && (a0_5.toList == ([] : List UInt8) && (a0_6 == a0_6 && (a0_7 == a0_7)))))))) = false := by simpa using c62))
    (try (have c62b2e := c62b2; simp only [beq_nil, bne_nil] at c62b2e))
    (try simp only [beq_self_eq_true, Bool.true_and, Bool.and_true, beq_nil] at c62b2)
    (try (have c62b3 : ¬ (x435000_1 = 0 && (x435001_1.toList == ([] : List UInt8) && (x435002_1 == 0 && (a0_3 == 0 && (a0_4 == 0 && (a0_5.toList == ([] : List UInt8) && (a0_6 == a0_6 && (a0_7 == a0_7)))))))) := by simpa using c62))
    (try (have c62b3e := c62b3; simp only [beq_nil, bne_nil] at c62b3e))
    (try simp only [beq_self_eq_true, Bool.true_and, Bool.and_true, beq_nil] at c62b3)
    clear c62
    obtain rfl := Option.some.inj H
    have hnb71 := NB433_434.out
    have hnc71 := NB434_433.out
    have z72 := cz8 BK433.out
    have z73 := cz8 BK434.out
    go_wp2
    go_ret
    exact ⟨er_, qB HB⟩
   rw [if_pos c62] at H
   have c62b0 : (x435000_1 == 0 && (x435001_1.toList == ([] : List UInt8) && (x435002_1 == 0 && (a0_3 == 0 && (a0_4 == 0 && (a0_5.toList == ([] : List UInt8) && (a0_6 == a0_6 && (a0_7 == a0_7)))))))) = true := c62
   (try (have c62b0e := c62b0; simp only [beq_nil, bne_nil] at c62b0e))
   (try simp only [beq_self_eq_true, Bool.true_and, Bool.and_true, beq_nil] at c62b0)
   (try (have c62b1 : decide (x435000_1 = 0 && (x435001_1.toList == ([] : List UInt8) && (x435002_1 == 0 && (a0_3 == 0 && (a0_4 == 0 && (a0_5.toList == ([] : List UInt8) && (a0_6 == a0_6 && (a0_7 == a0_7)))))))) = true := by simpa using c62))
   (try (have c62b1e := c62b1; simp only [beq_nil, bne_nil] at c62b1e))
   (try simp only [beq_self_eq_true, Bool.true_and, Bool.and_true, beq_nil] at c62b1)
   (try (have c62b2 : (x435000_1 == 0 && (x435001_1.toList == ([] : List UInt8) && (x435002_1 == 0 && (a0_3 == 0 && (a0_4 == 0 && (a0_5.toList == ([] : List UInt8) && (a0_6 == a0_6 && (a0_7 == a0_7)))))))) = true := by simpa using c62))
   (try (have c62b2e := c62b2; simp only [beq_nil, bne_nil] at c62b2e))
   (try simp only [beq_self_eq_true, Bool.true_and, Bool.and_true, beq_nil] at c62b2)
   clear c62
   replace H := bd_ H
   obtain ⟨t441, A63, H⟩ := H
   by_cases c64 : t441 = true
   ·
    subst c64
    rw [if_pos rfl] at H
    obtain rfl := Option.some.inj H
    have hnb65 := NB433_434.out
    have hnc65 := NB434_433.out
    have z66 := cz8 BK433.out
    have z67 := cz8 BK434.out
    go_wp2_with (first | (go_at_call 135; (with_reducible refine (impl_sockIdOk.calls a0_6 true _ A63.out).mono ?_); rintro e w' ⟨rfl, ⟨nd, rfl⟩⟩))
    go_ret
    exact ⟨er_, qB HB⟩
   replace c64 := Bool.eq_false_iff.mpr c64
   subst c64
   rw [if_neg (show ¬ (false = true) by decide)] at H
   obtain rfl := Option.some.inj H
   have hnb68 := NB433_434.out
   have hnc68 := NB434_433.out
   have z69 := cz8 BK433.out
   have z70 := cz8 BK434.out
   go_wp2_with (first | (go_at_call 135; (with_reducible refine (impl_sockIdOk.calls a0_6 false _ A63.out).mono ?_); rintro e w' ⟨rfl, ⟨nd, rfl⟩⟩))
   go_ret
   exact ⟨er_, qB HB⟩

/-! ### impl_PutText: function 126 -/
def impl_PutText.f (k : Nat) (l0 : List Int) (a1 : ByteArray) : Option (List Int) := (slices_Clone_byte.f l0).bind fun t442 => ((impl_TextOk.f k a1).bind fun t445 => (if t445 = true then (if t442.length < 140737488355328 then ((some (t442 ++ [((a1.size : Int)) % 256] : List Int)).bind fun y446 => (if y446.length + a1.size < 140737488355328 then (some (y446 ++ bytesOf a1)) else (none))) else (none)) else (some t442)))
theorem impl_PutText.mono : ∀ a0 a1 k, LeO (impl_PutText.f k a0 a1) (impl_PutText.f (k + 1) a0 a1) := by
 intro a0 a1 k
 unfold impl_PutText.f
 repeat' first
   | (with_reducible exact impl_TextOk.mono _ _)
   | (with_reducible exact LeO.refl _)
   | (with_reducible exact LeO.none _)
   | (with_reducible refine LeO.ite ?_ ?_)
   | (with_reducible refine LeO.bind ?_ (fun _ => ?_))
set_option maxHeartbeats 8000000 in
set_option maxRecDepth 100000 in
theorem impl_PutText.calls (k : Nat) (A0 : Option Addr) (c0 : Nat) (l0 : List Int) (a1 : ByteArray) (r : List Int) (w : World) (hr0 : Kd.C (Kd.int .u8) w A0 l0.length l0) (hc0 : l0.length ≤ c0) (h : impl_PutText.f k l0 a1 = some r) :
  Calls Try.prog 126 #[.slice A0 l0.length c0, .string a1] w fun e w' => ∃ v0_ : Value, e = .returned (v0_) ∧ Kd.R (Kd.int .u8) 5 w' w.heap.size (fun _ => True) v0_ r ∧ Below w.heap.size w w' := by
 have HR0 := Aside0.mk hr0
 have HC0 := Aside0.mk hc0
 clear hr0 hc0
 have HB := Aside0.mk (Below.refl w.heap.size w)
 have H := h
 unfold impl_PutText.f at H
 clear h
 replace H := bd_ H
 obtain ⟨t442, A3, H⟩ := H
 replace H := bd_ H
 obtain ⟨t445, A4, H⟩ := H
 have HC5 := Aside0.mk H
 clear H
 go_enter Try.func126, Try.ntmps126
 go_upto_if 10 with (first | ((with_reducible refine gate_callee (f := 119) rfl ?_); refine goesL_ (some 7) rfl rfl Try.func119 (by kernel_rfl) rfl #[.slice A0 l0.length c0] rfl la_ ?_; (with_reducible refine (slices_Clone_byte.calls _ _ l0 t442 _ ?side1 ?side2 A3.out).mono ?_); (case side1 => exact qC (HR0.out)); (case side2 => exact HC0.out); rintro e w6 ⟨v443, rfl, ho0, hb⟩; refine ⟨_, rfl, ?_⟩; have HO444 := am_ (Kd.R_lower ho0 (below_size (qB HB))); replace HB := bS_ HB hb; (try clear hb); (try clear ho0)) | ((with_reducible refine gate_callee (f := 138) rfl ?_); refine goesL_ (some 9) rfl rfl Try.func138 (by kernel_rfl) rfl #[.string a1] rfl la_ ?_; (with_reducible refine (impl_TextOk.calls k a1 t445 _ A4.out).mono ?_); rintro e w' ⟨rfl, ⟨nd, rfl⟩⟩; refine ⟨_, rfl, ?_⟩))
 (try simp only [Act.put, List.setIfInBounds_toArray, List.set_cons_zero, List.set_cons_succ])
 (try (rw [drewN_self w6]; generalize hq_ : World.drewN w6 _ = w6; have n0_ : Aside0 (Kd.R (Kd.int .u8) 5 w6 w.heap.size (fun _ => True) v443 t442) := ⟨by rw [← hq_]; exact (qR HO444)⟩; have n1_ : Aside0 (Below w.heap.size w w6) := ⟨by rw [← hq_]; exact (qB HB)⟩; clear HO444 HB hq_; have HO444 := n0_; have HB := n1_; clear n0_ n1_))
 have H := HC5.out
 clear HC5
 by_cases c7 : t445 = true
 rotate_left
 ·
  replace c7 := Bool.eq_false_iff.mpr c7
  subst c7
  rw [if_neg (show ¬ (false = true) by decide)] at H
  obtain rfl := Option.some.inj H
  go_wp2
  go_ret
  exact ⟨_, er_, qR HO444, qB HB⟩
 subst c7
 rw [if_pos rfl] at H
 by_cases c8 : t442.length < 140737488355328
 case neg => exact nn_ c8 H
 rw [if_pos c8] at H
 have LMc8 := Aside0.mk c8
 clear c8
 obtain ⟨y446, hy446⟩ : ∃ y_ : List Int, y_ = (t442 ++ [((a1.size : Int)) % 256]) := ⟨_, rfl⟩
 replace H := mk_ H hy446
 (try dsimp only at H)
 have Ny446 := Aside0.mk hy446
 clear hy446
 by_cases c9 : y446.length + a1.size < 140737488355328
 case neg => exact nn_ c9 H
 rw [if_pos c9] at H
 have LMc9 := Aside0.mk c9
 clear c9
 obtain ⟨y449, hy449⟩ : ∃ y_ : List Int, y_ = (y446 ++ bytesOf a1) := ⟨_, rfl⟩
 rw [← hy449] at H
 have Ny449 := Aside0.mk hy449
 clear hy449
 obtain rfl := Option.some.inj H
 go_wp2_with (first | ((with_reducible refine gate_builtin (b := .append) (xs := #[.tmp 12, .tmp 16]) rfl ?_); at_builtin; refine Kd.R_append (Kd.int .u8) (w0 := w) w.heap.size rfl (.tmp 12) (.tmp 16) 70 5 (.int .u8 0) 1 rfl Try.underlying70 info5 rfl (by decide) (by omega) v443 t442 (((a1.size : Int)) % 256) [.int .u8 (((a1.size : Int)) % 256)] (fun _ => True) (fun _ => False) rfl rfl ?aP (fun _ hk => hk.elim) ?aF ?aO ?aB ?aS ?aL ?_; (case aP => exact rfl); (case aB => exact (qB HB)); (case aF => exact (fun _ _ => trivial)); (case aO => exact (qR HO444)); (case aS => exact (below_size (qB HB))); (case aL => have := LMc8.out; omega); intro v447 w10 ho hb hg hat; rw [← Ny446.out] at ho; replace HB := am_ (hb); have HO448 := am_ (ho); clear HO444; clear ho hb hg hat) | (at_builtin; refine print_append_str (w0 := w) w.heap.size rfl (.tmp 17) _ 70 9 5 rfl Try.underlying70 Try.underlying9 info5 v447 y446 a1 rfl rfl ?aO ?aB ?aS ?aL ?_; (case aB => exact (qB HB)); (case aO => exact (Kd.own_of_R (qR HO448))); (case aS => exact (below_size (qB HB))); (case aL => have := LMc9.out; omega); intro v450 w11 ho0 hb hg; have ho := Kd.R_of_own (h1 := fun _ => rfl) (ok := fun _ => True) ho0 (fun _ _ => trivial); clear ho0; have hat := True.intro; rw [← Ny449.out] at ho; change Kd.R (Kd.int .u8) 5 w11 w.heap.size (fun _ => True) v450 y449 at ho; replace HB := am_ (hb); have HO451 := am_ (ho); clear HO448; clear ho hb hg hat))
 go_ret
 exact ⟨_, er_, qR HO451, qB HB⟩

end Go.Proofs.Ytiffahfpfgnjnab.PFnExactSend
