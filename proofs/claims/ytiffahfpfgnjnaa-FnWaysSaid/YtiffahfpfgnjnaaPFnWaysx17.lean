-- Written by a program of this session (myprint.py, over the kit's print): contracts of FnWays
import Derived.Test.YtiffahfpfgnjnaaPFnWaysx0
import Derived.Test.YtiffahfpfgnjnaaPFnWaysx1
import Derived.Test.YtiffahfpfgnjnaaPFnWaysx15
import Derived.Test.YtiffahfpfgnjnaaPFnWaysx16
namespace Go.Proofs.Ytiffahfpfgnjnaa.PFnWays
open Go.RowKit Go.Proofs.YtiffahfpfgnjnaaW.PrintWords Go.Proofs.YtiffahfpfgnjnaaW.PrintLast Go.Proofs.YtiffahfpfgnjnaaW.PrintMore Go.Proofs.YtiffahfpfgnjnaaV
attribute [local go_sem] max2_int min2_int max_two min_two max_three min_three max_four min_four   -- for this text's walks alone
set_option linter.unusedVariables false
set_option linter.unusedSimpArgs false

attribute [local go_sem high] eqA25
/-! ### impl_AskerOk: function 16 -/
def impl_AskerOk.j0 : Nat → Int → ByteArray → Int → Int → Int → ByteArray → Int → Int → Int → ByteArray → Int → Int → Int → ByteArray → Int → Int → Option (Bool)
 | 0, _, _, _, _, _, _, _, _, _, _, _, _, _, _, _, _ => none
 | k + 1, x799000, x799001, x799002, x799003, x799004, x799005, x799006, x799007, x800000, x800001, x800002, x800003, x800004, x800005, x800006, x800007 => (impl_sockIdOk.f x799000).bind fun t800 => (if t800 = true then (if x799002 = 0 then (some (x799001.toList == ([] : List UInt8) && (x799002 == 0 && (x799003 == 0 && (x799004 == 0 && (x799005.toList == ([] : List UInt8) && (x799006 == 0 && (x799007 == 0)))))))) else ((impl_nameOk.f k x799001).bind fun t801 => (if t801 = true then (if x799002 = 1 then (some (x800000 == 0 && (x800001.toList == ([] : List UInt8) && (x800002 == 0 && (x800003 == 0 && (x800004 == 0 && (x800005.toList == ([] : List UInt8) && (x800006 == 0 && (x800007 == 0))))))))) else (if x799002 = 2 then (if (x800000 == 0 && (x800001.toList == ([] : List UInt8) && (x800002 == 0 && (x800003 == x799003 && (x800004 == x799004 && (x800005.toList == x799005.toList && (x800006 == 0 && (x800007 == 0)))))))) = true then ((impl_wordOk.f x799003).bind fun t802 => (if t802 = true then ((impl_sinceOk.f x799004).bind fun t803 => (if t803 = true then ((impl_TextOk.f k x799005).bind fun t804 => (some t804)) else (some false))) else (some false))) else (some false)) else (if x799002 = 3 then (if (x800000 == 0 && (x800001.toList == ([] : List UInt8) && (x800002 == 0 && (x800003 == 0 && (x800004 == 0 && (x800005.toList == ([] : List UInt8) && (x800006 == x799006 && (x800007 == x799007)))))))) = true then ((impl_sockIdOk.f x799006).bind fun t805 => (if t805 = true then (some (decide (x799007 ≥ 1))) else (some false))) else (some false)) else (if x799002 = 4 then (if (x800000 == 0 && (x800001.toList == ([] : List UInt8) && (x800002 == 0 && (x800003 == 0 && (x800004 == 0 && (x800005.toList == ([] : List UInt8) && (x800006 == x799006 && (x800007 == x799007)))))))) = true then ((impl_sockIdOk.f x799006).bind fun t806 => (if t806 = true then (some (decide (x799007 ≥ 1))) else (some false))) else (some false)) else (some false))))) else (some false)))) else (some false))
def impl_AskerOk.f (k : Nat) (a0_0 : Int) (a0_1 : ByteArray) (a0_2 : Int) (a0_3 : Int) (a0_4 : Int) (a0_5 : ByteArray) (a0_6 : Int) (a0_7 : Int) : Option (Bool) := impl_AskerOk.j0 k a0_0 a0_1 a0_2 a0_3 a0_4 a0_5 a0_6 a0_7 0 (⟨#[]⟩ : ByteArray) 0 a0_3 a0_4 a0_5 a0_6 a0_7
theorem impl_AskerOk.mono_l : ∀ k, (∀ y0 y1 y2 y3 y4 y5 y6 y7 y8 y9 y10 y11 y12 y13 y14 y15, LeO (impl_AskerOk.j0 k y0 y1 y2 y3 y4 y5 y6 y7 y8 y9 y10 y11 y12 y13 y14 y15) (impl_AskerOk.j0 (k + 1) y0 y1 y2 y3 y4 y5 y6 y7 y8 y9 y10 y11 y12 y13 y14 y15))
 | 0 => fun _ _ _ _ _ _ _ _ _ _ _ _ _ _ _ _ r h => by simp [impl_AskerOk.j0] at h
 | k + 1 => by
  have ih0 := impl_AskerOk.mono_l k
  ·
   intro y0 y1 y2 y3 y4 y5 y6 y7 y8 y9 y10 y11 y12 y13 y14 y15
   unfold impl_AskerOk.j0
   have m0 := @impl_TextOk.mono; have m1 := @impl_nameOk.mono; exact mo_
theorem impl_AskerOk.mono : ∀ a0 a1 a2 a3 a4 a5 a6 a7 k, LeO (impl_AskerOk.f k a0 a1 a2 a3 a4 a5 a6 a7) (impl_AskerOk.f (k + 1) a0 a1 a2 a3 a4 a5 a6 a7) := by
 intro a0 a1 a2 a3 a4 a5 a6 a7 k
 have ih0 := impl_AskerOk.mono_l k
 unfold impl_AskerOk.f
 have m0 := @impl_TextOk.mono; have m1 := @impl_nameOk.mono; exact mo_
set_option maxHeartbeats 8000000 in
set_option maxRecDepth 100000 in
theorem impl_AskerOk.calls (k : Nat) (a0_0 : Int) (a0_1 : ByteArray) (a0_2 : Int) (a0_3 : Int) (a0_4 : Int) (a0_5 : ByteArray) (a0_6 : Int) (a0_7 : Int) (r : Bool) (w : World) (h : impl_AskerOk.f k a0_0 a0_1 a0_2 a0_3 a0_4 a0_5 a0_6 a0_7 = some r) :
  Calls Try.prog 16 #[.agg #[.int .i64 a0_0, .string a0_1, .int .i64 a0_2, .int .i64 a0_3, .int .i64 a0_4, .string a0_5, .int .i64 a0_6, .int .i64 a0_7]] w fun e w' => e = .returned (.bool r) ∧ Below w.heap.size w w' := by
 have hu25 := Try.underlying25
 have HB := Aside0.mk (Below.refl w.heap.size w)
 have H := h
 unfold impl_AskerOk.f at H
 clear h
 have HC2 := Aside0.mk H
 clear H
 go_enter Try.func16, Try.ntmps16
 go_upto_region 2 with (first | ((with_reducible refine gate_dst (N := 1) rfl ?_); refine bx_ (N := 1) (cs := #[.int .i64 a0_0, .string a0_1, .int .i64 a0_2, .int .i64 a0_3, .int .i64 a0_4, .string a0_5, .int .i64 a0_6, .int .i64 a0_7]) (t := 25) ?_; intro gb798 hg w3 hbox hb; have BK798 := am_ (hbox); have GW798 := gA_ hg HB; have GE798 := GW798; have IGE798 := gI_ GE798; replace HB := bS_ HB hb; clear hb hbox hg; (try clear zK798); have zK798 := cz8 BK798.out; (try clear fK798); have fK798 := fz8 BK798.out) | ((with_reducible refine gate_dst (N := 3) rfl ?_); refine bx_ (N := 3) (cs := #[.int .i64 0, .string (⟨#[]⟩ : ByteArray), .int .i64 0, .int .i64 0, .int .i64 0, .string (⟨#[]⟩ : ByteArray), .int .i64 0, .int .i64 0]) (t := 25) ?_; intro gb799 hg w5 hbox hb; have BK799 := am_ (hbox); have GW799 := gA_ hg HB; have GE799 := GW799; have IGE799 := gI_ GE799; replace HB := bS_ HB hb; have NB798_799 := am_ ((gN_ hg (qK BK798))); have NB799_798 := am_ ((gM_ hg (qK BK798))); replace BK798 := bK_ BK798 hb; clear hb hbox hg; have hnb6 := NB799_798.out; have hnc6 := NB798_799.out; (try clear zK799); have zK799 := cz8 BK799.out; (try clear fK799); have fK799 := fz8 BK799.out))
 (try simp only [Act.put, List.setIfInBounds_toArray, List.set_cons_zero, List.set_cons_succ])
 go_cut [] (fun wc => ∃ (kq : Nat) (x800000_1 : Int) (x800001_1 : ByteArray) (x800002_1 : Int), Aside0 (impl_AskerOk.j0 kq a0_0 a0_1 a0_2 a0_3 a0_4 a0_5 a0_6 a0_7 x800000_1 x800001_1 x800002_1 a0_3 a0_4 a0_5 a0_6 a0_7 = some r) ∧ Aside0 (kq ≤ k) ∧ Aside0 (wc.heap[gb798]? = some (.cells #[.int .i64 a0_0, .string a0_1, .int .i64 a0_2, .int .i64 a0_3, .int .i64 a0_4, .string a0_5, .int .i64 a0_6, .int .i64 a0_7] 25 (0, 0))) ∧ Aside0 (wc.heap[gb799]? = some (.cells #[.int .i64 x800000_1, .string x800001_1, .int .i64 x800002_1, .int .i64 a0_3, .int .i64 a0_4, .string a0_5, .int .i64 a0_6, .int .i64 a0_7] 25 (0, 0))) ∧ Aside0 (Below w.heap.size w wc))
 case first =>
  have H := HC2.out
  clear HC2
  have H' := Aside0.mk H
  clear H
  have hnb8 := NB799_798.out
  have hnc8 := NB798_799.out
  (try clear zK799)
  have zK799 := cz8 BK799.out
  (try clear fK799)
  have fK799 := fz8 BK799.out
  go_wp2_with (first | ((with_reducible refine gate_store (t := 3) (p := 5) rfl ?_); refine store_event (t := 3) (p := 5) (v := ?vo_w10) (w1 := (((((((((w5.setCell ⟨gb799, 0, none⟩ (.int .i64 a0_0)).setCell ⟨gb799, 1, none⟩ (.string a0_1)).setCell ⟨gb799, 2, none⟩ (.int .i64 a0_2)).setCell ⟨gb799, 3, none⟩ (.int .i64 a0_3)).setCell ⟨gb799, 4, none⟩ (.int .i64 a0_4)).setCell ⟨gb799, 5, none⟩ (.string a0_5)).setCell ⟨gb799, 6, none⟩ (.int .i64 a0_6)).setCell ⟨gb799, 7, none⟩ (.int .i64 a0_7)).setCell ⟨gb799, 0, none⟩ (.int .i64 0))) ?hg ?ho ?hn ?hr ?_; (case ho => rfl); (case hg => rfl); (case hn => rfl); (case hr => first | (go_simp; done) | (go_simp; rfl)); intro w10 hw; have n0_ : Aside0 (w10.heap[gb798]? = some (.cells #[.int .i64 a0_0, .string a0_1, .int .i64 a0_2, .int .i64 a0_3, .int .i64 a0_4, .string a0_5, .int .i64 a0_6, .int .i64 a0_7] 25 (0, 0))) := ⟨(by rw [hw]; exact (by (with_reducible repeat (first | refine blk_drewN ?_ _ | refine blk_drew ?_ | refine blk_alloc ?_ _)); refine blk_far9 ?_ NB798_799.out; exact qK BK798))⟩; have n1_ : Aside0 (w10.heap[gb799]? = some (.cells #[.int .i64 0, .string a0_1, .int .i64 a0_2, .int .i64 a0_3, .int .i64 a0_4, .string a0_5, .int .i64 a0_6, .int .i64 a0_7] 25 (0, 0))) := ⟨(by rw [hw]; exact (by (with_reducible repeat (first | refine blk_drewN ?_ _ | refine blk_drew ?_ | refine blk_alloc ?_ _)); refine blk_put (cs := #[.int .i64 a0_0, .string a0_1, .int .i64 a0_2, .int .i64 a0_3, .int .i64 a0_4, .string a0_5, .int .i64 a0_6, .int .i64 a0_7]) ?_ 0 _ rfl; (with_reducible repeat (first | refine blk_drewN ?_ _ | refine blk_drew ?_ | refine blk_alloc ?_ _)); refine blk_put (cs := #[.int .i64 a0_0, .string a0_1, .int .i64 a0_2, .int .i64 a0_3, .int .i64 a0_4, .string a0_5, .int .i64 a0_6, .int .i64 0]) ?_ 7 _ rfl; (with_reducible repeat (first | refine blk_drewN ?_ _ | refine blk_drew ?_ | refine blk_alloc ?_ _)); refine blk_put (cs := #[.int .i64 a0_0, .string a0_1, .int .i64 a0_2, .int .i64 a0_3, .int .i64 a0_4, .string a0_5, .int .i64 0, .int .i64 0]) ?_ 6 _ rfl; (with_reducible repeat (first | refine blk_drewN ?_ _ | refine blk_drew ?_ | refine blk_alloc ?_ _)); refine blk_put (cs := #[.int .i64 a0_0, .string a0_1, .int .i64 a0_2, .int .i64 a0_3, .int .i64 a0_4, .string (⟨#[]⟩ : ByteArray), .int .i64 0, .int .i64 0]) ?_ 5 _ rfl; (with_reducible repeat (first | refine blk_drewN ?_ _ | refine blk_drew ?_ | refine blk_alloc ?_ _)); refine blk_put (cs := #[.int .i64 a0_0, .string a0_1, .int .i64 a0_2, .int .i64 a0_3, .int .i64 0, .string (⟨#[]⟩ : ByteArray), .int .i64 0, .int .i64 0]) ?_ 4 _ rfl; (with_reducible repeat (first | refine blk_drewN ?_ _ | refine blk_drew ?_ | refine blk_alloc ?_ _)); refine blk_put (cs := #[.int .i64 a0_0, .string a0_1, .int .i64 a0_2, .int .i64 0, .int .i64 0, .string (⟨#[]⟩ : ByteArray), .int .i64 0, .int .i64 0]) ?_ 3 _ rfl; (with_reducible repeat (first | refine blk_drewN ?_ _ | refine blk_drew ?_ | refine blk_alloc ?_ _)); refine blk_put (cs := #[.int .i64 a0_0, .string a0_1, .int .i64 0, .int .i64 0, .int .i64 0, .string (⟨#[]⟩ : ByteArray), .int .i64 0, .int .i64 0]) ?_ 2 _ rfl; (with_reducible repeat (first | refine blk_drewN ?_ _ | refine blk_drew ?_ | refine blk_alloc ?_ _)); refine blk_put (cs := #[.int .i64 a0_0, .string (⟨#[]⟩ : ByteArray), .int .i64 0, .int .i64 0, .int .i64 0, .string (⟨#[]⟩ : ByteArray), .int .i64 0, .int .i64 0]) ?_ 1 _ rfl; (with_reducible repeat (first | refine blk_drewN ?_ _ | refine blk_drew ?_ | refine blk_alloc ?_ _)); refine blk_put (cs := #[.int .i64 0, .string (⟨#[]⟩ : ByteArray), .int .i64 0, .int .i64 0, .int .i64 0, .string (⟨#[]⟩ : ByteArray), .int .i64 0, .int .i64 0]) ?_ 0 _ rfl; exact qK BK799))⟩; have n2_ : Aside0 (Below w.heap.size w w10) := ⟨(by rw [hw]; exact (qB HB))⟩; clear hw; clear BK798; clear BK799; clear HB; have BK798 := n0_; have BK799 := n1_; have HB := n2_; clear n0_ n1_ n2_; (try clear zK799); have zK799 := cz8 BK799.out; (try clear fK799); have fK799 := fz8 BK799.out))
  go_meet
  case rel => exact ⟨_, (0), ((⟨#[]⟩ : ByteArray)), (0), H', ⟨by first | omega | exact Nat.le_refl _⟩, ⟨by (with_reducible repeat (first | refine blk_drewN ?_ _ | refine blk_drew ?_ | refine blk_alloc ?_ _)); refine blk_far2 ?_ NB798_799.out; exact qK BK798⟩, ⟨by (with_reducible repeat (first | refine blk_drewN ?_ _ | refine blk_drew ?_ | refine blk_alloc ?_ _)); refine blk_put (cs := #[.int .i64 0, .string a0_1, .int .i64 0, .int .i64 a0_3, .int .i64 a0_4, .string a0_5, .int .i64 a0_6, .int .i64 a0_7]) ?_ 1 _ rfl; (with_reducible repeat (first | refine blk_drewN ?_ _ | refine blk_drew ?_ | refine blk_alloc ?_ _)); refine blk_put (cs := #[.int .i64 0, .string a0_1, .int .i64 a0_2, .int .i64 a0_3, .int .i64 a0_4, .string a0_5, .int .i64 a0_6, .int .i64 a0_7]) ?_ 2 _ rfl; exact qK BK799⟩, ⟨qB HB⟩⟩
 case rest =>
  clear HC2
  try clear c1
  try clear p2
  try clear c6
  try clear c8
  (try clear zK799)
  (try clear zK798)
  (try clear zK799)
  (try clear zK799)
  (try clear fK799)
  (try clear fK798)
  (try clear fK799)
  (try clear fK799)
  obtain ⟨kq, x800000_1, x800001_1, x800002_1, HA, HJ1, BK798, BK799, HB⟩ := hcut
  cases kq with
  | zero => exact absurd HA.out (by simp [impl_AskerOk.j0])
  | succ kj1 =>
   have H := HA.out
   clear HA
   simp only [impl_AskerOk.j0] at H
   replace H := bd_ H
   obtain ⟨t800, A12, H⟩ := H
   have HC13 := Aside0.mk H
   clear H
   have hnb14 := NB798_799.out
   have hnc14 := NB799_798.out
   (try clear zK798)
   have zK798 := cz8 BK798.out
   go_upto_if 11 with (first | ((with_reducible refine gate_callee (f := 79) rfl ?_); refine gl_ (some 10) Try.func79 #[.int .i64 a0_0] ?_; (with_reducible refine (impl_sockIdOk.calls a0_0 t800 _ A12.out).mono ?_); rintro e w' ⟨rfl, ⟨nd, rfl⟩⟩; refine ⟨_, rfl, ?_⟩))
   (try simp only [Act.put, List.setIfInBounds_toArray, List.set_cons_zero, List.set_cons_succ])
   (try (rw [drewN_self wc]; generalize hq_ : World.drewN wc _ = wc; have n0_ : Aside0 (wc.heap[gb798]? = some (.cells #[.int .i64 a0_0, .string a0_1, .int .i64 a0_2, .int .i64 a0_3, .int .i64 a0_4, .string a0_5, .int .i64 a0_6, .int .i64 a0_7] 25 (0, 0))) := ⟨by rw [← hq_]; exact (qK BK798)⟩; have n1_ : Aside0 (wc.heap[gb799]? = some (.cells #[.int .i64 x800000_1, .string x800001_1, .int .i64 x800002_1, .int .i64 a0_3, .int .i64 a0_4, .string a0_5, .int .i64 a0_6, .int .i64 a0_7] 25 (0, 0))) := ⟨by rw [← hq_]; exact (qK BK799)⟩; have n2_ : Aside0 (Below w.heap.size w wc) := ⟨by rw [← hq_]; exact (qB HB)⟩; clear BK798 BK799 HB hq_; have BK798 := n0_; have BK799 := n1_; have HB := n2_; clear n0_ n1_ n2_))
   have H := HC13.out
   clear HC13
   by_cases c16 : t800 = true
   rotate_left
   ·
    replace c16 := Bool.eq_false_iff.mpr c16
    subst c16
    rw [if_neg (show ¬ (false = true) by decide)] at H
    obtain rfl := Option.some.inj H
    go_wp2
    go_ret
    exact ⟨er_, qB HB⟩
   subst c16
   rw [if_pos rfl] at H
   by_cases c17 : a0_2 = 0
   ·
    rw [if_pos c17] at H
    have c17b0 : (a0_2 == 0) = true := beq_iff_eq.mpr c17
    have c17b1 : (a0_2 != 0) = false := bne_eq_false_iff_eq.mpr c17
    clear c17
    (first | rw [c17b0] | rw [c17b1] | (simp only [i64_w, i32_w]; rw [c17b0]) | skip)
    obtain rfl := Option.some.inj H
    have hnb18 := NB798_799.out
    have hnc18 := NB799_798.out
    (try clear zK798)
    have zK798 := cz8 BK798.out
    go_wp2
    go_ret
    exact ⟨er_, qB HB⟩
   rw [if_neg c17] at H
   have c17b0 : (a0_2 == 0) = false := beq_eq_false_iff_ne.mpr c17
   have c17b1 : (a0_2 != 0) = true := bne_iff_ne.mpr c17
   (first | rw [c17b0] | rw [c17b1] | (simp only [i64_w, i32_w]; rw [c17b0]) | skip)
   replace H := bd_ H
   obtain ⟨t801, A20, H⟩ := H
   have HC21 := Aside0.mk H
   clear H
   have hnb22 := NB798_799.out
   have hnc22 := NB799_798.out
   (try clear zK798)
   have zK798 := cz8 BK798.out
   go_upto_if 23 with (first | ((with_reducible refine gate_callee (f := 80) rfl ?_); refine gl_ (some 22) Try.func80 #[.string a0_1] ?_; (with_reducible refine (impl_nameOk.calls kj1 a0_1 t801 _ A20.out).mono ?_); rintro e w' ⟨rfl, ⟨nd, rfl⟩⟩; refine ⟨_, rfl, ?_⟩))
   (try simp only [Act.put, List.setIfInBounds_toArray, List.set_cons_zero, List.set_cons_succ])
   (try (rw [drewN_self wc]; generalize hq_ : World.drewN wc _ = wc; have n0_ : Aside0 (wc.heap[gb798]? = some (.cells #[.int .i64 a0_0, .string a0_1, .int .i64 a0_2, .int .i64 a0_3, .int .i64 a0_4, .string a0_5, .int .i64 a0_6, .int .i64 a0_7] 25 (0, 0))) := ⟨by rw [← hq_]; exact (qK BK798)⟩; have n1_ : Aside0 (wc.heap[gb799]? = some (.cells #[.int .i64 x800000_1, .string x800001_1, .int .i64 x800002_1, .int .i64 a0_3, .int .i64 a0_4, .string a0_5, .int .i64 a0_6, .int .i64 a0_7] 25 (0, 0))) := ⟨by rw [← hq_]; exact (qK BK799)⟩; have n2_ : Aside0 (Below w.heap.size w wc) := ⟨by rw [← hq_]; exact (qB HB)⟩; clear BK798 BK799 HB hq_; have BK798 := n0_; have BK799 := n1_; have HB := n2_; clear n0_ n1_ n2_))
   have H := HC21.out
   clear HC21
   by_cases c24 : t801 = true
   rotate_left
   ·
    replace c24 := Bool.eq_false_iff.mpr c24
    subst c24
    rw [if_neg (show ¬ (false = true) by decide)] at H
    obtain rfl := Option.some.inj H
    go_wp2
    go_ret
    exact ⟨er_, qB HB⟩
   subst c24
   rw [if_pos rfl] at H
   by_cases c25 : a0_2 = 1
   ·
    rw [if_pos c25] at H
    have c25b0 : (a0_2 == 1) = true := beq_iff_eq.mpr c25
    have c25b1 : (a0_2 != 1) = false := bne_eq_false_iff_eq.mpr c25
    clear c25
    (first | rw [c25b0] | rw [c25b1] | (simp only [i64_w, i32_w]; rw [c25b0]) | skip)
    obtain rfl := Option.some.inj H
    have hnb26 := NB798_799.out
    have hnc26 := NB799_798.out
    (try clear zK798)
    have zK798 := cz8 BK798.out
    (try clear zK799)
    have zK799 := cz8 BK799.out
    go_wp2
    go_ret
    exact ⟨er_, qB HB⟩
   rw [if_neg c25] at H
   have c25b0 : (a0_2 == 1) = false := beq_eq_false_iff_ne.mpr c25
   have c25b1 : (a0_2 != 1) = true := bne_iff_ne.mpr c25
   (first | rw [c25b0] | rw [c25b1] | (simp only [i64_w, i32_w]; rw [c25b0]) | skip)
   by_cases c29 : a0_2 = 2
   ·
    rw [if_pos c29] at H
    have c29b0 : (a0_2 == 2) = true := beq_iff_eq.mpr c29
    have c29b1 : (a0_2 != 2) = false := bne_eq_false_iff_eq.mpr c29
    clear c29
    by_cases c30 : (x800000_1 == 0 && (x800001_1.toList == ([] : List UInt8) && (x800002_1 == 0 && (a0_3 == a0_3 && (a0_4 == a0_4 && (a0_5.toList == a0_5.toList && (a0_6 == 0 && (a0_7 == 0)))))))) = true
    rotate_left
    ·
     rw [if_neg c30] at H
     have c30b0 : (x800000_1 == 0 && (x800001_1.toList == ([] : List UInt8) && (x800002_1 == 0 && (a0_3 == a0_3 && (a0_4 == a0_4 && (a0_5.toList == a0_5.toList && (a0_6 == 0 && (a0_7 == 0)))))))) = false := by simpa using c30
     (try (have c30b0e := c30b0; simp only [beq_nil, bne_nil] at c30b0e))
     (try simp only [beq_self_eq_true, Bool.true_and, Bool.and_true, beq_nil] at c30b0)
     (try (have c30b1 : decide (x800000_1 = 0 && (x800001_1.toList == ([] : List UInt8) && (x800002_1 == 0 && (a0_3 == a0_3 && (a0_4 == a0_4 && (a0_5.toList == a0_5.toList && (a0_6 == 0 && (a0_7 == 0)))))))) = false := by simpa using c30))
     (try (have c30b1e := c30b1; simp only [beq_nil, bne_nil] at c30b1e))
     (try simp only [beq_self_eq_true, Bool.true_and, Bool.and_true, beq_nil] at c30b1)
     (try (have c30b2 : (x800000_1 == 0 && (x800001_1.toList == ([] : List UInt8) && (x800002_1 == 0 && (a0_3 == a0_3 && (a0_4 == a0_4 && (a0_5.toList == a0_5.toList && (a0_6 == 0 && (a0_7 == 0)))))))) = false := by simpa using c30))
     (try (have c30b2e := c30b2; simp only [beq_nil, bne_nil] at c30b2e))
     (try simp only [beq_self_eq_true, Bool.true_and, Bool.and_true, beq_nil] at c30b2)
     (try (have c30b3 : ¬ (x800000_1 = 0 && (x800001_1.toList == ([] : List UInt8) && (x800002_1 == 0 && (a0_3 == a0_3 && (a0_4 == a0_4 && (a0_5.toList == a0_5.toList && (a0_6 == 0 && (a0_7 == 0)))))))) := by simpa using c30))
     (try (have c30b3e := c30b3; simp only [beq_nil, bne_nil] at c30b3e))
     (try simp only [beq_self_eq_true, Bool.true_and, Bool.and_true, beq_nil] at c30b3)
     clear c30
     obtain rfl := Option.some.inj H
     have hnb45 := NB798_799.out
     have hnc45 := NB799_798.out
     (try clear zK798)
     have zK798 := cz8 BK798.out
     (try clear zK799)
     have zK799 := cz8 BK799.out
     go_wp2
     go_ret
     exact ⟨er_, qB HB⟩
    rw [if_pos c30] at H
    have c30b0 : (x800000_1 == 0 && (x800001_1.toList == ([] : List UInt8) && (x800002_1 == 0 && (a0_3 == a0_3 && (a0_4 == a0_4 && (a0_5.toList == a0_5.toList && (a0_6 == 0 && (a0_7 == 0)))))))) = true := c30
    (try (have c30b0e := c30b0; simp only [beq_nil, bne_nil] at c30b0e))
    (try simp only [beq_self_eq_true, Bool.true_and, Bool.and_true, beq_nil] at c30b0)
    (try (have c30b1 : decide (x800000_1 = 0 && (x800001_1.toList == ([] : List UInt8) && (x800002_1 == 0 && (a0_3 == a0_3 && (a0_4 == a0_4 && (a0_5.toList == a0_5.toList && (a0_6 == 0 && (a0_7 == 0)))))))) = true := by simpa using c30))
    (try (have c30b1e := c30b1; simp only [beq_nil, bne_nil] at c30b1e))
    (try simp only [beq_self_eq_true, Bool.true_and, Bool.and_true, beq_nil] at c30b1)
    (try (have c30b2 : (x800000_1 == 0 && (x800001_1.toList == ([] : List UInt8) && (x800002_1 == 0 && (a0_3 == a0_3 && (a0_4 == a0_4 && (a0_5.toList == a0_5.toList && (a0_6 == 0 && (a0_7 == 0)))))))) = true := by simpa using c30))
    (try (have c30b2e := c30b2; simp only [beq_nil, bne_nil] at c30b2e))
    (try simp only [beq_self_eq_true, Bool.true_and, Bool.and_true, beq_nil] at c30b2)
    clear c30
    replace H := bd_ H
    obtain ⟨t802, A31, H⟩ := H
    by_cases c32 : t802 = true
    rotate_left
    ·
     replace c32 := Bool.eq_false_iff.mpr c32
     subst c32
     rw [if_neg (show ¬ (false = true) by decide)] at H
     obtain rfl := Option.some.inj H
     have hnb42 := NB798_799.out
     have hnc42 := NB799_798.out
     (try clear zK798)
     have zK798 := cz8 BK798.out
     (try clear zK799)
     have zK799 := cz8 BK799.out
     go_wp2_with (first | (go_at_call 65; (with_reducible refine (impl_wordOk.calls a0_3 false _ A31.out).mono ?_); rintro e w' ⟨rfl, ⟨nd, rfl⟩⟩))
     go_ret
     exact ⟨er_, qB HB⟩
    subst c32
    rw [if_pos rfl] at H
    replace H := bd_ H
    obtain ⟨t803, A33, H⟩ := H
    by_cases c34 : t803 = true
    rotate_left
    ·
     replace c34 := Bool.eq_false_iff.mpr c34
     subst c34
     rw [if_neg (show ¬ (false = true) by decide)] at H
     obtain rfl := Option.some.inj H
     have hnb39 := NB798_799.out
     have hnc39 := NB799_798.out
     (try clear zK798)
     have zK798 := cz8 BK798.out
     (try clear zK799)
     have zK799 := cz8 BK799.out
     go_wp2_with (first | (go_at_call 65; (with_reducible refine (impl_wordOk.calls a0_3 true _ A31.out).mono ?_); rintro e w' ⟨rfl, ⟨nd, rfl⟩⟩) | (go_at_call 81; (with_reducible refine (impl_sinceOk.calls a0_4 false _ A33.out).mono ?_); rintro e w' ⟨rfl, ⟨nd, rfl⟩⟩))
     go_ret
     exact ⟨er_, qB HB⟩
    subst c34
    rw [if_pos rfl] at H
    replace H := bd_ H
    obtain ⟨t804, A35, H⟩ := H
    obtain rfl := Option.some.inj H
    have hnb36 := NB798_799.out
    have hnc36 := NB799_798.out
    (try clear zK798)
    have zK798 := cz8 BK798.out
    (try clear zK799)
    have zK799 := cz8 BK799.out
    go_wp2_with (first | (go_at_call 65; (with_reducible refine (impl_wordOk.calls a0_3 true _ A31.out).mono ?_); rintro e w' ⟨rfl, ⟨nd, rfl⟩⟩) | (go_at_call 81; (with_reducible refine (impl_sinceOk.calls a0_4 true _ A33.out).mono ?_); rintro e w' ⟨rfl, ⟨nd, rfl⟩⟩) | (go_at_call 82; (with_reducible refine (impl_TextOk.calls kj1 a0_5 t804 _ A35.out).mono ?_); rintro e w' ⟨rfl, ⟨nd, rfl⟩⟩))
    go_ret
    exact ⟨er_, qB HB⟩
   rw [if_neg c29] at H
   have c29b0 : (a0_2 == 2) = false := beq_eq_false_iff_ne.mpr c29
   have c29b1 : (a0_2 != 2) = true := bne_iff_ne.mpr c29
   by_cases c48 : a0_2 = 3
   ·
    rw [if_pos c48] at H
    have c48b0 : (a0_2 == 3) = true := beq_iff_eq.mpr c48
    have c48b1 : (a0_2 != 3) = false := bne_eq_false_iff_eq.mpr c48
    clear c48
    by_cases c49 : (x800000_1 == 0 && (x800001_1.toList == ([] : List UInt8) && (x800002_1 == 0 && (a0_3 == 0 && (a0_4 == 0 && (a0_5.toList == ([] : List UInt8) && (a0_6 == a0_6 && (a0_7 == a0_7)))))))) = true
    rotate_left
    ·
     rw [if_neg c49] at H
     have c49b0 : (x800000_1 == 0 && (x800001_1.toList == ([] : List UInt8) && (x800002_1 == 0 && (a0_3 == 0 && (a0_4 == 0 && (a0_5.toList == ([] : List UInt8) && (a0_6 == a0_6 && (a0_7 == a0_7)))))))) = false := by simpa using c49
     (try (have c49b0e := c49b0; simp only [beq_nil, bne_nil] at c49b0e))
     (try simp only [beq_self_eq_true, Bool.true_and, Bool.and_true, beq_nil] at c49b0)
     (try (have c49b1 : decide (x800000_1 = 0 && (x800001_1.toList == ([] : List UInt8) && (x800002_1 == 0 && (a0_3 == 0 && (a0_4 == 0 && (a0_5.toList == ([] : List UInt8) && (a0_6 == a0_6 && (a0_7 == a0_7)))))))) = false := by simpa using c49))
     (try (have c49b1e := c49b1; simp only [beq_nil, bne_nil] at c49b1e))
     (try simp only [beq_self_eq_true, Bool.true_and, Bool.and_true, beq_nil] at c49b1)
     (try (have c49b2 : (x800000_1 == 0 && (x800001_1.toList == ([] : List UInt8) && (x800002_1 == 0 && (a0_3 == 0 && (a0_4 == 0 && (a0_5.toList == ([] : List UInt8) && (a0_6 == a0_6 && (a0_7 == a0_7)))))))) = false := by simpa using c49))
     (try (have c49b2e := c49b2; simp only [beq_nil, bne_nil] at c49b2e))
     (try simp only [beq_self_eq_true, Bool.true_and, Bool.and_true, beq_nil] at c49b2)
     (try (have c49b3 : ¬ (x800000_1 = 0 && (x800001_1.toList == ([] : List UInt8) && (x800002_1 == 0 && (a0_3 == 0 && (a0_4 == 0 && (a0_5.toList == ([] : List UInt8) && (a0_6 == a0_6 && (a0_7 == a0_7)))))))) := by simpa using c49))
     (try (have c49b3e := c49b3; simp only [beq_nil, bne_nil] at c49b3e))
     (try simp only [beq_self_eq_true, Bool.true_and, Bool.and_true, beq_nil] at c49b3)
     clear c49
     obtain rfl := Option.some.inj H
     have hnb58 := NB798_799.out
     have hnc58 := NB799_798.out
     (try clear zK798)
     have zK798 := cz8 BK798.out
     (try clear zK799)
     have zK799 := cz8 BK799.out
     go_wp2
     go_ret
     exact ⟨er_, qB HB⟩
    rw [if_pos c49] at H
    have c49b0 : (x800000_1 == 0 && (x800001_1.toList == ([] : List UInt8) && (x800002_1 == 0 && (a0_3 == 0 && (a0_4 == 0 && (a0_5.toList == ([] : List UInt8) && (a0_6 == a0_6 && (a0_7 == a0_7)))))))) = true := c49
    (try (have c49b0e := c49b0; simp only [beq_nil, bne_nil] at c49b0e))
    (try simp only [beq_self_eq_true, Bool.true_and, Bool.and_true, beq_nil] at c49b0)
    (try (have c49b1 : decide (x800000_1 = 0 && (x800001_1.toList == ([] : List UInt8) && (x800002_1 == 0 && (a0_3 == 0 && (a0_4 == 0 && (a0_5.toList == ([] : List UInt8) && (a0_6 == a0_6 && (a0_7 == a0_7)))))))) = true := by simpa using c49))
    (try (have c49b1e := c49b1; simp only [beq_nil, bne_nil] at c49b1e))
    (try simp only [beq_self_eq_true, Bool.true_and, Bool.and_true, beq_nil] at c49b1)
    (try (have c49b2 : (x800000_1 == 0 && (x800001_1.toList == ([] : List UInt8) && (x800002_1 == 0 && (a0_3 == 0 && (a0_4 == 0 && (a0_5.toList == ([] : List UInt8) && (a0_6 == a0_6 && (a0_7 == a0_7)))))))) = true := by simpa using c49))
    (try (have c49b2e := c49b2; simp only [beq_nil, bne_nil] at c49b2e))
    (try simp only [beq_self_eq_true, Bool.true_and, Bool.and_true, beq_nil] at c49b2)
    clear c49
    replace H := bd_ H
    obtain ⟨t805, A50, H⟩ := H
    by_cases c51 : t805 = true
    ·
     subst c51
     rw [if_pos rfl] at H
     obtain rfl := Option.some.inj H
     have hnb52 := NB798_799.out
     have hnc52 := NB799_798.out
     (try clear zK798)
     have zK798 := cz8 BK798.out
     (try clear zK799)
     have zK799 := cz8 BK799.out
     go_wp2_with (first | (go_at_call 79; (with_reducible refine (impl_sockIdOk.calls a0_6 true _ A50.out).mono ?_); rintro e w' ⟨rfl, ⟨nd, rfl⟩⟩))
     go_ret
     exact ⟨er_, qB HB⟩
    replace c51 := Bool.eq_false_iff.mpr c51
    subst c51
    rw [if_neg (show ¬ (false = true) by decide)] at H
    obtain rfl := Option.some.inj H
    have hnb55 := NB798_799.out
    have hnc55 := NB799_798.out
    (try clear zK798)
    have zK798 := cz8 BK798.out
    (try clear zK799)
    have zK799 := cz8 BK799.out
    go_wp2_with (first | (go_at_call 79; (with_reducible refine (impl_sockIdOk.calls a0_6 false _ A50.out).mono ?_); rintro e w' ⟨rfl, ⟨nd, rfl⟩⟩))
    go_ret
    exact ⟨er_, qB HB⟩
   rw [if_neg c48] at H
   have c48b0 : (a0_2 == 3) = false := beq_eq_false_iff_ne.mpr c48
   have c48b1 : (a0_2 != 3) = true := bne_iff_ne.mpr c48
   by_cases c61 : a0_2 = 4
   rotate_left
   ·
    rw [if_neg c61] at H
    have c61b0 : (a0_2 == 4) = false := beq_eq_false_iff_ne.mpr c61
    have c61b1 : (a0_2 != 4) = true := bne_iff_ne.mpr c61
    obtain rfl := Option.some.inj H
    have hnb74 := NB798_799.out
    have hnc74 := NB799_798.out
    (try clear zK798)
    have zK798 := cz8 BK798.out
    go_wp2
    go_ret
    exact ⟨er_, qB HB⟩
   rw [if_pos c61] at H
   have c61b0 : (a0_2 == 4) = true := beq_iff_eq.mpr c61
   have c61b1 : (a0_2 != 4) = false := bne_eq_false_iff_eq.mpr c61
   clear c61
   by_cases c62 : (x800000_1 == 0 && (x800001_1.toList == ([] : List UInt8) && (x800002_1 == 0 && (a0_3 == 0 && (a0_4 == 0 && (a0_5.toList == ([] : List UInt8) && (a0_6 == a0_6 && (a0_7 == a0_7)))))))) = true
   rotate_left
   ·
    rw [if_neg c62] at H
    have c62b0 : (x800000_1 == 0 && (x800001_1.toList == ([] : List UInt8) && (x800002_1 == 0 && (a0_3 == 0 && (a0_4 == 0 && (a0_5.toList == ([] : List UInt8) && (a0_6 == a0_6 && (a0_7 == a0_7)))))))) = false := by simpa using c62
    (try (have c62b0e := c62b0; simp only [beq_nil, bne_nil] at c62b0e))
    (try simp only [beq_self_eq_true, Bool.true_and, Bool.and_true, beq_nil] at c62b0)
    (try (have c62b1 : decide (x800000_1 = 0 && (x800001_1.toList == ([] : List UInt8) && (x800002_1 == 0 && (a0_3 == 0 && (a0_4 == 0 && (a0_5.toList == ([] : List UInt8) && (a0_6 == a0_6 && (a0_7 == a0_7)))))))) = false := by simpa using c62))
    (try (have c62b1e := c62b1; simp only [beq_nil, bne_nil] at c62b1e))
    (try simp only [beq_self_eq_true, Bool.true_and, Bool.and_true, beq_nil] at c62b1)
    (try (have c62b2 : (x800000_1 == 0 && (x800001_1.toList == ([] : List UInt8) && (x800002_1 == 0 && (a0_3 == 0 && (a0_4 == 0 && (a0_5.toList == ([] : List UInt8) && (a0_6 == a0_6 && (a0_7 == a0_7)))))))) = false := by simpa using c62))
    (try (have c62b2e := c62b2; simp only [beq_nil, bne_nil] at c62b2e))
    (try simp only [beq_self_eq_true, Bool.true_and, Bool.and_true, beq_nil] at c62b2)
    (try (have c62b3 : ¬ (x800000_1 = 0 && (x800001_1.toList == ([] : List UInt8) && (x800002_1 == 0 && (a0_3 == 0 && (a0_4 == 0 && (a0_5.toList == ([] : List UInt8) && (a0_6 == a0_6 && (a0_7 == a0_7)))))))) := by simpa using c62))
    (try (have c62b3e := c62b3; simp only [beq_nil, bne_nil] at c62b3e))
    (try simp only [beq_self_eq_true, Bool.true_and, Bool.and_true, beq_nil] at c62b3)
    clear c62
    obtain rfl := Option.some.inj H
    have hnb71 := NB798_799.out
    have hnc71 := NB799_798.out
    (try clear zK798)
    have zK798 := cz8 BK798.out
    (try clear zK799)
    have zK799 := cz8 BK799.out
    go_wp2
    go_ret
    exact ⟨er_, qB HB⟩
   rw [if_pos c62] at H
   have c62b0 : (x800000_1 == 0 && (x800001_1.toList == ([] : List UInt8) && (x800002_1 == 0 && (a0_3 == 0 && (a0_4 == 0 && (a0_5.toList == ([] : List UInt8) && (a0_6 == a0_6 && (a0_7 == a0_7)))))))) = true := c62
   (try (have c62b0e := c62b0; simp only [beq_nil, bne_nil] at c62b0e))
   (try simp only [beq_self_eq_true, Bool.true_and, Bool.and_true, beq_nil] at c62b0)
   (try (have c62b1 : decide (x800000_1 = 0 && (x800001_1.toList == ([] : List UInt8) && (x800002_1 == 0 && (a0_3 == 0 && (a0_4 == 0 && (a0_5.toList == ([] : List UInt8) && (a0_6 == a0_6 && (a0_7 == a0_7)))))))) = true := by simpa using c62))
   (try (have c62b1e := c62b1; simp only [beq_nil, bne_nil] at c62b1e))
   (try simp only [beq_self_eq_true, Bool.true_and, Bool.and_true, beq_nil] at c62b1)
   (try (have c62b2 : (x800000_1 == 0 && (x800001_1.toList == ([] : List UInt8) && (x800002_1 == 0 && (a0_3 == 0 && (a0_4 == 0 && (a0_5.toList == ([] : List UInt8) && (a0_6 == a0_6 && (a0_7 == a0_7)))))))) = true := by simpa using c62))
   (try (have c62b2e := c62b2; simp only [beq_nil, bne_nil] at c62b2e))
   (try simp only [beq_self_eq_true, Bool.true_and, Bool.and_true, beq_nil] at c62b2)
   clear c62
   replace H := bd_ H
   obtain ⟨t806, A63, H⟩ := H
   by_cases c64 : t806 = true
   ·
    subst c64
    rw [if_pos rfl] at H
    obtain rfl := Option.some.inj H
    have hnb65 := NB798_799.out
    have hnc65 := NB799_798.out
    (try clear zK798)
    have zK798 := cz8 BK798.out
    (try clear zK799)
    have zK799 := cz8 BK799.out
    go_wp2_with (first | (go_at_call 79; (with_reducible refine (impl_sockIdOk.calls a0_6 true _ A63.out).mono ?_); rintro e w' ⟨rfl, ⟨nd, rfl⟩⟩))
    go_ret
    exact ⟨er_, qB HB⟩
   replace c64 := Bool.eq_false_iff.mpr c64
   subst c64
   rw [if_neg (show ¬ (false = true) by decide)] at H
   obtain rfl := Option.some.inj H
   have hnb68 := NB798_799.out
   have hnc68 := NB799_798.out
   (try clear zK798)
   have zK798 := cz8 BK798.out
   (try clear zK799)
   have zK799 := cz8 BK799.out
   go_wp2_with (first | (go_at_call 79; (with_reducible refine (impl_sockIdOk.calls a0_6 false _ A63.out).mono ?_); rintro e w' ⟨rfl, ⟨nd, rfl⟩⟩))
   go_ret
   exact ⟨er_, qB HB⟩

end Go.Proofs.Ytiffahfpfgnjnaa.PFnWays
