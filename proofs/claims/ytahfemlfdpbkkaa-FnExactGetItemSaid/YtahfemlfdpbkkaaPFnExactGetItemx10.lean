-- Written by a program of this session (myprint.py, over the kit's print): contracts of FnExactGetItem
import Derived.Test.YtahfemlfdpbkkaaPFnExactGetItemx0
import Derived.Test.YtahfemlfdpbkkaaPFnExactGetItemx1
import Derived.Test.YtahfemlfdpbkkaaPFnExactGetItemx9
namespace Go.Proofs.Ytahfemlfdpbkkaa.PFnExactGetItem
open Go.RowKit Go.Proofs.YtahfemlfdpbkkaaW.PrintWords Go.Proofs.YtahfemlfdpbkkaaW.PrintLast Go.Proofs.YtahfemlfdpbkkaaW.PrintMore Go.Proofs.YtahfemlfdpbkkaaV
attribute [local go_sem] max2_int min2_int max_two min_two max_three min_three max_four min_four   -- for this text's walks alone
set_option linter.unusedVariables false
set_option linter.unusedSimpArgs false

attribute [local go_sem high] eqA45
/-! ### impl_AskerOk: function 79 -/
def impl_AskerOk.j0 : Nat → Int → ByteArray → Int → Int → Int → ByteArray → Int → Int → Int → ByteArray → Int → Int → Int → ByteArray → Int → Int → Option (Bool)
 | 0, _, _, _, _, _, _, _, _, _, _, _, _, _, _, _, _ => none
 | k + 1, x310000, x310001, x310002, x310003, x310004, x310005, x310006, x310007, x311000, x311001, x311002, x311003, x311004, x311005, x311006, x311007 => (impl_sockIdOk.f x310000).bind fun t311 => (if t311 = true then (if x310002 = 0 then (some (x310001.toList == ([] : List UInt8) && (x310002 == 0 && (x310003 == 0 && (x310004 == 0 && (x310005.toList == ([] : List UInt8) && (x310006 == 0 && (x310007 == 0)))))))) else ((impl_nameOk.f k x310001).bind fun t312 => (if t312 = true then (if x310002 = 1 then (some (x311000 == 0 && (x311001.toList == ([] : List UInt8) && (x311002 == 0 && (x311003 == 0 && (x311004 == 0 && (x311005.toList == ([] : List UInt8) && (x311006 == 0 && (x311007 == 0))))))))) else (if x310002 = 2 then (if (x311000 == 0 && (x311001.toList == ([] : List UInt8) && (x311002 == 0 && (x311003 == x310003 && (x311004 == x310004 && (x311005.toList == x310005.toList && (x311006 == 0 && (x311007 == 0)))))))) = true then ((impl_wordOk.f x310003).bind fun t313 => (if t313 = true then ((impl_sinceOk.f x310004).bind fun t314 => (if t314 = true then ((impl_TextOk.f k x310005).bind fun t315 => (some t315)) else (some false))) else (some false))) else (some false)) else (if x310002 = 3 then (if (x311000 == 0 && (x311001.toList == ([] : List UInt8) && (x311002 == 0 && (x311003 == 0 && (x311004 == 0 && (x311005.toList == ([] : List UInt8) && (x311006 == x310006 && (x311007 == x310007)))))))) = true then ((impl_sockIdOk.f x310006).bind fun t316 => (if t316 = true then (some (decide (x310007 ≥ 1))) else (some false))) else (some false)) else (if x310002 = 4 then (if (x311000 == 0 && (x311001.toList == ([] : List UInt8) && (x311002 == 0 && (x311003 == 0 && (x311004 == 0 && (x311005.toList == ([] : List UInt8) && (x311006 == x310006 && (x311007 == x310007)))))))) = true then ((impl_sockIdOk.f x310006).bind fun t317 => (if t317 = true then (some (decide (x310007 ≥ 1))) else (some false))) else (some false)) else (some false))))) else (some false)))) else (some false))
def impl_AskerOk.f (k : Nat) (a0_0 : Int) (a0_1 : ByteArray) (a0_2 : Int) (a0_3 : Int) (a0_4 : Int) (a0_5 : ByteArray) (a0_6 : Int) (a0_7 : Int) : Option (Bool) := impl_AskerOk.j0 k a0_0 a0_1 a0_2 a0_3 a0_4 a0_5 a0_6 a0_7 0 (⟨#[]⟩ : ByteArray) 0 a0_3 a0_4 a0_5 a0_6 a0_7
theorem impl_AskerOk.mono_l : ∀ k, (∀ y0 y1 y2 y3 y4 y5 y6 y7 y8 y9 y10 y11 y12 y13 y14 y15, LeO (impl_AskerOk.j0 k y0 y1 y2 y3 y4 y5 y6 y7 y8 y9 y10 y11 y12 y13 y14 y15) (impl_AskerOk.j0 (k + 1) y0 y1 y2 y3 y4 y5 y6 y7 y8 y9 y10 y11 y12 y13 y14 y15))
 | 0 => fun _ _ _ _ _ _ _ _ _ _ _ _ _ _ _ _ r h => by simp [impl_AskerOk.j0] at h
 | k + 1 => by
  have ih0 := impl_AskerOk.mono_l k
  ·
   intro y0 y1 y2 y3 y4 y5 y6 y7 y8 y9 y10 y11 y12 y13 y14 y15
   unfold impl_AskerOk.j0
   repeat' first
   | (with_reducible exact ih0 _ _ _ _ _ _ _ _ _ _ _ _ _ _ _ _)
   | (with_reducible exact impl_TextOk.mono _ _)
   | (with_reducible exact impl_nameOk.mono _ _)
   | (with_reducible exact LeO.refl _)
   | (with_reducible exact LeO.none _)
   | (with_reducible refine LeO.ite ?_ ?_)
   | (with_reducible refine LeO.bind ?_ (fun _ => ?_))
   | exact ih0 _ _ _ _ _ _ _ _ _ _ _ _ _ _ _ _
   | exact impl_TextOk.mono _ _
   | exact impl_nameOk.mono _ _
   | exact LeO.none _
   | refine LeO.ite ?_ ?_
   | refine LeO.bind ?_ (fun _ => ?_)
theorem impl_AskerOk.mono : ∀ a0 a1 a2 a3 a4 a5 a6 a7 k, LeO (impl_AskerOk.f k a0 a1 a2 a3 a4 a5 a6 a7) (impl_AskerOk.f (k + 1) a0 a1 a2 a3 a4 a5 a6 a7) := by
 intro a0 a1 a2 a3 a4 a5 a6 a7 k
 have ih0 := impl_AskerOk.mono_l k
 unfold impl_AskerOk.f
 repeat' first
   | (with_reducible exact ih0 _ _ _ _ _ _ _ _ _ _ _ _ _ _ _ _)
   | (with_reducible exact impl_TextOk.mono _ _)
   | (with_reducible exact impl_nameOk.mono _ _)
   | (with_reducible exact LeO.refl _)
   | (with_reducible exact LeO.none _)
   | (with_reducible refine LeO.ite ?_ ?_)
   | (with_reducible refine LeO.bind ?_ (fun _ => ?_))
   | exact ih0 _ _ _ _ _ _ _ _ _ _ _ _ _ _ _ _
   | exact impl_TextOk.mono _ _
   | exact impl_nameOk.mono _ _
   | exact LeO.none _
   | refine LeO.ite ?_ ?_
   | refine LeO.bind ?_ (fun _ => ?_)
set_option maxHeartbeats 8000000 in
set_option maxRecDepth 100000 in
theorem impl_AskerOk.calls (k : Nat) (a0_0 : Int) (a0_1 : ByteArray) (a0_2 : Int) (a0_3 : Int) (a0_4 : Int) (a0_5 : ByteArray) (a0_6 : Int) (a0_7 : Int) (r : Bool) (w : World) (h : impl_AskerOk.f k a0_0 a0_1 a0_2 a0_3 a0_4 a0_5 a0_6 a0_7 = some r) :
  Calls Try.prog 79 #[.agg #[.int .i64 a0_0, .string a0_1, .int .i64 a0_2, .int .i64 a0_3, .int .i64 a0_4, .string a0_5, .int .i64 a0_6, .int .i64 a0_7]] w fun e w' => e = .returned (.bool r) ∧ Below w.heap.size w w' := by
 have hu45 := Try.underlying45
 have HB := Aside0.mk (Below.refl w.heap.size w)
 have H : (impl_AskerOk.j0 k a0_0 a0_1 a0_2 a0_3 a0_4 a0_5 a0_6 a0_7 0 (⟨#[]⟩ : ByteArray) 0 a0_3 a0_4 a0_5 a0_6 a0_7) = some r := h
 clear h
 have HC2 := Aside0.mk H
 clear H
 go_enter Try.func79, Try.ntmps79
 go_upto_region 2 with (first | ((with_reducible refine gate_dst (N := 1) rfl ?_); refine box_event ?hg (N := 1) ?hd (cs := #[.int .i64 a0_0, .string a0_1, .int .i64 a0_2, .int .i64 a0_3, .int .i64 a0_4, .string a0_5, .int .i64 a0_6, .int .i64 a0_7]) (t := 45) ?hr ?_; (case hd => rfl); (case hg => rfl); (case hr => first | (go_simp; done) | (go_simp; rfl)); intro gb309 hg w3 hbox hb; have BK309 := am_ (hbox); have GW309 := am_ ((gG_ hg (qB HB))); have IGW309 := gI_ GW309; have GE309 := am_ ((gG_ hg (qB HB))); have IGE309 := gI_ GE309; replace HB := am_ (below_step (qB HB) hb); clear hb hbox hg; obtain ⟨z4_0, z4_1, z4_2, z4_3, z4_4, z4_5, z4_6, z4_7⟩ := cz8 BK309.out; obtain ⟨f4_0, f4_1, f4_2, f4_3, f4_4, f4_5, f4_6, f4_7⟩ := fz8 BK309.out) | ((with_reducible refine gate_dst (N := 3) rfl ?_); refine box_event ?hg (N := 3) ?hd (cs := #[.int .i64 0, .string (⟨#[]⟩ : ByteArray), .int .i64 0, .int .i64 0, .int .i64 0, .string (⟨#[]⟩ : ByteArray), .int .i64 0, .int .i64 0]) (t := 45) ?hr ?_; (case hd => rfl); (case hg => rfl); (case hr => first | (go_simp; done) | (go_simp; rfl)); intro gb310 hg w5 hbox hb; have BK310 := am_ (hbox); have GW310 := am_ ((gG_ hg (qB HB))); have IGW310 := gI_ GW310; have GE310 := am_ ((gG_ hg (qB HB))); have IGE310 := gI_ GE310; replace HB := am_ (below_step (qB HB) hb); have NB309_310 := am_ ((gN_ hg (qK BK309))); have NB310_309 := am_ ((gM_ hg (qK BK309))); replace BK309 := am_ (blk_below (qK BK309) hb); clear hb hbox hg; have hnb6 := NB310_309.out; have hnc6 := NB309_310.out; obtain ⟨z7_0, z7_1, z7_2, z7_3, z7_4, z7_5, z7_6, z7_7⟩ := cz8 BK310.out; obtain ⟨f7_0, f7_1, f7_2, f7_3, f7_4, f7_5, f7_6, f7_7⟩ := fz8 BK310.out))
 (try simp only [Act.put, List.setIfInBounds_toArray, List.set_cons_zero, List.set_cons_succ])
 go_cut [] (fun wc => ∃ (kq : Nat) (x311000_1 : Int) (x311001_1 : ByteArray) (x311002_1 : Int), Aside0 (impl_AskerOk.j0 kq a0_0 a0_1 a0_2 a0_3 a0_4 a0_5 a0_6 a0_7 x311000_1 x311001_1 x311002_1 a0_3 a0_4 a0_5 a0_6 a0_7 = some r) ∧ Aside0 (kq ≤ k) ∧ Aside0 (wc.heap[gb309]? = some (.cells #[.int .i64 a0_0, .string a0_1, .int .i64 a0_2, .int .i64 a0_3, .int .i64 a0_4, .string a0_5, .int .i64 a0_6, .int .i64 a0_7] 45 (0, 0))) ∧ Aside0 (wc.heap[gb310]? = some (.cells #[.int .i64 x311000_1, .string x311001_1, .int .i64 x311002_1, .int .i64 a0_3, .int .i64 a0_4, .string a0_5, .int .i64 a0_6, .int .i64 a0_7] 45 (0, 0))) ∧ Aside0 (Below w.heap.size w wc))
 case first =>
  have H := HC2.out
  clear HC2
  have H' := Aside0.mk H
  clear H
  have hnb8 := NB310_309.out
  have hnc8 := NB309_310.out
  obtain ⟨z9_0, z9_1, z9_2, z9_3, z9_4, z9_5, z9_6, z9_7⟩ := cz8 BK310.out
  obtain ⟨f9_0, f9_1, f9_2, f9_3, f9_4, f9_5, f9_6, f9_7⟩ := fz8 BK310.out
  go_wp2_with (first | ((with_reducible refine gate_store (t := 3) (p := 5) rfl ?_); refine store_event (t := 3) (p := 5) (v := ?vo_w10) (w1 := (((((((((w5.setCell ⟨gb310, 0, none⟩ (.int .i64 a0_0)).setCell ⟨gb310, 1, none⟩ (.string a0_1)).setCell ⟨gb310, 2, none⟩ (.int .i64 a0_2)).setCell ⟨gb310, 3, none⟩ (.int .i64 a0_3)).setCell ⟨gb310, 4, none⟩ (.int .i64 a0_4)).setCell ⟨gb310, 5, none⟩ (.string a0_5)).setCell ⟨gb310, 6, none⟩ (.int .i64 a0_6)).setCell ⟨gb310, 7, none⟩ (.int .i64 a0_7)).setCell ⟨gb310, 0, none⟩ (.int .i64 0))) ?hg ?ho ?hn ?hr ?_; (case ho => rfl); (case hg => rfl); (case hn => rfl); (case hr => first | (go_simp; done) | (go_simp; rfl)); intro w10 hw; have n0_ : Aside0 (w10.heap[gb309]? = some (.cells #[.int .i64 a0_0, .string a0_1, .int .i64 a0_2, .int .i64 a0_3, .int .i64 a0_4, .string a0_5, .int .i64 a0_6, .int .i64 a0_7] 45 (0, 0))) := ⟨(by rw [hw]; exact (by (with_reducible repeat (first | refine blk_drewN ?_ _ | refine blk_drew ?_ | refine blk_alloc ?_ _)); refine Go.Proofs.YtahfemlfdpbkkaaV.blk_far9 ?_ NB309_310.out; (with_reducible repeat (first | refine blk_drewN ?_ _ | refine blk_drew ?_ | refine blk_alloc ?_ _)); exact BK309.out))⟩; have n1_ : Aside0 (w10.heap[gb310]? = some (.cells #[.int .i64 0, .string a0_1, .int .i64 a0_2, .int .i64 a0_3, .int .i64 a0_4, .string a0_5, .int .i64 a0_6, .int .i64 a0_7] 45 (0, 0))) := ⟨(by rw [hw]; exact (by (with_reducible repeat (first | refine blk_drewN ?_ _ | refine blk_drew ?_ | refine blk_alloc ?_ _)); refine blk_put (cs := #[.int .i64 a0_0, .string a0_1, .int .i64 a0_2, .int .i64 a0_3, .int .i64 a0_4, .string a0_5, .int .i64 a0_6, .int .i64 a0_7]) ?_ 0 _ rfl; (with_reducible repeat (first | refine blk_drewN ?_ _ | refine blk_drew ?_ | refine blk_alloc ?_ _)); refine blk_put (cs := #[.int .i64 a0_0, .string a0_1, .int .i64 a0_2, .int .i64 a0_3, .int .i64 a0_4, .string a0_5, .int .i64 a0_6, .int .i64 0]) ?_ 7 _ rfl; (with_reducible repeat (first | refine blk_drewN ?_ _ | refine blk_drew ?_ | refine blk_alloc ?_ _)); refine blk_put (cs := #[.int .i64 a0_0, .string a0_1, .int .i64 a0_2, .int .i64 a0_3, .int .i64 a0_4, .string a0_5, .int .i64 0, .int .i64 0]) ?_ 6 _ rfl; (with_reducible repeat (first | refine blk_drewN ?_ _ | refine blk_drew ?_ | refine blk_alloc ?_ _)); refine blk_put (cs := #[.int .i64 a0_0, .string a0_1, .int .i64 a0_2, .int .i64 a0_3, .int .i64 a0_4, .string (⟨#[]⟩ : ByteArray), .int .i64 0, .int .i64 0]) ?_ 5 _ rfl; (with_reducible repeat (first | refine blk_drewN ?_ _ | refine blk_drew ?_ | refine blk_alloc ?_ _)); refine blk_put (cs := #[.int .i64 a0_0, .string a0_1, .int .i64 a0_2, .int .i64 a0_3, .int .i64 0, .string (⟨#[]⟩ : ByteArray), .int .i64 0, .int .i64 0]) ?_ 4 _ rfl; (with_reducible repeat (first | refine blk_drewN ?_ _ | refine blk_drew ?_ | refine blk_alloc ?_ _)); refine blk_put (cs := #[.int .i64 a0_0, .string a0_1, .int .i64 a0_2, .int .i64 0, .int .i64 0, .string (⟨#[]⟩ : ByteArray), .int .i64 0, .int .i64 0]) ?_ 3 _ rfl; (with_reducible repeat (first | refine blk_drewN ?_ _ | refine blk_drew ?_ | refine blk_alloc ?_ _)); refine blk_put (cs := #[.int .i64 a0_0, .string a0_1, .int .i64 0, .int .i64 0, .int .i64 0, .string (⟨#[]⟩ : ByteArray), .int .i64 0, .int .i64 0]) ?_ 2 _ rfl; (with_reducible repeat (first | refine blk_drewN ?_ _ | refine blk_drew ?_ | refine blk_alloc ?_ _)); refine blk_put (cs := #[.int .i64 a0_0, .string (⟨#[]⟩ : ByteArray), .int .i64 0, .int .i64 0, .int .i64 0, .string (⟨#[]⟩ : ByteArray), .int .i64 0, .int .i64 0]) ?_ 1 _ rfl; (with_reducible repeat (first | refine blk_drewN ?_ _ | refine blk_drew ?_ | refine blk_alloc ?_ _)); refine blk_put (cs := #[.int .i64 0, .string (⟨#[]⟩ : ByteArray), .int .i64 0, .int .i64 0, .int .i64 0, .string (⟨#[]⟩ : ByteArray), .int .i64 0, .int .i64 0]) ?_ 0 _ rfl; (with_reducible repeat (first | refine blk_drewN ?_ _ | refine blk_drew ?_ | refine blk_alloc ?_ _)); exact BK310.out))⟩; have n2_ : Aside0 (Below w.heap.size w w10) := ⟨(by rw [hw]; exact (qB HB))⟩; clear hw; clear BK309; clear BK310; clear HB; have BK309 := n0_; have BK310 := n1_; have HB := n2_; clear n0_ n1_ n2_; obtain ⟨z11_0, z11_1, z11_2, z11_3, z11_4, z11_5, z11_6, z11_7⟩ := cz8 BK310.out; obtain ⟨f11_0, f11_1, f11_2, f11_3, f11_4, f11_5, f11_6, f11_7⟩ := fz8 BK310.out))
  go_meet
  case rel => exact ⟨_, (0), ((⟨#[]⟩ : ByteArray)), (0), H', ⟨by first | omega | exact Nat.le_refl _⟩, ⟨by (with_reducible repeat (first | refine blk_drewN ?_ _ | refine blk_drew ?_ | refine blk_alloc ?_ _)); refine Go.Proofs.YtahfemlfdpbkkaaV.blk_far2 ?_ NB309_310.out; (with_reducible repeat (first | refine blk_drewN ?_ _ | refine blk_drew ?_ | refine blk_alloc ?_ _)); exact BK309.out⟩, ⟨by (with_reducible repeat (first | refine blk_drewN ?_ _ | refine blk_drew ?_ | refine blk_alloc ?_ _)); refine blk_put (cs := #[.int .i64 0, .string a0_1, .int .i64 0, .int .i64 a0_3, .int .i64 a0_4, .string a0_5, .int .i64 a0_6, .int .i64 a0_7]) ?_ 1 _ rfl; (with_reducible repeat (first | refine blk_drewN ?_ _ | refine blk_drew ?_ | refine blk_alloc ?_ _)); refine blk_put (cs := #[.int .i64 0, .string a0_1, .int .i64 a0_2, .int .i64 a0_3, .int .i64 a0_4, .string a0_5, .int .i64 a0_6, .int .i64 a0_7]) ?_ 2 _ rfl; (with_reducible repeat (first | refine blk_drewN ?_ _ | refine blk_drew ?_ | refine blk_alloc ?_ _)); exact BK310.out⟩, ⟨qB HB⟩⟩
 case rest =>
  clear HC2
  try clear p2
  try clear c6
  try clear c7
  try clear c8
  (try clear z11_0 z11_1 z11_2 z11_3 z11_4 z11_5 z11_6 z11_7)
  (try clear z4_0 z4_1 z4_2 z4_3 z4_4 z4_5 z4_6 z4_7)
  (try clear z7_0 z7_1 z7_2 z7_3 z7_4 z7_5 z7_6 z7_7)
  (try clear z9_0 z9_1 z9_2 z9_3 z9_4 z9_5 z9_6 z9_7)
  (try clear f11_0 f11_1 f11_2 f11_3 f11_4 f11_5 f11_6 f11_7)
  (try clear f4_0 f4_1 f4_2 f4_3 f4_4 f4_5 f4_6 f4_7)
  (try clear f7_0 f7_1 f7_2 f7_3 f7_4 f7_5 f7_6 f7_7)
  (try clear f9_0 f9_1 f9_2 f9_3 f9_4 f9_5 f9_6 f9_7)
  obtain ⟨kq, x311000_1, x311001_1, x311002_1, HA, HJ1, BK309, BK310, HB⟩ := hcut
  cases kq with
  | zero => exact absurd HA.out (by simp [impl_AskerOk.j0])
  | succ kj1 =>
   have H := HA.out
   clear HA
   simp only [impl_AskerOk.j0] at H
   obtain ⟨t311, A12, H⟩ := bd_ H
   have HC13 := Aside0.mk H
   clear H
   have hnb14 := NB309_310.out
   have hnc14 := NB310_309.out
   obtain ⟨z15_0, z15_1, z15_2, z15_3, z15_4, z15_5, z15_6, z15_7⟩ := cz8 BK309.out
   obtain ⟨f15_0, f15_1, f15_2, f15_3, f15_4, f15_5, f15_6, f15_7⟩ := fz8 BK309.out
   go_upto_if 11 with (first | ((with_reducible refine gate_callee (f := 142) rfl ?_); refine goesL_ (some 10) rfl rfl Try.func142 (by kernel_rfl) rfl #[.int .i64 a0_0] rfl la_ ?_; (with_reducible refine (impl_sockIdOk.calls a0_0 t311 _ A12.out).mono ?_); rintro e w' ⟨rfl, ⟨nd, rfl⟩⟩; refine ⟨_, rfl, ?_⟩))
   (try simp only [Act.put, List.setIfInBounds_toArray, List.set_cons_zero, List.set_cons_succ])
   (try (rw [drewN_self wc]; generalize hq_ : World.drewN wc _ = wc; have n0_ : Aside0 (wc.heap[gb309]? = some (.cells #[.int .i64 a0_0, .string a0_1, .int .i64 a0_2, .int .i64 a0_3, .int .i64 a0_4, .string a0_5, .int .i64 a0_6, .int .i64 a0_7] 45 (0, 0))) := ⟨by rw [← hq_]; exact (qK BK309)⟩; have n1_ : Aside0 (wc.heap[gb310]? = some (.cells #[.int .i64 x311000_1, .string x311001_1, .int .i64 x311002_1, .int .i64 a0_3, .int .i64 a0_4, .string a0_5, .int .i64 a0_6, .int .i64 a0_7] 45 (0, 0))) := ⟨by rw [← hq_]; exact (qK BK310)⟩; have n2_ : Aside0 (Below w.heap.size w wc) := ⟨by rw [← hq_]; exact (qB HB)⟩; clear BK309 BK310 HB hq_; have BK309 := n0_; have BK310 := n1_; have HB := n2_; clear n0_ n1_ n2_))
   have H := HC13.out
   clear HC13
   by_cases c16 : t311 = true
   ·
    subst c16
    rw [if_pos rfl] at H
    by_cases c17 : a0_2 = 0
    ·
     rw [if_pos c17] at H
     have c17b0 : (a0_2 == 0) = true := beq_iff_eq.mpr c17
     have c17b1 : (a0_2 != 0) = false := bne_eq_false_iff_eq.mpr c17
     clear c17
     (first | rw [c17b0] | rw [c17b1] | (simp only [i64_w, i32_w]; rw [c17b0]) | skip)
     obtain rfl := Option.some.inj H
     have hnb18 := NB309_310.out
     have hnc18 := NB310_309.out
     obtain ⟨z19_0, z19_1, z19_2, z19_3, z19_4, z19_5, z19_6, z19_7⟩ := cz8 BK309.out
     obtain ⟨f19_0, f19_1, f19_2, f19_3, f19_4, f19_5, f19_6, f19_7⟩ := fz8 BK309.out
     go_wp2
     go_ret
     exact ⟨by first | rfl | (simp [errW_none, errW_some] <;> rfl) | (simp [*, errW_none, errW_some] <;> rfl), qB HB⟩
    ·
     rw [if_neg c17] at H
     have c17b0 : (a0_2 == 0) = false := beq_eq_false_iff_ne.mpr c17
     have c17b1 : (a0_2 != 0) = true := bne_iff_ne.mpr c17
     (first | rw [c17b0] | rw [c17b1] | (simp only [i64_w, i32_w]; rw [c17b0]) | skip)
     obtain ⟨t312, A20, H⟩ := bd_ H
     have HC21 := Aside0.mk H
     clear H
     have hnb22 := NB309_310.out
     have hnc22 := NB310_309.out
     obtain ⟨z23_0, z23_1, z23_2, z23_3, z23_4, z23_5, z23_6, z23_7⟩ := cz8 BK309.out
     obtain ⟨f23_0, f23_1, f23_2, f23_3, f23_4, f23_5, f23_6, f23_7⟩ := fz8 BK309.out
     go_upto_if 23 with (first | ((with_reducible refine gate_callee (f := 146) rfl ?_); refine goesL_ (some 22) rfl rfl Try.func146 (by kernel_rfl) rfl #[.string a0_1] rfl la_ ?_; (with_reducible refine (impl_nameOk.calls kj1 a0_1 t312 _ A20.out).mono ?_); rintro e w' ⟨rfl, ⟨nd, rfl⟩⟩; refine ⟨_, rfl, ?_⟩))
     (try simp only [Act.put, List.setIfInBounds_toArray, List.set_cons_zero, List.set_cons_succ])
     (try (rw [drewN_self wc]; generalize hq_ : World.drewN wc _ = wc; have n0_ : Aside0 (wc.heap[gb309]? = some (.cells #[.int .i64 a0_0, .string a0_1, .int .i64 a0_2, .int .i64 a0_3, .int .i64 a0_4, .string a0_5, .int .i64 a0_6, .int .i64 a0_7] 45 (0, 0))) := ⟨by rw [← hq_]; exact (qK BK309)⟩; have n1_ : Aside0 (wc.heap[gb310]? = some (.cells #[.int .i64 x311000_1, .string x311001_1, .int .i64 x311002_1, .int .i64 a0_3, .int .i64 a0_4, .string a0_5, .int .i64 a0_6, .int .i64 a0_7] 45 (0, 0))) := ⟨by rw [← hq_]; exact (qK BK310)⟩; have n2_ : Aside0 (Below w.heap.size w wc) := ⟨by rw [← hq_]; exact (qB HB)⟩; clear BK309 BK310 HB hq_; have BK309 := n0_; have BK310 := n1_; have HB := n2_; clear n0_ n1_ n2_))
     have H := HC21.out
     clear HC21
     by_cases c24 : t312 = true
     ·
      subst c24
      rw [if_pos rfl] at H
      by_cases c25 : a0_2 = 1
      ·
       rw [if_pos c25] at H
       have c25b0 : (a0_2 == 1) = true := beq_iff_eq.mpr c25
       have c25b1 : (a0_2 != 1) = false := bne_eq_false_iff_eq.mpr c25
       clear c25
       (first | rw [c25b0] | rw [c25b1] | (simp only [i64_w, i32_w]; rw [c25b0]) | skip)
       obtain rfl := Option.some.inj H
       have hnb26 := NB309_310.out
       have hnc26 := NB310_309.out
       obtain ⟨z27_0, z27_1, z27_2, z27_3, z27_4, z27_5, z27_6, z27_7⟩ := cz8 BK309.out
       obtain ⟨f27_0, f27_1, f27_2, f27_3, f27_4, f27_5, f27_6, f27_7⟩ := fz8 BK309.out
       obtain ⟨z28_0, z28_1, z28_2, z28_3, z28_4, z28_5, z28_6, z28_7⟩ := cz8 BK310.out
       obtain ⟨f28_0, f28_1, f28_2, f28_3, f28_4, f28_5, f28_6, f28_7⟩ := fz8 BK310.out
       go_wp2
       go_ret
       exact ⟨by first | rfl | (simp [errW_none, errW_some] <;> rfl) | (simp [*, errW_none, errW_some] <;> rfl), qB HB⟩
      ·
       rw [if_neg c25] at H
       have c25b0 : (a0_2 == 1) = false := beq_eq_false_iff_ne.mpr c25
       have c25b1 : (a0_2 != 1) = true := bne_iff_ne.mpr c25
       (first | rw [c25b0] | rw [c25b1] | (simp only [i64_w, i32_w]; rw [c25b0]) | skip)
       by_cases c29 : a0_2 = 2
       ·
        rw [if_pos c29] at H
        have c29b0 : (a0_2 == 2) = true := beq_iff_eq.mpr c29
        have c29b1 : (a0_2 != 2) = false := bne_eq_false_iff_eq.mpr c29
        clear c29
        by_cases c30 : (x311000_1 == 0 && (x311001_1.toList == ([] : List UInt8) && (x311002_1 == 0 && (a0_3 == a0_3 && (a0_4 == a0_4 && (a0_5.toList == a0_5.toList && (a0_6 == 0 && (a0_7 == 0)))))))) = true
        ·
         rw [if_pos c30] at H
         have c30b0 : (x311000_1 == 0 && (x311001_1.toList == ([] : List UInt8) && (x311002_1 == 0 && (a0_3 == a0_3 && (a0_4 == a0_4 && (a0_5.toList == a0_5.toList && (a0_6 == 0 && (a0_7 == 0)))))))) = true := c30
         (try (have c30b0e := c30b0; simp only [Go.Proofs.YtahfemlfdpbkkaaV.beq_nil, Go.Proofs.YtahfemlfdpbkkaaV.bne_nil] at c30b0e))
         (try simp only [beq_self_eq_true, Bool.true_and, Bool.and_true, Go.Proofs.YtahfemlfdpbkkaaV.beq_nil] at c30b0)
         (try (have c30b1 : decide (x311000_1 = 0 && (x311001_1.toList == ([] : List UInt8) && (x311002_1 == 0 && (a0_3 == a0_3 && (a0_4 == a0_4 && (a0_5.toList == a0_5.toList && (a0_6 == 0 && (a0_7 == 0)))))))) = true := by simpa using c30))
         (try (have c30b1e := c30b1; simp only [Go.Proofs.YtahfemlfdpbkkaaV.beq_nil, Go.Proofs.YtahfemlfdpbkkaaV.bne_nil] at c30b1e))
         (try simp only [beq_self_eq_true, Bool.true_and, Bool.and_true, Go.Proofs.YtahfemlfdpbkkaaV.beq_nil] at c30b1)
         (try (have c30b2 : (x311000_1 == 0 && (x311001_1.toList == ([] : List UInt8) && (x311002_1 == 0 && (a0_3 == a0_3 && (a0_4 == a0_4 && (a0_5.toList == a0_5.toList && (a0_6 == 0 && (a0_7 == 0)))))))) = true := by simpa using c30))
         (try (have c30b2e := c30b2; simp only [Go.Proofs.YtahfemlfdpbkkaaV.beq_nil, Go.Proofs.YtahfemlfdpbkkaaV.bne_nil] at c30b2e))
         (try simp only [beq_self_eq_true, Bool.true_and, Bool.and_true, Go.Proofs.YtahfemlfdpbkkaaV.beq_nil] at c30b2)
         clear c30
         obtain ⟨t313, A31, H⟩ := bd_ H
         by_cases c32 : t313 = true
         ·
          subst c32
          rw [if_pos rfl] at H
          obtain ⟨t314, A33, H⟩ := bd_ H
          by_cases c34 : t314 = true
          ·
           subst c34
           rw [if_pos rfl] at H
           obtain ⟨t315, A35, H⟩ := bd_ H
           obtain rfl := Option.some.inj H
           have hnb36 := NB309_310.out
           have hnc36 := NB310_309.out
           obtain ⟨z37_0, z37_1, z37_2, z37_3, z37_4, z37_5, z37_6, z37_7⟩ := cz8 BK309.out
           obtain ⟨f37_0, f37_1, f37_2, f37_3, f37_4, f37_5, f37_6, f37_7⟩ := fz8 BK309.out
           obtain ⟨z38_0, z38_1, z38_2, z38_3, z38_4, z38_5, z38_6, z38_7⟩ := cz8 BK310.out
           obtain ⟨f38_0, f38_1, f38_2, f38_3, f38_4, f38_5, f38_6, f38_7⟩ := fz8 BK310.out
           go_wp2_with (first | (go_at_call 80; (with_reducible refine (impl_wordOk.calls a0_3 true _ A31.out).mono ?_); rintro e w' ⟨rfl, ⟨nd, rfl⟩⟩) | (go_at_call 136; (with_reducible refine (impl_sinceOk.calls a0_4 true _ A33.out).mono ?_); rintro e w' ⟨rfl, ⟨nd, rfl⟩⟩) | (go_at_call 147; (with_reducible refine (impl_TextOk.calls kj1 a0_5 t315 _ A35.out).mono ?_); rintro e w' ⟨rfl, ⟨nd, rfl⟩⟩))
           go_ret
           exact ⟨by first | rfl | (simp [errW_none, errW_some] <;> rfl) | (simp [*, errW_none, errW_some] <;> rfl), qB HB⟩
          ·
           replace c34 := Bool.eq_false_iff.mpr c34
           subst c34
           rw [if_neg (show ¬ (false = true) by decide)] at H
           obtain rfl := Option.some.inj H
           have hnb39 := NB309_310.out
           have hnc39 := NB310_309.out
           obtain ⟨z40_0, z40_1, z40_2, z40_3, z40_4, z40_5, z40_6, z40_7⟩ := cz8 BK309.out
           obtain ⟨f40_0, f40_1, f40_2, f40_3, f40_4, f40_5, f40_6, f40_7⟩ := fz8 BK309.out
           obtain ⟨z41_0, z41_1, z41_2, z41_3, z41_4, z41_5, z41_6, z41_7⟩ := cz8 BK310.out
           obtain ⟨f41_0, f41_1, f41_2, f41_3, f41_4, f41_5, f41_6, f41_7⟩ := fz8 BK310.out
           go_wp2_with (first | (go_at_call 80; (with_reducible refine (impl_wordOk.calls a0_3 true _ A31.out).mono ?_); rintro e w' ⟨rfl, ⟨nd, rfl⟩⟩) | (go_at_call 136; (with_reducible refine (impl_sinceOk.calls a0_4 false _ A33.out).mono ?_); rintro e w' ⟨rfl, ⟨nd, rfl⟩⟩))
           go_ret
           exact ⟨by first | rfl | (simp [errW_none, errW_some] <;> rfl) | (simp [*, errW_none, errW_some] <;> rfl), qB HB⟩
         ·
          replace c32 := Bool.eq_false_iff.mpr c32
          subst c32
          rw [if_neg (show ¬ (false = true) by decide)] at H
          obtain rfl := Option.some.inj H
          have hnb42 := NB309_310.out
          have hnc42 := NB310_309.out
          obtain ⟨z43_0, z43_1, z43_2, z43_3, z43_4, z43_5, z43_6, z43_7⟩ := cz8 BK309.out
          obtain ⟨f43_0, f43_1, f43_2, f43_3, f43_4, f43_5, f43_6, f43_7⟩ := fz8 BK309.out
          obtain ⟨z44_0, z44_1, z44_2, z44_3, z44_4, z44_5, z44_6, z44_7⟩ := cz8 BK310.out
          obtain ⟨f44_0, f44_1, f44_2, f44_3, f44_4, f44_5, f44_6, f44_7⟩ := fz8 BK310.out
          go_wp2_with (first | (go_at_call 80; (with_reducible refine (impl_wordOk.calls a0_3 false _ A31.out).mono ?_); rintro e w' ⟨rfl, ⟨nd, rfl⟩⟩))
          go_ret
          exact ⟨by first | rfl | (simp [errW_none, errW_some] <;> rfl) | (simp [*, errW_none, errW_some] <;> rfl), qB HB⟩
        ·
         rw [if_neg c30] at H
         have c30b0 : (x311000_1 == 0 && (x311001_1.toList == ([] : List UInt8) && (x311002_1 == 0 && (a0_3 == a0_3 && (a0_4 == a0_4 && (a0_5.toList == a0_5.toList && (a0_6 == 0 && (a0_7 == 0)))))))) = false := by simpa using c30
         (try (have c30b0e := c30b0; simp only [Go.Proofs.YtahfemlfdpbkkaaV.beq_nil, Go.Proofs.YtahfemlfdpbkkaaV.bne_nil] at c30b0e))
         (try simp only [beq_self_eq_true, Bool.true_and, Bool.and_true, Go.Proofs.YtahfemlfdpbkkaaV.beq_nil] at c30b0)
         (try (have c30b1 : decide (x311000_1 = 0 && (x311001_1.toList == ([] : List UInt8) && (x311002_1 == 0 && (a0_3 == a0_3 && (a0_4 == a0_4 && (a0_5.toList == a0_5.toList && (a0_6 == 0 && (a0_7 == 0)))))))) = false := by simpa using c30))
         (try (have c30b1e := c30b1; simp only [Go.Proofs.YtahfemlfdpbkkaaV.beq_nil, Go.Proofs.YtahfemlfdpbkkaaV.bne_nil] at c30b1e))
         (try simp only [beq_self_eq_true, Bool.true_and, Bool.and_true, Go.Proofs.YtahfemlfdpbkkaaV.beq_nil] at c30b1)
         (try (have c30b2 : (x311000_1 == 0 && (x311001_1.toList == ([] : List UInt8) && (x311002_1 == 0 && (a0_3 == a0_3 && (a0_4 == a0_4 && (a0_5.toList == a0_5.toList && (a0_6 == 0 && (a0_7 == 0)))))))) = false := by simpa using c30))
         (try (have c30b2e := c30b2; simp only [Go.Proofs.YtahfemlfdpbkkaaV.beq_nil, Go.Proofs.YtahfemlfdpbkkaaV.bne_nil] at c30b2e))
         (try simp only [beq_self_eq_true, Bool.true_and, Bool.and_true, Go.Proofs.YtahfemlfdpbkkaaV.beq_nil] at c30b2)
         (try (have c30b3 : ¬ (x311000_1 = 0 && (x311001_1.toList == ([] : List UInt8) && (x311002_1 == 0 && (a0_3 == a0_3 && (a0_4 == a0_4 && (a0_5.toList == a0_5.toList && (a0_6 == 0 && (a0_7 == 0)))))))) := by simpa using c30))
         (try (have c30b3e := c30b3; simp only [Go.Proofs.YtahfemlfdpbkkaaV.beq_nil, Go.Proofs.YtahfemlfdpbkkaaV.bne_nil] at c30b3e))
         (try simp only [beq_self_eq_true, Bool.true_and, Bool.and_true, Go.Proofs.YtahfemlfdpbkkaaV.beq_nil] at c30b3)
         clear c30
         obtain rfl := Option.some.inj H
         have hnb45 := NB309_310.out
         have hnc45 := NB310_309.out
         obtain ⟨z46_0, z46_1, z46_2, z46_3, z46_4, z46_5, z46_6, z46_7⟩ := cz8 BK309.out
         obtain ⟨f46_0, f46_1, f46_2, f46_3, f46_4, f46_5, f46_6, f46_7⟩ := fz8 BK309.out
         obtain ⟨z47_0, z47_1, z47_2, z47_3, z47_4, z47_5, z47_6, z47_7⟩ := cz8 BK310.out
         obtain ⟨f47_0, f47_1, f47_2, f47_3, f47_4, f47_5, f47_6, f47_7⟩ := fz8 BK310.out
         go_wp2
         go_ret
         exact ⟨by first | rfl | (simp [errW_none, errW_some] <;> rfl) | (simp [*, errW_none, errW_some] <;> rfl), qB HB⟩
       ·
        rw [if_neg c29] at H
        have c29b0 : (a0_2 == 2) = false := beq_eq_false_iff_ne.mpr c29
        have c29b1 : (a0_2 != 2) = true := bne_iff_ne.mpr c29
        by_cases c48 : a0_2 = 3
        ·
         rw [if_pos c48] at H
         have c48b0 : (a0_2 == 3) = true := beq_iff_eq.mpr c48
         have c48b1 : (a0_2 != 3) = false := bne_eq_false_iff_eq.mpr c48
         clear c48
         by_cases c49 : (x311000_1 == 0 && (x311001_1.toList == ([] : List UInt8) && (x311002_1 == 0 && (a0_3 == 0 && (a0_4 == 0 && (a0_5.toList == ([] : List UInt8) && (a0_6 == a0_6 && (a0_7 == a0_7)))))))) = true
         ·
          rw [if_pos c49] at H
          have c49b0 : (x311000_1 == 0 && (x311001_1.toList == ([] : List UInt8) && (x311002_1 == 0 && (a0_3 == 0 && (a0_4 == 0 && (a0_5.toList == ([] : List UInt8) && (a0_6 == a0_6 && (a0_7 == a0_7)))))))) = true := c49
          (try (have c49b0e := c49b0; simp only [Go.Proofs.YtahfemlfdpbkkaaV.beq_nil, Go.Proofs.YtahfemlfdpbkkaaV.bne_nil] at c49b0e))
          (try simp only [beq_self_eq_true, Bool.true_and, Bool.and_true, Go.Proofs.YtahfemlfdpbkkaaV.beq_nil] at c49b0)
          (try (have c49b1 : decide (x311000_1 = 0 && (x311001_1.toList == ([] : List UInt8) && (x311002_1 == 0 && (a0_3 == 0 && (a0_4 == 0 && (a0_5.toList == ([] : List UInt8) && (a0_6 == a0_6 && (a0_7 == a0_7)))))))) = true := by simpa using c49))
          (try (have c49b1e := c49b1; simp only [Go.Proofs.YtahfemlfdpbkkaaV.beq_nil, Go.Proofs.YtahfemlfdpbkkaaV.bne_nil] at c49b1e))
          (try simp only [beq_self_eq_true, Bool.true_and, Bool.and_true, Go.Proofs.YtahfemlfdpbkkaaV.beq_nil] at c49b1)
          (try (have c49b2 : (x311000_1 == 0 && (x311001_1.toList == ([] : List UInt8) && (x311002_1 == 0 && (a0_3 == 0 && (a0_4 == 0 && (a0_5.toList == ([] : List UInt8) && (a0_6 == a0_6 && (a0_7 == a0_7)))))))) = true := by simpa using c49))
          (try (have c49b2e := c49b2; simp only [Go.Proofs.YtahfemlfdpbkkaaV.beq_nil, Go.Proofs.YtahfemlfdpbkkaaV.bne_nil] at c49b2e))
          (try simp only [beq_self_eq_true, Bool.true_and, Bool.and_true, Go.Proofs.YtahfemlfdpbkkaaV.beq_nil] at c49b2)
          clear c49
          obtain ⟨t316, A50, H⟩ := bd_ H
          by_cases c51 : t316 = true
          ·
           subst c51
           rw [if_pos rfl] at H
           obtain rfl := Option.some.inj H
           have hnb52 := NB309_310.out
           have hnc52 := NB310_309.out
           obtain ⟨z53_0, z53_1, z53_2, z53_3, z53_4, z53_5, z53_6, z53_7⟩ := cz8 BK309.out
           obtain ⟨f53_0, f53_1, f53_2, f53_3, f53_4, f53_5, f53_6, f53_7⟩ := fz8 BK309.out
           obtain ⟨z54_0, z54_1, z54_2, z54_3, z54_4, z54_5, z54_6, z54_7⟩ := cz8 BK310.out
           obtain ⟨f54_0, f54_1, f54_2, f54_3, f54_4, f54_5, f54_6, f54_7⟩ := fz8 BK310.out
           go_wp2_with (first | (go_at_call 142; (with_reducible refine (impl_sockIdOk.calls a0_6 true _ A50.out).mono ?_); rintro e w' ⟨rfl, ⟨nd, rfl⟩⟩))
           go_ret
           exact ⟨by first | rfl | (simp [errW_none, errW_some] <;> rfl) | (simp [*, errW_none, errW_some] <;> rfl), qB HB⟩
          ·
           replace c51 := Bool.eq_false_iff.mpr c51
           subst c51
           rw [if_neg (show ¬ (false = true) by decide)] at H
           obtain rfl := Option.some.inj H
           have hnb55 := NB309_310.out
           have hnc55 := NB310_309.out
           obtain ⟨z56_0, z56_1, z56_2, z56_3, z56_4, z56_5, z56_6, z56_7⟩ := cz8 BK309.out
           obtain ⟨f56_0, f56_1, f56_2, f56_3, f56_4, f56_5, f56_6, f56_7⟩ := fz8 BK309.out
           obtain ⟨z57_0, z57_1, z57_2, z57_3, z57_4, z57_5, z57_6, z57_7⟩ := cz8 BK310.out
           obtain ⟨f57_0, f57_1, f57_2, f57_3, f57_4, f57_5, f57_6, f57_7⟩ := fz8 BK310.out
           go_wp2_with (first | (go_at_call 142; (with_reducible refine (impl_sockIdOk.calls a0_6 false _ A50.out).mono ?_); rintro e w' ⟨rfl, ⟨nd, rfl⟩⟩))
           go_ret
           exact ⟨by first | rfl | (simp [errW_none, errW_some] <;> rfl) | (simp [*, errW_none, errW_some] <;> rfl), qB HB⟩
         ·
          rw [if_neg c49] at H
          have c49b0 : (x311000_1 == 0 && (x311001_1.toList == ([] : List UInt8) && (x311002_1 == 0 && (a0_3 == 0 && (a0_4 == 0 && (a0_5.toList == ([] : List UInt8) && (a0_6 == a0_6 && (a0_7 == a0_7)))))))) = false := by simpa using c49
          (try (have c49b0e := c49b0; simp only [Go.Proofs.YtahfemlfdpbkkaaV.beq_nil, Go.Proofs.YtahfemlfdpbkkaaV.bne_nil] at c49b0e))
          (try simp only [beq_self_eq_true, Bool.true_and, Bool.and_true, Go.Proofs.YtahfemlfdpbkkaaV.beq_nil] at c49b0)
          (try (have c49b1 : decide (x311000_1 = 0 && (x311001_1.toList == ([] : List UInt8) && (x311002_1 == 0 && (a0_3 == 0 && (a0_4 == 0 && (a0_5.toList == ([] : List UInt8) && (a0_6 == a0_6 && (a0_7 == a0_7)))))))) = false := by simpa using c49))
          (try (have c49b1e := c49b1; simp only [Go.Proofs.YtahfemlfdpbkkaaV.beq_nil, Go.Proofs.YtahfemlfdpbkkaaV.bne_nil] at c49b1e))
          (try simp only [beq_self_eq_true, Bool.true_and, Bool.and_true, Go.Proofs.YtahfemlfdpbkkaaV.beq_nil] at c49b1)
          (try (have c49b2 : (x311000_1 == 0 && (x311001_1.toList == ([] : List UInt8) && (x311002_1 == 0 && (a0_3 == 0 && (a0_4 == 0 && (a0_5.toList == ([] : List UInt8) && (a0_6 == a0_6 && (a0_7 == a0_7)))))))) = false := by simpa using c49))
          (try (have c49b2e := c49b2; simp only [Go.Proofs.YtahfemlfdpbkkaaV.beq_nil, Go.Proofs.YtahfemlfdpbkkaaV.bne_nil] at c49b2e))
          (try simp only [beq_self_eq_true, Bool.true_and, Bool.and_true, Go.Proofs.YtahfemlfdpbkkaaV.beq_nil] at c49b2)
          (try (have c49b3 : ¬ (x311000_1 = 0 && (x311001_1.toList == ([] : List UInt8) && (x311002_1 == 0 && (a0_3 == 0 && (a0_4 == 0 && (a0_5.toList == ([] : List UInt8) && (a0_6 == a0_6 && (a0_7 == a0_7)))))))) := by simpa using c49))
          (try (have c49b3e := c49b3; simp only [Go.Proofs.YtahfemlfdpbkkaaV.beq_nil, Go.Proofs.YtahfemlfdpbkkaaV.bne_nil] at c49b3e))
          (try simp only [beq_self_eq_true, Bool.true_and, Bool.and_true, Go.Proofs.YtahfemlfdpbkkaaV.beq_nil] at c49b3)
          clear c49
          obtain rfl := Option.some.inj H
          have hnb58 := NB309_310.out
          have hnc58 := NB310_309.out
          obtain ⟨z59_0, z59_1, z59_2, z59_3, z59_4, z59_5, z59_6, z59_7⟩ := cz8 BK309.out
          obtain ⟨f59_0, f59_1, f59_2, f59_3, f59_4, f59_5, f59_6, f59_7⟩ := fz8 BK309.out
          obtain ⟨z60_0, z60_1, z60_2, z60_3, z60_4, z60_5, z60_6, z60_7⟩ := cz8 BK310.out
          obtain ⟨f60_0, f60_1, f60_2, f60_3, f60_4, f60_5, f60_6, f60_7⟩ := fz8 BK310.out
          go_wp2
          go_ret
          exact ⟨by first | rfl | (simp [errW_none, errW_some] <;> rfl) | (simp [*, errW_none, errW_some] <;> rfl), qB HB⟩
        ·
         rw [if_neg c48] at H
         have c48b0 : (a0_2 == 3) = false := beq_eq_false_iff_ne.mpr c48
         have c48b1 : (a0_2 != 3) = true := bne_iff_ne.mpr c48
         by_cases c61 : a0_2 = 4
         ·
          rw [if_pos c61] at H
          have c61b0 : (a0_2 == 4) = true := beq_iff_eq.mpr c61
          have c61b1 : (a0_2 != 4) = false := bne_eq_false_iff_eq.mpr c61
          clear c61
          by_cases c62 : (x311000_1 == 0 && (x311001_1.toList == ([] : List UInt8) && (x311002_1 == 0 && (a0_3 == 0 && (a0_4 == 0 && (a0_5.toList == ([] : List UInt8) && (a0_6 == a0_6 && (a0_7 == a0_7)))))))) = true
          ·
           rw [if_pos c62] at H
           have c62b0 : (x311000_1 == 0 && (x311001_1.toList == ([] : List UInt8) && (x311002_1 == 0 && (a0_3 == 0 && (a0_4 == 0 && (a0_5.toList == ([] : List UInt8) && (a0_6 == a0_6 && (a0_7 == a0_7)))))))) = true := c62
           (try (have c62b0e := c62b0; simp only [Go.Proofs.YtahfemlfdpbkkaaV.beq_nil, Go.Proofs.YtahfemlfdpbkkaaV.bne_nil] at c62b0e))
           (try simp only [beq_self_eq_true, Bool.true_and, Bool.and_true, Go.Proofs.YtahfemlfdpbkkaaV.beq_nil] at c62b0)
           (try (have c62b1 : decide (x311000_1 = 0 && (x311001_1.toList == ([] : List UInt8) && (x311002_1 == 0 && (a0_3 == 0 && (a0_4 == 0 && (a0_5.toList == ([] : List UInt8) && (a0_6 == a0_6 && (a0_7 == a0_7)))))))) = true := by simpa using c62))
           (try (have c62b1e := c62b1; simp only [Go.Proofs.YtahfemlfdpbkkaaV.beq_nil, Go.Proofs.YtahfemlfdpbkkaaV.bne_nil] at c62b1e))
           (try simp only [beq_self_eq_true, Bool.true_and, Bool.and_true, Go.Proofs.YtahfemlfdpbkkaaV.beq_nil] at c62b1)
           (try (have c62b2 : (x311000_1 == 0 && (x311001_1.toList == ([] : List UInt8) && (x311002_1 == 0 && (a0_3 == 0 && (a0_4 == 0 && (a0_5.toList == ([] : List UInt8) && (a0_6 == a0_6 && (a0_7 == a0_7)))))))) = true := by simpa using c62))
           (try (have c62b2e := c62b2; simp only [Go.Proofs.YtahfemlfdpbkkaaV.beq_nil, Go.Proofs.YtahfemlfdpbkkaaV.bne_nil] at c62b2e))
           (try simp only [beq_self_eq_true, Bool.true_and, Bool.and_true, Go.Proofs.YtahfemlfdpbkkaaV.beq_nil] at c62b2)
           clear c62
           obtain ⟨t317, A63, H⟩ := bd_ H
           by_cases c64 : t317 = true
           ·
            subst c64
            rw [if_pos rfl] at H
            obtain rfl := Option.some.inj H
            have hnb65 := NB309_310.out
            have hnc65 := NB310_309.out
            obtain ⟨z66_0, z66_1, z66_2, z66_3, z66_4, z66_5, z66_6, z66_7⟩ := cz8 BK309.out
            obtain ⟨f66_0, f66_1, f66_2, f66_3, f66_4, f66_5, f66_6, f66_7⟩ := fz8 BK309.out
            obtain ⟨z67_0, z67_1, z67_2, z67_3, z67_4, z67_5, z67_6, z67_7⟩ := cz8 BK310.out
            obtain ⟨f67_0, f67_1, f67_2, f67_3, f67_4, f67_5, f67_6, f67_7⟩ := fz8 BK310.out
            go_wp2_with (first | (go_at_call 142; (with_reducible refine (impl_sockIdOk.calls a0_6 true _ A63.out).mono ?_); rintro e w' ⟨rfl, ⟨nd, rfl⟩⟩))
            go_ret
            exact ⟨by first | rfl | (simp [errW_none, errW_some] <;> rfl) | (simp [*, errW_none, errW_some] <;> rfl), qB HB⟩
           ·
            replace c64 := Bool.eq_false_iff.mpr c64
            subst c64
            rw [if_neg (show ¬ (false = true) by decide)] at H
            obtain rfl := Option.some.inj H
            have hnb68 := NB309_310.out
            have hnc68 := NB310_309.out
            obtain ⟨z69_0, z69_1, z69_2, z69_3, z69_4, z69_5, z69_6, z69_7⟩ := cz8 BK309.out
            obtain ⟨f69_0, f69_1, f69_2, f69_3, f69_4, f69_5, f69_6, f69_7⟩ := fz8 BK309.out
            obtain ⟨z70_0, z70_1, z70_2, z70_3, z70_4, z70_5, z70_6, z70_7⟩ := cz8 BK310.out
            obtain ⟨f70_0, f70_1, f70_2, f70_3, f70_4, f70_5, f70_6, f70_7⟩ := fz8 BK310.out
            go_wp2_with (first | (go_at_call 142; (with_reducible refine (impl_sockIdOk.calls a0_6 false _ A63.out).mono ?_); rintro e w' ⟨rfl, ⟨nd, rfl⟩⟩))
            go_ret
            exact ⟨by first | rfl | (simp [errW_none, errW_some] <;> rfl) | (simp [*, errW_none, errW_some] <;> rfl), qB HB⟩
          ·
           rw [if_neg c62] at H
           have c62b0 : (x311000_1 == 0 && (x311001_1.toList == ([] : List UInt8) && (x311002_1 == 0 && (a0_3 == 0 && (a0_4 == 0 && (a0_5.toList == ([] : List UInt8) && (a0_6 == a0_6 && (a0_7 == a0_7)))))))) = false := by simpa using c62
           (try (have c62b0e := c62b0; simp only [Go.Proofs.YtahfemlfdpbkkaaV.beq_nil, Go.Proofs.YtahfemlfdpbkkaaV.bne_nil] at c62b0e))
           (try simp only [beq_self_eq_true, Bool.true_and, Bool.and_true, Go.Proofs.YtahfemlfdpbkkaaV.beq_nil] at c62b0)
           (try (have c62b1 : decide (x311000_1 = 0 && (x311001_1.toList == ([] : List UInt8) && (x311002_1 == 0 && (a0_3 == 0 && (a0_4 == 0 && (a0_5.toList == ([] : List UInt8) && (a0_6 == a0_6 && (a0_7 == a0_7)))))))) = false := by simpa using c62))
           (try (have c62b1e := c62b1; simp only [Go.Proofs.YtahfemlfdpbkkaaV.beq_nil, Go.Proofs.YtahfemlfdpbkkaaV.bne_nil] at c62b1e))
           (try simp only [beq_self_eq_true, Bool.true_and, Bool.and_true, Go.Proofs.YtahfemlfdpbkkaaV.beq_nil] at c62b1)
           (try (have c62b2 : (x311000_1 == 0 && (x311001_1.toList == ([] : List UInt8) && (x311002_1 == 0 && (a0_3 == 0 && (a0_4 == 0 && (a0_5.toList == ([] : List UInt8) && (a0_6 == a0_6 && (a0_7 == a0_7)))))))) = false := by simpa using c62))
           (try (have c62b2e := c62b2; simp only [Go.Proofs.YtahfemlfdpbkkaaV.beq_nil, Go.Proofs.YtahfemlfdpbkkaaV.bne_nil] at c62b2e))
           (try simp only [beq_self_eq_true, Bool.true_and, Bool.and_true, Go.Proofs.YtahfemlfdpbkkaaV.beq_nil] at c62b2)
           (try (have c62b3 : ¬ (x311000_1 = 0 && (x311001_1.toList == ([] : List UInt8) && (x311002_1 == 0 && (a0_3 == 0 && (a0_4 == 0 && (a0_5.toList == ([] : List UInt8) && (a0_6 == a0_6 && (a0_7 == a0_7)))))))) := by simpa using c62))
           (try (have c62b3e := c62b3; simp only [Go.Proofs.YtahfemlfdpbkkaaV.beq_nil, Go.Proofs.YtahfemlfdpbkkaaV.bne_nil] at c62b3e))
           (try simp only [beq_self_eq_true, Bool.true_and, Bool.and_true, Go.Proofs.YtahfemlfdpbkkaaV.beq_nil] at c62b3)
           clear c62
           obtain rfl := Option.some.inj H
           have hnb71 := NB309_310.out
           have hnc71 := NB310_309.out
           obtain ⟨z72_0, z72_1, z72_2, z72_3, z72_4, z72_5, z72_6, z72_7⟩ := cz8 BK309.out
           obtain ⟨f72_0, f72_1, f72_2, f72_3, f72_4, f72_5, f72_6, f72_7⟩ := fz8 BK309.out
           obtain ⟨z73_0, z73_1, z73_2, z73_3, z73_4, z73_5, z73_6, z73_7⟩ := cz8 BK310.out
           obtain ⟨f73_0, f73_1, f73_2, f73_3, f73_4, f73_5, f73_6, f73_7⟩ := fz8 BK310.out
           go_wp2
           go_ret
           exact ⟨by first | rfl | (simp [errW_none, errW_some] <;> rfl) | (simp [*, errW_none, errW_some] <;> rfl), qB HB⟩
         ·
          rw [if_neg c61] at H
          have c61b0 : (a0_2 == 4) = false := beq_eq_false_iff_ne.mpr c61
          have c61b1 : (a0_2 != 4) = true := bne_iff_ne.mpr c61
          obtain rfl := Option.some.inj H
          have hnb74 := NB309_310.out
          have hnc74 := NB310_309.out
          obtain ⟨z75_0, z75_1, z75_2, z75_3, z75_4, z75_5, z75_6, z75_7⟩ := cz8 BK309.out
          obtain ⟨f75_0, f75_1, f75_2, f75_3, f75_4, f75_5, f75_6, f75_7⟩ := fz8 BK309.out
          go_wp2
          go_ret
          exact ⟨by first | rfl | (simp [errW_none, errW_some] <;> rfl) | (simp [*, errW_none, errW_some] <;> rfl), qB HB⟩
     ·
      replace c24 := Bool.eq_false_iff.mpr c24
      subst c24
      rw [if_neg (show ¬ (false = true) by decide)] at H
      obtain rfl := Option.some.inj H
      go_wp2
      go_ret
      exact ⟨by first | rfl | (simp [errW_none, errW_some] <;> rfl) | (simp [*, errW_none, errW_some] <;> rfl), qB HB⟩
   ·
    replace c16 := Bool.eq_false_iff.mpr c16
    subst c16
    rw [if_neg (show ¬ (false = true) by decide)] at H
    obtain rfl := Option.some.inj H
    go_wp2
    go_ret
    exact ⟨by first | rfl | (simp [errW_none, errW_some] <;> rfl) | (simp [*, errW_none, errW_some] <;> rfl), qB HB⟩

/-! ### slices_Clone_byte: function 141 -/
def slices_Clone_byte.f (l0 : List Int) : Option (List Int) := (some (([] : List Int) : List Int)).bind fun y318 => (if y318.length + l0.length < 140737488355328 then (some (y318 ++ l0)) else (none))
set_option maxHeartbeats 8000000 in
set_option maxRecDepth 100000 in
theorem slices_Clone_byte.calls_some (a0_ : Addr) (c0 : Nat) (l0 : List Int) (r : List Int) (w : World) (hr0 : Kd.C (Kd.int .u8) w (some a0_) l0.length l0) (hc0 : l0.length ≤ c0) (h : slices_Clone_byte.f l0 = some r) :
  Calls Try.prog 141 #[.slice (some a0_) l0.length c0] w fun e w' => ∃ v0_ : Value, e = .returned (v0_) ∧ Kd.R (Kd.int .u8) 5 w' w.heap.size (fun _ => True) v0_ r ∧ Below w.heap.size w w' := by
 have HR0 := Aside0.mk hr0
 have HC0 := Aside0.mk hc0
 clear hr0 hc0
 have HB := Aside0.mk (Below.refl w.heap.size w)
 have H : ((some (([] : List Int) : List Int)).bind fun y318 => (if y318.length + l0.length < 140737488355328 then (some (y318 ++ l0)) else (none))) = some r := h
 clear h
 obtain ⟨y318, hy318⟩ : ∃ y_ : List Int, y_ = (([] : List Int)) := ⟨_, rfl⟩
 replace H := mk_ H hy318
 (try dsimp only at H)
 have Ny318 := Aside0.mk hy318
 clear hy318
 by_cases c2 : y318.length + l0.length < 140737488355328
 ·
  rw [if_pos c2] at H
  have LMc2 := Aside0.mk c2
  clear c2
  obtain ⟨y321, hy321⟩ : ∃ y_ : List Int, y_ = (y318 ++ l0) := ⟨_, rfl⟩
  replace H : (some y321) = some r := by first | (rw [hy321]; with_reducible exact H) | (have H2_ := (Option.bind_some _ _).symm.trans H; rw [hy321]; with_reducible exact H2_) | (have H2_ := (Option.bind_some _ _).symm.trans H; with_reducible exact H2_) | with_reducible exact H | (rw [hy321]; exact H) | exact H
  have Ny321 := Aside0.mk hy321
  clear hy321
  obtain rfl := Option.some.inj H
  have hnil := fun (W : World) => Lib.run_eql_slice_nil (P := Try.prog) W 22 5 (some a0_) l0.length c0 0 0 Try.underlying22
  go_enter Try.func141, Try.ntmps141
  go_wp2_with (first | ((with_reducible refine gate_dst (N := 5) rfl ?_); refine Kd.R_lit (Kd.int .u8) _ 5 ?hg (N := 5) ?hd (xs := ([] : List Int)) (inner := []) (ok := fun _ => True) (okp := fun _ => True) ?hr ?hp (fun _ hk => hk) trivial (Below.refl _ _) (Nat.le_refl _) (by simp) ?_; (case hd => rfl); (case hg => rfl); (case hr => first | (go_simp; done) | (go_simp; rfl)); (case hp => exact (Reps.none _ _)); intro v319 w3 ho4 hb hg_ hnew_; clear hg_ hnew_; (first | rw [← Ny318.out] at ho4 | (simp only [Int.reduceToNat] at ho4; rw [← Ny318.out] at ho4)); have HO320 := am_ (Kd.R_lower ho4 (below_size (qB HB))); replace HB := am_ (below_step (qB HB) hb); clear hb ho4) | ((with_reducible refine gate_builtin (b := .append) (xs := #[.tmp 5, .tmp 6]) rfl ?_); at_builtin; refine Kd.R_append_rows (Kd.int .u8) (w0 := w) w.heap.size rfl (.tmp 5) (.tmp 6) 22 5 (.int .u8 0) 1 rfl Try.underlying22 info5 rfl (by decide) (by omega) v319 y318 l0 _ _ _ (fun _ => True) (fun _ => False) rfl rfl ?aO ?aR (fun _ _ h => h) (fun _ h => h.elim) ?aF ?aB ?aS ?aL ?_; (case aR => exact qC (Kd.C_below HR0.out HB.out)); (case aB => exact (qB HB)); (case aF => exact (fun _ _ => trivial)); (case aO => exact (qR HO320)); (case aS => exact (below_size (qB HB))); (case aL => have := LMc2.out; omega); intro v322 w5 ho hb hg hat; rw [← Ny321.out] at ho; replace HB := am_ (hb); have HO323 := am_ (ho); clear HO320; clear ho hb hg hat))
  go_ret
  exact ⟨_, by first | rfl | (simp [errW_none, errW_some] <;> rfl) | (simp [*, errW_none, errW_some] <;> rfl), qR HO323, qB HB⟩
 ·
  rw [if_neg c2] at H
  exact absurd H (by simp)
set_option maxHeartbeats 4000000 in
set_option maxRecDepth 100000 in
theorem slices_Clone_byte.calls_nil (c0 : Nat) (w : World) : Calls Try.prog 141 #[.slice none 0 c0] w fun e w' => e = .returned (.slice none 0 0) ∧ Below w.heap.size w w' := by
 have hnil := fun (W : World) => Lib.run_eql_slice_nil (P := Try.prog) W 22 5 none 0 c0 0 0 Try.underlying22
 go_enter Try.func141, Try.ntmps141
 go_wp2
 go_ret
 exact ⟨rfl, Below.refl _ _⟩
theorem slices_Clone_byte.calls (A0 : Option Addr) (c0 : Nat) (l0 : List Int) (r : List Int) (w : World) (hr0 : Kd.C (Kd.int .u8) w A0 l0.length l0) (hc0 : l0.length ≤ c0) (h : slices_Clone_byte.f l0 = some r) :
  Calls Try.prog 141 #[.slice A0 l0.length c0] w fun e w' => ∃ v0_ : Value, e = .returned (v0_) ∧ Kd.R (Kd.int .u8) 5 w' w.heap.size (fun _ => True) v0_ r ∧ Below w.heap.size w w' := by
 cases A0 with
 | some a0_ => exact slices_Clone_byte.calls_some a0_ c0 l0 r w hr0 hc0 h
 | none =>
  obtain rfl : l0 = [] := by
   rcases l0 with _ | ⟨x_, l_⟩
   ·
    rfl
   ·
    obtain ⟨_, e_, _⟩ := hr0.2.2 (by simp)
    cases e_
  obtain rfl : r = [] := by
   have h' := h
   simp [slices_Clone_byte.f] at h'
   exact h'
  refine (slices_Clone_byte.calls_nil c0 w).mono ?_
  rintro e w' ⟨rfl, hb⟩
  exact ⟨_, rfl, Kd.R_nil _ _ _ _ _, hb⟩

end Go.Proofs.Ytahfemlfdpbkkaa.PFnExactGetItem
