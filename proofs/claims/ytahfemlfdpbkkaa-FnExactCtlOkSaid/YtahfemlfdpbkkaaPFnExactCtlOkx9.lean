-- Written by a program of this session (myprint.py, over the kit's print): contracts of FnExactCtlOk
import Derived.Test.YtahfemlfdpbkkaaPFnExactCtlOkx0
import Derived.Test.YtahfemlfdpbkkaaPFnExactCtlOkx1
import Derived.Test.YtahfemlfdpbkkaaPFnExactCtlOkx8
namespace Go.Proofs.Ytahfemlfdpbkkaa.PFnExactCtlOk
open Go.RowKit Go.Proofs.YtahfemlfdpbkkaaW.PrintWords Go.Proofs.YtahfemlfdpbkkaaW.PrintLast Go.Proofs.YtahfemlfdpbkkaaW.PrintMore Go.Proofs.YtahfemlfdpbkkaaV
attribute [local go_sem] max2_int min2_int max_two min_two max_three min_three max_four min_four   -- for this text's walks alone
set_option linter.unusedVariables false
set_option linter.unusedSimpArgs false

attribute [local go_sem high] eqA45
/-! ### impl_AskerOk: function 79 -/
def impl_AskerOk.j0 : Nat → Int → ByteArray → Int → Int → Int → ByteArray → Int → Int → Int → ByteArray → Int → Int → Int → ByteArray → Int → Int → Option (Bool)
 | 0, _, _, _, _, _, _, _, _, _, _, _, _, _, _, _, _ => none
 | k + 1, x300000, x300001, x300002, x300003, x300004, x300005, x300006, x300007, x301000, x301001, x301002, x301003, x301004, x301005, x301006, x301007 => (impl_sockIdOk.f x300000).bind fun t301 => (if t301 = true then (if x300002 = 0 then (some (x300001.toList == ([] : List UInt8) && (x300002 == 0 && (x300003 == 0 && (x300004 == 0 && (x300005.toList == ([] : List UInt8) && (x300006 == 0 && (x300007 == 0)))))))) else ((impl_nameOk.f k x300001).bind fun t302 => (if t302 = true then (if x300002 = 1 then (some (x301000 == 0 && (x301001.toList == ([] : List UInt8) && (x301002 == 0 && (x301003 == 0 && (x301004 == 0 && (x301005.toList == ([] : List UInt8) && (x301006 == 0 && (x301007 == 0))))))))) else (if x300002 = 2 then (if (x301000 == 0 && (x301001.toList == ([] : List UInt8) && (x301002 == 0 && (x301003 == x300003 && (x301004 == x300004 && (x301005.toList == x300005.toList && (x301006 == 0 && (x301007 == 0)))))))) = true then ((impl_wordOk.f x300003).bind fun t303 => (if t303 = true then ((impl_sinceOk.f x300004).bind fun t304 => (if t304 = true then ((impl_TextOk.f k x300005).bind fun t305 => (some t305)) else (some false))) else (some false))) else (some false)) else (if x300002 = 3 then (if (x301000 == 0 && (x301001.toList == ([] : List UInt8) && (x301002 == 0 && (x301003 == 0 && (x301004 == 0 && (x301005.toList == ([] : List UInt8) && (x301006 == x300006 && (x301007 == x300007)))))))) = true then ((impl_sockIdOk.f x300006).bind fun t306 => (if t306 = true then (some (decide (x300007 ≥ 1))) else (some false))) else (some false)) else (if x300002 = 4 then (if (x301000 == 0 && (x301001.toList == ([] : List UInt8) && (x301002 == 0 && (x301003 == 0 && (x301004 == 0 && (x301005.toList == ([] : List UInt8) && (x301006 == x300006 && (x301007 == x300007)))))))) = true then ((impl_sockIdOk.f x300006).bind fun t307 => (if t307 = true then (some (decide (x300007 ≥ 1))) else (some false))) else (some false)) else (some false))))) else (some false)))) else (some false))
def impl_AskerOk.f (k : Nat) (a0_0 : Int) (a0_1 : ByteArray) (a0_2 : Int) (a0_3 : Int) (a0_4 : Int) (a0_5 : ByteArray) (a0_6 : Int) (a0_7 : Int) : Option (Bool) := impl_AskerOk.j0 k a0_0 a0_1 a0_2 a0_3 a0_4 a0_5 a0_6 a0_7 0 (⟨#[]⟩ : ByteArray) 0 a0_3 a0_4 a0_5 a0_6 a0_7
theorem impl_AskerOk.mono_l : ∀ k, (∀ y0 y1 y2 y3 y4 y5 y6 y7 y8 y9 y10 y11 y12 y13 y14 y15, LeO (impl_AskerOk.j0 k y0 y1 y2 y3 y4 y5 y6 y7 y8 y9 y10 y11 y12 y13 y14 y15) (impl_AskerOk.j0 (k + 1) y0 y1 y2 y3 y4 y5 y6 y7 y8 y9 y10 y11 y12 y13 y14 y15))
 | 0 => fun _ _ _ _ _ _ _ _ _ _ _ _ _ _ _ _ r h => by simp [impl_AskerOk.j0] at h
 | k + 1 => by
  have ih0 := impl_AskerOk.mono_l k
  ·
   intro y0 y1 y2 y3 y4 y5 y6 y7 y8 y9 y10 y11 y12 y13 y14 y15
   unfold impl_AskerOk.j0
   repeat' first
   | (with_reducible exact ih0 _ _ _ _ _ _ _ _ _ _ _ _ _ _ _ _)
   | (with_reducible exact impl_TextOk.mono _ _)
   | (with_reducible exact impl_nameOk.mono _ _)
   | (with_reducible exact LeO.refl _)
   | (with_reducible exact LeO.none _)
   | (with_reducible refine LeO.ite ?_ ?_)
   | (with_reducible refine LeO.bind ?_ (fun _ => ?_))
   | exact ih0 _ _ _ _ _ _ _ _ _ _ _ _ _ _ _ _
   | exact impl_TextOk.mono _ _
   | exact impl_nameOk.mono _ _
   | exact LeO.none _
   | refine LeO.ite ?_ ?_
   | refine LeO.bind ?_ (fun _ => ?_)
theorem impl_AskerOk.mono : ∀ a0 a1 a2 a3 a4 a5 a6 a7 k, LeO (impl_AskerOk.f k a0 a1 a2 a3 a4 a5 a6 a7) (impl_AskerOk.f (k + 1) a0 a1 a2 a3 a4 a5 a6 a7) := by
 intro a0 a1 a2 a3 a4 a5 a6 a7 k
 have ih0 := impl_AskerOk.mono_l k
 unfold impl_AskerOk.f
 repeat' first
   | (with_reducible exact ih0 _ _ _ _ _ _ _ _ _ _ _ _ _ _ _ _)
   | (with_reducible exact impl_TextOk.mono _ _)
   | (with_reducible exact impl_nameOk.mono _ _)
   | (with_reducible exact LeO.refl _)
   | (with_reducible exact LeO.none _)
   | (with_reducible refine LeO.ite ?_ ?_)
   | (with_reducible refine LeO.bind ?_ (fun _ => ?_))
   | exact ih0 _ _ _ _ _ _ _ _ _ _ _ _ _ _ _ _
   | exact impl_TextOk.mono _ _
   | exact impl_nameOk.mono _ _
   | exact LeO.none _
   | refine LeO.ite ?_ ?_
   | refine LeO.bind ?_ (fun _ => ?_)
set_option maxHeartbeats 8000000 in
set_option maxRecDepth 100000 in
theorem impl_AskerOk.calls (k : Nat) (a0_0 : Int) (a0_1 : ByteArray) (a0_2 : Int) (a0_3 : Int) (a0_4 : Int) (a0_5 : ByteArray) (a0_6 : Int) (a0_7 : Int) (r : Bool) (w : World) (h : impl_AskerOk.f k a0_0 a0_1 a0_2 a0_3 a0_4 a0_5 a0_6 a0_7 = some r) :
  Calls Try.prog 79 #[.agg #[.int .i64 a0_0, .string a0_1, .int .i64 a0_2, .int .i64 a0_3, .int .i64 a0_4, .string a0_5, .int .i64 a0_6, .int .i64 a0_7]] w fun e w' => e = .returned (.bool r) ∧ Below w.heap.size w w' := by
 have hu45 := Try.underlying45
 have HB := Aside0.mk (Below.refl w.heap.size w)
 have H : (impl_AskerOk.j0 k a0_0 a0_1 a0_2 a0_3 a0_4 a0_5 a0_6 a0_7 0 (⟨#[]⟩ : ByteArray) 0 a0_3 a0_4 a0_5 a0_6 a0_7) = some r := h
 clear h
 have HC2 := Aside0.mk H
 clear H
 go_enter Try.func79, Try.ntmps79
 go_upto_region 2 with (first | ((with_reducible refine gate_dst (N := 1) rfl ?_); refine box_event ?hg (N := 1) ?hd (cs := #[.int .i64 a0_0, .string a0_1, .int .i64 a0_2, .int .i64 a0_3, .int .i64 a0_4, .string a0_5, .int .i64 a0_6, .int .i64 a0_7]) (t := 45) ?hr ?_; (case hd => rfl); (case hg => rfl); (case hr => first | (go_simp; done) | (go_simp; rfl)); intro gb299 hg w3 hbox hb; have BK299 := am_ (hbox); have GW299 := am_ ((gG_ hg (qB HB))); have IGW299 := gI_ GW299; have GE299 := am_ ((gG_ hg (qB HB))); have IGE299 := gI_ GE299; replace HB := am_ (below_step (qB HB) hb); clear hb hbox hg; obtain ⟨hcz4_0, hcz4_1, hcz4_2, hcz4_3, hcz4_4, hcz4_5, hcz4_6, hcz4_7⟩ := cz8 BK299.out; obtain ⟨hfz4_0, hfz4_1, hfz4_2, hfz4_3, hfz4_4, hfz4_5, hfz4_6, hfz4_7⟩ := fz8 BK299.out) | ((with_reducible refine gate_dst (N := 3) rfl ?_); refine box_event ?hg (N := 3) ?hd (cs := #[.int .i64 0, .string (⟨#[]⟩ : ByteArray), .int .i64 0, .int .i64 0, .int .i64 0, .string (⟨#[]⟩ : ByteArray), .int .i64 0, .int .i64 0]) (t := 45) ?hr ?_; (case hd => rfl); (case hg => rfl); (case hr => first | (go_simp; done) | (go_simp; rfl)); intro gb300 hg w5 hbox hb; have BK300 := am_ (hbox); have GW300 := am_ ((gG_ hg (qB HB))); have IGW300 := gI_ GW300; have GE300 := am_ ((gG_ hg (qB HB))); have IGE300 := gI_ GE300; replace HB := am_ (below_step (qB HB) hb); have NB299_300 := am_ ((gN_ hg (qK BK299))); have NB300_299 := am_ ((gM_ hg (qK BK299))); replace BK299 := am_ (blk_below (qK BK299) hb); clear hb hbox hg; have hnb6 := NB300_299.out; have hnc6 := NB299_300.out; obtain ⟨hcz7_0, hcz7_1, hcz7_2, hcz7_3, hcz7_4, hcz7_5, hcz7_6, hcz7_7⟩ := cz8 BK300.out; obtain ⟨hfz7_0, hfz7_1, hfz7_2, hfz7_3, hfz7_4, hfz7_5, hfz7_6, hfz7_7⟩ := fz8 BK300.out))
 (try simp only [Act.put, List.setIfInBounds_toArray, List.set_cons_zero, List.set_cons_succ])
 go_cut [] (fun wc => ∃ (kq : Nat) (x301000_1 : Int) (x301001_1 : ByteArray) (x301002_1 : Int), Aside0 (impl_AskerOk.j0 kq a0_0 a0_1 a0_2 a0_3 a0_4 a0_5 a0_6 a0_7 x301000_1 x301001_1 x301002_1 a0_3 a0_4 a0_5 a0_6 a0_7 = some r) ∧ Aside0 (kq ≤ k) ∧ Aside0 (wc.heap[gb299]? = some (.cells #[.int .i64 a0_0, .string a0_1, .int .i64 a0_2, .int .i64 a0_3, .int .i64 a0_4, .string a0_5, .int .i64 a0_6, .int .i64 a0_7] 45 (0, 0))) ∧ Aside0 (wc.heap[gb300]? = some (.cells #[.int .i64 x301000_1, .string x301001_1, .int .i64 x301002_1, .int .i64 a0_3, .int .i64 a0_4, .string a0_5, .int .i64 a0_6, .int .i64 a0_7] 45 (0, 0))) ∧ Aside0 (Below w.heap.size w wc))
 case first =>
  have H := HC2.out
  clear HC2
  have H' := Aside0.mk H
  clear H
  have hnb8 := NB300_299.out
  have hnc8 := NB299_300.out
  obtain ⟨hcz9_0, hcz9_1, hcz9_2, hcz9_3, hcz9_4, hcz9_5, hcz9_6, hcz9_7⟩ := cz8 BK300.out
  obtain ⟨hfz9_0, hfz9_1, hfz9_2, hfz9_3, hfz9_4, hfz9_5, hfz9_6, hfz9_7⟩ := fz8 BK300.out
  go_wp2_with (first | ((with_reducible refine gate_store (t := 3) (p := 5) rfl ?_); refine store_event (t := 3) (p := 5) (v := ?vo_w10) (w1 := (((((((((w5.setCell ⟨gb300, 0, none⟩ (.int .i64 a0_0)).setCell ⟨gb300, 1, none⟩ (.string a0_1)).setCell ⟨gb300, 2, none⟩ (.int .i64 a0_2)).setCell ⟨gb300, 3, none⟩ (.int .i64 a0_3)).setCell ⟨gb300, 4, none⟩ (.int .i64 a0_4)).setCell ⟨gb300, 5, none⟩ (.string a0_5)).setCell ⟨gb300, 6, none⟩ (.int .i64 a0_6)).setCell ⟨gb300, 7, none⟩ (.int .i64 a0_7)).setCell ⟨gb300, 0, none⟩ (.int .i64 0))) ?hg ?ho ?hn ?hr ?_; (case ho => rfl); (case hg => rfl); (case hn => rfl); (case hr => first | (go_simp; done) | (go_simp; rfl)); intro w10 hw; have n0_ : Aside0 (w10.heap[gb299]? = some (.cells #[.int .i64 a0_0, .string a0_1, .int .i64 a0_2, .int .i64 a0_3, .int .i64 a0_4, .string a0_5, .int .i64 a0_6, .int .i64 a0_7] 45 (0, 0))) := ⟨(by rw [hw]; exact (by (with_reducible repeat (first | refine blk_drewN ?_ _ | refine blk_drew ?_ | refine blk_alloc ?_ _)); refine Go.Proofs.YtahfemlfdpbkkaaV.blk_far9 ?_ NB299_300.out; (with_reducible repeat (first | refine blk_drewN ?_ _ | refine blk_drew ?_ | refine blk_alloc ?_ _)); exact BK299.out))⟩; have n1_ : Aside0 (w10.heap[gb300]? = some (.cells #[.int .i64 0, .string a0_1, .int .i64 a0_2, .int .i64 a0_3, .int .i64 a0_4, .string a0_5, .int .i64 a0_6, .int .i64 a0_7] 45 (0, 0))) := ⟨(by rw [hw]; exact (by (with_reducible repeat (first | refine blk_drewN ?_ _ | refine blk_drew ?_ | refine blk_alloc ?_ _)); refine blk_put (cs := #[.int .i64 a0_0, .string a0_1, .int .i64 a0_2, .int .i64 a0_3, .int .i64 a0_4, .string a0_5, .int .i64 a0_6, .int .i64 a0_7]) ?_ 0 _ rfl; (with_reducible repeat (first | refine blk_drewN ?_ _ | refine blk_drew ?_ | refine blk_alloc ?_ _)); refine blk_put (cs := #[.int .i64 a0_0, .string a0_1, .int .i64 a0_2, .int .i64 a0_3, .int .i64 a0_4, .string a0_5, .int .i64 a0_6, .int .i64 0]) ?_ 7 _ rfl; (with_reducible repeat (first | refine blk_drewN ?_ _ | refine blk_drew ?_ | refine blk_alloc ?_ _)); refine blk_put (cs := #[.int .i64 a0_0, .string a0_1, .int .i64 a0_2, .int .i64 a0_3, .int .i64 a0_4, .string a0_5, .int .i64 0, .int .i64 0]) ?_ 6 _ rfl; (with_reducible repeat (first | refine blk_drewN ?_ _ | refine blk_drew ?_ | refine blk_alloc ?_ _)); refine blk_put (cs := #[.int .i64 a0_0, .string a0_1, .int .i64 a0_2, .int .i64 a0_3, .int .i64 a0_4, .string (⟨#[]⟩ : ByteArray), .int .i64 0, .int .i64 0]) ?_ 5 _ rfl; (with_reducible repeat (first | refine blk_drewN ?_ _ | refine blk_drew ?_ | refine blk_alloc ?_ _)); refine blk_put (cs := #[.int .i64 a0_0, .string a0_1, .int .i64 a0_2, .int .i64 a0_3, .int .i64 0, .string (⟨#[]⟩ : ByteArray), .int .i64 0, .int .i64 0]) ?_ 4 _ rfl; (with_reducible repeat (first | refine blk_drewN ?_ _ | refine blk_drew ?_ | refine blk_alloc ?_ _)); refine blk_put (cs := #[.int .i64 a0_0, .string a0_1, .int .i64 a0_2, .int .i64 0, .int .i64 0, .string (⟨#[]⟩ : ByteArray), .int .i64 0, .int .i64 0]) ?_ 3 _ rfl; (with_reducible repeat (first | refine blk_drewN ?_ _ | refine blk_drew ?_ | refine blk_alloc ?_ _)); refine blk_put (cs := #[.int .i64 a0_0, .string a0_1, .int .i64 0, .int .i64 0, .int .i64 0, .string (⟨#[]⟩ : ByteArray), .int .i64 0, .int .i64 0]) ?_ 2 _ rfl; (with_reducible repeat (first | refine blk_drewN ?_ _ | refine blk_drew ?_ | refine blk_alloc ?_ _)); refine blk_put (cs := #[.int .i64 a0_0, .string (⟨#[]⟩ : ByteArray), .int .i64 0, .int .i64 0, .int .i64 0, .string (⟨#[]⟩ : ByteArray), .int .i64 0, .int .i64 0]) ?_ 1 _ rfl; (with_reducible repeat (first | refine blk_drewN ?_ _ | refine blk_drew ?_ | refine blk_alloc ?_ _)); refine blk_put (cs := #[.int .i64 0, .string (⟨#[]⟩ : ByteArray), .int .i64 0, .int .i64 0, .int .i64 0, .string (⟨#[]⟩ : ByteArray), .int .i64 0, .int .i64 0]) ?_ 0 _ rfl; (with_reducible repeat (first | refine blk_drewN ?_ _ | refine blk_drew ?_ | refine blk_alloc ?_ _)); exact BK300.out))⟩; have n2_ : Aside0 (Below w.heap.size w w10) := ⟨(by rw [hw]; exact (qB HB))⟩; clear hw; clear BK299; clear BK300; clear HB; have BK299 := n0_; have BK300 := n1_; have HB := n2_; clear n0_ n1_ n2_; obtain ⟨hcz11_0, hcz11_1, hcz11_2, hcz11_3, hcz11_4, hcz11_5, hcz11_6, hcz11_7⟩ := cz8 BK300.out; obtain ⟨hfz11_0, hfz11_1, hfz11_2, hfz11_3, hfz11_4, hfz11_5, hfz11_6, hfz11_7⟩ := fz8 BK300.out))
  go_meet
  case rel => exact ⟨_, (0), ((⟨#[]⟩ : ByteArray)), (0), H', ⟨by first | omega | exact Nat.le_refl _⟩, ⟨by (with_reducible repeat (first | refine blk_drewN ?_ _ | refine blk_drew ?_ | refine blk_alloc ?_ _)); refine Go.Proofs.YtahfemlfdpbkkaaV.blk_far2 ?_ NB299_300.out; (with_reducible repeat (first | refine blk_drewN ?_ _ | refine blk_drew ?_ | refine blk_alloc ?_ _)); exact BK299.out⟩, ⟨by (with_reducible repeat (first | refine blk_drewN ?_ _ | refine blk_drew ?_ | refine blk_alloc ?_ _)); refine blk_put (cs := #[.int .i64 0, .string a0_1, .int .i64 0, .int .i64 a0_3, .int .i64 a0_4, .string a0_5, .int .i64 a0_6, .int .i64 a0_7]) ?_ 1 _ rfl; (with_reducible repeat (first | refine blk_drewN ?_ _ | refine blk_drew ?_ | refine blk_alloc ?_ _)); refine blk_put (cs := #[.int .i64 0, .string a0_1, .int .i64 a0_2, .int .i64 a0_3, .int .i64 a0_4, .string a0_5, .int .i64 a0_6, .int .i64 a0_7]) ?_ 2 _ rfl; (with_reducible repeat (first | refine blk_drewN ?_ _ | refine blk_drew ?_ | refine blk_alloc ?_ _)); exact BK300.out⟩, ⟨qB HB⟩⟩
 case rest =>
  clear HC2
  try clear p2
  try clear c6
  try clear c7
  try clear c8
  (try clear hcz11_0 hcz11_1 hcz11_2 hcz11_3 hcz11_4 hcz11_5 hcz11_6 hcz11_7)
  (try clear hcz4_0 hcz4_1 hcz4_2 hcz4_3 hcz4_4 hcz4_5 hcz4_6 hcz4_7)
  (try clear hcz7_0 hcz7_1 hcz7_2 hcz7_3 hcz7_4 hcz7_5 hcz7_6 hcz7_7)
  (try clear hcz9_0 hcz9_1 hcz9_2 hcz9_3 hcz9_4 hcz9_5 hcz9_6 hcz9_7)
  (try clear hfz11_0 hfz11_1 hfz11_2 hfz11_3 hfz11_4 hfz11_5 hfz11_6 hfz11_7)
  (try clear hfz4_0 hfz4_1 hfz4_2 hfz4_3 hfz4_4 hfz4_5 hfz4_6 hfz4_7)
  (try clear hfz7_0 hfz7_1 hfz7_2 hfz7_3 hfz7_4 hfz7_5 hfz7_6 hfz7_7)
  (try clear hfz9_0 hfz9_1 hfz9_2 hfz9_3 hfz9_4 hfz9_5 hfz9_6 hfz9_7)
  obtain ⟨kq, x301000_1, x301001_1, x301002_1, HA, HJ1, BK299, BK300, HB⟩ := hcut
  cases kq with
  | zero => exact absurd HA.out (by simp [impl_AskerOk.j0])
  | succ kj1 =>
   have H := HA.out
   clear HA
   simp only [impl_AskerOk.j0] at H
   replace H := Option.bind_eq_some_iff.mp H
   obtain ⟨t301, A120, H⟩ := H
   replace H : (if t301 = true then (if a0_2 = 0 then (some (a0_1.toList == ([] : List UInt8) && (a0_2 == 0 && (a0_3 == 0 && (a0_4 == 0 && (a0_5.toList == ([] : List UInt8) && (a0_6 == 0 && (a0_7 == 0)))))))) else ((impl_nameOk.f kj1 a0_1).bind fun t302 => (if t302 = true then (if a0_2 = 1 then (some (x301000_1 == 0 && (x301001_1.toList == ([] : List UInt8) && (x301002_1 == 0 && (a0_3 == 0 && (a0_4 == 0 && (a0_5.toList == ([] : List UInt8) && (a0_6 == 0 && (a0_7 == 0))))))))) else (if a0_2 = 2 then (if (x301000_1 == 0 && (x301001_1.toList == ([] : List UInt8) && (x301002_1 == 0 && (a0_3 == a0_3 && (a0_4 == a0_4 && (a0_5.toList == a0_5.toList && (a0_6 == 0 && (a0_7 == 0)))))))) = true then ((impl_wordOk.f a0_3).bind fun t303 => (if t303 = true then ((impl_sinceOk.f a0_4).bind fun t304 => (if t304 = true then ((impl_TextOk.f kj1 a0_5).bind fun t305 => (some t305)) else (some false))) else (some false))) else (some false)) else (if a0_2 = 3 then (if (x301000_1 == 0 && (x301001_1.toList == ([] : List UInt8) && (x301002_1 == 0 && (a0_3 == 0 && (a0_4 == 0 && (a0_5.toList == ([] : List UInt8) && (a0_6 == a0_6 && (a0_7 == a0_7)))))))) = true then ((impl_sockIdOk.f a0_6).bind fun t306 => (if t306 = true then (some (decide (a0_7 ≥ 1))) else (some false))) else (some false)) else (if a0_2 = 4 then (if (x301000_1 == 0 && (x301001_1.toList == ([] : List UInt8) && (x301002_1 == 0 && (a0_3 == 0 && (a0_4 == 0 && (a0_5.toList == ([] : List UInt8) && (a0_6 == a0_6 && (a0_7 == a0_7)))))))) = true then ((impl_sockIdOk.f a0_6).bind fun t307 => (if t307 = true then (some (decide (a0_7 ≥ 1))) else (some false))) else (some false)) else (some false))))) else (some false)))) else (some false)) = some r := H
   have A12 := Aside0.mk A120
   clear A120
   have HC13 := Aside0.mk H
   clear H
   have hnb14 := NB299_300.out
   have hnc14 := NB300_299.out
   obtain ⟨hcz15_0, hcz15_1, hcz15_2, hcz15_3, hcz15_4, hcz15_5, hcz15_6, hcz15_7⟩ := cz8 BK299.out
   obtain ⟨hfz15_0, hfz15_1, hfz15_2, hfz15_3, hfz15_4, hfz15_5, hfz15_6, hfz15_7⟩ := fz8 BK299.out
   go_upto_if 11 with (first | ((with_reducible refine gate_callee (f := 142) rfl ?_); refine goesL_ (some 10) rfl rfl Try.func142 (by kernel_rfl) rfl #[.int .i64 a0_0] rfl (by (try simp only [List.map_toArray, List.map_cons, List.map_nil]); first | done | rfl | (simp only [List.length_drop, List.length_take]; rfl)) ?_; (with_reducible refine (impl_sockIdOk.calls a0_0 t301 _ A12.out).mono ?_); rintro e w' ⟨rfl, ⟨nd, rfl⟩⟩; refine ⟨_, rfl, ?_⟩))
   (try simp only [Act.put, List.setIfInBounds_toArray, List.set_cons_zero, List.set_cons_succ])
   have H := HC13.out
   clear HC13
   by_cases c16 : t301 = true
   ·
    subst c16
    have H1 : (if a0_2 = 0 then (some (a0_1.toList == ([] : List UInt8) && (a0_2 == 0 && (a0_3 == 0 && (a0_4 == 0 && (a0_5.toList == ([] : List UInt8) && (a0_6 == 0 && (a0_7 == 0)))))))) else ((impl_nameOk.f kj1 a0_1).bind fun t302 => (if t302 = true then (if a0_2 = 1 then (some (x301000_1 == 0 && (x301001_1.toList == ([] : List UInt8) && (x301002_1 == 0 && (a0_3 == 0 && (a0_4 == 0 && (a0_5.toList == ([] : List UInt8) && (a0_6 == 0 && (a0_7 == 0))))))))) else (if a0_2 = 2 then (if (x301000_1 == 0 && (x301001_1.toList == ([] : List UInt8) && (x301002_1 == 0 && (a0_3 == a0_3 && (a0_4 == a0_4 && (a0_5.toList == a0_5.toList && (a0_6 == 0 && (a0_7 == 0)))))))) = true then ((impl_wordOk.f a0_3).bind fun t303 => (if t303 = true then ((impl_sinceOk.f a0_4).bind fun t304 => (if t304 = true then ((impl_TextOk.f kj1 a0_5).bind fun t305 => (some t305)) else (some false))) else (some false))) else (some false)) else (if a0_2 = 3 then (if (x301000_1 == 0 && (x301001_1.toList == ([] : List UInt8) && (x301002_1 == 0 && (a0_3 == 0 && (a0_4 == 0 && (a0_5.toList == ([] : List UInt8) && (a0_6 == a0_6 && (a0_7 == a0_7)))))))) = true then ((impl_sockIdOk.f a0_6).bind fun t306 => (if t306 = true then (some (decide (a0_7 ≥ 1))) else (some false))) else (some false)) else (if a0_2 = 4 then (if (x301000_1 == 0 && (x301001_1.toList == ([] : List UInt8) && (x301002_1 == 0 && (a0_3 == 0 && (a0_4 == 0 && (a0_5.toList == ([] : List UInt8) && (a0_6 == a0_6 && (a0_7 == a0_7)))))))) = true then ((impl_sockIdOk.f a0_6).bind fun t307 => (if t307 = true then (some (decide (a0_7 ≥ 1))) else (some false))) else (some false)) else (some false))))) else (some false)))) = some r := by rw [if_pos rfl] at H; exact H
    clear H
    have H := H1
    clear H1
    by_cases c17 : a0_2 = 0
    ·
     rw [if_pos c17] at H
     have c17b0 : (a0_2 == 0) = true := beq_iff_eq.mpr c17
     have c17b1 : (a0_2 != 0) = false := bne_eq_false_iff_eq.mpr c17
     clear c17
     (first | rw [c17b0] | (simp only [i64_w, i32_w]; rw [c17b0]) | skip)
     obtain rfl := Option.some.inj H
     have hnb18 := NB299_300.out
     have hnc18 := NB300_299.out
     obtain ⟨hcz19_0, hcz19_1, hcz19_2, hcz19_3, hcz19_4, hcz19_5, hcz19_6, hcz19_7⟩ := cz8 BK299.out
     obtain ⟨hfz19_0, hfz19_1, hfz19_2, hfz19_3, hfz19_4, hfz19_5, hfz19_6, hfz19_7⟩ := fz8 BK299.out
     go_wp2
     go_ret
     exact ⟨by first | rfl | (simp [errW_none, errW_some] <;> rfl) | (simp [*, errW_none, errW_some] <;> rfl), qB HB⟩
    ·
     rw [if_neg c17] at H
     have c17b0 : (a0_2 == 0) = false := beq_eq_false_iff_ne.mpr c17
     have c17b1 : (a0_2 != 0) = true := bne_iff_ne.mpr c17
     (first | rw [c17b0] | (simp only [i64_w, i32_w]; rw [c17b0]) | skip)
     replace H := Option.bind_eq_some_iff.mp H
     obtain ⟨t302, A200, H⟩ := H
     replace H : (if t302 = true then (if a0_2 = 1 then (some (x301000_1 == 0 && (x301001_1.toList == ([] : List UInt8) && (x301002_1 == 0 && (a0_3 == 0 && (a0_4 == 0 && (a0_5.toList == ([] : List UInt8) && (a0_6 == 0 && (a0_7 == 0))))))))) else (if a0_2 = 2 then (if (x301000_1 == 0 && (x301001_1.toList == ([] : List UInt8) && (x301002_1 == 0 && (a0_3 == a0_3 && (a0_4 == a0_4 && (a0_5.toList == a0_5.toList && (a0_6 == 0 && (a0_7 == 0)))))))) = true then ((impl_wordOk.f a0_3).bind fun t303 => (if t303 = true then ((impl_sinceOk.f a0_4).bind fun t304 => (if t304 = true then ((impl_TextOk.f kj1 a0_5).bind fun t305 => (some t305)) else (some false))) else (some false))) else (some false)) else (if a0_2 = 3 then (if (x301000_1 == 0 && (x301001_1.toList == ([] : List UInt8) && (x301002_1 == 0 && (a0_3 == 0 && (a0_4 == 0 && (a0_5.toList == ([] : List UInt8) && (a0_6 == a0_6 && (a0_7 == a0_7)))))))) = true then ((impl_sockIdOk.f a0_6).bind fun t306 => (if t306 = true then (some (decide (a0_7 ≥ 1))) else (some false))) else (some false)) else (if a0_2 = 4 then (if (x301000_1 == 0 && (x301001_1.toList == ([] : List UInt8) && (x301002_1 == 0 && (a0_3 == 0 && (a0_4 == 0 && (a0_5.toList == ([] : List UInt8) && (a0_6 == a0_6 && (a0_7 == a0_7)))))))) = true then ((impl_sockIdOk.f a0_6).bind fun t307 => (if t307 = true then (some (decide (a0_7 ≥ 1))) else (some false))) else (some false)) else (some false))))) else (some false)) = some r := H
     have A20 := Aside0.mk A200
     clear A200
     have HC21 := Aside0.mk H
     clear H
     have hnb22 := NB299_300.out
     have hnc22 := NB300_299.out
     obtain ⟨hcz23_0, hcz23_1, hcz23_2, hcz23_3, hcz23_4, hcz23_5, hcz23_6, hcz23_7⟩ := cz8 BK299.out
     obtain ⟨hfz23_0, hfz23_1, hfz23_2, hfz23_3, hfz23_4, hfz23_5, hfz23_6, hfz23_7⟩ := fz8 BK299.out
     go_upto_if 23 with (first | ((with_reducible refine gate_callee (f := 146) rfl ?_); refine goesL_ (some 22) rfl rfl Try.func146 (by kernel_rfl) rfl #[.string a0_1] rfl (by (try simp only [List.map_toArray, List.map_cons, List.map_nil]); first | done | rfl | (simp only [List.length_drop, List.length_take]; rfl)) ?_; (with_reducible refine (impl_nameOk.calls kj1 a0_1 t302 _ A20.out).mono ?_); rintro e w' ⟨rfl, ⟨nd, rfl⟩⟩; refine ⟨_, rfl, ?_⟩))
     (try simp only [Act.put, List.setIfInBounds_toArray, List.set_cons_zero, List.set_cons_succ])
     have H := HC21.out
     clear HC21
     by_cases c24 : t302 = true
     ·
      subst c24
      have H1 : (if a0_2 = 1 then (some (x301000_1 == 0 && (x301001_1.toList == ([] : List UInt8) && (x301002_1 == 0 && (a0_3 == 0 && (a0_4 == 0 && (a0_5.toList == ([] : List UInt8) && (a0_6 == 0 && (a0_7 == 0))))))))) else (if a0_2 = 2 then (if (x301000_1 == 0 && (x301001_1.toList == ([] : List UInt8) && (x301002_1 == 0 && (a0_3 == a0_3 && (a0_4 == a0_4 && (a0_5.toList == a0_5.toList && (a0_6 == 0 && (a0_7 == 0)))))))) = true then ((impl_wordOk.f a0_3).bind fun t303 => (if t303 = true then ((impl_sinceOk.f a0_4).bind fun t304 => (if t304 = true then ((impl_TextOk.f kj1 a0_5).bind fun t305 => (some t305)) else (some false))) else (some false))) else (some false)) else (if a0_2 = 3 then (if (x301000_1 == 0 && (x301001_1.toList == ([] : List UInt8) && (x301002_1 == 0 && (a0_3 == 0 && (a0_4 == 0 && (a0_5.toList == ([] : List UInt8) && (a0_6 == a0_6 && (a0_7 == a0_7)))))))) = true then ((impl_sockIdOk.f a0_6).bind fun t306 => (if t306 = true then (some (decide (a0_7 ≥ 1))) else (some false))) else (some false)) else (if a0_2 = 4 then (if (x301000_1 == 0 && (x301001_1.toList == ([] : List UInt8) && (x301002_1 == 0 && (a0_3 == 0 && (a0_4 == 0 && (a0_5.toList == ([] : List UInt8) && (a0_6 == a0_6 && (a0_7 == a0_7)))))))) = true then ((impl_sockIdOk.f a0_6).bind fun t307 => (if t307 = true then (some (decide (a0_7 ≥ 1))) else (some false))) else (some false)) else (some false))))) = some r := by rw [if_pos rfl] at H; exact H
      clear H
      have H := H1
      clear H1
      by_cases c25 : a0_2 = 1
      ·
       rw [if_pos c25] at H
       have c25b0 : (a0_2 == 1) = true := beq_iff_eq.mpr c25
       have c25b1 : (a0_2 != 1) = false := bne_eq_false_iff_eq.mpr c25
       clear c25
       (first | rw [c25b0] | (simp only [i64_w, i32_w]; rw [c25b0]) | skip)
       obtain rfl := Option.some.inj H
       have hnb26 := NB299_300.out
       have hnc26 := NB300_299.out
       obtain ⟨hcz27_0, hcz27_1, hcz27_2, hcz27_3, hcz27_4, hcz27_5, hcz27_6, hcz27_7⟩ := cz8 BK299.out
       obtain ⟨hfz27_0, hfz27_1, hfz27_2, hfz27_3, hfz27_4, hfz27_5, hfz27_6, hfz27_7⟩ := fz8 BK299.out
       obtain ⟨hcz28_0, hcz28_1, hcz28_2, hcz28_3, hcz28_4, hcz28_5, hcz28_6, hcz28_7⟩ := cz8 BK300.out
       obtain ⟨hfz28_0, hfz28_1, hfz28_2, hfz28_3, hfz28_4, hfz28_5, hfz28_6, hfz28_7⟩ := fz8 BK300.out
       go_wp2
       go_ret
       exact ⟨by first | rfl | (simp [errW_none, errW_some] <;> rfl) | (simp [*, errW_none, errW_some] <;> rfl), qB HB⟩
      ·
       rw [if_neg c25] at H
       have c25b0 : (a0_2 == 1) = false := beq_eq_false_iff_ne.mpr c25
       have c25b1 : (a0_2 != 1) = true := bne_iff_ne.mpr c25
       (first | rw [c25b0] | (simp only [i64_w, i32_w]; rw [c25b0]) | skip)
       by_cases c29 : a0_2 = 2
       ·
        rw [if_pos c29] at H
        have c29b0 : (a0_2 == 2) = true := beq_iff_eq.mpr c29
        have c29b1 : (a0_2 != 2) = false := bne_eq_false_iff_eq.mpr c29
        clear c29
        by_cases c30 : (x301000_1 == 0 && (x301001_1.toList == ([] : List UInt8) && (x301002_1 == 0 && (a0_3 == a0_3 && (a0_4 == a0_4 && (a0_5.toList == a0_5.toList && (a0_6 == 0 && (a0_7 == 0)))))))) = true
        ·
         rw [if_pos c30] at H
         have c30b0 : (x301000_1 == 0 && (x301001_1.toList == ([] : List UInt8) && (x301002_1 == 0 && (a0_3 == a0_3 && (a0_4 == a0_4 && (a0_5.toList == a0_5.toList && (a0_6 == 0 && (a0_7 == 0)))))))) = true := c30
         (try (have c30b0e := c30b0; simp only [Go.Proofs.YtahfemlfdpbkkaaV.beq_nil, Go.Proofs.YtahfemlfdpbkkaaV.bne_nil] at c30b0e))
         (try simp only [beq_self_eq_true, Bool.true_and, Bool.and_true, Go.Proofs.YtahfemlfdpbkkaaV.beq_nil] at c30b0)
         (try (have c30b1 : decide (x301000_1 = 0 && (x301001_1.toList == ([] : List UInt8) && (x301002_1 == 0 && (a0_3 == a0_3 && (a0_4 == a0_4 && (a0_5.toList == a0_5.toList && (a0_6 == 0 && (a0_7 == 0)))))))) = true := by simpa using c30))
         (try (have c30b1e := c30b1; simp only [Go.Proofs.YtahfemlfdpbkkaaV.beq_nil, Go.Proofs.YtahfemlfdpbkkaaV.bne_nil] at c30b1e))
         (try simp only [beq_self_eq_true, Bool.true_and, Bool.and_true, Go.Proofs.YtahfemlfdpbkkaaV.beq_nil] at c30b1)
         (try (have c30b2 : (x301000_1 == 0 && (x301001_1.toList == ([] : List UInt8) && (x301002_1 == 0 && (a0_3 == a0_3 && (a0_4 == a0_4 && (a0_5.toList == a0_5.toList && (a0_6 == 0 && (a0_7 == 0)))))))) = true := by simpa using c30))
         (try (have c30b2e := c30b2; simp only [Go.Proofs.YtahfemlfdpbkkaaV.beq_nil, Go.Proofs.YtahfemlfdpbkkaaV.bne_nil] at c30b2e))
         (try simp only [beq_self_eq_true, Bool.true_and, Bool.and_true, Go.Proofs.YtahfemlfdpbkkaaV.beq_nil] at c30b2)
         clear c30
         replace H := Option.bind_eq_some_iff.mp H
         obtain ⟨t303, A310, H⟩ := H
         replace H : (if t303 = true then ((impl_sinceOk.f a0_4).bind fun t304 => (if t304 = true then ((impl_TextOk.f kj1 a0_5).bind fun t305 => (some t305)) else (some false))) else (some false)) = some r := H
         have A31 := Aside0.mk A310
         clear A310
         by_cases c32 : t303 = true
         ·
          subst c32
          have H1 : ((impl_sinceOk.f a0_4).bind fun t304 => (if t304 = true then ((impl_TextOk.f kj1 a0_5).bind fun t305 => (some t305)) else (some false))) = some r := by rw [if_pos rfl] at H; exact H
          clear H
          have H := H1
          clear H1
          replace H := Option.bind_eq_some_iff.mp H
          obtain ⟨t304, A330, H⟩ := H
          replace H : (if t304 = true then ((impl_TextOk.f kj1 a0_5).bind fun t305 => (some t305)) else (some false)) = some r := H
          have A33 := Aside0.mk A330
          clear A330
          by_cases c34 : t304 = true
          ·
           subst c34
           have H1 : ((impl_TextOk.f kj1 a0_5).bind fun t305 => (some t305)) = some r := by rw [if_pos rfl] at H; exact H
           clear H
           have H := H1
           clear H1
           replace H := Option.bind_eq_some_iff.mp H
           obtain ⟨t305, A350, H⟩ := H
           replace H : (some t305) = some r := H
           have A35 := Aside0.mk A350
           clear A350
           obtain rfl := Option.some.inj H
           have hnb36 := NB299_300.out
           have hnc36 := NB300_299.out
           obtain ⟨hcz37_0, hcz37_1, hcz37_2, hcz37_3, hcz37_4, hcz37_5, hcz37_6, hcz37_7⟩ := cz8 BK299.out
           obtain ⟨hfz37_0, hfz37_1, hfz37_2, hfz37_3, hfz37_4, hfz37_5, hfz37_6, hfz37_7⟩ := fz8 BK299.out
           obtain ⟨hcz38_0, hcz38_1, hcz38_2, hcz38_3, hcz38_4, hcz38_5, hcz38_6, hcz38_7⟩ := cz8 BK300.out
           obtain ⟨hfz38_0, hfz38_1, hfz38_2, hfz38_3, hfz38_4, hfz38_5, hfz38_6, hfz38_7⟩ := fz8 BK300.out
           go_wp2_with (first | (go_at_call 80; (with_reducible refine (impl_wordOk.calls a0_3 true _ A31.out).mono ?_); rintro e w' ⟨rfl, ⟨nd, rfl⟩⟩) | (go_at_call 136; (with_reducible refine (impl_sinceOk.calls a0_4 true _ A33.out).mono ?_); rintro e w' ⟨rfl, ⟨nd, rfl⟩⟩) | (go_at_call 147; (with_reducible refine (impl_TextOk.calls kj1 a0_5 t305 _ A35.out).mono ?_); rintro e w' ⟨rfl, ⟨nd, rfl⟩⟩))
           go_ret
           exact ⟨by first | rfl | (simp [errW_none, errW_some] <;> rfl) | (simp [*, errW_none, errW_some] <;> rfl), qB HB⟩
          ·
           replace c34 := Bool.eq_false_iff.mpr c34
           subst c34
           have H1 : (some false) = some r := by rw [if_neg (show ¬ (false = true) by decide)] at H; exact H
           clear H
           have H := H1
           clear H1
           obtain rfl := Option.some.inj H
           have hnb39 := NB299_300.out
           have hnc39 := NB300_299.out
           obtain ⟨hcz40_0, hcz40_1, hcz40_2, hcz40_3, hcz40_4, hcz40_5, hcz40_6, hcz40_7⟩ := cz8 BK299.out
           obtain ⟨hfz40_0, hfz40_1, hfz40_2, hfz40_3, hfz40_4, hfz40_5, hfz40_6, hfz40_7⟩ := fz8 BK299.out
           obtain ⟨hcz41_0, hcz41_1, hcz41_2, hcz41_3, hcz41_4, hcz41_5, hcz41_6, hcz41_7⟩ := cz8 BK300.out
           obtain ⟨hfz41_0, hfz41_1, hfz41_2, hfz41_3, hfz41_4, hfz41_5, hfz41_6, hfz41_7⟩ := fz8 BK300.out
           go_wp2_with (first | (go_at_call 80; (with_reducible refine (impl_wordOk.calls a0_3 true _ A31.out).mono ?_); rintro e w' ⟨rfl, ⟨nd, rfl⟩⟩) | (go_at_call 136; (with_reducible refine (impl_sinceOk.calls a0_4 false _ A33.out).mono ?_); rintro e w' ⟨rfl, ⟨nd, rfl⟩⟩))
           go_ret
           exact ⟨by first | rfl | (simp [errW_none, errW_some] <;> rfl) | (simp [*, errW_none, errW_some] <;> rfl), qB HB⟩
         ·
          replace c32 := Bool.eq_false_iff.mpr c32
          subst c32
          have H1 : (some false) = some r := by rw [if_neg (show ¬ (false = true) by decide)] at H; exact H
          clear H
          have H := H1
          clear H1
          obtain rfl := Option.some.inj H
          have hnb42 := NB299_300.out
          have hnc42 := NB300_299.out
          obtain ⟨hcz43_0, hcz43_1, hcz43_2, hcz43_3, hcz43_4, hcz43_5, hcz43_6, hcz43_7⟩ := cz8 BK299.out
          obtain ⟨hfz43_0, hfz43_1, hfz43_2, hfz43_3, hfz43_4, hfz43_5, hfz43_6, hfz43_7⟩ := fz8 BK299.out
          obtain ⟨hcz44_0, hcz44_1, hcz44_2, hcz44_3, hcz44_4, hcz44_5, hcz44_6, hcz44_7⟩ := cz8 BK300.out
          obtain ⟨hfz44_0, hfz44_1, hfz44_2, hfz44_3, hfz44_4, hfz44_5, hfz44_6, hfz44_7⟩ := fz8 BK300.out
          go_wp2_with (first | (go_at_call 80; (with_reducible refine (impl_wordOk.calls a0_3 false _ A31.out).mono ?_); rintro e w' ⟨rfl, ⟨nd, rfl⟩⟩))
          go_ret
          exact ⟨by first | rfl | (simp [errW_none, errW_some] <;> rfl) | (simp [*, errW_none, errW_some] <;> rfl), qB HB⟩
        ·
         rw [if_neg c30] at H
         have c30b0 : (x301000_1 == 0 && (x301001_1.toList == ([] : List UInt8) && (x301002_1 == 0 && (a0_3 == a0_3 && (a0_4 == a0_4 && (a0_5.toList == a0_5.toList && (a0_6 == 0 && (a0_7 == 0)))))))) = false := by simpa using c30
         (try (have c30b0e := c30b0; simp only [Go.Proofs.YtahfemlfdpbkkaaV.beq_nil, Go.Proofs.YtahfemlfdpbkkaaV.bne_nil] at c30b0e))
         (try simp only [beq_self_eq_true, Bool.true_and, Bool.and_true, Go.Proofs.YtahfemlfdpbkkaaV.beq_nil] at c30b0)
         (try (have c30b1 : decide (x301000_1 = 0 && (x301001_1.toList == ([] : List UInt8) && (x301002_1 == 0 && (a0_3 == a0_3 && (a0_4 == a0_4 && (a0_5.toList == a0_5.toList && (a0_6 == 0 && (a0_7 == 0)))))))) = false := by simpa using c30))
         (try (have c30b1e := c30b1; simp only [Go.Proofs.YtahfemlfdpbkkaaV.beq_nil, Go.Proofs.YtahfemlfdpbkkaaV.bne_nil] at c30b1e))
         (try simp only [beq_self_eq_true, Bool.true_and, Bool.and_true, Go.Proofs.YtahfemlfdpbkkaaV.beq_nil] at c30b1)
         (try (have c30b2 : (x301000_1 == 0 && (x301001_1.toList == ([] : List UInt8) && (x301002_1 == 0 && (a0_3 == a0_3 && (a0_4 == a0_4 && (a0_5.toList == a0_5.toList && (a0_6 == 0 && (a0_7 == 0)))))))) = false := by simpa using c30))
         (try (have c30b2e := c30b2; simp only [Go.Proofs.YtahfemlfdpbkkaaV.beq_nil, Go.Proofs.YtahfemlfdpbkkaaV.bne_nil] at c30b2e))
         (try simp only [beq_self_eq_true, Bool.true_and, Bool.and_true, Go.Proofs.YtahfemlfdpbkkaaV.beq_nil] at c30b2)
         (try (have c30b3 : ¬ (x301000_1 = 0 && (x301001_1.toList == ([] : List UInt8) && (x301002_1 == 0 && (a0_3 == a0_3 && (a0_4 == a0_4 && (a0_5.toList == a0_5.toList && (a0_6 == 0 && (a0_7 == 0)))))))) := by simpa using c30))
         (try (have c30b3e := c30b3; simp only [Go.Proofs.YtahfemlfdpbkkaaV.beq_nil, Go.Proofs.YtahfemlfdpbkkaaV.bne_nil] at c30b3e))
         (try simp only [beq_self_eq_true, Bool.true_and, Bool.and_true, Go.Proofs.YtahfemlfdpbkkaaV.beq_nil] at c30b3)
         clear c30
         obtain rfl := Option.some.inj H
         have hnb45 := NB299_300.out
         have hnc45 := NB300_299.out
         obtain ⟨hcz46_0, hcz46_1, hcz46_2, hcz46_3, hcz46_4, hcz46_5, hcz46_6, hcz46_7⟩ := cz8 BK299.out
         obtain ⟨hfz46_0, hfz46_1, hfz46_2, hfz46_3, hfz46_4, hfz46_5, hfz46_6, hfz46_7⟩ := fz8 BK299.out
         obtain ⟨hcz47_0, hcz47_1, hcz47_2, hcz47_3, hcz47_4, hcz47_5, hcz47_6, hcz47_7⟩ := cz8 BK300.out
         obtain ⟨hfz47_0, hfz47_1, hfz47_2, hfz47_3, hfz47_4, hfz47_5, hfz47_6, hfz47_7⟩ := fz8 BK300.out
         go_wp2
         go_ret
         exact ⟨by first | rfl | (simp [errW_none, errW_some] <;> rfl) | (simp [*, errW_none, errW_some] <;> rfl), qB HB⟩
       ·
        rw [if_neg c29] at H
        have c29b0 : (a0_2 == 2) = false := beq_eq_false_iff_ne.mpr c29
        have c29b1 : (a0_2 != 2) = true := bne_iff_ne.mpr c29
        by_cases c48 : a0_2 = 3
        ·
         rw [if_pos c48] at H
         have c48b0 : (a0_2 == 3) = true := beq_iff_eq.mpr c48
         have c48b1 : (a0_2 != 3) = false := bne_eq_false_iff_eq.mpr c48
         clear c48
         by_cases c49 : (x301000_1 == 0 && (x301001_1.toList == ([] : List UInt8) && (x301002_1 == 0 && (a0_3 == 0 && (a0_4 == 0 && (a0_5.toList == ([] : List UInt8) && (a0_6 == a0_6 && (a0_7 == a0_7)))))))) = true
         ·
          rw [if_pos c49] at H
          have c49b0 : (x301000_1 == 0 && (x301001_1.toList == ([] : List UInt8) && (x301002_1 == 0 && (a0_3 == 0 && (a0_4 == 0 && (a0_5.toList == ([] : List UInt8) && (a0_6 == a0_6 && (a0_7 == a0_7)))))))) = true := c49
          (try (have c49b0e := c49b0; simp only [Go.Proofs.YtahfemlfdpbkkaaV.beq_nil, Go.Proofs.YtahfemlfdpbkkaaV.bne_nil] at c49b0e))
          (try simp only [beq_self_eq_true, Bool.true_and, Bool.and_true, Go.Proofs.YtahfemlfdpbkkaaV.beq_nil] at c49b0)
          (try (have c49b1 : decide (x301000_1 = 0 && (x301001_1.toList == ([] : List UInt8) && (x301002_1 == 0 && (a0_3 == 0 && (a0_4 == 0 && (a0_5.toList == ([] : List UInt8) && (a0_6 == a0_6 && (a0_7 == a0_7)))))))) = true := by simpa using c49))
          (try (have c49b1e := c49b1; simp only [Go.Proofs.YtahfemlfdpbkkaaV.beq_nil, Go.Proofs.YtahfemlfdpbkkaaV.bne_nil] at c49b1e))
          (try simp only [beq_self_eq_true, Bool.true_and, Bool.and_true, Go.Proofs.YtahfemlfdpbkkaaV.beq_nil] at c49b1)
          (try (have c49b2 : (x301000_1 == 0 && (x301001_1.toList == ([] : List UInt8) && (x301002_1 == 0 && (a0_3 == 0 && (a0_4 == 0 && (a0_5.toList == ([] : List UInt8) && (a0_6 == a0_6 && (a0_7 == a0_7)))))))) = true := by simpa using c49))
          (try (have c49b2e := c49b2; simp only [Go.Proofs.YtahfemlfdpbkkaaV.beq_nil, Go.Proofs.YtahfemlfdpbkkaaV.bne_nil] at c49b2e))
          (try simp only [beq_self_eq_true, Bool.true_and, Bool.and_true, Go.Proofs.YtahfemlfdpbkkaaV.beq_nil] at c49b2)
          clear c49
          replace H := Option.bind_eq_some_iff.mp H
          obtain ⟨t306, A500, H⟩ := H
          replace H : (if t306 = true then (some (decide (a0_7 ≥ 1))) else (some false)) = some r := H
          have A50 := Aside0.mk A500
          clear A500
          by_cases c51 : t306 = true
          ·
           subst c51
           have H1 : (some (decide (a0_7 ≥ 1))) = some r := by rw [if_pos rfl] at H; exact H
           clear H
           have H := H1
           clear H1
           obtain rfl := Option.some.inj H
           have hnb52 := NB299_300.out
           have hnc52 := NB300_299.out
           obtain ⟨hcz53_0, hcz53_1, hcz53_2, hcz53_3, hcz53_4, hcz53_5, hcz53_6, hcz53_7⟩ := cz8 BK299.out
           obtain ⟨hfz53_0, hfz53_1, hfz53_2, hfz53_3, hfz53_4, hfz53_5, hfz53_6, hfz53_7⟩ := fz8 BK299.out
           obtain ⟨hcz54_0, hcz54_1, hcz54_2, hcz54_3, hcz54_4, hcz54_5, hcz54_6, hcz54_7⟩ := cz8 BK300.out
           obtain ⟨hfz54_0, hfz54_1, hfz54_2, hfz54_3, hfz54_4, hfz54_5, hfz54_6, hfz54_7⟩ := fz8 BK300.out
           go_wp2_with (first | (go_at_call 142; (with_reducible refine (impl_sockIdOk.calls a0_6 true _ A50.out).mono ?_); rintro e w' ⟨rfl, ⟨nd, rfl⟩⟩))
           go_ret
           exact ⟨by first | rfl | (simp [errW_none, errW_some] <;> rfl) | (simp [*, errW_none, errW_some] <;> rfl), qB HB⟩
          ·
           replace c51 := Bool.eq_false_iff.mpr c51
           subst c51
           have H1 : (some false) = some r := by rw [if_neg (show ¬ (false = true) by decide)] at H; exact H
           clear H
           have H := H1
           clear H1
           obtain rfl := Option.some.inj H
           have hnb55 := NB299_300.out
           have hnc55 := NB300_299.out
           obtain ⟨hcz56_0, hcz56_1, hcz56_2, hcz56_3, hcz56_4, hcz56_5, hcz56_6, hcz56_7⟩ := cz8 BK299.out
           obtain ⟨hfz56_0, hfz56_1, hfz56_2, hfz56_3, hfz56_4, hfz56_5, hfz56_6, hfz56_7⟩ := fz8 BK299.out
           obtain ⟨hcz57_0, hcz57_1, hcz57_2, hcz57_3, hcz57_4, hcz57_5, hcz57_6, hcz57_7⟩ := cz8 BK300.out
           obtain ⟨hfz57_0, hfz57_1, hfz57_2, hfz57_3, hfz57_4, hfz57_5, hfz57_6, hfz57_7⟩ := fz8 BK300.out
           go_wp2_with (first | (go_at_call 142; (with_reducible refine (impl_sockIdOk.calls a0_6 false _ A50.out).mono ?_); rintro e w' ⟨rfl, ⟨nd, rfl⟩⟩))
           go_ret
           exact ⟨by first | rfl | (simp [errW_none, errW_some] <;> rfl) | (simp [*, errW_none, errW_some] <;> rfl), qB HB⟩
         ·
          rw [if_neg c49] at H
          have c49b0 : (x301000_1 == 0 && (x301001_1.toList == ([] : List UInt8) && (x301002_1 == 0 && (a0_3 == 0 && (a0_4 == 0 && (a0_5.toList == ([] : List UInt8) && (a0_6 == a0_6 && (a0_7 == a0_7)))))))) = false := by simpa using c49
          (try (have c49b0e := c49b0; simp only [Go.Proofs.YtahfemlfdpbkkaaV.beq_nil, Go.Proofs.YtahfemlfdpbkkaaV.bne_nil] at c49b0e))
          (try simp only [beq_self_eq_true, Bool.true_and, Bool.and_true, Go.Proofs.YtahfemlfdpbkkaaV.beq_nil] at c49b0)
          (try (have c49b1 : decide (x301000_1 = 0 && (x301001_1.toList == ([] : List UInt8) && (x301002_1 == 0 && (a0_3 == 0 && (a0_4 == 0 && (a0_5.toList == ([] : List UInt8) && (a0_6 == a0_6 && (a0_7 == a0_7)))))))) = false := by simpa using c49))
          (try (have c49b1e := c49b1; simp only [Go.Proofs.YtahfemlfdpbkkaaV.beq_nil, Go.Proofs.YtahfemlfdpbkkaaV.bne_nil] at c49b1e))
          (try simp only [beq_self_eq_true, Bool.true_and, Bool.and_true, Go.Proofs.YtahfemlfdpbkkaaV.beq_nil] at c49b1)
          (try (have c49b2 : (x301000_1 == 0 && (x301001_1.toList == ([] : List UInt8) && (x301002_1 == 0 && (a0_3 == 0 && (a0_4 == 0 && (a0_5.toList == ([] : List UInt8) && (a0_6 == a0_6 && (a0_7 == a0_7)))))))) = false := by simpa using c49))
          (try (have c49b2e := c49b2; simp only [Go.Proofs.YtahfemlfdpbkkaaV.beq_nil, Go.Proofs.YtahfemlfdpbkkaaV.bne_nil] at c49b2e))
          (try simp only [beq_self_eq_true, Bool.true_and, Bool.and_true, Go.Proofs.YtahfemlfdpbkkaaV.beq_nil] at c49b2)
          (try (have c49b3 : ¬ (x301000_1 = 0 && (x301001_1.toList == ([] : List UInt8) && (x301002_1 == 0 && (a0_3 == 0 && (a0_4 == 0 && (a0_5.toList == ([] : List UInt8) && (a0_6 == a0_6 && (a0_7 == a0_7)))))))) := by simpa using c49))
          (try (have c49b3e := c49b3; simp only [Go.Proofs.YtahfemlfdpbkkaaV.beq_nil, Go.Proofs.YtahfemlfdpbkkaaV.bne_nil] at c49b3e))
          (try simp only [beq_self_eq_true, Bool.true_and, Bool.and_true, Go.Proofs.YtahfemlfdpbkkaaV.beq_nil] at c49b3)
          clear c49
          obtain rfl := Option.some.inj H
          have hnb58 := NB299_300.out
          have hnc58 := NB300_299.out
          obtain ⟨hcz59_0, hcz59_1, hcz59_2, hcz59_3, hcz59_4, hcz59_5, hcz59_6, hcz59_7⟩ := cz8 BK299.out
          obtain ⟨hfz59_0, hfz59_1, hfz59_2, hfz59_3, hfz59_4, hfz59_5, hfz59_6, hfz59_7⟩ := fz8 BK299.out
          obtain ⟨hcz60_0, hcz60_1, hcz60_2, hcz60_3, hcz60_4, hcz60_5, hcz60_6, hcz60_7⟩ := cz8 BK300.out
          obtain ⟨hfz60_0, hfz60_1, hfz60_2, hfz60_3, hfz60_4, hfz60_5, hfz60_6, hfz60_7⟩ := fz8 BK300.out
          go_wp2
          go_ret
          exact ⟨by first | rfl | (simp [errW_none, errW_some] <;> rfl) | (simp [*, errW_none, errW_some] <;> rfl), qB HB⟩
        ·
         rw [if_neg c48] at H
         have c48b0 : (a0_2 == 3) = false := beq_eq_false_iff_ne.mpr c48
         have c48b1 : (a0_2 != 3) = true := bne_iff_ne.mpr c48
         by_cases c61 : a0_2 = 4
         ·
          rw [if_pos c61] at H
          have c61b0 : (a0_2 == 4) = true := beq_iff_eq.mpr c61
          have c61b1 : (a0_2 != 4) = false := bne_eq_false_iff_eq.mpr c61
          clear c61
          by_cases c62 : (x301000_1 == 0 && (x301001_1.toList == ([] : List UInt8) && (x301002_1 == 0 && (a0_3 == 0 && (a0_4 == 0 && (a0_5.toList == ([] : List UInt8) && (a0_6 == a0_6 && (a0_7 == a0_7)))))))) = true
          ·
           rw [if_pos c62] at H
           have c62b0 : (x301000_1 == 0 && (x301001_1.toList == ([] : List UInt8) && (x301002_1 == 0 && (a0_3 == 0 && (a0_4 == 0 && (a0_5.toList == ([] : List UInt8) && (a0_6 == a0_6 && (a0_7 == a0_7)))))))) = true := c62
           (try (have c62b0e := c62b0; simp only [Go.Proofs.YtahfemlfdpbkkaaV.beq_nil, Go.Proofs.YtahfemlfdpbkkaaV.bne_nil] at c62b0e))
           (try simp only [beq_self_eq_true, Bool.true_and, Bool.and_true, Go.Proofs.YtahfemlfdpbkkaaV.beq_nil] at c62b0)
           (try (have c62b1 : decide (x301000_1 = 0 && (x301001_1.toList == ([] : List UInt8) && (x301002_1 == 0 && (a0_3 == 0 && (a0_4 == 0 && (a0_5.toList == ([] : List UInt8) && (a0_6 == a0_6 && (a0_7 == a0_7)))))))) = true := by simpa using c62))
           (try (have c62b1e := c62b1; simp only [Go.Proofs.YtahfemlfdpbkkaaV.beq_nil, Go.Proofs.YtahfemlfdpbkkaaV.bne_nil] at c62b1e))
           (try simp only [beq_self_eq_true, Bool.true_and, Bool.and_true, Go.Proofs.YtahfemlfdpbkkaaV.beq_nil] at c62b1)
           (try (have c62b2 : (x301000_1 == 0 && (x301001_1.toList == ([] : List UInt8) && (x301002_1 == 0 && (a0_3 == 0 && (a0_4 == 0 && (a0_5.toList == ([] : List UInt8) && (a0_6 == a0_6 && (a0_7 == a0_7)))))))) = true := by simpa using c62))
           (try (have c62b2e := c62b2; simp only [Go.Proofs.YtahfemlfdpbkkaaV.beq_nil, Go.Proofs.YtahfemlfdpbkkaaV.bne_nil] at c62b2e))
           (try simp only [beq_self_eq_true, Bool.true_and, Bool.and_true, Go.Proofs.YtahfemlfdpbkkaaV.beq_nil] at c62b2)
           clear c62
           replace H := Option.bind_eq_some_iff.mp H
           obtain ⟨t307, A630, H⟩ := H
           replace H : (if t307 = true then (some (decide (a0_7 ≥ 1))) else (some false)) = some r := H
           have A63 := Aside0.mk A630
           clear A630
           by_cases c64 : t307 = true
           ·
            subst c64
            have H1 : (some (decide (a0_7 ≥ 1))) = some r := by rw [if_pos rfl] at H; exact H
            clear H
            have H := H1
            clear H1
            obtain rfl := Option.some.inj H
            have hnb65 := NB299_300.out
            have hnc65 := NB300_299.out
            obtain ⟨hcz66_0, hcz66_1, hcz66_2, hcz66_3, hcz66_4, hcz66_5, hcz66_6, hcz66_7⟩ := cz8 BK299.out
            obtain ⟨hfz66_0, hfz66_1, hfz66_2, hfz66_3, hfz66_4, hfz66_5, hfz66_6, hfz66_7⟩ := fz8 BK299.out
            obtain ⟨hcz67_0, hcz67_1, hcz67_2, hcz67_3, hcz67_4, hcz67_5, hcz67_6, hcz67_7⟩ := cz8 BK300.out
            obtain ⟨hfz67_0, hfz67_1, hfz67_2, hfz67_3, hfz67_4, hfz67_5, hfz67_6, hfz67_7⟩ := fz8 BK300.out
            go_wp2_with (first | (go_at_call 142; (with_reducible refine (impl_sockIdOk.calls a0_6 true _ A63.out).mono ?_); rintro e w' ⟨rfl, ⟨nd, rfl⟩⟩))
            go_ret
            exact ⟨by first | rfl | (simp [errW_none, errW_some] <;> rfl) | (simp [*, errW_none, errW_some] <;> rfl), qB HB⟩
           ·
            replace c64 := Bool.eq_false_iff.mpr c64
            subst c64
            have H1 : (some false) = some r := by rw [if_neg (show ¬ (false = true) by decide)] at H; exact H
            clear H
            have H := H1
            clear H1
            obtain rfl := Option.some.inj H
            have hnb68 := NB299_300.out
            have hnc68 := NB300_299.out
            obtain ⟨hcz69_0, hcz69_1, hcz69_2, hcz69_3, hcz69_4, hcz69_5, hcz69_6, hcz69_7⟩ := cz8 BK299.out
            obtain ⟨hfz69_0, hfz69_1, hfz69_2, hfz69_3, hfz69_4, hfz69_5, hfz69_6, hfz69_7⟩ := fz8 BK299.out
            obtain ⟨hcz70_0, hcz70_1, hcz70_2, hcz70_3, hcz70_4, hcz70_5, hcz70_6, hcz70_7⟩ := cz8 BK300.out
            obtain ⟨hfz70_0, hfz70_1, hfz70_2, hfz70_3, hfz70_4, hfz70_5, hfz70_6, hfz70_7⟩ := fz8 BK300.out
            go_wp2_with (first | (go_at_call 142; (with_reducible refine (impl_sockIdOk.calls a0_6 false _ A63.out).mono ?_); rintro e w' ⟨rfl, ⟨nd, rfl⟩⟩))
            go_ret
            exact ⟨by first | rfl | (simp [errW_none, errW_some] <;> rfl) | (simp [*, errW_none, errW_some] <;> rfl), qB HB⟩
          ·
           rw [if_neg c62] at H
           have c62b0 : (x301000_1 == 0 && (x301001_1.toList == ([] : List UInt8) && (x301002_1 == 0 && (a0_3 == 0 && (a0_4 == 0 && (a0_5.toList == ([] : List UInt8) && (a0_6 == a0_6 && (a0_7 == a0_7)))))))) = false := by simpa using c62
           (try (have c62b0e := c62b0; simp only [Go.Proofs.YtahfemlfdpbkkaaV.beq_nil, Go.Proofs.YtahfemlfdpbkkaaV.bne_nil] at c62b0e))
           (try simp only [beq_self_eq_true, Bool.true_and, Bool.and_true, Go.Proofs.YtahfemlfdpbkkaaV.beq_nil] at c62b0)
           (try (have c62b1 : decide (x301000_1 = 0 && (x301001_1.toList == ([] : List UInt8) && (x301002_1 == 0 && (a0_3 == 0 && (a0_4 == 0 && (a0_5.toList == ([] : List UInt8) && (a0_6 == a0_6 && (a0_7 == a0_7)))))))) = false := by simpa using c62))
           (try (have c62b1e := c62b1; simp only [Go.Proofs.YtahfemlfdpbkkaaV.beq_nil, Go.Proofs.YtahfemlfdpbkkaaV.bne_nil] at c62b1e))
           (try simp only [beq_self_eq_true, Bool.true_and, Bool.and_true, Go.Proofs.YtahfemlfdpbkkaaV.beq_nil] at c62b1)
           (try (have c62b2 : (x301000_1 == 0 && (x301001_1.toList == ([] : List UInt8) && (x301002_1 == 0 && (a0_3 == 0 && (a0_4 == 0 && (a0_5.toList == ([] : List UInt8) && (a0_6 == a0_6 && (a0_7 == a0_7)))))))) = false := by simpa using c62))
           (try (have c62b2e := c62b2; simp only [Go.Proofs.YtahfemlfdpbkkaaV.beq_nil, Go.Proofs.YtahfemlfdpbkkaaV.bne_nil] at c62b2e))
           (try simp only [beq_self_eq_true, Bool.true_and, Bool.and_true, Go.Proofs.YtahfemlfdpbkkaaV.beq_nil] at c62b2)
           (try (have c62b3 : ¬ (x301000_1 = 0 && (x301001_1.toList == ([] : List UInt8) && (x301002_1 == 0 && (a0_3 == 0 && (a0_4 == 0 && (a0_5.toList == ([] : List UInt8) && (a0_6 == a0_6 && (a0_7 == a0_7)))))))) := by simpa using c62))
           (try (have c62b3e := c62b3; simp only [Go.Proofs.YtahfemlfdpbkkaaV.beq_nil, Go.Proofs.YtahfemlfdpbkkaaV.bne_nil] at c62b3e))
           (try simp only [beq_self_eq_true, Bool.true_and, Bool.and_true, Go.Proofs.YtahfemlfdpbkkaaV.beq_nil] at c62b3)
           clear c62
           obtain rfl := Option.some.inj H
           have hnb71 := NB299_300.out
           have hnc71 := NB300_299.out
           obtain ⟨hcz72_0, hcz72_1, hcz72_2, hcz72_3, hcz72_4, hcz72_5, hcz72_6, hcz72_7⟩ := cz8 BK299.out
           obtain ⟨hfz72_0, hfz72_1, hfz72_2, hfz72_3, hfz72_4, hfz72_5, hfz72_6, hfz72_7⟩ := fz8 BK299.out
           obtain ⟨hcz73_0, hcz73_1, hcz73_2, hcz73_3, hcz73_4, hcz73_5, hcz73_6, hcz73_7⟩ := cz8 BK300.out
           obtain ⟨hfz73_0, hfz73_1, hfz73_2, hfz73_3, hfz73_4, hfz73_5, hfz73_6, hfz73_7⟩ := fz8 BK300.out
           go_wp2
           go_ret
           exact ⟨by first | rfl | (simp [errW_none, errW_some] <;> rfl) | (simp [*, errW_none, errW_some] <;> rfl), qB HB⟩
         ·
          rw [if_neg c61] at H
          have c61b0 : (a0_2 == 4) = false := beq_eq_false_iff_ne.mpr c61
          have c61b1 : (a0_2 != 4) = true := bne_iff_ne.mpr c61
          obtain rfl := Option.some.inj H
          have hnb74 := NB299_300.out
          have hnc74 := NB300_299.out
          obtain ⟨hcz75_0, hcz75_1, hcz75_2, hcz75_3, hcz75_4, hcz75_5, hcz75_6, hcz75_7⟩ := cz8 BK299.out
          obtain ⟨hfz75_0, hfz75_1, hfz75_2, hfz75_3, hfz75_4, hfz75_5, hfz75_6, hfz75_7⟩ := fz8 BK299.out
          go_wp2
          go_ret
          exact ⟨by first | rfl | (simp [errW_none, errW_some] <;> rfl) | (simp [*, errW_none, errW_some] <;> rfl), qB HB⟩
     ·
      replace c24 := Bool.eq_false_iff.mpr c24
      subst c24
      have H1 : (some false) = some r := by rw [if_neg (show ¬ (false = true) by decide)] at H; exact H
      clear H
      have H := H1
      clear H1
      obtain rfl := Option.some.inj H
      go_wp2
      go_ret
      exact ⟨by first | rfl | (simp [errW_none, errW_some] <;> rfl) | (simp [*, errW_none, errW_some] <;> rfl), qB HB⟩
   ·
    replace c16 := Bool.eq_false_iff.mpr c16
    subst c16
    have H1 : (some false) = some r := by rw [if_neg (show ¬ (false = true) by decide)] at H; exact H
    clear H
    have H := H1
    clear H1
    obtain rfl := Option.some.inj H
    go_wp2
    go_ret
    exact ⟨by first | rfl | (simp [errW_none, errW_some] <;> rfl) | (simp [*, errW_none, errW_some] <;> rfl), qB HB⟩

end Go.Proofs.Ytahfemlfdpbkkaa.PFnExactCtlOk
