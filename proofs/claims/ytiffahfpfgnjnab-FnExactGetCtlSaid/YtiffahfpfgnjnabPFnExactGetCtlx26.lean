-- Written by a program of this session (myprint.py, over the kit's print): contracts of FnExactGetCtl
import Derived.Test.YtiffahfpfgnjnabPFnExactGetCtlx0
import Derived.Test.YtiffahfpfgnjnabPFnExactGetCtlx3
import Derived.Test.YtiffahfpfgnjnabPFnExactGetCtlx4
import Derived.Test.YtiffahfpfgnjnabPFnExactGetCtlx12
import Derived.Test.YtiffahfpfgnjnabPFnExactGetCtlx13
import Derived.Test.YtiffahfpfgnjnabPFnExactGetCtlx22
import Derived.Test.YtiffahfpfgnjnabPFnExactGetCtlx23
import Derived.Test.YtiffahfpfgnjnabPFnExactGetCtlx25
namespace Go.Proofs.Ytiffahfpfgnjnab.PFnExactGetCtl
open Go.RowKit Go.Proofs.YtiffahfpfgnjnabW.PrintWords Go.Proofs.YtiffahfpfgnjnabW.PrintLast Go.Proofs.YtiffahfpfgnjnabW.PrintMore Go.Proofs.YtiffahfpfgnjnabV
attribute [local go_sem] max2_int min2_int max_two min_two max_three min_three max_four min_four   -- for this text's walks alone
set_option linter.unusedVariables false
set_option linter.unusedSimpArgs false

/-! ### laws_FnExactGetCtl: function 6 -/
mutual
def laws_FnExactGetCtl.j0 : Nat → List Int → Bool → List Int → Bool → Bool → Int → Int → Int → Int → Int → Bool → Int → List (S126) → Int → Int → Int → Int → Int → Bool → Int → List (S126) → Option (Bool)
 | 0, _, _, _, _, _, _, _, _, _, _, _, _, _, _, _, _, _, _, _, _, _ => none
 | k + 1, x0, x4, x5, x7, x37, x738000, x738001, x738002, x738003, x738004, x738005, x738006, x738007, x753000, x753001, x753002, x753003, x753004, x753005, x753006, x753007 => if x37 = true then (some false) else ((laws_toByteS.f k x0).bind fun t754 => ((laws_eqByteS.f k x5 t754).bind fun t757 => (if t757 = true then ((laws_markByteS.f k x5 1).bind fun bt758 => (if bt758.1 < 0 then (laws_FnExactGetCtl.j1 k x0 x4 true x738000 x738001 x738002 x738003 x738004 x738005 x738006 x738007 x753000 x753001 x753002 x753003 x753004 x753005 x753006 x753007) else ((laws_eqCtl.f k x753000 x753001 x753002 x753003 x753004 x753005 x753006 x753007 x738000 x738001 x738002 x738003 x738004 x738005 x738006 x738007).bind fun t760 => (if t760 = true then (laws_FnExactGetCtl.j1 k x0 x4 (x7 != x4) x738000 x738001 x738002 x738003 x738004 x738005 x738006 x738007 x753000 x753001 x753002 x753003 x753004 x753005 x753006 x753007) else (laws_FnExactGetCtl.j1 k x0 x4 true x738000 x738001 x738002 x738003 x738004 x738005 x738006 x738007 x753000 x753001 x753002 x753003 x753004 x753005 x753006 x753007))))) else (some false))))
def laws_FnExactGetCtl.j1 : Nat → List Int → Bool → Bool → Int → Int → Int → Int → Int → Bool → Int → List (S126) → Int → Int → Int → Int → Int → Bool → Int → List (S126) → Option (Bool)
 | 0, _, _, _, _, _, _, _, _, _, _, _, _, _, _, _, _, _, _, _ => none
 | k + 1, x0, x4, x58, x738000, x738001, x738002, x738003, x738004, x738005, x738006, x738007, x753000, x753001, x753002, x753003, x753004, x753005, x753006, x753007 => if x58 = true then (some false) else ((laws_markCtl.f k x753000 x753001 x753002 x753003 x753004 x753005 x753006 x753007 1).bind fun bt761 => ((laws_heldCtl.f k x753000 x753001 x753002 x753003 x753004 x753005 x753006 bt761.2 1).bind fun t763 => (if t763 < 0 then (some false) else (if t763 = bt761.1 then ((laws_toByteS.f k x0).bind fun t764 => ((impl_GetCtl.f k t764).bind fun bt767 => ((laws_eqCtl.f k bt767.1 bt767.2.1 bt767.2.2.1 bt767.2.2.2.1 bt767.2.2.2.2.1 bt767.2.2.2.2.2.1 bt767.2.2.2.2.2.2.1 bt767.2.2.2.2.2.2.2.1 x738000 x738001 x738002 x738003 x738004 x738005 x738006 x738007).bind fun t779 => (if t779 = true then (laws_FnExactGetCtl.j2 k bt761.1 (bt767.2.2.2.2.2.2.2.2 != x4) x753000 x753001 x753002 x753003 x753004 x753005 x753006 bt761.2) else (laws_FnExactGetCtl.j2 k bt761.1 true x753000 x753001 x753002 x753003 x753004 x753005 x753006 bt761.2))))) else (some false)))))
def laws_FnExactGetCtl.j2 : Nat → Int → Bool → Int → Int → Int → Int → Int → Bool → Int → List (S126) → Option (Bool)
 | 0, _, _, _, _, _, _, _, _, _, _ => none
 | k + 1, x9, x84, x753000, x753001, x753002, x753003, x753004, x753005, x753006, x753007 => if x84 = true then (some false) else ((laws_heldCtl.f k x753000 x753001 x753002 x753003 x753004 x753005 x753006 x753007 1).bind fun t780 => (if t780 < 0 then (some false) else (if t780 = x9 then (some true) else (some false))))
end
def laws_FnExactGetCtl.f (k : Nat) (l0 : List Int) : Option (Bool) := if (l0.length : Int) > 1048576 then (some true) else ((laws_toByteS.f k l0).bind fun t723 => ((spec_GetCtl.f k t723).bind fun bt726 => ((laws_toByteS.f k l0).bind fun t738 => ((impl_GetCtl.f k t738).bind fun bt741 => ((laws_eqCtl.f k bt741.1 bt741.2.1 bt741.2.2.1 bt741.2.2.2.1 bt741.2.2.2.2.1 bt741.2.2.2.2.2.1 bt741.2.2.2.2.2.2.1 bt741.2.2.2.2.2.2.2.1 bt726.1 bt726.2.1 bt726.2.2.1 bt726.2.2.2.1 bt726.2.2.2.2.1 bt726.2.2.2.2.2.1 bt726.2.2.2.2.2.2.1 bt726.2.2.2.2.2.2.2.1).bind fun t753 => (if t753 = true then (laws_FnExactGetCtl.j0 k l0 bt726.2.2.2.2.2.2.2.2 t738 bt741.2.2.2.2.2.2.2.2 (bt741.2.2.2.2.2.2.2.2 != bt726.2.2.2.2.2.2.2.2) bt726.1 bt726.2.1 bt726.2.2.1 bt726.2.2.2.1 bt726.2.2.2.2.1 bt726.2.2.2.2.2.1 bt726.2.2.2.2.2.2.1 bt726.2.2.2.2.2.2.2.1 bt741.1 bt741.2.1 bt741.2.2.1 bt741.2.2.2.1 bt741.2.2.2.2.1 bt741.2.2.2.2.2.1 bt741.2.2.2.2.2.2.1 bt741.2.2.2.2.2.2.2.1) else (laws_FnExactGetCtl.j0 k l0 bt726.2.2.2.2.2.2.2.2 t738 bt741.2.2.2.2.2.2.2.2 true bt726.1 bt726.2.1 bt726.2.2.1 bt726.2.2.2.1 bt726.2.2.2.2.1 bt726.2.2.2.2.2.1 bt726.2.2.2.2.2.2.1 bt726.2.2.2.2.2.2.2.1 bt741.1 bt741.2.1 bt741.2.2.1 bt741.2.2.2.1 bt741.2.2.2.2.1 bt741.2.2.2.2.2.1 bt741.2.2.2.2.2.2.1 bt741.2.2.2.2.2.2.2.1)))))))
theorem laws_FnExactGetCtl.mono_l : ∀ k, (∀ y0 y1 y2 y3 y4 y5 y6 y7 y8 y9 y10 y11 y12 y13 y14 y15 y16 y17 y18 y19 y20, LeO (laws_FnExactGetCtl.j0 k y0 y1 y2 y3 y4 y5 y6 y7 y8 y9 y10 y11 y12 y13 y14 y15 y16 y17 y18 y19 y20) (laws_FnExactGetCtl.j0 (k + 1) y0 y1 y2 y3 y4 y5 y6 y7 y8 y9 y10 y11 y12 y13 y14 y15 y16 y17 y18 y19 y20)) ∧ (∀ y0 y1 y2 y3 y4 y5 y6 y7 y8 y9 y10 y11 y12 y13 y14 y15 y16 y17 y18, LeO (laws_FnExactGetCtl.j1 k y0 y1 y2 y3 y4 y5 y6 y7 y8 y9 y10 y11 y12 y13 y14 y15 y16 y17 y18) (laws_FnExactGetCtl.j1 (k + 1) y0 y1 y2 y3 y4 y5 y6 y7 y8 y9 y10 y11 y12 y13 y14 y15 y16 y17 y18)) ∧ (∀ y0 y1 y2 y3 y4 y5 y6 y7 y8 y9, LeO (laws_FnExactGetCtl.j2 k y0 y1 y2 y3 y4 y5 y6 y7 y8 y9) (laws_FnExactGetCtl.j2 (k + 1) y0 y1 y2 y3 y4 y5 y6 y7 y8 y9))
 | 0 => ⟨fun _ _ _ _ _ _ _ _ _ _ _ _ _ _ _ _ _ _ _ _ _ r h => by simp [laws_FnExactGetCtl.j0] at h, fun _ _ _ _ _ _ _ _ _ _ _ _ _ _ _ _ _ _ _ r h => by simp [laws_FnExactGetCtl.j1] at h, fun _ _ _ _ _ _ _ _ _ _ r h => by simp [laws_FnExactGetCtl.j2] at h⟩
 | k + 1 => by
  obtain ⟨ih0, ih1, ih2⟩ := laws_FnExactGetCtl.mono_l k
  refine ⟨?_, ?_, ?_⟩
  ·
   intro y0 y1 y2 y3 y4 y5 y6 y7 y8 y9 y10 y11 y12 y13 y14 y15 y16 y17 y18 y19 y20
   unfold laws_FnExactGetCtl.j0
   have m0 := @impl_GetCtl.mono; have m1 := @laws_eqByteS.mono; have m2 := @laws_eqCtl.mono; have m3 := @laws_heldCtl.mono; have m4 := @laws_markByteS.mono; have m5 := @laws_markCtl.mono; have m6 := @laws_toByteS.mono; have m7 := @spec_GetCtl.mono; exact mo_
  ·
   intro y0 y1 y2 y3 y4 y5 y6 y7 y8 y9 y10 y11 y12 y13 y14 y15 y16 y17 y18
   unfold laws_FnExactGetCtl.j1
   have m0 := @impl_GetCtl.mono; have m1 := @laws_eqByteS.mono; have m2 := @laws_eqCtl.mono; have m3 := @laws_heldCtl.mono; have m4 := @laws_markByteS.mono; have m5 := @laws_markCtl.mono; have m6 := @laws_toByteS.mono; have m7 := @spec_GetCtl.mono; exact mo_
  ·
   intro y0 y1 y2 y3 y4 y5 y6 y7 y8 y9
   unfold laws_FnExactGetCtl.j2
   have m0 := @impl_GetCtl.mono; have m1 := @laws_eqByteS.mono; have m2 := @laws_eqCtl.mono; have m3 := @laws_heldCtl.mono; have m4 := @laws_markByteS.mono; have m5 := @laws_markCtl.mono; have m6 := @laws_toByteS.mono; have m7 := @spec_GetCtl.mono; exact mo_
theorem laws_FnExactGetCtl.mono : ∀ a0 k, LeO (laws_FnExactGetCtl.f k a0) (laws_FnExactGetCtl.f (k + 1) a0) := by
 intro a0 k
 obtain ⟨ih0, ih1, ih2⟩ := laws_FnExactGetCtl.mono_l k
 unfold laws_FnExactGetCtl.f
 have m0 := @impl_GetCtl.mono; have m1 := @laws_eqByteS.mono; have m2 := @laws_eqCtl.mono; have m3 := @laws_heldCtl.mono; have m4 := @laws_markByteS.mono; have m5 := @laws_markCtl.mono; have m6 := @laws_toByteS.mono; have m7 := @spec_GetCtl.mono; exact mo_
set_option maxHeartbeats 8000000 in
set_option maxRecDepth 100000 in
theorem laws_FnExactGetCtl.calls (k : Nat) (A0 : Option Addr) (c0 : Nat) (l0 : List Int) (r : Bool) (w : World) (hr0 : Kd.C (Kd.int .u8) w A0 l0.length l0) (hc0 : l0.length ≤ c0) (hr_ : Aside0 (r = true)) (h : laws_FnExactGetCtl.f k l0 = some r) :
  Calls Try.prog 6 #[.slice A0 l0.length c0] w fun e w' => e = .returned (.bool r) ∧ Below w.heap.size w w' := by
 have hu63 := Try.underlying63
 have HR0 := Aside0.mk hr0
 have HC0 := Aside0.mk hc0
 clear hr0 hc0
 have HB := Aside0.mk (Below.refl w.heap.size w)
 have H := h
 unfold laws_FnExactGetCtl.f at H
 clear h
 replace H := id_ H
 obtain ⟨c2, H, c2b0⟩ | ⟨c2, H, c2b0⟩ := H
 ·
  have c2b1 : decide (1048576 < l0.length) = true := decide_eq_true (by omega)
  clear c2
  obtain rfl := Option.some.inj H
  go_enter Try.func6, Try.ntmps6
  go_wp2_with ((with_reducible refine gate_ld rfl ?_); first | refine ld_ ?_ | fail)
  go_ret
  exact ⟨er_, qB HB⟩
 have c2b1 : decide (1048576 < l0.length) = false := decide_eq_false (by omega)
 clear c2
 replace H := bd_ H
 obtain ⟨t723, A3, H⟩ := H
 replace H := bf_ H
 obtain ⟨f_, hf_, ⟨t726, t727, t728, t729, t730, t731, t732, t733, t736⟩, A4, H⟩ := H
 subst hf_
 (try dsimp only at H)
 replace H := bd_ H
 obtain ⟨t738, A5, H⟩ := H
 replace H := bf_ H
 obtain ⟨f_, hf_, ⟨t741, t742, t743, t744, t745, t746, t747, t748, t751⟩, A6, H⟩ := H
 subst hf_
 (try dsimp only at H)
 have HC7 := Aside0.mk H
 clear H
 go_enter Try.func6, Try.ntmps6
 go_upto_region 6 with (first | ((with_reducible refine gate_ld rfl ?_); first | refine ld_ ?_ | fail) | ((with_reducible refine gate_callee (f := 35) rfl ?_); refine gl_ (some 18) Try.func35 #[.slice A0 l0.length c0] ?_; (with_reducible refine (laws_toByteS.calls k _ _ l0 t723 _ ?side1 ?side2 A3.out).mono ?_); (case side1 => exact qC (HR0.out)); (case side2 => exact HC0.out); rintro e w8 ⟨v724, rfl, ho0, hb⟩; refine ⟨_, rfl, ?_⟩; have HO725 := am_ (Kd.R_lower ho0 (below_size (qB HB))); replace HB := bS_ HB hb; (try clear hb); (try clear ho0); obtain ⟨Ao9, co9, eo9⟩ := Kd.R_slice HO725.out; subst eo9) | ((with_reducible refine gate_callee (f := 34) rfl ?_); refine gl_ (some 19) Try.func34 #[.slice Ao9 t723.length co9] ?_; (with_reducible refine (spec_GetCtl.calls k _ _ t723 t726 t727 t728 t729 t730 t731 t732 t733 t736 _ ?side1 ?side2 A4.out).mono ?_); (case side1 => exact qC ((Kd.R_reads' HO725.out).2.2)); (case side2 => exact (Kd.R_reads' HO725.out).2.1); rintro e w10 ⟨v734, rfl, ho0, hb⟩; refine ⟨_, rfl, ?_⟩; replace HO725 := rB_ HO725 hb; have HO735 := am_ (Kd.R_lower ho0 (below_size (qB HB))); replace HB := bS_ HB hb; (try clear hb); (try clear ho0)) | ((with_reducible refine gate_dst (N := 3) rfl ?_); refine box_event ?hg (N := 3) ?hd (cs := #[.int .i64 0, .int .i64 0, .int .i64 0, .int .i64 0, .int .i64 0, .bool false, .int .i64 0, .slice none 0 0]) (t := 63) ?hr ?_; (case hd => rfl); (case hg => rfl); (case hr => first | (go_simp; done) | (go_simp; rfl) | ((try (obtain ⟨_, _, rfl⟩ := Kd.R_slice HO725.out)); (try (obtain ⟨_, _, rfl⟩ := Kd.R_slice HO735.out)); (try (obtain ⟨_, _, rfl⟩ := Kd.R_slice HO740.out)); (try (obtain ⟨_, _, rfl⟩ := Kd.R_slice HO750.out)); first | (go_simp; done) | (go_simp; rfl))); intro gb737 hg w11 hbox hb; replace HO725 := rB_ HO725 hb; replace HO735 := rB_ HO735 hb; have BK737 := am_ (hbox); have GW737 := gA_ hg HB; have GE737 := GW737; have IGE737 := gI_ GE737; replace HB := bS_ HB hb; clear hb hbox hg; (try clear zK737); have zK737 := cz8 BK737.out; (try clear fK737); have fK737 := fz8 BK737.out; obtain ⟨Ao13, co13, eo13⟩ := Kd.R_slice HO735.out; subst eo13) | ((with_reducible refine gate_store (t := 63) (p := 3) rfl ?_); refine store_evs (t := 63) (p := 3) (j := 0) (cs := [.int .i64 t726, .int .i64 t727, .int .i64 t728, .int .i64 t729, .int .i64 t730, .bool t731, .int .i64 t732, .slice Ao13 t733.length co13]) (qK BK737) ?_; intro w14 hw; have n0_ := fR0_ hw HO725 BK737; have n1_ := fR0_ hw HO735 BK737; replace HB := sB_ hw HB; replace BK737 := sW_ hw BK737; clear hw; clear HO725 HO735; have HO725 := n0_; have HO735 := n1_; clear n0_ n1_) | ((with_reducible refine gate_callee (f := 35) rfl ?_); refine gl_ (some 23) Try.func35 #[.slice A0 l0.length c0] ?_; (with_reducible refine (laws_toByteS.calls k _ _ l0 t738 _ ?side1 ?side2 A5.out).mono ?_); (case side1 => exact qC (Kd.C_below HR0.out HB.out)); (case side2 => exact HC0.out); rintro e w15 ⟨v739, rfl, ho0, hb⟩; refine ⟨_, rfl, ?_⟩; replace HO735 := rB_ HO735 hb; have HO740 := am_ (Kd.R_lower (Kd.R_new' ho0 (Kd.R_lt (qR HO725))) (below_size (qB HB))); replace HO725 := eA_ HO725 ho0 hb; replace BK737 := bK_ BK737 hb; replace HB := bS_ HB hb; (try clear hb); (try clear ho0); obtain ⟨Ao16, co16, eo16⟩ := Kd.R_slice HO740.out; subst eo16) | ((with_reducible refine gate_callee (f := 36) rfl ?_); refine gl_ (some 26) Try.func36 #[.slice Ao16 t738.length co16] ?_; (with_reducible refine (impl_GetCtl.calls k _ _ t738 t741 t742 t743 t744 t745 t746 t747 t748 t751 _ ?side1 ?side2 A6.out).mono ?_); (case side1 => exact qC ((Kd.R_reads' HO740.out).2.2)); (case side2 => exact (Kd.R_reads' HO740.out).2.1); rintro e w17 ⟨v749, rfl, ho0, hb⟩; refine ⟨_, rfl, ?_⟩; replace HO725 := rB_ HO725 hb; replace HO740 := rB_ HO740 hb; have HO750 := am_ (Kd.R_lower (Kd.R_new' ho0 (Kd.R_lt (qR HO735))) (below_size (qB HB))); replace HO735 := eA_ HO735 ho0 hb; replace BK737 := bK_ BK737 hb; replace HB := bS_ HB hb; (try clear hb); (try clear ho0)) | ((with_reducible refine gate_dst (N := 6) rfl ?_); refine box_event ?hg (N := 6) ?hd (cs := #[.int .i64 0, .int .i64 0, .int .i64 0, .int .i64 0, .int .i64 0, .bool false, .int .i64 0, .slice none 0 0]) (t := 63) ?hr ?_; (case hd => rfl); (case hg => rfl); (case hr => first | (go_simp; done) | (go_simp; rfl) | ((try (obtain ⟨_, _, rfl⟩ := Kd.R_slice HO725.out)); (try (obtain ⟨_, _, rfl⟩ := Kd.R_slice HO735.out)); (try (obtain ⟨_, _, rfl⟩ := Kd.R_slice HO740.out)); (try (obtain ⟨_, _, rfl⟩ := Kd.R_slice HO750.out)); first | (go_simp; done) | (go_simp; rfl))); intro gb752 hg w18 hbox hb; replace HO725 := rB_ HO725 hb; replace HO735 := rB_ HO735 hb; replace HO740 := rB_ HO740 hb; replace HO750 := rB_ HO750 hb; have BK752 := am_ (hbox); have GW752 := gA_ hg HB; have GE752 := GW752; have IGE752 := gI_ GE752; replace HB := bS_ HB hb; have NB737_752 := am_ ((gN_ hg (qK BK737))); have NB752_737 := am_ ((gM_ hg (qK BK737))); replace BK737 := bK_ BK737 hb; clear hb hbox hg; have hnb19 := NB752_737.out; have hnc19 := NB737_752.out; (try clear zK752); have zK752 := cz8 BK752.out; (try clear fK752); have fK752 := fz8 BK752.out; obtain ⟨Ao21, co21, eo21⟩ := Kd.R_slice HO750.out; subst eo21) | ((with_reducible refine gate_store (t := 63) (p := 6) rfl ?_); refine store_evs (t := 63) (p := 6) (j := 0) (cs := [.int .i64 t741, .int .i64 t742, .int .i64 t743, .int .i64 t744, .int .i64 t745, .bool t746, .int .i64 t747, .slice Ao21 t748.length co21]) (qK BK752) ?_; intro w22 hw; have n0_ : Aside0 (Kd.R (Kd.int .u8) 5 w22 w.heap.size (fun k_ => nb Ao16 t738.length co16 k_) (.slice Ao9 t723.length co9) t723) := ⟨(by rw [hw]; exact (fR1_ HO725 BK752))⟩; have n1_ : Aside0 (Kd.R k126 126 w22 w.heap.size (fun k_ => nb Ao21 t748.length co21 k_) (.slice Ao13 t733.length co13) t733) := ⟨(by rw [hw]; exact (fR1_ HO735 BK752))⟩; have n2_ : Aside0 (Kd.R (Kd.int .u8) 5 w22 w.heap.size (fun k_ => nb Ao9 t723.length co9 k_) (.slice Ao16 t738.length co16) t738) := ⟨(by rw [hw]; exact (fR1_ HO740 BK752))⟩; have n3_ : Aside0 (Kd.R k126 126 w22 w.heap.size (fun k_ => nb Ao13 t733.length co13 k_) (.slice Ao21 t748.length co21) t748) := ⟨(by rw [hw]; exact (fR1_ HO750 BK752))⟩; replace BK737 := sK_ hw BK737 NB737_752; replace HB := sB_ hw HB; replace BK752 := sW_ hw BK752; clear hw; clear HO725 HO735 HO740 HO750; have HO725 := n0_; have HO735 := n1_; have HO740 := n2_; have HO750 := n3_; clear n0_ n1_ n2_ n3_))
 (try simp only [Act.put, List.setIfInBounds_toArray, List.set_cons_zero, List.set_cons_succ])
 go_cut [37] (fun v37 wc => ∃ (kq : Nat) (x37_6 : Bool), v37 = .bool x37_6 ∧ Aside0 (laws_FnExactGetCtl.j0 kq l0 t736 t738 t751 x37_6 t726 t727 t728 t729 t730 t731 t732 t733 t741 t742 t743 t744 t745 t746 t747 t748 = some r) ∧ Aside0 (kq ≤ k) ∧ Aside0 (Kd.R (Kd.int .u8) 5 wc w.heap.size (fun _ => True) (.slice Ao16 t738.length co16) t738) ∧ Aside0 (Kd.R k126 126 wc w.heap.size (fun k_ => nb Ao21 t748.length co21 k_) (.slice Ao13 t733.length co13) t733) ∧ Aside0 (Kd.R k126 126 wc w.heap.size (fun k_ => nb Ao13 t733.length co13 k_) (.slice Ao21 t748.length co21) t748) ∧ Aside0 (wc.heap[gb737]? = some (.cells #[.int .i64 t726, .int .i64 t727, .int .i64 t728, .int .i64 t729, .int .i64 t730, .bool t731, .int .i64 t732, (.slice Ao13 t733.length co13)] 63 (0, 0))) ∧ Aside0 (wc.heap[gb752]? = some (.cells #[.int .i64 t741, .int .i64 t742, .int .i64 t743, .int .i64 t744, .int .i64 t745, .bool t746, .int .i64 t747, (.slice Ao21 t748.length co21)] 63 (0, 0))) ∧ Aside0 (Below w.heap.size w wc))
 case first =>
  have H := HC7.out
  clear HC7
  replace H := bd_ H
  obtain ⟨t753, A23, H⟩ := H
  by_cases c24 : t753 = true
  rotate_left
  ·
   replace c24 := Bool.eq_false_iff.mpr c24
   subst c24
   rw [if_neg (show ¬ (false = true) by decide)] at H
   exact absurd (hr_.out ▸ H) (by cases k <;> simp [laws_FnExactGetCtl.j0])
  subst c24
  rw [if_pos rfl] at H
  have H' := Aside0.mk H
  clear H
  have hnb25 := NB752_737.out
  have hnc25 := NB737_752.out
  (try clear zK752)
  have zK752 := cz8 BK752.out
  (try clear fK752)
  have fK752 := fz8 BK752.out
  (try clear zK737)
  have zK737 := cz8 BK737.out
  (try clear fK737)
  have fK737 := fz8 BK737.out
  go_wp2_with (first | ((with_reducible refine gate_ld rfl ?_); first | refine ld_ ?_ | fail) | ((with_reducible refine gate_callee (f := 30) rfl ?_); refine gl_ (some 31) Try.func30 #[.agg #[.int .i64 t741, .int .i64 t742, .int .i64 t743, .int .i64 t744, .int .i64 t745, .bool t746, .int .i64 t747, .slice Ao21 t748.length co21], .agg #[.int .i64 t726, .int .i64 t727, .int .i64 t728, .int .i64 t729, .int .i64 t730, .bool t731, .int .i64 t732, .slice Ao13 t733.length co13]] ?_; (with_reducible refine (laws_eqCtl.calls k t741 t742 t743 t744 t745 t746 t747 _ _ t748 t726 t727 t728 t729 t730 t731 t732 _ _ t733 true _ ?side1 ?side2 ?side3 ?side4 ⟨rfl⟩ A23.out).mono ?_); (case side1 => exact qC ((Kd.R_reads' HO750.out).2.2)); (case side2 => exact (Kd.R_reads' HO750.out).2.1); (case side3 => exact qC ((Kd.R_reads' HO735.out).2.2)); (case side4 => exact (Kd.R_reads' HO735.out).2.1); rintro e w28 ⟨rfl, hb⟩; refine ⟨_, rfl, ?_⟩; replace HO725 := rB_ HO725 hb; replace HO735 := rB_ HO735 hb; replace HO740 := rB_ HO740 hb; replace HO750 := rB_ HO750 hb; replace BK737 := bK_ BK737 hb; replace BK752 := bK_ BK752 hb; replace HB := bS_ HB hb; (try clear hb)))
  go_meet
  case rel => exact ⟨_, ((t751 != t736)), eqq_, H', ⟨by first | omega | exact Nat.le_refl _⟩, xR_ HO740, ⟨qR HO735⟩, ⟨qR HO750⟩, ⟨qK BK737⟩, ⟨qK BK752⟩, ⟨qB HB⟩⟩
 case rest =>
  clear HC7
  try clear c1
  try clear c2
  try clear c2b0
  try clear c2b1
  try clear p2
  try clear c3
  try clear c6
  try clear c19
  try clear c24
  try clear c25
  (try clear zK737)
  (try clear zK752)
  (try clear zK752)
  (try clear zK737)
  (try clear fK737)
  (try clear fK752)
  (try clear fK752)
  (try clear fK737)
  obtain ⟨kq, x37_6, rfl, HA, HJ6, HO_5, HO_738007, HO_753007, BK737, BK752, HB⟩ := hcut
  cases kq with
  | zero => exact absurd HA.out (by simp [laws_FnExactGetCtl.j0])
  | succ kj6 =>
   have H := HA.out
   clear HA
   simp only [laws_FnExactGetCtl.j0] at H
   by_cases c29 : x37_6 = true
   ·
    subst c29
    rw [if_pos rfl] at H
    exact absurd (hr_.out ▸ H) (by simp)
   replace c29 := Bool.eq_false_iff.mpr c29
   subst c29
   rw [if_neg (show ¬ (false = true) by decide)] at H
   replace H := bd_ H
   obtain ⟨t754, A30, H⟩ := H
   replace H := bd_ H
   obtain ⟨t757, A31, H⟩ := H
   by_cases c32 : t757 = true
   rotate_left
   ·
    replace c32 := Bool.eq_false_iff.mpr c32
    subst c32
    rw [if_neg (show ¬ (false = true) by decide)] at H
    exact absurd (hr_.out ▸ H) (by simp)
   subst c32
   rw [if_pos rfl] at H
   replace H := bd_ H
   obtain ⟨⟨t758, t759⟩, A33, H⟩ := H
   (try dsimp only at H)
   have HC34 := Aside0.mk H
   clear H
   go_upto_region 12 with (first | ((with_reducible refine gate_ld rfl ?_); first | refine ld_ ?_ | fail) | ((with_reducible refine gate_callee (f := 35) rfl ?_); refine gl_ (some 40) Try.func35 #[.slice A0 l0.length c0] ?_; (with_reducible refine (laws_toByteS.calls kj6 _ _ l0 t754 _ ?side1 ?side2 A30.out).mono ?_); (case side1 => exact qC (Kd.C_below HR0.out HB.out)); (case side2 => exact HC0.out); rintro e w35 ⟨v755, rfl, ho0, hb⟩; refine ⟨_, rfl, ?_⟩; replace HO_738007 := rB_ HO_738007 hb; replace HO_753007 := rB_ HO_753007 hb; have HO756 := am_ (Kd.R_lower (Kd.R_new' ho0 (Kd.R_lt (qR HO_5))) (below_size (qB HB))); replace HO_5 := eA_ HO_5 ho0 hb; replace BK737 := bK_ BK737 hb; replace BK752 := bK_ BK752 hb; replace HB := bS_ HB hb; (try clear hb); (try clear ho0); obtain ⟨Ao36, co36, eo36⟩ := Kd.R_slice HO756.out; subst eo36) | ((with_reducible refine gate_callee (f := 37) rfl ?_); refine gl_ (some 41) Try.func37 #[.slice Ao16 t738.length co16, .slice Ao36 t754.length co36] ?_; (with_reducible refine (laws_eqByteS.calls kj6 _ _ t738 _ _ t754 true _ ?side1 ?side2 ?side3 ?side4 ⟨rfl⟩ A31.out).mono ?_); (case side1 => exact qC ((Kd.R_reads' HO_5.out).2.2)); (case side2 => exact (Kd.R_reads' HO_5.out).2.1); (case side3 => exact qC ((Kd.R_reads' HO756.out).2.2)); (case side4 => exact (Kd.R_reads' HO756.out).2.1); rintro e w' ⟨rfl, ⟨nd, rfl⟩⟩; refine ⟨_, rfl, ?_⟩) | ((with_reducible refine gate_callee (f := 38) rfl ?_); refine gl_ (some 45) Try.func38 #[.slice Ao16 t738.length co16, .int .i64 1] ?_; (with_reducible refine (laws_markByteS.calls kj6 (fun k_ => some k_ = (.slice Ao16 t738.length co16 : Value).ownBlock) (.slice Ao16 t738.length co16) t738 1 t758 t759 w _ ?side1 ?side2 A33.out).mono ?_); (case side1 => exact qB HB); (case side2 => exact Kd.R_tight rfl HO_5.out); rintro e w37 ⟨rfl, hy0, hb, hkp⟩; refine ⟨_, rfl, ?_⟩; replace HO_738007 := am_ (Kd.R_mono (ok' := fun k_ => nb Ao21 t748.length co21 k_) (Kd.R_keptB ((Kd.R_apart' HO_738007.out (Kd.R_typed HO_5.out) (by decide))) hkp (fun k_ hk_ hs_ => (hk_.2) hs_)) (fun k_ hk_ => hk_.1.1)); replace HO_753007 := am_ (Kd.R_mono (ok' := fun k_ => nb Ao13 t733.length co13 k_) (Kd.R_keptB ((Kd.R_apart' HO_753007.out (Kd.R_typed HO_5.out) (by decide))) hkp (fun k_ hk_ hs_ => (hk_.2) hs_)) (fun k_ hk_ => hk_.1.1)); replace BK737 := am_ (blk_kept (qK BK737) hkp (fun hs_ => (fun e_ => (Kd.R_ne HO_5.out BK737.out (by decide)) e_) hs_)); replace BK752 := am_ (blk_kept (qK BK752) hkp (fun hs_ => (fun e_ => (Kd.R_ne HO_5.out BK752.out (by decide)) e_) hs_)); replace HO_5 := am_ (Kd.R_reok rfl hy0 (fun k_ e_ => HO_5.out.1 k_ e_)); replace HO756 := am_ (Kd.R_mono (ok' := fun k_ => nb Ao16 t738.length co16 k_) (Kd.R_keptB (HO756.out) hkp (fun k_ hk_ hs_ => (hk_.2) hs_)) (fun k_ hk_ => hk_.1.2)); replace HB := am_ (hb); (try clear hb); (try clear hkp); (try clear hy0)))
   (try simp only [Act.put, List.setIfInBounds_toArray, List.set_cons_zero, List.set_cons_succ])
   go_cut [58] (fun v58 wc => ∃ (kq : Nat) (x58_33 : Bool), v58 = .bool x58_33 ∧ Aside0 (laws_FnExactGetCtl.j1 kq l0 t736 x58_33 t726 t727 t728 t729 t730 t731 t732 t733 t741 t742 t743 t744 t745 t746 t747 t748 = some r) ∧ Aside0 (kq ≤ kj6) ∧ Aside0 (Kd.R k126 126 wc w.heap.size (fun k_ => nb Ao21 t748.length co21 k_) (.slice Ao13 t733.length co13) t733) ∧ Aside0 (Kd.R k126 126 wc w.heap.size (fun k_ => nb Ao13 t733.length co13 k_) (.slice Ao21 t748.length co21) t748) ∧ Aside0 (wc.heap[gb737]? = some (.cells #[.int .i64 t726, .int .i64 t727, .int .i64 t728, .int .i64 t729, .int .i64 t730, .bool t731, .int .i64 t732, (.slice Ao13 t733.length co13)] 63 (0, 0))) ∧ Aside0 (wc.heap[gb752]? = some (.cells #[.int .i64 t741, .int .i64 t742, .int .i64 t743, .int .i64 t744, .int .i64 t745, .bool t746, .int .i64 t747, (.slice Ao21 t748.length co21)] 63 (0, 0))) ∧ Aside0 (Below w.heap.size w wc))
   case first =>
    have H := HC34.out
    clear HC34
    replace H := id_ H
    obtain ⟨-, H, c38b0⟩ | ⟨-, H, c38b0⟩ := H
    ·
     (first | rw [c38b0] | (simp only [i64_w, i32_w]; rw [c38b0]) | skip)
     exact absurd (hr_.out ▸ H) (by cases kj6 <;> simp [laws_FnExactGetCtl.j1])
    (first | rw [c38b0] | (simp only [i64_w, i32_w]; rw [c38b0]) | skip)
    replace H := bd_ H
    obtain ⟨t760, A39, H⟩ := H
    by_cases c40 : t760 = true
    rotate_left
    ·
     replace c40 := Bool.eq_false_iff.mpr c40
     subst c40
     rw [if_neg (show ¬ (false = true) by decide)] at H
     exact absurd (hr_.out ▸ H) (by cases kj6 <;> simp [laws_FnExactGetCtl.j1])
    subst c40
    rw [if_pos rfl] at H
    have H' := Aside0.mk H
    clear H
    have hnb41 := NB752_737.out
    have hnc41 := NB737_752.out
    (try clear zK752)
    have zK752 := cz8 BK752.out
    (try clear fK752)
    have fK752 := fz8 BK752.out
    (try clear zK737)
    have zK737 := cz8 BK737.out
    (try clear fK737)
    have fK737 := fz8 BK737.out
    go_wp2_with (first | ((with_reducible refine gate_ld rfl ?_); first | refine ld_ ?_ | fail) | (go_at_call 30; (with_reducible refine (laws_eqCtl.calls kj6 t741 t742 t743 t744 t745 t746 t747 _ _ t748 t726 t727 t728 t729 t730 t731 t732 _ _ t733 true _ ?side1 ?side2 ?side3 ?side4 ⟨rfl⟩ A39.out).mono ?_); (case side1 => exact qC ((Kd.R_reads' HO_753007.out).2.2)); (case side2 => exact (Kd.R_reads' HO_753007.out).2.1); (case side3 => exact qC ((Kd.R_reads' HO_738007.out).2.2)); (case side4 => exact (Kd.R_reads' HO_738007.out).2.1); rintro e w44 ⟨rfl, hb⟩; replace HO_5 := rB_ HO_5 hb; replace HO_738007 := rB_ HO_738007 hb; replace HO_753007 := rB_ HO_753007 hb; replace HO756 := rB_ HO756 hb; replace BK737 := bK_ BK737 hb; replace BK752 := bK_ BK752 hb; replace HB := bS_ HB hb; (try clear hb)))
    go_meet
    case rel => exact ⟨_, ((t751 != t736)), eqq_, H', ⟨by have := HJ6.out; first | omega | exact Nat.le_refl _⟩, ⟨qR HO_738007⟩, ⟨qR HO_753007⟩, ⟨qK BK737⟩, ⟨qK BK752⟩, ⟨qB HB⟩⟩
   case rest =>
    clear HC34
    try clear c1
    try clear c2
    try clear c2b0
    try clear c2b1
    try clear p2
    try clear c3
    try clear c4
    try clear c6
    try clear c19
    try clear c24
    try clear c25
    try clear c29
    try clear c30
    try clear c32
    try clear c34
    try clear c35
    try clear c36
    try clear c37
    try clear c38
    try clear c38b0
    try clear c40
    try clear c41
    (try clear zK737)
    (try clear zK752)
    (try clear zK752)
    (try clear zK737)
    (try clear zK752)
    (try clear zK737)
    (try clear fK737)
    (try clear fK752)
    (try clear fK752)
    (try clear fK737)
    (try clear fK752)
    (try clear fK737)
    try clear p2
    obtain ⟨kq, x58_33, rfl, HA, HJ33, HO_738007, HO_753007, BK737, BK752, HB⟩ := hcut
    cases kq with
    | zero => exact absurd HA.out (by simp [laws_FnExactGetCtl.j1])
    | succ kj33 =>
     have H := HA.out
     clear HA
     simp only [laws_FnExactGetCtl.j1] at H
     by_cases c45 : x58_33 = true
     ·
      subst c45
      rw [if_pos rfl] at H
      exact absurd (hr_.out ▸ H) (by simp)
     replace c45 := Bool.eq_false_iff.mpr c45
     subst c45
     rw [if_neg (show ¬ (false = true) by decide)] at H
     replace H := bd_ H
     obtain ⟨⟨t761, t762⟩, A46, H⟩ := H
     (try dsimp only at H)
     replace H := bd_ H
     obtain ⟨t763, A47, H⟩ := H
     replace H := id_ H
     obtain ⟨-, H, c48b0⟩ | ⟨-, H, c48b0⟩ := H
     ·
      exact absurd (hr_.out ▸ H) (by simp)
     replace H := ie_ H
     obtain ⟨-, H, c49b0, c49b1⟩ | ⟨c49, H, c49b0, c49b1⟩ := H
     rotate_left
     ·
      exact absurd (hr_.out ▸ H) (by simp)
     replace H := bd_ H
     obtain ⟨t764, A50, H⟩ := H
     replace H := bf_ H
     obtain ⟨f_, hf_, ⟨t767, t768, t769, t770, t771, t772, t773, t774, t777⟩, A51, H⟩ := H
     subst hf_
     (try dsimp only at H)
     have HC52 := Aside0.mk H
     clear H
     have hnb53 := NB752_737.out
     have hnc53 := NB737_752.out
     (try clear zK752)
     have zK752 := cz8 BK752.out
     (try clear fK752)
     have fK752 := fz8 BK752.out
     go_upto_region 23 with (first | ((with_reducible refine gate_ld rfl ?_); first | refine ld_ ?_ | fail) | ((with_reducible refine gate_callee (f := 32) rfl ?_); refine gl_ (some 61) Try.func32 #[.agg #[.int .i64 t741, .int .i64 t742, .int .i64 t743, .int .i64 t744, .int .i64 t745, .bool t746, .int .i64 t747, .slice Ao21 t748.length co21], .int .i64 1] ?_; (with_reducible refine (laws_markCtl.calls kj33 t741 t742 t743 t744 t745 t746 t747 (fun k_ => some k_ = (.slice Ao21 t748.length co21 : Value).ownBlock) (.slice Ao21 t748.length co21) t748 1 t761 t762 w _ ?side1 ?side2 A46.out).mono ?_); (case side1 => exact qB HB); (case side2 => exact Kd.R_tight rfl HO_753007.out); rintro e w55 ⟨rfl, hy0, hb, hkp⟩; refine ⟨_, rfl, ?_⟩; replace HO_738007 := am_ (Kd.R_mono (ok' := fun k_ => nb Ao21 t748.length co21 k_) (Kd.R_keptB (HO_738007.out) hkp (fun k_ hk_ hs_ => (hk_) hs_)) (fun k_ hk_ => hk_.1)); replace BK737 := am_ (blk_kept (qK BK737) hkp (fun hs_ => (fun e_ => (Kd.R_ne HO_753007.out BK737.out (by decide)) e_) hs_)); replace BK752 := am_ (blk_kept (qK BK752) hkp (fun hs_ => (fun e_ => (Kd.R_ne HO_753007.out BK752.out (by decide)) e_) hs_)); replace HO_753007 := am_ (Kd.R_reok rfl hy0 (fun k_ e_ => HO_753007.out.1 k_ e_)); replace HB := am_ (hb); (try clear hb); (try clear hkp); (try clear hy0); (try clear zK752); have zK752 := cz8 BK752.out; (try clear fK752); have fK752 := fz8 BK752.out) | ((with_reducible refine gate_callee (f := 39) rfl ?_); refine gl_ (some 64) Try.func39 #[.agg #[.int .i64 t741, .int .i64 t742, .int .i64 t743, .int .i64 t744, .int .i64 t745, .bool t746, .int .i64 t747, .slice Ao21 t762.length co21], .int .i64 1] ?_ (hargs := (by (try simp only [List.map_toArray, List.map_cons, List.map_nil]); first | done | (rw [show t762.length = t748.length from (Kd.R_reads' HO_753007.out).1.symm] <;> rfl) | rfl | (simp only [List.length_drop, List.length_take]; rfl))); (with_reducible refine (laws_heldCtl.calls kj33 t741 t742 t743 t744 t745 t746 t747 _ _ t762 1 t763 _ ?side1 ?side2 A47.out).mono ?_); (case side1 => exact qC ((Kd.R_reads' HO_753007.out).2.2)); (case side2 => rw [show t762.length = t748.length from (Kd.R_reads' HO_753007.out).1.symm]; exact (Kd.R_reads' HO_753007.out).2.1); rintro e w57 ⟨rfl, hb⟩; refine ⟨_, rfl, ?_⟩; replace HO_738007 := rB_ HO_738007 hb; replace HO_753007 := rB_ HO_753007 hb; replace BK737 := bK_ BK737 hb; replace BK752 := bK_ BK752 hb; replace HB := bS_ HB hb; (try clear hb)) | ((with_reducible refine gate_callee (f := 35) rfl ?_); refine gl_ (some 72) Try.func35 #[.slice A0 l0.length c0] ?_; (with_reducible refine (laws_toByteS.calls kj33 _ _ l0 t764 _ ?side1 ?side2 A50.out).mono ?_); (case side1 => exact qC (Kd.C_below HR0.out HB.out)); (case side2 => exact HC0.out); rintro e w58 ⟨v765, rfl, ho0, hb⟩; refine ⟨_, rfl, ?_⟩; replace HO_738007 := rB_ HO_738007 hb; replace HO_753007 := rB_ HO_753007 hb; have HO766 := am_ (Kd.R_lower ho0 (below_size (qB HB))); replace BK737 := bK_ BK737 hb; replace BK752 := bK_ BK752 hb; replace HB := bS_ HB hb; (try clear hb); (try clear ho0); obtain ⟨Ao59, co59, eo59⟩ := Kd.R_slice HO766.out; subst eo59) | ((with_reducible refine gate_callee (f := 36) rfl ?_); refine gl_ (some 73) Try.func36 #[.slice Ao59 t764.length co59] ?_; (with_reducible refine (impl_GetCtl.calls kj33 _ _ t764 t767 t768 t769 t770 t771 t772 t773 t774 t777 _ ?side1 ?side2 A51.out).mono ?_); (case side1 => exact qC ((Kd.R_reads' HO766.out).2.2)); (case side2 => exact (Kd.R_reads' HO766.out).2.1); rintro e w60 ⟨v775, rfl, ho0, hb⟩; refine ⟨_, rfl, ?_⟩; replace HO766 := rB_ HO766 hb; have HO776 := am_ (Kd.R_lower (Kd.R_new' (Kd.R_new' ho0 (Kd.R_lt (qR HO_738007))) (Kd.R_lt (qR HO_753007))) (below_size (qB HB))); replace HO_738007 := eA_ HO_738007 ho0 hb; replace HO_753007 := eA_ HO_753007 ho0 hb; replace BK737 := bK_ BK737 hb; replace BK752 := bK_ BK752 hb; replace HB := bS_ HB hb; (try clear hb); (try clear ho0)) | ((with_reducible refine gate_dst (N := 11) rfl ?_); refine box_event ?hg (N := 11) ?hd (cs := #[.int .i64 0, .int .i64 0, .int .i64 0, .int .i64 0, .int .i64 0, .bool false, .int .i64 0, .slice none 0 0]) (t := 63) ?hr ?_; (case hd => rfl); (case hg => rfl); (case hr => first | (go_simp; done) | (go_simp; rfl) | ((try (obtain ⟨_, _, rfl⟩ := Kd.R_slice HO766.out)); (try (obtain ⟨_, _, rfl⟩ := Kd.R_slice HO776.out)); first | (go_simp; done) | (go_simp; rfl))); intro gb778 hg w61 hbox hb; replace HO_738007 := rB_ HO_738007 hb; replace HO_753007 := rB_ HO_753007 hb; replace HO766 := rB_ HO766 hb; replace HO776 := rB_ HO776 hb; have BK778 := am_ (hbox); have GW778 := gA_ hg HB; have GE778 := GW778; have IGE778 := gI_ GE778; replace HB := bS_ HB hb; have NB737_778 := am_ ((gN_ hg (qK BK737))); have NB778_737 := am_ ((gM_ hg (qK BK737))); replace BK737 := bK_ BK737 hb; have NB752_778 := am_ ((gN_ hg (qK BK752))); have NB778_752 := am_ ((gM_ hg (qK BK752))); replace BK752 := bK_ BK752 hb; clear hb hbox hg; have hnb62 := NB778_737.out; have hnc62 := NB737_778.out; have hnb63 := NB778_752.out; have hnc63 := NB752_778.out; (try clear zK778); have zK778 := cz8 BK778.out; (try clear fK778); have fK778 := fz8 BK778.out; obtain ⟨Ao65, co65, eo65⟩ := Kd.R_slice HO776.out; subst eo65) | ((with_reducible refine gate_store (t := 63) (p := 11) rfl ?_); refine store_evs (t := 63) (p := 11) (j := 0) (cs := [.int .i64 t767, .int .i64 t768, .int .i64 t769, .int .i64 t770, .int .i64 t771, .bool t772, .int .i64 t773, .slice Ao65 t774.length co65]) (qK BK778) ?_; intro w66 hw; have n0_ := fR0_ hw HO_738007 BK778; have n1_ := fR0_ hw HO_753007 BK778; have n2_ := fR0_ hw HO766 BK778; have n3_ : Aside0 (Kd.R k126 126 w66 w.heap.size (fun k_ => nb Ao13 t733.length co13 k_ ∧ nb Ao21 t748.length co21 k_) (.slice Ao65 t774.length co65) t774) := ⟨(by rw [hw]; exact (fR1_ HO776 BK778))⟩; replace BK737 := sK_ hw BK737 NB737_778; replace BK752 := sK_ hw BK752 NB752_778; replace HB := sB_ hw HB; replace BK778 := sW_ hw BK778; clear hw; clear HO_738007 HO_753007 HO766 HO776; have HO_738007 := n0_; have HO_753007 := n1_; have HO766 := n2_; have HO776 := n3_; clear n0_ n1_ n2_ n3_))
     (try simp only [Act.put, List.setIfInBounds_toArray, List.set_cons_zero, List.set_cons_succ])
     go_cut [84] (fun v84 wc => ∃ (kq : Nat) (x84_51 : Bool), v84 = .bool x84_51 ∧ Aside0 (laws_FnExactGetCtl.j2 kq t761 x84_51 t741 t742 t743 t744 t745 t746 t747 t762 = some r) ∧ Aside0 (kq ≤ kj33) ∧ Aside0 (Kd.R k126 126 wc w.heap.size (fun k_ => nb Ao21 t748.length co21 k_ ∧ nb Ao65 t774.length co65 k_) (.slice Ao13 t733.length co13) t733) ∧ Aside0 (Kd.R k126 126 wc w.heap.size (fun k_ => nb Ao13 t733.length co13 k_ ∧ nb Ao65 t774.length co65 k_) (.slice Ao21 t748.length co21) t762) ∧ Aside0 (Kd.R k126 126 wc w.heap.size (fun k_ => nb Ao13 t733.length co13 k_ ∧ nb Ao21 t748.length co21 k_) (.slice Ao65 t774.length co65) t774) ∧ Aside0 (wc.heap[gb737]? = some (.cells #[.int .i64 t726, .int .i64 t727, .int .i64 t728, .int .i64 t729, .int .i64 t730, .bool t731, .int .i64 t732, (.slice Ao13 t733.length co13)] 63 (0, 0))) ∧ Aside0 (wc.heap[gb752]? = some (.cells #[.int .i64 t741, .int .i64 t742, .int .i64 t743, .int .i64 t744, .int .i64 t745, .bool t746, .int .i64 t747, (.slice Ao21 t748.length co21)] 63 (0, 0))) ∧ Aside0 (wc.heap[gb778]? = some (.cells #[.int .i64 t767, .int .i64 t768, .int .i64 t769, .int .i64 t770, .int .i64 t771, .bool t772, .int .i64 t773, (.slice Ao65 t774.length co65)] 63 (0, 0))) ∧ Aside0 (Below w.heap.size w wc))
     case first =>
      have H := HC52.out
      clear HC52
      replace H := bd_ H
      obtain ⟨t779, A67, H⟩ := H
      by_cases c68 : t779 = true
      rotate_left
      ·
       replace c68 := Bool.eq_false_iff.mpr c68
       subst c68
       rw [if_neg (show ¬ (false = true) by decide)] at H
       exact absurd (hr_.out ▸ H) (by cases kj33 <;> simp [laws_FnExactGetCtl.j2])
      subst c68
      rw [if_pos rfl] at H
      have H' := Aside0.mk H
      clear H
      have hnb69 := NB778_737.out
      have hnc69 := NB737_778.out
      have hnb70 := NB778_752.out
      have hnc70 := NB752_778.out
      (try clear zK778)
      have zK778 := cz8 BK778.out
      have hnb72 := NB737_752.out
      have hnc72 := NB752_737.out
      (try clear zK737)
      have zK737 := cz8 BK737.out
      go_wp2_with (first | ((with_reducible refine gate_ld rfl ?_); first | refine ld_ ?_ | fail) | ((with_reducible refine gate_callee (f := 30) rfl ?_); refine gl_ (some 78) Try.func30 #[.agg #[.int .i64 t767, .int .i64 t768, .int .i64 t769, .int .i64 t770, .int .i64 t771, .bool t772, .int .i64 t773, .slice Ao65 t774.length co65], .agg #[.int .i64 t726, .int .i64 t727, .int .i64 t728, .int .i64 t729, .int .i64 t730, .bool t731, .int .i64 t732, .slice Ao13 t733.length co13]] ?_; (with_reducible refine (laws_eqCtl.calls kj33 t767 t768 t769 t770 t771 t772 t773 _ _ t774 t726 t727 t728 t729 t730 t731 t732 _ _ t733 true _ ?side1 ?side2 ?side3 ?side4 ⟨rfl⟩ A67.out).mono ?_); (case side1 => exact qC ((Kd.R_reads' HO776.out).2.2)); (case side2 => exact (Kd.R_reads' HO776.out).2.1); (case side3 => exact qC ((Kd.R_reads' HO_738007.out).2.2)); (case side4 => exact (Kd.R_reads' HO_738007.out).2.1); rintro e w74 ⟨rfl, hb⟩; refine ⟨_, rfl, ?_⟩; replace HO_738007 := rB_ HO_738007 hb; replace HO_753007 := rB_ HO_753007 hb; replace HO766 := rB_ HO766 hb; replace HO776 := rB_ HO776 hb; replace BK737 := bK_ BK737 hb; replace BK752 := bK_ BK752 hb; replace BK778 := bK_ BK778 hb; replace HB := bS_ HB hb; (try clear hb)))
      go_meet
      case rel => exact ⟨_, ((t777 != t736)), eqq_, H', ⟨by have := HJ6.out; have := HJ33.out; first | omega | exact Nat.le_refl _⟩, ⟨qR HO_738007⟩, ⟨qR HO_753007⟩, ⟨qR HO776⟩, ⟨qK BK737⟩, ⟨qK BK752⟩, ⟨qK BK778⟩, ⟨qB HB⟩⟩
     case rest =>
      clear HC52
      try clear c1
      try clear c2
      try clear c2b0
      try clear c2b1
      try clear p2
      try clear c3
      try clear c4
      try clear c5
      try clear c6
      try clear c7
      try clear c19
      try clear c24
      try clear c25
      try clear c29
      try clear c30
      try clear c32
      try clear c34
      try clear c35
      try clear c36
      try clear c37
      try clear c38
      try clear c38b0
      try clear c39
      try clear c40
      try clear c41
      try clear c45
      try clear c48
      try clear c48b0
      try clear c49
      try clear c49b0
      try clear c49b1
      try clear c53
      try clear c62
      try clear c63
      try clear c68
      try clear c69
      try clear c70
      try clear c72
      (try clear zK737)
      (try clear zK752)
      (try clear zK752)
      (try clear zK737)
      (try clear zK752)
      (try clear zK737)
      (try clear zK752)
      (try clear zK752)
      (try clear zK778)
      (try clear zK778)
      (try clear zK737)
      (try clear fK737)
      (try clear fK752)
      (try clear fK752)
      (try clear fK737)
      (try clear fK752)
      (try clear fK737)
      (try clear fK752)
      (try clear fK752)
      (try clear fK778)
      (try clear f71)
      (try clear f73)
      try clear p2
      obtain ⟨kq, x84_51, rfl, HA, HJ51, HO_738007, HO_753007, HO_779007, BK737, BK752, BK778, HB⟩ := hcut
      have hl753007_51 := (Kd.R_reads' HO_753007.out).1
      rw [hl753007_51] at HO_753007
      (try simp only [hl753007_51])
      (try simp only [hl753007_51] at BK737)
      (try simp only [hl753007_51] at BK752)
      (try simp only [hl753007_51] at BK778)
      (try simp only [hl753007_51] at HO_738007)
      (try simp only [hl753007_51] at HO_779007)
      cases kq with
      | zero => exact absurd HA.out (by simp [laws_FnExactGetCtl.j2])
      | succ kj51 =>
       have H := HA.out
       clear HA
       simp only [laws_FnExactGetCtl.j2] at H
       by_cases c75 : x84_51 = true
       ·
        subst c75
        rw [if_pos rfl] at H
        exact absurd (hr_.out ▸ H) (by simp)
       replace c75 := Bool.eq_false_iff.mpr c75
       subst c75
       rw [if_neg (show ¬ (false = true) by decide)] at H
       replace H := bd_ H
       obtain ⟨t780, A76, H⟩ := H
       replace H := id_ H
       obtain ⟨-, H, c77b0⟩ | ⟨-, H, c77b0⟩ := H
       ·
        exact absurd (hr_.out ▸ H) (by simp)
       replace H := ie_ H
       obtain ⟨-, H, c78b0, c78b1⟩ | ⟨c78, H, c78b0, c78b1⟩ := H
       rotate_left
       ·
        exact absurd (hr_.out ▸ H) (by simp)
       obtain rfl := Option.some.inj H
       have hnb79 := NB752_737.out
       have hnc79 := NB737_752.out
       have hnb80 := NB752_778.out
       have hnc80 := NB778_752.out
       (try clear zK752)
       have zK752 := cz8 BK752.out
       go_wp2_with (first | ((with_reducible refine gate_ld rfl ?_); first | refine ld_ ?_ | fail) | ((with_reducible refine gate_callee (f := 39) rfl ?_); refine gl_ (some 87) Try.func39 #[.agg #[.int .i64 t741, .int .i64 t742, .int .i64 t743, .int .i64 t744, .int .i64 t745, .bool t746, .int .i64 t747, .slice Ao21 t762.length co21], .int .i64 1] ?_; (with_reducible refine (laws_heldCtl.calls kj51 t741 t742 t743 t744 t745 t746 t747 _ _ t762 1 t780 _ ?side1 ?side2 A76.out).mono ?_); (case side1 => exact qC ((Kd.R_reads' HO_753007.out).2.2)); (case side2 => exact (Kd.R_reads' HO_753007.out).2.1); rintro e w82 ⟨rfl, hb⟩; refine ⟨_, rfl, ?_⟩; replace HO_738007 := rB_ HO_738007 hb; replace HO_753007 := rB_ HO_753007 hb; replace HO_779007 := rB_ HO_779007 hb; replace BK737 := bK_ BK737 hb; replace BK752 := bK_ BK752 hb; replace BK778 := bK_ BK778 hb; replace HB := bS_ HB hb; (try clear hb)))
       go_ret
       exact ⟨er_, qB HB⟩

/-- THE ONE PURE STATEMENT of laws_FnExactGetCtl: yours. -/
def laws_FnExactGetCtl.Pure : Prop := ∀ (l0 : List Int), l0.length ≤ maxLen → l0.length * 1 ≤ 140737488351232 → (∀ x ∈ l0, (Lit.int .u8 x).wf = true) → ∃ k, laws_FnExactGetCtl.f k l0 = some true
theorem laws_FnExactGetCtl.walk (P : laws_FnExactGetCtl.Pure) (a0 : Option Addr) (len0 cap0 : Nat) (z0 : List Int) (w : World) (w0 : (a0 = none ∧ len0 = 0 ∧ cap0 = 0 ∧ z0 = []) ∨ ∃ x, a0 = some x ∧ len0 ≤ cap0 ∧ cap0 ≤ maxLen ∧ z0.length = cap0 ∧ (∀ i, i < z0.length → w.cell? (x.add i) = some (.int .u8 (z0.getD i 0))) ∧ ∀ n ∈ z0, (Lit.int .u8 n).wf = true) (y0 : len0 * 1 ≤ 140737488351232) :
  Calls Try.prog 6 #[.slice a0 len0 cap0] w fun e w' => e = .returned (.bool true) ∧ Below w.heap.size w w' := by
 obtain ⟨l0, rfl, hr0, hm0, hw0, hc0⟩ := ReadsInt.ofRowC w0
 obtain ⟨k, h⟩ := P l0 hm0 y0 hw0
 refine (laws_FnExactGetCtl.calls k _ _ l0 true w (Kd.C_of_reads (d := (0 : Int)) (h1 := fun _ => rfl) hr0) hc0 ⟨rfl⟩ h).mono ?_
 rintro e w' ⟨rfl, hd⟩
 exact ⟨rfl, hd⟩

end Go.Proofs.Ytiffahfpfgnjnab.PFnExactGetCtl
