-- Written by a program of this session (myprint.py, over the kit's print): contracts of FnSocks
import Derived.Test.YtiffahfpfgnjnaaPFnSocksx0
import Derived.Test.YtiffahfpfgnjnaaPFnSocksx6
import Derived.Test.YtiffahfpfgnjnaaPFnSocksx7
import Derived.Test.YtiffahfpfgnjnaaPFnSocksx16
namespace Go.Proofs.Ytiffahfpfgnjnaa.PFnSocks
open Go.RowKit Go.Proofs.YtiffahfpfgnjnaaW.PrintWords Go.Proofs.YtiffahfpfgnjnaaW.PrintLast Go.Proofs.YtiffahfpfgnjnaaW.PrintMore Go.Proofs.YtiffahfpfgnjnaaV
attribute [local go_sem] max2_int min2_int max_two min_two max_three min_three max_four min_four   -- for this text's walks alone
set_option linter.unusedVariables false
set_option linter.unusedSimpArgs false

/-! ### impl_Tell: function 39 -/
def impl_Tell.f (k : Nat) (a0_0 : Int) (a0_1 : Int) (a0_2 : Int) (a0_3 : Bool) (l0_4 : List Int) (l0_5 : List Int) (a0_6 : Int) (a0_7 : Int) (a1_0 : Int) (a1_1 : ByteArray) (a1_2 : Int) : Option (Int × Int × Int × Bool × List Int × List Int × Int × Int) := (impl_sockCopy.f a0_0 a0_1 a0_2 a0_3 l0_4 l0_5 a0_6 a0_7).bind fun bt789 => ((impl_SockOk.f k a0_0 a0_1 a0_2 a0_3 l0_4 l0_5 a0_6 a0_7).bind fun t802 => (if t802 = true then ((impl_PutFrame.f k a1_0 a1_1 a1_2).bind fun t803 => (if bt789.2.2.2.2.2.1.length + t803.length < 140737488355328 then (some (bt789.1, bt789.2.1, bt789.2.2.1, bt789.2.2.2.1, bt789.2.2.2.2.1, (bt789.2.2.2.2.2.1 ++ t803), bt789.2.2.2.2.2.2.1, bt789.2.2.2.2.2.2.2)) else (none))) else (some (bt789.1, bt789.2.1, bt789.2.2.1, bt789.2.2.2.1, bt789.2.2.2.2.1, bt789.2.2.2.2.2.1, bt789.2.2.2.2.2.2.1, bt789.2.2.2.2.2.2.2))))
theorem impl_Tell.mono : ∀ a0 a1 a2 a3 a4 a5 a6 a7 a8 a9 a10 k, LeO (impl_Tell.f k a0 a1 a2 a3 a4 a5 a6 a7 a8 a9 a10) (impl_Tell.f (k + 1) a0 a1 a2 a3 a4 a5 a6 a7 a8 a9 a10) := by
 intro a0 a1 a2 a3 a4 a5 a6 a7 a8 a9 a10 k
 unfold impl_Tell.f
 have m0 := @impl_PutFrame.mono; have m1 := @impl_SockOk.mono; exact mo_
set_option maxHeartbeats 8000000 in
set_option maxRecDepth 100000 in
theorem impl_Tell.calls (k : Nat) (a0_0 : Int) (a0_1 : Int) (a0_2 : Int) (a0_3 : Bool) (A0_4 : Option Addr) (c0_4 : Nat) (l0_4 : List Int) (A0_5 : Option Addr) (c0_5 : Nat) (l0_5 : List Int) (a0_6 : Int) (a0_7 : Int) (a1_0 : Int) (a1_1 : ByteArray) (a1_2 : Int) (r1 : Int) (r2 : Int) (r3 : Int) (r4 : Bool) (r5 : List Int) (r6 : List Int) (r7 : Int) (r8 : Int) (w : World) (hr0_4 : Kd.C (Kd.int .u8) w A0_4 l0_4.length l0_4) (hc0_4 : l0_4.length ≤ c0_4) (hr0_5 : Kd.C (Kd.int .u8) w A0_5 l0_5.length l0_5) (hc0_5 : l0_5.length ≤ c0_5) (h : impl_Tell.f k a0_0 a0_1 a0_2 a0_3 l0_4 l0_5 a0_6 a0_7 a1_0 a1_1 a1_2 = some (r1, r2, r3, r4, r5, r6, r7, r8)) :
  Calls Try.prog 39 #[.agg #[.int .i64 a0_0, .int .i64 a0_1, .int .i64 a0_2, .bool a0_3, .slice A0_4 l0_4.length c0_4, .slice A0_5 l0_5.length c0_5, .int .i64 a0_6, .int .i64 a0_7], .agg #[.int .i64 a1_0, .string a1_1, .int .i64 a1_2]] w fun e w' => ∃ v4_ v5_ : Value, e = .returned (.agg #[.int .i64 r1, .int .i64 r2, .int .i64 r3, .bool r4, v4_, v5_, .int .i64 r7, .int .i64 r8]) ∧ Kd.R (Kd.int .u8) 5 w' w.heap.size (fun k_ => nv v5_ k_) v4_ r5 ∧ Kd.R (Kd.int .u8) 5 w' w.heap.size (fun k_ => nv v4_ k_) v5_ r6 ∧ Below w.heap.size w w' := by
 have hu41 := Try.underlying41
 have hu49 := Try.underlying49
 have HR0_4 := Aside0.mk hr0_4
 have HC0_4 := Aside0.mk hc0_4
 clear hr0_4 hc0_4
 have HR0_5 := Aside0.mk hr0_5
 have HC0_5 := Aside0.mk hc0_5
 clear hr0_5 hc0_5
 have HB := Aside0.mk (Below.refl w.heap.size w)
 have H := h
 unfold impl_Tell.f at H
 clear h
 replace H := bf_ H
 obtain ⟨f_, hf_, ⟨t789, t790, t791, t792, t793, t796, t799, t800⟩, A3, H⟩ := H
 subst hf_
 (try dsimp only at H)
 replace H := bd_ H
 obtain ⟨t802, A4, H⟩ := H
 have HC5 := Aside0.mk H
 clear H
 go_enter Try.func39, Try.ntmps39
 go_upto_if 9 with (first | ((with_reducible refine gate_dst (N := 2) rfl ?_); refine bx_ (N := 2) (cs := #[.int .i64 a0_0, .int .i64 a0_1, .int .i64 a0_2, .bool a0_3, .slice A0_4 l0_4.length c0_4, .slice A0_5 l0_5.length c0_5, .int .i64 a0_6, .int .i64 a0_7]) (t := 41) ?_; intro gb786 hg w6 hbox hb; have BK786 := am_ (hbox); have GW786 := gA_ hg HB; have GE786 := GW786; have IGE786 := gI_ GE786; replace HB := bS_ HB hb; clear hb hbox hg) | ((with_reducible refine gate_dst (N := 3) rfl ?_); refine bx_ (N := 3) (cs := #[.int .i64 a1_0, .string a1_1, .int .i64 a1_2]) (t := 49) ?_; intro gb787 hg w7 hbox hb; have BK787 := am_ (hbox); have GW787 := gA_ hg HB; have GE787 := GW787; have IGE787 := gI_ GE787; replace HB := bS_ HB hb; have NB786_787 := am_ ((gN_ hg (qK BK786))); have NB787_786 := am_ ((gM_ hg (qK BK786))); replace BK786 := bK_ BK786 hb; clear hb hbox hg) | ((with_reducible refine gate_dst (N := 4) rfl ?_); refine bx_ (N := 4) (cs := #[.int .i64 0, .int .i64 0, .int .i64 0, .bool false, .slice none 0 0, .slice none 0 0, .int .i64 0, .int .i64 0]) (t := 41) ?_; intro gb788 hg w8 hbox hb; have BK788 := am_ (hbox); have GW788 := gA_ hg HB; have GE788 := GW788; have IGE788 := gI_ GE788; replace HB := bS_ HB hb; have NB786_788 := am_ ((gN_ hg (qK BK786))); have NB788_786 := am_ ((gM_ hg (qK BK786))); replace BK786 := bK_ BK786 hb; have NB787_788 := am_ ((gN_ hg (qK BK787))); have NB788_787 := am_ ((gM_ hg (qK BK787))); replace BK787 := bK_ BK787 hb; clear hb hbox hg; have hnb9 := NB786_787.out; have hnc9 := NB787_786.out; have hnb10 := NB786_788.out; have hnc10 := NB788_786.out; (try clear zK786); have zK786 := cz8 BK786.out; (try clear fK786); have fK786 := fz8 BK786.out) | ((with_reducible refine gate_callee (f := 92) rfl ?_); refine gl_ (some 7) Try.func92 #[.agg #[.int .i64 a0_0, .int .i64 a0_1, .int .i64 a0_2, .bool a0_3, .slice A0_4 l0_4.length c0_4, .slice A0_5 l0_5.length c0_5, .int .i64 a0_6, .int .i64 a0_7]] ?_; (with_reducible refine (impl_sockCopy.calls a0_0 a0_1 a0_2 a0_3 _ _ l0_4 _ _ l0_5 a0_6 a0_7 t789 t790 t791 t792 t793 t796 t799 t800 _ ?side1 ?side2 ?side3 ?side4 A3.out).mono ?_); (case side1 => exact qC (Kd.C_below HR0_4.out HB.out)); (case side2 => exact HC0_4.out); (case side3 => exact qC (Kd.C_below HR0_5.out HB.out)); (case side4 => exact HC0_5.out); rintro e w12 ⟨v794, v797, rfl, ho0, ho1, hb⟩; refine ⟨_, rfl, ?_⟩; have HO795 := am_ (Kd.R_lower ho0 (below_size (qB HB))); have HO798 := am_ (Kd.R_lower ho1 (below_size (qB HB))); replace BK786 := bK_ BK786 hb; replace BK787 := bK_ BK787 hb; replace BK788 := bK_ BK788 hb; replace HB := bS_ HB hb; (try clear hb); (try clear ho0); (try clear ho1)) | ((with_reducible refine gate_dst (N := 5) rfl ?_); refine bx_ (N := 5) (cs := #[.int .i64 0, .int .i64 0, .int .i64 0, .bool false, .slice none 0 0, .slice none 0 0, .int .i64 0, .int .i64 0]) (t := 41) ?_; intro gb801 hg w13 hbox hb; replace HO795 := rB_ HO795 hb; replace HO798 := rB_ HO798 hb; have BK801 := am_ (hbox); have GW801 := gA_ hg HB; have GE801 := GW801; have IGE801 := gI_ GE801; replace HB := bS_ HB hb; have NB786_801 := am_ ((gN_ hg (qK BK786))); have NB801_786 := am_ ((gM_ hg (qK BK786))); replace BK786 := bK_ BK786 hb; have NB787_801 := am_ ((gN_ hg (qK BK787))); have NB801_787 := am_ ((gM_ hg (qK BK787))); replace BK787 := bK_ BK787 hb; have NB788_801 := am_ ((gN_ hg (qK BK788))); have NB801_788 := am_ ((gM_ hg (qK BK788))); replace BK788 := bK_ BK788 hb; clear hb hbox hg; have hnb14 := NB801_786.out; have hnc14 := NB786_801.out; have hnb15 := NB801_787.out; have hnc15 := NB787_801.out; have hnb16 := NB801_788.out; have hnc16 := NB788_801.out; (try clear zK801); have zK801 := cz8 BK801.out; (try clear fK801); have fK801 := fz8 BK801.out; obtain ⟨Ao18, co18, eo18⟩ := Kd.R_slice HO795.out; subst eo18; obtain ⟨Ao19, co19, eo19⟩ := Kd.R_slice HO798.out; subst eo19; (try clear zK786); have zK786 := cz8 BK786.out; (try clear fK786); have fK786 := fz8 BK786.out) | ((with_reducible refine gate_callee (f := 30) rfl ?_); refine gl_ (some 9) Try.func30 #[.agg #[.int .i64 a0_0, .int .i64 a0_1, .int .i64 a0_2, .bool a0_3, .slice A0_4 l0_4.length c0_4, .slice A0_5 l0_5.length c0_5, .int .i64 a0_6, .int .i64 a0_7]] ?_; (with_reducible refine (impl_SockOk.calls k a0_0 a0_1 a0_2 a0_3 _ _ l0_4 _ _ l0_5 a0_6 a0_7 t802 _ ?side1 ?side2 ?side3 ?side4 A4.out).mono ?_); (case side1 => exact Kd.C_below HR0_4.out (qB HB)); (case side2 => exact HC0_4.out); (case side3 => exact Kd.C_below HR0_5.out (qB HB)); (case side4 => exact HC0_5.out); rintro e w21 ⟨rfl, hb⟩; refine ⟨_, rfl, ?_⟩; replace HO795 := am_ (Kd.R_below (fR2_ HO795 BK801) hb); replace HO798 := am_ (Kd.R_below (fR2_ HO798 BK801) hb); replace BK786 := am_ (blk_below (g := gb786) (o := .cells #[.int .i64 a0_0, .int .i64 a0_1, .int .i64 a0_2, .bool a0_3, .slice A0_4 l0_4.length c0_4, .slice A0_5 l0_5.length c0_5, .int .i64 a0_6, .int .i64 a0_7] 41 (0, 0)) (by (with_reducible repeat (first | refine blk_drewN ?_ _ | refine blk_drew ?_ | refine blk_alloc ?_ _)); refine blk_far8 ?_ NB786_801.out; exact qK BK786) hb); replace BK787 := am_ (blk_below (g := gb787) (o := .cells #[.int .i64 a1_0, .string a1_1, .int .i64 a1_2] 49 (0, 0)) (by (with_reducible repeat (first | refine blk_drewN ?_ _ | refine blk_drew ?_ | refine blk_alloc ?_ _)); refine blk_far8 ?_ NB787_801.out; exact qK BK787) hb); replace BK788 := am_ (blk_below (g := gb788) (o := .cells #[.int .i64 0, .int .i64 0, .int .i64 0, .bool false, .slice none 0 0, .slice none 0 0, .int .i64 0, .int .i64 0] 41 (0, 0)) (by (with_reducible repeat (first | refine blk_drewN ?_ _ | refine blk_drew ?_ | refine blk_alloc ?_ _)); refine blk_far8 ?_ NB788_801.out; exact qK BK788) hb); replace BK801 := am_ (blk_below (g := gb801) (o := .cells #[.int .i64 t789, .int .i64 t790, .int .i64 t791, .bool t792, .slice Ao18 t793.length co18, .slice Ao19 t796.length co19, .int .i64 t799, .int .i64 t800] 41 (0, 0)) (by exact blk_all8 (qK BK801)) hb); replace HB := bS_ HB hb; (try clear hb)))
 (try simp only [Act.put, List.setIfInBounds_toArray, List.set_cons_zero, List.set_cons_succ])
 have H := HC5.out
 clear HC5
 by_cases c22 : t802 = true
 rotate_left
 ·
  replace c22 := Bool.eq_false_iff.mpr c22
  subst c22
  rw [if_neg (show ¬ (false = true) by decide)] at H
  simp only [Option.some.injEq, Prod.mk.injEq] at H
  obtain ⟨rfl, rfl, rfl, rfl, rfl, rfl, rfl, rfl⟩ := H
  have hnb38 := NB801_786.out
  have hnc38 := NB786_801.out
  have hnb39 := NB801_787.out
  have hnc39 := NB787_801.out
  have hnb40 := NB801_788.out
  have hnc40 := NB788_801.out
  (try clear zK801)
  have zK801 := cz8 BK801.out
  (try clear fK801)
  have fK801 := fz8 BK801.out
  have hnb42 := NB788_786.out
  have hnc42 := NB786_788.out
  have hnb43 := NB788_787.out
  have hnc43 := NB787_788.out
  (try clear zK788)
  have zK788 := cz8 BK788.out
  (try clear fK788)
  have fK788 := fz8 BK788.out
  go_wp2
  refine bodyPost_ret (results_cell_row rfl _ _ gb788 41 #[.int .i64 t789, .int .i64 t790, .int .i64 t791, .bool t792, .slice Ao18 t793.length co18, .slice Ao19 t796.length co19, .int .i64 t799, .int .i64 t800] (0, 0) _ rfl (by exact blk_all8 (qK BK788)) Try.underlying41 rfl (by kernel_rfl)) rfl ?_
  exact ⟨_, _, er_, (fR2_ HO795 BK788), (fR2_ HO798 BK788), qB HB⟩
 subst c22
 rw [if_pos rfl] at H
 replace H := bd_ H
 obtain ⟨t803, A23, H⟩ := H
 by_cases c24 : t796.length + t803.length < 140737488355328
 case neg => exact nn_ c24 H
 rw [if_pos c24] at H
 have LMc24 := Aside0.mk c24
 clear c24
 obtain ⟨y806, hy806⟩ : ∃ y_ : List Int, y_ = (t796 ++ t803) := ⟨_, rfl⟩
 replace H : (some (t789, t790, t791, t792, t793, y806, t799, t800)) = some (r1, r2, r3, r4, r5, r6, r7, r8) := by first | (rw [hy806]; with_reducible exact H) | (have H2_ := (Option.bind_some _ _).symm.trans H; rw [hy806]; with_reducible exact H2_) | (have H2_ := (Option.bind_some _ _).symm.trans H; with_reducible exact H2_) | with_reducible exact H | (rw [hy806]; exact H) | exact H
 have Ny806 := Aside0.mk hy806
 clear hy806
 simp only [Option.some.injEq, Prod.mk.injEq] at H
 obtain ⟨rfl, rfl, rfl, rfl, rfl, rfl, rfl, rfl⟩ := H
 try go_wp2
 replace HO795 := am_ (Kd.R_drew HO795.out)
 replace HO798 := am_ (Kd.R_drew HO798.out)
 replace BK786 := am_ (blk_drew BK786.out)
 replace BK787 := am_ (blk_drew BK787.out)
 replace BK788 := am_ (blk_drew BK788.out)
 replace BK801 := am_ (blk_drew BK801.out)
 replace HB := am_ (below_drew1 HB.out)
 refine start_ (n := 7) (S := fun w' => w'.cell? ⟨gb801, 0, none⟩ = some (.int .i64 t789) ∧ w'.cell? ⟨gb801, 1, none⟩ = some (.int .i64 t790) ∧ w'.cell? ⟨gb801, 2, none⟩ = some (.int .i64 t791) ∧ w'.cell? ⟨gb801, 3, none⟩ = some (.bool t792) ∧ w'.cell? ⟨gb801, 4, none⟩ = some (.slice Ao18 t793.length co18) ∧ w'.cell? ⟨gb801, 5, none⟩ = some (.slice Ao19 t796.length co19) ∧ w'.cell? ⟨gb801, 6, none⟩ = some (.int .i64 t799) ∧ w'.cell? ⟨gb801, 7, none⟩ = some (.int .i64 t800) ∧ w'.cell? ⟨gb787, 0, none⟩ = some (.int .i64 a1_0) ∧ w'.cell? ⟨gb787, 1, none⟩ = some (.string a1_1) ∧ w'.cell? ⟨gb787, 2, none⟩ = some (.int .i64 a1_2)) (ds := [6]) #[oo,oo,oo,oo,oo,oo,oo] (by kernel_rfl) rfl rfl (cw8 BK801.out (cz3 BK787.out)) (fun hHeld => ?_)
 generalize w21.drew = w25 at HO795 HO798 BK786 BK787 BK788 BK801 HB hHeld ⊢
 refine pure_ (i := 0) (N := some 10) (v := ?_) (a' := ?_) #[ii,oo,oo,oo,oo,oo,oo] rfl rfl (by kernel_rfl) (fun _ _ _ h => h) (Or.inl ⟨by rfl, ?_⟩) ?_ ?_
 rotate_left
 ·
  intro w'
  go_simp
  with_reducible rfl
 rotate_left
 ·
  exact ap_
 refine take_ (i := 1) (N := some 11) (v := ?_) (a' := ?_) #[ii,ii,oo,oo,oo,oo,oo] rfl rfl (by kernel_rfl) (fun _ _ _ h => h) (Or.inl ⟨by rfl, ?_⟩) hHeld ?_ ?_
 rotate_left
 ·
  rintro w' ⟨s0, s1, s2, s3, s4, s5, s6, s7, s8, s9, s10⟩
  go_simp
  with_reducible rfl
 rotate_left
 ·
  exact ap_
 refine take_ (i := 2) (N := some 12) (v := ?_) (a' := ?_) #[ii,ii,ii,oo,oo,oo,oo] rfl rfl (by kernel_rfl) (fun _ _ _ h => h) (Or.inl ⟨by rfl, ?_⟩) hHeld ?_ ?_
 rotate_left
 ·
  rintro w' ⟨s0, s1, s2, s3, s4, s5, s6, s7, s8, s9, s10⟩
  go_simp
  with_reducible rfl
 rotate_left
 ·
  exact ap_
 refine one_ (i := 3) (N := some 13) #[ii,ii,ii,ii,oo,oo,oo] rfl rfl (by kernel_rfl) (by decide) (fun K hK => ?_)
 refine goes_ Try.func37 (by kernel_rfl) rfl #[.agg #[.int .i64 a1_0, .string a1_1, .int .i64 a1_2]] (by rfl) rfl rfl la_ ?_
 with_reducible refine (impl_PutFrame.calls k a1_0 a1_1 a1_2 t803 _ A23.out).mono ?_
 rintro e w26 ⟨v804, rfl, ho0, hb⟩
 refine ⟨_, rfl, ?_⟩
 have HO805 := am_ (Kd.R_lower (Kd.R_new' (Kd.R_new' ho0 (Kd.R_lt (qR HO795))) (Kd.R_lt (qR HO798))) (below_size (qB HB)))
 replace HO795 := eA_ HO795 ho0 hb
 replace HO798 := eA_ HO798 ho0 hb
 replace BK786 := bK_ BK786 hb
 replace BK787 := bK_ BK787 hb
 replace BK788 := bK_ BK788 hb
 replace BK801 := bK_ BK801 hb
 replace HB := bS_ HB hb
 (try clear hb ho0)
 obtain ⟨Ao28, co28, eo28⟩ := Kd.R_slice HO805.out
 (first | subst eo28 | (injection eo28 with f1_ f2_ f3_; have f4_ := f1_.symm; have f5_ := f3_.symm; clear f1_ f2_ f3_; subst f4_; subst f5_))
 refine hK.out _ _ (cw8 BK801.out (cz3 BK787.out)) (fun hHeld => ?_)
 clear hK K
 refine nm_ (some 13) ?_
 refine one_ (i := 4) (N := some 14) #[ii,ii,ii,ii,ii,oo,oo] rfl rfl (by kernel_rfl) (by decide) (fun K hK => ?_)
 refine Kd.R_append_rows_step (Kd.int .u8) (w0 := w) w.heap.size (by rfl) (.tmp 11) (.tmp 13) 22 5 (.int .u8 0) 1 rfl Try.underlying22 info5 rfl (by decide) (by omega) (.slice Ao19 t796.length co19) t796 t803 _ _ _ (fun k_ => nb Ao18 t793.length co18 k_ ∧ nb Ao28 t803.length co28 k_) (fun _ => False) rfl rfl ?aO ?aR (fun _ _ h => h) (fun _ h => h.elim) ?aF ?aB ?aS ?aL ?_
 (case aR => exact qC ((Kd.R_reads' HO805.out).2.2))
 (case aB => exact (qB HB))
 (case aF => exact (fun k_ hk => ⟨Kd.fresh' (Kd.R_lt (qR HO795)) k_ hk, Kd.fresh' (Kd.R_lt (qR HO805)) k_ hk⟩))
 (case aO => exact (qR HO798))
 (case aS => exact (below_size (qB HB)))
 (case aL => have := LMc24.out; omega)
 intro v807 w27 ho hb hg hat
 rw [← Ny806.out] at ho
 replace BK786 := kG_ BK786 HO798 hg
 replace BK787 := kG_ BK787 HO798 hg
 replace BK788 := kG_ BK788 HO798 hg
 replace HO795 := am_ (Kd.R_after (ok := (fun k_ => nb Ao28 t803.length co28 k_)) (xR1_ HO795) hg hat)
 replace BK801 := kG_ BK801 HO798 hg
 replace HO805 := am_ (Kd.R_after (ok := (fun k_ => nb Ao18 t793.length co18 k_)) (xR1_ HO805) hg hat)
 replace HB := am_ (hb)
 have HO808 := am_ (ho)
 clear HO798
 clear ho hb hg hat
 obtain ⟨Ao29, co29, eo29⟩ := Kd.R_slice HO808.out
 (first | subst eo29 | (injection eo29 with f1_ f2_ f3_; have f4_ := f1_.symm; have f5_ := f3_.symm; clear f1_ f2_ f3_; subst f4_; subst f5_))
 refine hK.out _ _ (cw8 BK801.out (cz3 BK787.out)) (fun hHeld => ?_)
 clear hK K
 refine nm_ (some 14) ?_
 refine pure_ (i := 5) (N := some 15) (v := ?_) (a' := ?_) #[ii,ii,ii,ii,ii,ii,oo] rfl rfl (by kernel_rfl) (fun _ _ _ h => h) (Or.inl ⟨by rfl, ?_⟩) ?_ ?_
 rotate_left
 ·
  intro w'
  go_simp
  with_reducible rfl
 rotate_left
 ·
  exact ap_
 refine last_ (i := 6) (N := none) #[ii,ii,ii,ii,ii,ii,ii] rfl rfl (by kernel_rfl) (by decide) (fun K hK => ?_)
 have hs30 : w27.cell? ⟨gb801, 5, none⟩ = some (.slice Ao19 t796.length co19) := (blk_cell BK801.out 5).trans rfl
 have hfs30 := blk_frozen BK801.out 5
 have hns30_0 := NB786_801.out
 have hns30_1 := NB787_801.out
 have hns30_2 := NB788_801.out
 have hms30_0 := NB801_786.out
 have hms30_1 := NB801_787.out
 have hms30_2 := NB801_788.out
 refine skip_ (w1 := ?_) (by rfl) rfl ?_ ?_
 rotate_left
 ·
  go_simp
  rfl
 refine hK.out _ _ ?_
 clear hK K
 refine done_ (by kernel_rfl) ?_
 have hnb31 := NB801_786.out
 have hnc31 := NB786_801.out
 have hnb32 := NB801_787.out
 have hnc32 := NB787_801.out
 have hnb33 := NB801_788.out
 have hnc33 := NB788_801.out
 (try clear zK801)
 have zK801 := cz8 BK801.out
 (try clear fK801)
 have fK801 := fz8 BK801.out
 have hnb35 := NB788_786.out
 have hnc35 := NB786_788.out
 have hnb36 := NB788_787.out
 have hnc36 := NB787_788.out
 (try clear zK788)
 have zK788 := cz8 BK788.out
 (try clear fK788)
 have fK788 := fz8 BK788.out
 try go_wp2
 refine bodyPost_ret (results_cell_row rfl _ _ gb788 41 #[.int .i64 t789, .int .i64 t790, .int .i64 t791, .bool t792, .slice Ao18 t793.length co18, .slice Ao29 y806.length co29, .int .i64 t799, .int .i64 t800] (0, 0) _ rfl (by exact blk_all8 (blk_far1 (qK BK788) NB788_801.out)) Try.underlying41 rfl (by kernel_rfl)) rfl ?_
 exact ⟨_, _, er_, by (with_reducible repeat (first | apply Kd.R_alloc | apply Kd.R_drewN | apply Kd.R_drew)); exact Kd.R_mono (R_far8 (g := gb788) (Kd.R_far (p := ⟨gb801, 5, none⟩) (Kd.R_types (Kd.R_types HO795.out BK801.out (by decide)) BK788.out (by decide)) (fun _ hk => hk.1.2) (.slice Ao29 y806.length co29)) (fun _ hk => hk.2)) (fun _ hk => hk.1.1.2), by (with_reducible repeat (first | apply Kd.R_alloc | apply Kd.R_drewN | apply Kd.R_drew)); exact Kd.R_mono (R_far8 (g := gb788) (Kd.R_far (p := ⟨gb801, 5, none⟩) (Kd.R_types (Kd.R_types HO808.out BK801.out (by decide)) BK788.out (by decide)) (fun _ hk => hk.1.2) (.slice Ao29 y806.length co29)) (fun _ hk => hk.2)) (fun _ hk => hk.1.1.1), qB HB⟩

end Go.Proofs.Ytiffahfpfgnjnaa.PFnSocks
