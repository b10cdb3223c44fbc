-- Written by a program of this session (myprint.py, over the kit's print): contracts of FnSocks
import Derived.Test.YtiffahfpfgnjnaaPFnSocksx0
import Derived.Test.YtiffahfpfgnjnaaPFnSocksx1
import Derived.Test.YtiffahfpfgnjnaaPFnSocksx2
import Derived.Test.YtiffahfpfgnjnaaPFnSocksx6
import Derived.Test.YtiffahfpfgnjnaaPFnSocksx7
namespace Go.Proofs.Ytiffahfpfgnjnaa.PFnSocks
open Go.RowKit Go.Proofs.YtiffahfpfgnjnaaW.PrintWords Go.Proofs.YtiffahfpfgnjnaaW.PrintLast Go.Proofs.YtiffahfpfgnjnaaW.PrintMore Go.Proofs.YtiffahfpfgnjnaaV
attribute [local go_sem] max2_int min2_int max_two min_two max_three min_three max_four min_four   -- for this text's walks alone
set_option linter.unusedVariables false
set_option linter.unusedSimpArgs false

attribute [local go_sem high] eqA49
/-! ### spec_l8Copy: function 93 -/
def spec_l8Copy.f (a0_0 : Int) (a0_1 : Int) (a0_2 : Int) (a0_3 : Bool) (l0_4 : List Int) (l0_5 : List Int) (a0_6 : Int) (a0_7 : Int) : Option (Int × Int × Int × Bool × List Int × List Int × Int × Int) := (some (([] : List Int) : List Int)).bind fun y446 => (if y446.length + l0_4.length < 140737488355328 then ((some (([] : List Int) : List Int)).bind fun y452 => (if y452.length + l0_5.length < 140737488355328 then (some (a0_0, a0_1, a0_2, a0_3, (y446 ++ l0_4), (y452 ++ l0_5), a0_6, a0_7)) else (none))) else (none))
set_option maxHeartbeats 8000000 in
set_option maxRecDepth 100000 in
theorem spec_l8Copy.calls (a0_0 : Int) (a0_1 : Int) (a0_2 : Int) (a0_3 : Bool) (A0_4 : Option Addr) (c0_4 : Nat) (l0_4 : List Int) (A0_5 : Option Addr) (c0_5 : Nat) (l0_5 : List Int) (a0_6 : Int) (a0_7 : Int) (r1 : Int) (r2 : Int) (r3 : Int) (r4 : Bool) (r5 : List Int) (r6 : List Int) (r7 : Int) (r8 : Int) (w : World) (hr0_4 : Kd.C (Kd.int .u8) w A0_4 l0_4.length l0_4) (hc0_4 : l0_4.length ≤ c0_4) (hr0_5 : Kd.C (Kd.int .u8) w A0_5 l0_5.length l0_5) (hc0_5 : l0_5.length ≤ c0_5) (h : spec_l8Copy.f a0_0 a0_1 a0_2 a0_3 l0_4 l0_5 a0_6 a0_7 = some (r1, r2, r3, r4, r5, r6, r7, r8)) :
  Calls Try.prog 93 #[.agg #[.int .i64 a0_0, .int .i64 a0_1, .int .i64 a0_2, .bool a0_3, .slice A0_4 l0_4.length c0_4, .slice A0_5 l0_5.length c0_5, .int .i64 a0_6, .int .i64 a0_7]] w fun e w' => ∃ v4_ v5_ : Value, e = .returned (.agg #[.int .i64 r1, .int .i64 r2, .int .i64 r3, .bool r4, v4_, v5_, .int .i64 r7, .int .i64 r8]) ∧ Kd.R (Kd.int .u8) 5 w' w.heap.size (fun k_ => nv v5_ k_) v4_ r5 ∧ Kd.R (Kd.int .u8) 5 w' w.heap.size (fun k_ => nv v4_ k_) v5_ r6 ∧ Below w.heap.size w w' := by
 have hu41 := Try.underlying41
 have HR0_4 := Aside0.mk hr0_4
 have HC0_4 := Aside0.mk hc0_4
 clear hr0_4 hc0_4
 have HR0_5 := Aside0.mk hr0_5
 have HC0_5 := Aside0.mk hc0_5
 clear hr0_5 hc0_5
 have HB := Aside0.mk (Below.refl w.heap.size w)
 have H := h
 unfold spec_l8Copy.f at H
 clear h
 obtain ⟨y446, hy446⟩ : ∃ y_ : List Int, y_ = (([] : List Int)) := ⟨_, rfl⟩
 replace H := mk_ H hy446
 (try dsimp only at H)
 have Ny446 := Aside0.mk hy446
 clear hy446
 by_cases c2 : y446.length + l0_4.length < 140737488355328
 case neg => exact nn_ c2 H
 rw [if_pos c2] at H
 have LMc2 := Aside0.mk c2
 clear c2
 obtain ⟨y449, hy449⟩ : ∃ y_ : List Int, y_ = (y446 ++ l0_4) := ⟨_, rfl⟩
 replace H : ((some (([] : List Int) : List Int)).bind fun y452 => (if y452.length + l0_5.length < 140737488355328 then (some (a0_0, a0_1, a0_2, a0_3, y449, (y452 ++ l0_5), a0_6, a0_7)) else (none))) = some (r1, r2, r3, r4, r5, r6, r7, r8) := by first | (rw [hy449]; with_reducible exact H) | (have H2_ := (Option.bind_some _ _).symm.trans H; rw [hy449]; with_reducible exact H2_) | (have H2_ := (Option.bind_some _ _).symm.trans H; with_reducible exact H2_) | with_reducible exact H | (rw [hy449]; exact H) | exact H
 have Ny449 := Aside0.mk hy449
 clear hy449
 obtain ⟨y452, hy452⟩ : ∃ y_ : List Int, y_ = (([] : List Int)) := ⟨_, rfl⟩
 replace H := mk_ H hy452
 (try dsimp only at H)
 have Ny452 := Aside0.mk hy452
 clear hy452
 by_cases c3 : y452.length + l0_5.length < 140737488355328
 case neg => exact nn_ c3 H
 rw [if_pos c3] at H
 have LMc3 := Aside0.mk c3
 clear c3
 obtain ⟨y455, hy455⟩ : ∃ y_ : List Int, y_ = (y452 ++ l0_5) := ⟨_, rfl⟩
 replace H : (some (a0_0, a0_1, a0_2, a0_3, y449, y455, a0_6, a0_7)) = some (r1, r2, r3, r4, r5, r6, r7, r8) := by first | (rw [hy455]; with_reducible exact H) | (have H2_ := (Option.bind_some _ _).symm.trans H; rw [hy455]; with_reducible exact H2_) | (have H2_ := (Option.bind_some _ _).symm.trans H; with_reducible exact H2_) | with_reducible exact H | (rw [hy455]; exact H) | exact H
 have Ny455 := Aside0.mk hy455
 clear hy455
 simp only [Option.some.injEq, Prod.mk.injEq] at H
 obtain ⟨rfl, rfl, rfl, rfl, rfl, rfl, rfl, rfl⟩ := H
 go_enter Try.func93, Try.ntmps93
 go_wp2_with (first | ((with_reducible refine gate_dst (N := 1) rfl ?_); refine bx_ (N := 1) (cs := #[.int .i64 a0_0, .int .i64 a0_1, .int .i64 a0_2, .bool a0_3, .slice A0_4 l0_4.length c0_4, .slice A0_5 l0_5.length c0_5, .int .i64 a0_6, .int .i64 a0_7]) (t := 41) ?_; intro gb443 hg w4 hbox hb; have BK443 := am_ (hbox); have GW443 := gA_ hg HB; have GE443 := GW443; have IGE443 := gI_ GE443; replace HB := bS_ HB hb; clear hb hbox hg) | ((with_reducible refine gate_dst (N := 2) rfl ?_); refine bx_ (N := 2) (cs := #[.int .i64 0, .int .i64 0, .int .i64 0, .bool false, .slice none 0 0, .slice none 0 0, .int .i64 0, .int .i64 0]) (t := 41) ?_; intro gb444 hg w5 hbox hb; have BK444 := am_ (hbox); have GW444 := gA_ hg HB; have GE444 := GW444; have IGE444 := gI_ GE444; replace HB := bS_ HB hb; have NB443_444 := am_ ((gN_ hg (qK BK443))); have NB444_443 := am_ ((gM_ hg (qK BK443))); replace BK443 := bK_ BK443 hb; clear hb hbox hg; have hnb6 := NB443_444.out; have hnc6 := NB444_443.out; (try clear zK443); have zK443 := cz8 BK443.out; (try clear fK443); have fK443 := fz8 BK443.out) | ((with_reducible refine gate_dst (N := 3) rfl ?_); refine bx_ (N := 3) (cs := #[.int .i64 0, .int .i64 0, .int .i64 0, .bool false, .slice none 0 0, .slice none 0 0, .int .i64 0, .int .i64 0]) (t := 41) ?_; intro gb445 hg w8 hbox hb; have BK445 := am_ (hbox); have GW445 := gA_ hg HB; have GE445 := GW445; have IGE445 := gI_ GE445; replace HB := bS_ HB hb; have NB443_445 := am_ ((gN_ hg (qK BK443))); have NB445_443 := am_ ((gM_ hg (qK BK443))); replace BK443 := bK_ BK443 hb; have NB444_445 := am_ ((gN_ hg (qK BK444))); have NB445_444 := am_ ((gM_ hg (qK BK444))); replace BK444 := bK_ BK444 hb; clear hb hbox hg; have hnb9 := NB445_443.out; have hnc9 := NB443_445.out; have hnb10 := NB445_444.out; have hnc10 := NB444_445.out; (try clear zK445); have zK445 := cz8 BK445.out; (try clear fK445); have fK445 := fz8 BK445.out) | ((with_reducible refine gate_dst (N := 5) rfl ?_); refine Kd.R_lit (Kd.int .u8) _ 5 ?hg (N := 5) ?hd (xs := ([] : List Int)) (inner := []) (ok := fun _ => True) (okp := fun _ => True) ?hr ?hp (fun _ hk => hk) trivial (Below.refl _ _) (Nat.le_refl _) (by simp) ?_; (case hd => rfl); (case hg => rfl); (case hr => first | (go_simp; done) | (go_simp; rfl)); (case hp => exact (Reps.none _ _)); intro v447 w12 ho13 hb hg_ hnew_; clear hg_ hnew_; (first | rw [← Ny446.out] at ho13 | (simp only [Int.reduceToNat] at ho13; rw [← Ny446.out] at ho13)); have HO448 := am_ (Kd.R_lower ho13 (below_size (qB HB))); replace BK443 := am_ (blk_below (g := gb443) (o := .cells #[.int .i64 a0_0, .int .i64 a0_1, .int .i64 a0_2, .bool a0_3, .slice A0_4 l0_4.length c0_4, .slice A0_5 l0_5.length c0_5, .int .i64 a0_6, .int .i64 a0_7] 41 (0, 0)) (by (with_reducible repeat (first | refine blk_drewN ?_ _ | refine blk_drew ?_ | refine blk_alloc ?_ _)); refine blk_far8 ?_ NB443_445.out; exact qK BK443) hb); replace BK444 := am_ (blk_below (g := gb444) (o := .cells #[.int .i64 0, .int .i64 0, .int .i64 0, .bool false, .slice none 0 0, .slice none 0 0, .int .i64 0, .int .i64 0] 41 (0, 0)) (by (with_reducible repeat (first | refine blk_drewN ?_ _ | refine blk_drew ?_ | refine blk_alloc ?_ _)); refine blk_far8 ?_ NB444_445.out; exact qK BK444) hb); replace BK445 := am_ (blk_below (g := gb445) (o := .cells #[.int .i64 a0_0, .int .i64 a0_1, .int .i64 a0_2, .bool a0_3, .slice A0_4 l0_4.length c0_4, .slice A0_5 l0_5.length c0_5, .int .i64 a0_6, .int .i64 a0_7] 41 (0, 0)) (by exact blk_all8 (qK BK445)) hb); replace HB := bS_ HB hb; clear hb ho13; (try clear zK443); have zK443 := cz8 BK443.out; (try clear fK443); have fK443 := fz8 BK443.out) | ((with_reducible refine gate_builtin (b := .append) (xs := #[.tmp 5, .tmp 7]) rfl ?_); at_builtin; refine Kd.R_append_rows (Kd.int .u8) (w0 := w) w.heap.size rfl (.tmp 5) (.tmp 7) 22 5 (.int .u8 0) 1 rfl Try.underlying22 info5 rfl (by decide) (by omega) v447 y446 l0_4 _ _ _ (fun _ => True) (fun _ => False) rfl rfl ?aO ?aR (fun _ _ h => h) (fun _ h => h.elim) ?aF ?aB ?aS ?aL ?_; (case aR => exact qC (Kd.C_below HR0_4.out HB.out)); (case aB => exact (qB HB)); (case aF => exact (fun _ _ => trivial)); (case aO => exact (qR HO448)); (case aS => exact (below_size (qB HB))); (case aL => have := LMc2.out; omega); intro v450 w15 ho hb hg hat; rw [← Ny449.out] at ho; replace BK443 := kG_ BK443 HO448 hg; replace BK444 := kG_ BK444 HO448 hg; replace BK445 := kG_ BK445 HO448 hg; replace HB := am_ (hb); have HO451 := am_ (ho); clear HO448; clear ho hb hg hat; obtain ⟨Ao16, co16, eo16⟩ := Kd.R_slice HO451.out; subst eo16; (try clear zK445); have zK445 := cz8 BK445.out; (try clear fK445); have fK445 := fz8 BK445.out) | ((with_reducible refine gate_dst (N := 10) rfl ?_); refine Kd.R_lit (Kd.int .u8) _ 5 ?hg (N := 10) ?hd (xs := ([] : List Int)) (inner := []) (ok := fun _ => True) (okp := fun _ => True) ?hr ?hp (fun _ hk => hk) trivial (Below.refl _ _) (Nat.le_refl _) (by simp) ?_; (case hd => rfl); (case hg => rfl); (case hr => first | (go_simp; done) | (go_simp; rfl)); (case hp => exact (Reps.none _ _)); intro v453 w18 ho19 hb hg_ hnew_; clear hg_ hnew_; (first | rw [← Ny452.out] at ho19 | (simp only [Int.reduceToNat] at ho19; rw [← Ny452.out] at ho19)); have HO454 := am_ (Kd.R_lower (Kd.R_new' ho19 (Kd.R_lt (fR2_ HO451 BK445))) (below_size (qB HB))); replace HO451 := am_ (Kd.R_elder' (fR2_ HO451 BK445) (Kd.R_base ho19) hb); replace BK443 := am_ (blk_below (g := gb443) (o := .cells #[.int .i64 a0_0, .int .i64 a0_1, .int .i64 a0_2, .bool a0_3, .slice A0_4 l0_4.length c0_4, .slice A0_5 l0_5.length c0_5, .int .i64 a0_6, .int .i64 a0_7] 41 (0, 0)) (by (with_reducible repeat (first | refine blk_drewN ?_ _ | refine blk_drew ?_ | refine blk_alloc ?_ _)); refine blk_far ?_ NB443_445.out _; exact qK BK443) hb); replace BK444 := am_ (blk_below (g := gb444) (o := .cells #[.int .i64 0, .int .i64 0, .int .i64 0, .bool false, .slice none 0 0, .slice none 0 0, .int .i64 0, .int .i64 0] 41 (0, 0)) (by (with_reducible repeat (first | refine blk_drewN ?_ _ | refine blk_drew ?_ | refine blk_alloc ?_ _)); refine blk_far ?_ NB444_445.out _; exact qK BK444) hb); replace BK445 := am_ (blk_below (g := gb445) (o := .cells #[.int .i64 a0_0, .int .i64 a0_1, .int .i64 a0_2, .bool a0_3, .slice Ao16 y449.length co16, .slice A0_5 l0_5.length c0_5, .int .i64 a0_6, .int .i64 a0_7] 41 (0, 0)) (by (with_reducible repeat (first | refine blk_drewN ?_ _ | refine blk_drew ?_ | refine blk_alloc ?_ _)); refine blk_put (cs := #[.int .i64 a0_0, .int .i64 a0_1, .int .i64 a0_2, .bool a0_3, .slice A0_4 l0_4.length c0_4, .slice A0_5 l0_5.length c0_5, .int .i64 a0_6, .int .i64 a0_7]) ?_ 4 _ rfl; exact qK BK445) hb); replace HB := bS_ HB hb; clear hb ho19; (try clear zK443); have zK443 := cz8 BK443.out) | ((with_reducible refine gate_builtin (b := .append) (xs := #[.tmp 10, .tmp 12]) rfl ?_); at_builtin; refine Kd.R_append_rows (Kd.int .u8) (w0 := w) w.heap.size rfl (.tmp 10) (.tmp 12) 22 5 (.int .u8 0) 1 rfl Try.underlying22 info5 rfl (by decide) (by omega) v453 y452 l0_5 _ _ _ (fun k_ => nb Ao16 y449.length co16 k_) (fun _ => False) rfl rfl ?aO ?aR (fun _ _ h => h) (fun _ h => h.elim) ?aF ?aB ?aS ?aL ?_; (case aR => exact qC (Kd.C_below HR0_5.out HB.out)); (case aB => exact (qB HB)); (case aF => exact (fun k_ hk => Kd.fresh' (Kd.R_lt (qR HO451)) k_ hk)); (case aO => exact (xR1_ HO454)); (case aS => exact (below_size (qB HB))); (case aL => have := LMc3.out; omega); intro v456 w21 ho hb hg hat; rw [← Ny455.out] at ho; replace BK443 := kG_ BK443 HO454 hg; replace BK444 := kG_ BK444 HO454 hg; replace BK445 := kG_ BK445 HO454 hg; replace HO451 := aR_ HO451 hg hat; replace HB := am_ (hb); have HO457 := am_ (ho); clear HO454; clear ho hb hg hat; obtain ⟨Ao22, co22, eo22⟩ := Kd.R_slice HO457.out; subst eo22; (try clear zK445); have zK445 := cz8 BK445.out; (try clear fK445); have fK445 := fz8 BK445.out; (try clear zK444); have zK444 := cz8 BK444.out; (try clear fK444); have fK444 := fz8 BK444.out))
 refine bodyPost_ret (results_cell_row rfl _ _ gb444 41 #[.int .i64 a0_0, .int .i64 a0_1, .int .i64 a0_2, .bool a0_3, .slice Ao16 y449.length co16, .slice Ao22 y455.length co22, .int .i64 a0_6, .int .i64 a0_7] (0, 0) _ rfl (by exact blk_all8 (blk_far1 (qK BK444) NB444_445.out)) Try.underlying41 rfl (by kernel_rfl)) rfl ?_
 exact ⟨_, _, er_, by (with_reducible repeat (first | apply Kd.R_alloc | apply Kd.R_drewN | apply Kd.R_drew)); exact Kd.R_mono (R_far8 (g := gb444) (Kd.R_far (p := ⟨gb445, 5, none⟩) (Kd.R_types (Kd.R_types HO451.out BK445.out (by decide)) BK444.out (by decide)) (fun _ hk => hk.1.2) (.slice Ao22 y455.length co22)) (fun _ hk => hk.2)) (fun _ hk => hk.1.1.2), by (with_reducible repeat (first | apply Kd.R_alloc | apply Kd.R_drewN | apply Kd.R_drew)); exact Kd.R_mono (R_far8 (g := gb444) (Kd.R_far (p := ⟨gb445, 5, none⟩) (Kd.R_types (Kd.R_types HO457.out BK445.out (by decide)) BK444.out (by decide)) (fun _ hk => hk.1.2) (.slice Ao22 y455.length co22)) (fun _ hk => hk.2)) (fun _ hk => hk.1.1), qB HB⟩

/-! ### spec_Hear: function 23 -/
def spec_Hear.f (k : Nat) (a0_0 : Int) (a0_1 : Int) (a0_2 : Int) (a0_3 : Bool) (l0_4 : List Int) (l0_5 : List Int) (a0_6 : Int) (a0_7 : Int) (l1 : List Int) : Option (Int × Int × Int × Bool × List Int × List Int × Int × Int × Bool) := (spec_l8Copy.f a0_0 a0_1 a0_2 a0_3 l0_4 l0_5 a0_6 a0_7).bind fun bt460 => ((spec_SockOk.f k a0_0 a0_1 a0_2 a0_3 l0_4 l0_5 a0_6 a0_7).bind fun t473 => (if t473 = true then (if a0_3 = true then (some (bt460.1, bt460.2.1, bt460.2.2.1, bt460.2.2.2.1, bt460.2.2.2.2.1, bt460.2.2.2.2.2.1, bt460.2.2.2.2.2.2.1, bt460.2.2.2.2.2.2.2, false)) else (if (l1.length : Int) > (wrap64 (240 - (l0_4.length : Int))) then (some (bt460.1, bt460.2.1, bt460.2.2.1, bt460.2.2.2.1, bt460.2.2.2.2.1, bt460.2.2.2.2.2.1, bt460.2.2.2.2.2.2.1, bt460.2.2.2.2.2.2.2, false)) else (if bt460.2.2.2.2.1.length + l1.length < 140737488355328 then (some (bt460.1, bt460.2.1, bt460.2.2.1, bt460.2.2.2.1, (bt460.2.2.2.2.1 ++ l1), bt460.2.2.2.2.2.1, bt460.2.2.2.2.2.2.1, bt460.2.2.2.2.2.2.2, true)) else (none)))) else (some (bt460.1, bt460.2.1, bt460.2.2.1, bt460.2.2.2.1, bt460.2.2.2.2.1, bt460.2.2.2.2.2.1, bt460.2.2.2.2.2.2.1, bt460.2.2.2.2.2.2.2, false))))
theorem spec_Hear.mono : ∀ a0 a1 a2 a3 a4 a5 a6 a7 a8 k, LeO (spec_Hear.f k a0 a1 a2 a3 a4 a5 a6 a7 a8) (spec_Hear.f (k + 1) a0 a1 a2 a3 a4 a5 a6 a7 a8) := by
 intro a0 a1 a2 a3 a4 a5 a6 a7 a8 k
 unfold spec_Hear.f
 have m0 := @spec_SockOk.mono; exact mo_
set_option maxHeartbeats 8000000 in
set_option maxRecDepth 100000 in
theorem spec_Hear.calls (k : Nat) (a0_0 : Int) (a0_1 : Int) (a0_2 : Int) (a0_3 : Bool) (A0_4 : Option Addr) (c0_4 : Nat) (l0_4 : List Int) (A0_5 : Option Addr) (c0_5 : Nat) (l0_5 : List Int) (a0_6 : Int) (a0_7 : Int) (A1 : Option Addr) (c1 : Nat) (l1 : List Int) (r1 : Int) (r2 : Int) (r3 : Int) (r4 : Bool) (r5 : List Int) (r6 : List Int) (r7 : Int) (r8 : Int) (r9 : Bool) (w : World) (hr0_4 : Kd.C (Kd.int .u8) w A0_4 l0_4.length l0_4) (hc0_4 : l0_4.length ≤ c0_4) (hr0_5 : Kd.C (Kd.int .u8) w A0_5 l0_5.length l0_5) (hc0_5 : l0_5.length ≤ c0_5) (hr1 : Kd.C (Kd.int .u8) w A1 l1.length l1) (hc1 : l1.length ≤ c1) (h : spec_Hear.f k a0_0 a0_1 a0_2 a0_3 l0_4 l0_5 a0_6 a0_7 l1 = some (r1, r2, r3, r4, r5, r6, r7, r8, r9)) :
  Calls Try.prog 23 #[.agg #[.int .i64 a0_0, .int .i64 a0_1, .int .i64 a0_2, .bool a0_3, .slice A0_4 l0_4.length c0_4, .slice A0_5 l0_5.length c0_5, .int .i64 a0_6, .int .i64 a0_7], .slice A1 l1.length c1] w fun e w' => ∃ v4_ v5_ : Value, e = .returned (.tuple #[.agg #[.int .i64 r1, .int .i64 r2, .int .i64 r3, .bool r4, v4_, v5_, .int .i64 r7, .int .i64 r8], .bool r9]) ∧ Kd.R (Kd.int .u8) 5 w' w.heap.size (fun k_ => nv v5_ k_) v4_ r5 ∧ Kd.R (Kd.int .u8) 5 w' w.heap.size (fun k_ => nv v4_ k_) v5_ r6 ∧ Below w.heap.size w w' := by
 have hu41 := Try.underlying41
 have HR0_4 := Aside0.mk hr0_4
 have HC0_4 := Aside0.mk hc0_4
 clear hr0_4 hc0_4
 have HR0_5 := Aside0.mk hr0_5
 have HC0_5 := Aside0.mk hc0_5
 clear hr0_5 hc0_5
 have HR1 := Aside0.mk hr1
 have HC1 := Aside0.mk hc1
 clear hr1 hc1
 have HB := Aside0.mk (Below.refl w.heap.size w)
 have H := h
 unfold spec_Hear.f at H
 clear h
 replace H := bf_ H
 obtain ⟨f_, hf_, ⟨t460, t461, t462, t463, t464, t467, t470, t471⟩, A3, H⟩ := H
 subst hf_
 (try dsimp only at H)
 have HC4 := Aside0.mk H
 clear H
 go_enter Try.func23, Try.ntmps23
 go_upto_region 2 with (first | ((with_reducible refine gate_dst (N := 2) rfl ?_); (try (refine gate_guard (by rfl) ?_; dsimp only)); refine bx_ (N := 2) (cs := #[.int .i64 a0_0, .int .i64 a0_1, .int .i64 a0_2, .bool a0_3, .slice A0_4 l0_4.length c0_4, .slice A0_5 l0_5.length c0_5, .int .i64 a0_6, .int .i64 a0_7]) (t := 41) ?_; intro gb458 hg w5 hbox hb; have BK458 := am_ (hbox); have GW458 := gA_ hg HB; have GE458 := GW458; have IGE458 := gI_ GE458; replace HB := bS_ HB hb; clear hb hbox hg) | ((with_reducible refine gate_dst (N := 4) rfl ?_); (try (refine gate_guard (by rfl) ?_; dsimp only)); refine bx_ (N := 4) (cs := #[.int .i64 0, .int .i64 0, .int .i64 0, .bool false, .slice none 0 0, .slice none 0 0, .int .i64 0, .int .i64 0]) (t := 41) ?_; intro gb459 hg w6 hbox hb; have BK459 := am_ (hbox); have GW459 := gA_ hg HB; have GE459 := GW459; have IGE459 := gI_ GE459; replace HB := bS_ HB hb; have NB458_459 := am_ ((gN_ hg (qK BK458))); have NB459_458 := am_ ((gM_ hg (qK BK458))); replace BK458 := bK_ BK458 hb; clear hb hbox hg; have hnb7 := NB458_459.out; have hnc7 := NB459_458.out; (try clear zK458); have zK458 := cz8 BK458.out; (try clear fK458); have fK458 := fz8 BK458.out) | ((with_reducible refine gate_callee (f := 93) rfl ?_); refine gl_ (some 8) Try.func93 #[.agg #[.int .i64 a0_0, .int .i64 a0_1, .int .i64 a0_2, .bool a0_3, .slice A0_4 l0_4.length c0_4, .slice A0_5 l0_5.length c0_5, .int .i64 a0_6, .int .i64 a0_7]] ?_; (with_reducible refine (spec_l8Copy.calls a0_0 a0_1 a0_2 a0_3 _ _ l0_4 _ _ l0_5 a0_6 a0_7 t460 t461 t462 t463 t464 t467 t470 t471 _ ?side1 ?side2 ?side3 ?side4 A3.out).mono ?_); (case side1 => exact qC (Kd.C_below HR0_4.out HB.out)); (case side2 => exact HC0_4.out); (case side3 => exact qC (Kd.C_below HR0_5.out HB.out)); (case side4 => exact HC0_5.out); rintro e w9 ⟨v465, v468, rfl, ho0, ho1, hb⟩; refine ⟨_, rfl, ?_⟩; have HO466 := am_ (Kd.R_lower ho0 (below_size (qB HB))); have HO469 := am_ (Kd.R_lower ho1 (below_size (qB HB))); replace BK458 := bK_ BK458 hb; replace BK459 := bK_ BK459 hb; replace HB := bS_ HB hb; (try clear hb); (try clear ho0); (try clear ho1)) | ((with_reducible refine gate_dst (N := 6) rfl ?_); (try (refine gate_guard (by rfl) ?_; dsimp only)); refine bx_ (N := 6) (cs := #[.int .i64 0, .int .i64 0, .int .i64 0, .bool false, .slice none 0 0, .slice none 0 0, .int .i64 0, .int .i64 0]) (t := 41) ?_; intro gb472 hg w10 hbox hb; replace HO466 := rB_ HO466 hb; replace HO469 := rB_ HO469 hb; have BK472 := am_ (hbox); have GW472 := gA_ hg HB; have GE472 := GW472; have IGE472 := gI_ GE472; replace HB := bS_ HB hb; have NB458_472 := am_ ((gN_ hg (qK BK458))); have NB472_458 := am_ ((gM_ hg (qK BK458))); replace BK458 := bK_ BK458 hb; have NB459_472 := am_ ((gN_ hg (qK BK459))); have NB472_459 := am_ ((gM_ hg (qK BK459))); replace BK459 := bK_ BK459 hb; clear hb hbox hg; have hnb11 := NB472_458.out; have hnc11 := NB458_472.out; have hnb12 := NB472_459.out; have hnc12 := NB459_472.out; (try clear zK472); have zK472 := cz8 BK472.out; (try clear fK472); have fK472 := fz8 BK472.out; obtain ⟨Ao14, co14, eo14⟩ := Kd.R_slice HO466.out; subst eo14; obtain ⟨Ao15, co15, eo15⟩ := Kd.R_slice HO469.out; subst eo15))
 (try simp only [Act.put, List.setIfInBounds_toArray, List.set_cons_zero, List.set_cons_succ])
 have n0_ : Aside0 (Kd.R (Kd.int .u8) 5 ((((((((w10.setCell ⟨gb472, 0, none⟩ (.int .i64 t460)).setCell ⟨gb472, 1, none⟩ (.int .i64 t461)).setCell ⟨gb472, 2, none⟩ (.int .i64 t462)).setCell ⟨gb472, 3, none⟩ (.bool t463)).setCell ⟨gb472, 4, none⟩ (.slice Ao14 t464.length co14)).setCell ⟨gb472, 5, none⟩ (.slice Ao15 t467.length co15)).setCell ⟨gb472, 6, none⟩ (.int .i64 t470)).setCell ⟨gb472, 7, none⟩ (.int .i64 t471)) w.heap.size (fun k_ => nb Ao15 t467.length co15 k_) (.slice Ao14 t464.length co14) t464) := fR3_ HO466 BK472
 have n1_ : Aside0 (Kd.R (Kd.int .u8) 5 ((((((((w10.setCell ⟨gb472, 0, none⟩ (.int .i64 t460)).setCell ⟨gb472, 1, none⟩ (.int .i64 t461)).setCell ⟨gb472, 2, none⟩ (.int .i64 t462)).setCell ⟨gb472, 3, none⟩ (.bool t463)).setCell ⟨gb472, 4, none⟩ (.slice Ao14 t464.length co14)).setCell ⟨gb472, 5, none⟩ (.slice Ao15 t467.length co15)).setCell ⟨gb472, 6, none⟩ (.int .i64 t470)).setCell ⟨gb472, 7, none⟩ (.int .i64 t471)) w.heap.size (fun k_ => nb Ao14 t464.length co14 k_) (.slice Ao15 t467.length co15) t467) := fR3_ HO469 BK472
 have n2_ : Aside0 (((((((((w10.setCell ⟨gb472, 0, none⟩ (.int .i64 t460)).setCell ⟨gb472, 1, none⟩ (.int .i64 t461)).setCell ⟨gb472, 2, none⟩ (.int .i64 t462)).setCell ⟨gb472, 3, none⟩ (.bool t463)).setCell ⟨gb472, 4, none⟩ (.slice Ao14 t464.length co14)).setCell ⟨gb472, 5, none⟩ (.slice Ao15 t467.length co15)).setCell ⟨gb472, 6, none⟩ (.int .i64 t470)).setCell ⟨gb472, 7, none⟩ (.int .i64 t471)).heap[gb458]? = some (.cells #[.int .i64 a0_0, .int .i64 a0_1, .int .i64 a0_2, .bool a0_3, .slice A0_4 l0_4.length c0_4, .slice A0_5 l0_5.length c0_5, .int .i64 a0_6, .int .i64 a0_7] 41 (0, 0))) := ⟨by (with_reducible repeat (first | refine blk_drewN ?_ _ | refine blk_drew ?_ | refine blk_alloc ?_ _)); refine blk_far8 ?_ NB458_472.out; exact qK BK458⟩
 have n3_ : Aside0 (((((((((w10.setCell ⟨gb472, 0, none⟩ (.int .i64 t460)).setCell ⟨gb472, 1, none⟩ (.int .i64 t461)).setCell ⟨gb472, 2, none⟩ (.int .i64 t462)).setCell ⟨gb472, 3, none⟩ (.bool t463)).setCell ⟨gb472, 4, none⟩ (.slice Ao14 t464.length co14)).setCell ⟨gb472, 5, none⟩ (.slice Ao15 t467.length co15)).setCell ⟨gb472, 6, none⟩ (.int .i64 t470)).setCell ⟨gb472, 7, none⟩ (.int .i64 t471)).heap[gb459]? = some (.cells #[.int .i64 0, .int .i64 0, .int .i64 0, .bool false, .slice none 0 0, .slice none 0 0, .int .i64 0, .int .i64 0] 41 (0, 0))) := ⟨by (with_reducible repeat (first | refine blk_drewN ?_ _ | refine blk_drew ?_ | refine blk_alloc ?_ _)); refine blk_far8 ?_ NB459_472.out; exact qK BK459⟩
 have n4_ : Aside0 (((((((((w10.setCell ⟨gb472, 0, none⟩ (.int .i64 t460)).setCell ⟨gb472, 1, none⟩ (.int .i64 t461)).setCell ⟨gb472, 2, none⟩ (.int .i64 t462)).setCell ⟨gb472, 3, none⟩ (.bool t463)).setCell ⟨gb472, 4, none⟩ (.slice Ao14 t464.length co14)).setCell ⟨gb472, 5, none⟩ (.slice Ao15 t467.length co15)).setCell ⟨gb472, 6, none⟩ (.int .i64 t470)).setCell ⟨gb472, 7, none⟩ (.int .i64 t471)).heap[gb472]? = some (.cells #[.int .i64 t460, .int .i64 t461, .int .i64 t462, .bool t463, .slice Ao14 t464.length co14, .slice Ao15 t467.length co15, .int .i64 t470, .int .i64 t471] 41 (0, 0))) := ⟨by (with_reducible repeat (first | refine blk_drewN ?_ _ | refine blk_drew ?_ | refine blk_alloc ?_ _)); refine blk_all8 (show _ = some (Go.Obj.cells #[.int .i64 0, .int .i64 0, .int .i64 0, .bool false, .slice none 0 0, .slice none 0 0, .int .i64 0, .int .i64 0] _ (0, 0)) from ?_); exact qK BK472⟩
 have n5_ : Aside0 (Below w.heap.size w ((((((((w10.setCell ⟨gb472, 0, none⟩ (.int .i64 t460)).setCell ⟨gb472, 1, none⟩ (.int .i64 t461)).setCell ⟨gb472, 2, none⟩ (.int .i64 t462)).setCell ⟨gb472, 3, none⟩ (.bool t463)).setCell ⟨gb472, 4, none⟩ (.slice Ao14 t464.length co14)).setCell ⟨gb472, 5, none⟩ (.slice Ao15 t467.length co15)).setCell ⟨gb472, 6, none⟩ (.int .i64 t470)).setCell ⟨gb472, 7, none⟩ (.int .i64 t471))) := ⟨qB HB⟩
 (try clear HO466)
 (try clear HO469)
 (try clear BK458)
 (try clear BK459)
 (try clear BK472)
 (try clear HB)
 generalize ((((((((w10.setCell ⟨gb472, 0, none⟩ (.int .i64 t460)).setCell ⟨gb472, 1, none⟩ (.int .i64 t461)).setCell ⟨gb472, 2, none⟩ (.int .i64 t462)).setCell ⟨gb472, 3, none⟩ (.bool t463)).setCell ⟨gb472, 4, none⟩ (.slice Ao14 t464.length co14)).setCell ⟨gb472, 5, none⟩ (.slice Ao15 t467.length co15)).setCell ⟨gb472, 6, none⟩ (.int .i64 t470)).setCell ⟨gb472, 7, none⟩ (.int .i64 t471)) = w16 at n0_ n1_ n2_ n3_ n4_ n5_ ⊢
 have HO466 := n0_
 have HO469 := n1_
 have BK458 := n2_
 have BK459 := n3_
 have BK472 := n4_
 have HB := n5_
 clear n0_ n1_ n2_ n3_ n4_ n5_
 have H := HC4.out
 clear HC4
 replace H := bd_ H
 obtain ⟨t473, A17, H⟩ := H
 by_cases c18 : t473 = true
 rotate_left
 ·
  replace c18 := Bool.eq_false_iff.mpr c18
  subst c18
  rw [if_neg (show ¬ (false = true) by decide)] at H
  simp only [Option.some.injEq, Prod.mk.injEq] at H
  obtain ⟨rfl, rfl, rfl, rfl, rfl, rfl, rfl, rfl, rfl⟩ := H
  have hnb49 := NB458_459.out
  have hnc49 := NB459_458.out
  have hnb50 := NB458_472.out
  have hnc50 := NB472_458.out
  (try clear zK458)
  have zK458 := cz8 BK458.out
  go_wp2_with (first | ((with_reducible refine gate_callee (f := 31) rfl ?_); refine gl_ (some 10) Try.func31 #[.agg #[.int .i64 a0_0, .int .i64 a0_1, .int .i64 a0_2, .bool a0_3, .slice A0_4 l0_4.length c0_4, .slice A0_5 l0_5.length c0_5, .int .i64 a0_6, .int .i64 a0_7]] ?_; (with_reducible refine (spec_SockOk.calls k a0_0 a0_1 a0_2 a0_3 _ _ l0_4 _ _ l0_5 a0_6 a0_7 false _ ?side1 ?side2 ?side3 ?side4 A17.out).mono ?_); (case side1 => exact qC (Kd.C_below HR0_4.out HB.out)); (case side2 => exact HC0_4.out); (case side3 => exact qC (Kd.C_below HR0_5.out HB.out)); (case side4 => exact HC0_5.out); rintro e w52 ⟨rfl, hb⟩; refine ⟨_, rfl, ?_⟩; replace HO466 := rB_ HO466 hb; replace HO469 := rB_ HO469 hb; replace BK458 := bK_ BK458 hb; replace BK459 := bK_ BK459 hb; replace BK472 := bK_ BK472 hb; replace HB := bS_ HB hb; (try clear hb); have hnb53 := NB472_459.out; have hnc53 := NB459_472.out; (try clear zK472); have zK472 := cz8 BK472.out; (try clear fK472); have fK472 := fz8 BK472.out; (try clear zK459); have zK459 := cz8 BK459.out; (try clear fK459); have fK459 := fz8 BK459.out))
  refine bodyPost_ret (results_ct rfl _ _ gb459 41 #[.int .i64 t460, .int .i64 t461, .int .i64 t462, .bool t463, .slice Ao14 t464.length co14, .slice Ao15 t467.length co15, .int .i64 t470, .int .i64 t471] (0, 0) _ rfl (by exact blk_all8 (qK BK459)) Try.underlying41 rfl (by kernel_rfl)) rfl ?_
  exact ⟨_, _, er_, (fR2_ HO466 BK459), (fR2_ HO469 BK459), qB HB⟩
 subst c18
 rw [if_pos rfl] at H
 by_cases c19 : a0_3 = true
 ·
  subst c19
  rw [if_pos rfl] at H
  simp only [Option.some.injEq, Prod.mk.injEq] at H
  obtain ⟨rfl, rfl, rfl, rfl, rfl, rfl, rfl, rfl, rfl⟩ := H
  have hnb20 := NB458_459.out
  have hnc20 := NB459_458.out
  have hnb21 := NB458_472.out
  have hnc21 := NB472_458.out
  (try clear zK458)
  have zK458 := cz8 BK458.out
  go_wp2_with (first | ((with_reducible refine gate_callee (f := 31) rfl ?_); refine gl_ (some 10) Try.func31 #[.agg #[.int .i64 a0_0, .int .i64 a0_1, .int .i64 a0_2, .bool true, .slice A0_4 l0_4.length c0_4, .slice A0_5 l0_5.length c0_5, .int .i64 a0_6, .int .i64 a0_7]] ?_; (with_reducible refine (spec_SockOk.calls k a0_0 a0_1 a0_2 true _ _ l0_4 _ _ l0_5 a0_6 a0_7 true _ ?side1 ?side2 ?side3 ?side4 A17.out).mono ?_); (case side1 => exact qC (Kd.C_below HR0_4.out HB.out)); (case side2 => exact HC0_4.out); (case side3 => exact qC (Kd.C_below HR0_5.out HB.out)); (case side4 => exact HC0_5.out); rintro e w23 ⟨rfl, hb⟩; refine ⟨_, rfl, ?_⟩; replace HO466 := rB_ HO466 hb; replace HO469 := rB_ HO469 hb; replace BK458 := bK_ BK458 hb; replace BK459 := bK_ BK459 hb; replace BK472 := bK_ BK472 hb; replace HB := bS_ HB hb; (try clear hb); (try clear zK458); have zK458 := cz8 BK458.out; have hnb25 := NB472_459.out; have hnc25 := NB459_472.out; (try clear zK472); have zK472 := cz8 BK472.out; (try clear fK472); have fK472 := fz8 BK472.out; (try clear zK459); have zK459 := cz8 BK459.out; (try clear fK459); have fK459 := fz8 BK459.out))
  refine bodyPost_ret (results_ct rfl _ _ gb459 41 #[.int .i64 t460, .int .i64 t461, .int .i64 t462, .bool t463, .slice Ao14 t464.length co14, .slice Ao15 t467.length co15, .int .i64 t470, .int .i64 t471] (0, 0) _ rfl (by exact blk_all8 (qK BK459)) Try.underlying41 rfl (by kernel_rfl)) rfl ?_
  exact ⟨_, _, er_, (fR2_ HO466 BK459), (fR2_ HO469 BK459), qB HB⟩
 replace c19 := Bool.eq_false_iff.mpr c19
 subst c19
 rw [if_neg (show ¬ (false = true) by decide)] at H
 have HC28 := Aside0.mk H
 clear H
 have hnb29 := NB458_459.out
 have hnc29 := NB459_458.out
 have hnb30 := NB458_472.out
 have hnc30 := NB472_458.out
 (try clear zK458)
 have zK458 := cz8 BK458.out
 go_upto_if 24 with (first | ((with_reducible refine gate_callee (f := 31) rfl ?_); refine gl_ (some 10) Try.func31 #[.agg #[.int .i64 a0_0, .int .i64 a0_1, .int .i64 a0_2, .bool false, .slice A0_4 l0_4.length c0_4, .slice A0_5 l0_5.length c0_5, .int .i64 a0_6, .int .i64 a0_7]] ?_; (with_reducible refine (spec_SockOk.calls k a0_0 a0_1 a0_2 false _ _ l0_4 _ _ l0_5 a0_6 a0_7 true _ ?side1 ?side2 ?side3 ?side4 A17.out).mono ?_); (case side1 => exact qC (Kd.C_below HR0_4.out HB.out)); (case side2 => exact HC0_4.out); (case side3 => exact qC (Kd.C_below HR0_5.out HB.out)); (case side4 => exact HC0_5.out); rintro e w32 ⟨rfl, hb⟩; refine ⟨_, rfl, ?_⟩; replace HO466 := rB_ HO466 hb; replace HO469 := rB_ HO469 hb; replace BK458 := bK_ BK458 hb; replace BK459 := bK_ BK459 hb; replace BK472 := bK_ BK472 hb; replace HB := bS_ HB hb; (try clear hb); (try clear zK458); have zK458 := cz8 BK458.out))
 (try simp only [Act.put, List.setIfInBounds_toArray, List.set_cons_zero, List.set_cons_succ])
 have H := HC28.out
 clear HC28
 by_cases c34 : (l1.length : Int) > (wrap64 (240 - (l0_4.length : Int)))
 ·
  rw [if_pos c34] at H
  have c34b0 : decide ((wrap64 (240 - (l0_4.length : Int))) < (l1.length : Int)) = true := decide_eq_true c34
  clear c34
  (first | rw [c34b0] | (simp only [i64_w, i32_w]; rw [c34b0]) | skip)
  simp only [Option.some.injEq, Prod.mk.injEq] at H
  obtain ⟨rfl, rfl, rfl, rfl, rfl, rfl, rfl, rfl, rfl⟩ := H
  have hnb35 := NB472_458.out
  have hnc35 := NB458_472.out
  have hnb36 := NB472_459.out
  have hnc36 := NB459_472.out
  (try clear zK472)
  have zK472 := cz8 BK472.out
  (try clear fK472)
  have fK472 := fz8 BK472.out
  have hnb38 := NB459_458.out
  have hnc38 := NB458_459.out
  (try clear zK459)
  have zK459 := cz8 BK459.out
  (try clear fK459)
  have fK459 := fz8 BK459.out
  go_wp2
  refine bodyPost_ret (results_ct rfl _ _ gb459 41 #[.int .i64 t460, .int .i64 t461, .int .i64 t462, .bool t463, .slice Ao14 t464.length co14, .slice Ao15 t467.length co15, .int .i64 t470, .int .i64 t471] (0, 0) _ rfl (by exact blk_all8 (qK BK459)) Try.underlying41 rfl (by kernel_rfl)) rfl ?_
  exact ⟨_, _, er_, (fR2_ HO466 BK459), (fR2_ HO469 BK459), qB HB⟩
 rw [if_neg c34] at H
 have c34b0 : decide ((wrap64 (240 - (l0_4.length : Int))) < (l1.length : Int)) = false := decide_eq_false c34
 clear c34
 (first | rw [c34b0] | (simp only [i64_w, i32_w]; rw [c34b0]) | skip)
 by_cases c40 : t464.length + l1.length < 140737488355328
 case neg => exact nn_ c40 H
 rw [if_pos c40] at H
 have LMc40 := Aside0.mk c40
 clear c40
 obtain ⟨y474, hy474⟩ : ∃ y_ : List Int, y_ = (t464 ++ l1) := ⟨_, rfl⟩
 replace H : (some (t460, t461, t462, t463, y474, t467, t470, t471, true)) = some (r1, r2, r3, r4, r5, r6, r7, r8, r9) := by first | (rw [hy474]; with_reducible exact H) | (have H2_ := (Option.bind_some _ _).symm.trans H; rw [hy474]; with_reducible exact H2_) | (have H2_ := (Option.bind_some _ _).symm.trans H; with_reducible exact H2_) | with_reducible exact H | (rw [hy474]; exact H) | exact H
 have Ny474 := Aside0.mk hy474
 clear hy474
 simp only [Option.some.injEq, Prod.mk.injEq] at H
 obtain ⟨rfl, rfl, rfl, rfl, rfl, rfl, rfl, rfl, rfl⟩ := H
 have hnb41 := NB472_458.out
 have hnc41 := NB458_472.out
 have hnb42 := NB472_459.out
 have hnc42 := NB459_472.out
 (try clear zK472)
 have zK472 := cz8 BK472.out
 (try clear fK472)
 have fK472 := fz8 BK472.out
 go_wp2_with (first | ((with_reducible refine gate_builtin (b := .append) (xs := #[.tmp 27, .tmp 28]) rfl ?_); (try (refine gate_guard (by rfl) ?_; dsimp only)); at_builtin; refine Kd.R_append_rows (Kd.int .u8) (w0 := w) w.heap.size rfl (.tmp 27) (.tmp 28) 22 5 (.int .u8 0) 1 rfl Try.underlying22 info5 rfl (by decide) (by omega) (.slice Ao14 t464.length co14) t464 l1 _ _ _ (fun k_ => nb Ao15 t467.length co15 k_) (fun _ => False) rfl rfl ?aO ?aR (fun _ _ h => h) (fun _ h => h.elim) ?aF ?aB ?aS ?aL ?_; (case aR => exact qC (Kd.C_below HR1.out HB.out)); (case aB => exact (qB HB)); (case aF => exact (fun k_ hk => Kd.fresh' (Kd.R_lt (qR HO469)) k_ hk)); (case aO => exact (qR HO466)); (case aS => exact (below_size (qB HB))); (case aL => have := LMc40.out; omega); intro v475 w44 ho hb hg hat; rw [← Ny474.out] at ho; replace BK458 := kG_ BK458 HO466 hg; replace BK459 := kG_ BK459 HO466 hg; replace HO469 := am_ (Kd.R_after (ok := (fun _ => True)) (tR (Kd.R_mono HO469.out (fun _ hk => ⟨trivial, hk⟩))) hg hat); replace BK472 := kG_ BK472 HO466 hg; replace HB := am_ (hb); have HO476 := am_ (ho); clear HO466; clear ho hb hg hat; obtain ⟨Ao45, co45, eo45⟩ := Kd.R_slice HO476.out; subst eo45; (try clear zK472); have zK472 := cz8 BK472.out; (try clear fK472); have fK472 := fz8 BK472.out; have hnb47 := NB459_458.out; have hnc47 := NB458_459.out; (try clear zK459); have zK459 := cz8 BK459.out; (try clear fK459); have fK459 := fz8 BK459.out))
 refine bodyPost_ret (results_ct rfl _ _ gb459 41 #[.int .i64 t460, .int .i64 t461, .int .i64 t462, .bool t463, .slice Ao45 y474.length co45, .slice Ao15 t467.length co15, .int .i64 t470, .int .i64 t471] (0, 0) _ rfl (by exact blk_all8 (blk_far1 (qK BK459) NB459_472.out)) Try.underlying41 rfl (by kernel_rfl)) rfl ?_
 exact ⟨_, _, er_, by (with_reducible repeat (first | apply Kd.R_alloc | apply Kd.R_drewN | apply Kd.R_drew)); exact Kd.R_mono (R_far8 (g := gb459) (Kd.R_far (p := ⟨gb472, 4, none⟩) (Kd.R_types (Kd.R_types HO476.out BK472.out (by decide)) BK459.out (by decide)) (fun _ hk => hk.1.2) (.slice Ao45 y474.length co45)) (fun _ hk => hk.2)) (fun _ hk => hk.1.1), by (with_reducible repeat (first | apply Kd.R_alloc | apply Kd.R_drewN | apply Kd.R_drew)); exact Kd.R_mono (R_far8 (g := gb459) (Kd.R_far (p := ⟨gb472, 4, none⟩) (Kd.R_types (Kd.R_types HO469.out BK472.out (by decide)) BK459.out (by decide)) (fun _ hk => hk.1.2) (.slice Ao45 y474.length co45)) (fun _ hk => hk.2)) (fun _ hk => hk.1.1.2), qB HB⟩

/-! ### spec_DrawEat: function 24 -/
def spec_DrawEat.f (k : Nat) (l0 : List Int) : Option (Int × Int × Int × Bool × List Int × List Int × Int × Int) := (spec_l1New.f k l0).bind fun bt478 => ((spec_l8Any.f k bt478.1 bt478.2.1 bt478.2.2).bind fun bt482 => (some (bt482.1, bt482.2.1, bt482.2.2.1, bt482.2.2.2.1, bt482.2.2.2.2.1, bt482.2.2.2.2.2.1, bt482.2.2.2.2.2.2.1, bt482.2.2.2.2.2.2.2.1)))
theorem spec_DrawEat.mono : ∀ a0 k, LeO (spec_DrawEat.f k a0) (spec_DrawEat.f (k + 1) a0) := by
 intro a0 k
 unfold spec_DrawEat.f
 have m0 := @spec_l1New.mono; have m1 := @spec_l8Any.mono; exact mo_
set_option maxHeartbeats 8000000 in
set_option maxRecDepth 100000 in
theorem spec_DrawEat.calls (k : Nat) (A0 : Option Addr) (c0 : Nat) (l0 : List Int) (r1 : Int) (r2 : Int) (r3 : Int) (r4 : Bool) (r5 : List Int) (r6 : List Int) (r7 : Int) (r8 : Int) (w : World) (hr0 : Kd.C (Kd.int .u8) w A0 l0.length l0) (hc0 : l0.length ≤ c0) (h : spec_DrawEat.f k l0 = some (r1, r2, r3, r4, r5, r6, r7, r8)) :
  Calls Try.prog 24 #[.slice A0 l0.length c0] w fun e w' => ∃ v4_ v5_ : Value, e = .returned (.agg #[.int .i64 r1, .int .i64 r2, .int .i64 r3, .bool r4, v4_, v5_, .int .i64 r7, .int .i64 r8]) ∧ Kd.R (Kd.int .u8) 5 w' w.heap.size (fun k_ => nv v5_ k_) v4_ r5 ∧ Kd.R (Kd.int .u8) 5 w' w.heap.size (fun k_ => nv v4_ k_) v5_ r6 ∧ Below w.heap.size w w' := by
 have hu41 := Try.underlying41
 have HR0 := Aside0.mk hr0
 have HC0 := Aside0.mk hc0
 clear hr0 hc0
 have HB := Aside0.mk (Below.refl w.heap.size w)
 have H := h
 unfold spec_DrawEat.f at H
 clear h
 replace H := bf_ H
 obtain ⟨f_, hf_, ⟨t478, t479, t480⟩, A2, H⟩ := H
 subst hf_
 (try dsimp only at H)
 replace H := bf_ H
 obtain ⟨f_, hf_, ⟨t482, t483, t484, t485, t486, t489, t492, t493, t494, t495⟩, A3, H⟩ := H
 subst hf_
 (try dsimp only at H)
 simp only [Option.some.injEq, Prod.mk.injEq] at H
 obtain ⟨rfl, rfl, rfl, rfl, rfl, rfl, rfl, rfl⟩ := H
 go_enter Try.func24, Try.ntmps24
 go_wp2_with (first | ((with_reducible refine gate_dst (N := 2) rfl ?_); refine bx_ (N := 2) (cs := #[.int .i64 0, .int .i64 0, .int .i64 0, .bool false, .slice none 0 0, .slice none 0 0, .int .i64 0, .int .i64 0]) (t := 41) ?_; intro gb477 hg w4 hbox hb; have BK477 := am_ (hbox); have GW477 := gA_ hg HB; have GE477 := GW477; have IGE477 := gI_ GE477; replace HB := bS_ HB hb; clear hb hbox hg) | ((with_reducible refine gate_callee (f := 59) rfl ?_); refine gl_ (some 5) Try.func59 #[.slice A0 l0.length c0] ?_; (with_reducible refine (spec_l1New.calls k _ _ l0 t478 t479 t480 w _ ?side1 ?side2 ?side3 A2.out).mono ?_); (case side1 => exact qB HB); (case side2 => exact HR0.out); (case side3 => exact HC0.out); rintro e w5 ⟨g481, rfl, hi, hb, hb2⟩; refine ⟨_, rfl, ?_⟩; replace HB := am_ (hb); have HI481 := am_ (hi); have IGHI481 := iG_ HI481.out.ge; have NB481_477 := am_ (IsS128.ne_blk hi (blk_below (qK BK477) hb2) (by decide)); have NB477_481 := am_ (Ne.symm (IsS128.ne_blk hi (blk_below (qK BK477) hb2) (by decide))); replace BK477 := am_ (blk_below (qK BK477) hb2); (try clear hb); (try clear hb2); (try clear hi)) | ((with_reducible refine gate_callee (f := 90) rfl ?_); refine gl_ (some 7) Try.func90 #[.pointer (some ⟨g481, 0, none⟩)] ?_; (with_reducible refine (spec_l8Any.calls k g481 t478 t479 t480 t482 t483 t484 t485 t486 t489 t492 t493 t494 t495 w _ ?side1 ?side2 A3.out).mono ?_); (case side1 => repeat (first | (with_reducible first | exact HI481.out | apply IsS128.alloc | apply IsS128.drewN | apply IsS128.drew | apply IsS128.set_1 | apply IsS128.set_2 | refine IsS128.far ?_ NB481_477.out _) | exact HI481.out)); (case side2 => exact qB HB); rintro e w6 ⟨v487, v490, rfl, ho0, ho1, hi, hb, hk⟩; refine ⟨_, rfl, ?_⟩; replace BK477 := kB_ BK477 hk NB477_481; have HO488 := am_ (Kd.R_lower ho0 (below_size (qB HB))); have HO491 := am_ (Kd.R_lower ho1 (below_size (qB HB))); replace HB := am_ (hb); replace HI481 := am_ (hi); (try clear hb); (try clear hk); (try clear hi); (try clear ho0); (try clear ho1); have hnb7 := NB477_481.out; have hnc7 := NB481_477.out; (try clear zK477); have zK477 := cz8 BK477.out; (try clear fK477); have fK477 := fz8 BK477.out; obtain ⟨Ao9, co9, eo9⟩ := Kd.R_slice HO488.out; subst eo9; obtain ⟨Ao10, co10, eo10⟩ := Kd.R_slice HO491.out; subst eo10))
 refine bodyPost_ret (results_cell_row rfl _ _ gb477 41 #[.int .i64 t482, .int .i64 t483, .int .i64 t484, .bool t485, .slice Ao9 t486.length co9, .slice Ao10 t489.length co10, .int .i64 t492, .int .i64 t493] (0, 0) _ rfl (by exact blk_all8 (qK BK477)) Try.underlying41 rfl (by kernel_rfl)) rfl ?_
 exact ⟨_, _, er_, (fR2_ HO488 BK477), (fR2_ HO491 BK477), qB HB⟩

/-! ### impl_nameOk: function 80 -/
def impl_nameOk.l0 : Nat → ByteArray → Int → Int → Option (Bool)
 | 0, _, _, _ => none
 | k + 1, x0, x5, x6 => if x6 < x5 then (if 0 ≤ x6 then (if x6 < (x0.size : Int) then (if (bt x0 x6) < 97 then (some false) else (if (bt x0 x6) > 122 then (some false) else (impl_nameOk.l0 k x0 x5 (wrap64 (x6 + 1))))) else (none)) else (none)) else ((impl_isIn.f (x0.size : Int) 1 8).bind fun t496 => (some t496))
def impl_nameOk.f (k : Nat) (a0 : ByteArray) : Option (Bool) := impl_nameOk.l0 k a0 (a0.size : Int) 0
theorem impl_nameOk.mono_l : ∀ k, (∀ y0 y1 y2, LeO (impl_nameOk.l0 k y0 y1 y2) (impl_nameOk.l0 (k + 1) y0 y1 y2))
 | 0 => fun _ _ _ r h => by simp [impl_nameOk.l0] at h
 | k + 1 => by
  have ih0 := impl_nameOk.mono_l k
  ·
   intro y0 y1 y2
   unfold impl_nameOk.l0
   exact mo_
theorem impl_nameOk.mono : ∀ a0 k, LeO (impl_nameOk.f k a0) (impl_nameOk.f (k + 1) a0) := by
 intro a0 k
 have ih0 := impl_nameOk.mono_l k
 unfold impl_nameOk.f
 exact mo_
set_option maxHeartbeats 8000000 in
set_option maxRecDepth 100000 in
theorem impl_nameOk.calls (k : Nat) (a0 : ByteArray) (r : Bool) (w : World) (h : impl_nameOk.f k a0 = some r) :
  Calls Try.prog 80 #[.string a0] w fun e w' => e = .returned (.bool r) ∧ Drawn0 w w' := by
 have H : (impl_nameOk.l0 k a0 (a0.size : Int) 0) = some r := h
 clear h
 have H' := Aside0.mk H
 clear H
 go_enter Try.func80, Try.ntmps80
 go_wp2
 go_loopg [6] k (fun kq v6 w' => ∃ (x6_1 : Int), v6 = .int .i64 x6_1 ∧ Aside0 (impl_nameOk.l0 kq a0 (a0.size : Int) x6_1 = some r) ∧ Aside0 (kq ≤ k) ∧ Drawn0 w w')
 case atStart => exact ⟨(0), eqq_, H', ⟨Nat.le_refl _⟩, by repeat (first | exact Drawn0.refl _ | apply Drawn0.step)⟩
 case round =>
  clear H'
  obtain ⟨x6_1, rfl, HA, HK1, ⟨m1, rfl⟩⟩ := hrel
  cases gk with
  | zero => exact absurd HA.out (by simp [impl_nameOk.l0])
  | succ k1 =>
   have H := HA.out
   clear HA
   simp only [impl_nameOk.l0] at H
   by_cases c2 : x6_1 < (a0.size : Int)
   rotate_left
   ·
    rw [if_neg c2] at H
    have c2b0 : decide (x6_1 < (a0.size : Int)) = false := decide_eq_false c2
    clear c2
    replace H := bd_ H
    obtain ⟨t496, A9, H⟩ := H
    obtain rfl := Option.some.inj H
    go_wp2_with (first | ((with_reducible refine gate_callee (f := 87) rfl ?_); refine gl_ (some 22) Try.func87 #[.int .i64 (a0.size : Int), .int .i64 1, .int .i64 8] ?_; (with_reducible refine (impl_isIn.calls (a0.size : Int) 1 8 t496 _ A9.out).mono ?_); rintro e w' ⟨rfl, ⟨nd, rfl⟩⟩; refine ⟨_, rfl, ?_⟩))
    go_ret
    exact ⟨by first | rfl | (simp; done) | (simp [*]; done), by repeat (first | exact Drawn0.refl _ | apply Drawn0.step)⟩
   rw [if_pos c2] at H
   have c2b0 : decide (x6_1 < (a0.size : Int)) = true := decide_eq_true c2
   clear c2
   by_cases c3 : 0 ≤ x6_1
   case neg => exact nn_ c3 H
   rw [if_pos c3] at H
   have c3b0 : decide (0 ≤ x6_1) = true := decide_eq_true c3
   clear c3
   by_cases c4 : x6_1 < (a0.size : Int)
   case neg => exact nn_ c4 H
   rw [if_pos c4] at H
   have c4b0 : decide (x6_1 < (a0.size : Int)) = true := decide_eq_true c4
   clear c4
   by_cases c6 : (bt a0 x6_1) < 97
   ·
    rw [if_pos c6] at H
    have c6b0 : decide ((bt a0 x6_1) < 97) = true := decide_eq_true c6
    clear c6
    obtain rfl := Option.some.inj H
    have p5 : 0 ≤ (x6_1 : Int) := od_
    have q5 : x6_1 < (a0.size : Int) := od_
    have hx5 := bt_at a0 x6_1
    replace p5 := eq_true p5
    replace q5 := eq_true q5
    go_wp2
    go_ret
    exact ⟨by first | rfl | (simp; done) | (simp [*]; done), by repeat (first | exact Drawn0.refl _ | apply Drawn0.step)⟩
   rw [if_neg c6] at H
   have c6b0 : decide ((bt a0 x6_1) < 97) = false := decide_eq_false c6
   clear c6
   by_cases c8 : (bt a0 x6_1) > 122
   ·
    rw [if_pos c8] at H
    have c8b0 : decide (122 < (bt a0 x6_1)) = true := decide_eq_true c8
    clear c8
    obtain rfl := Option.some.inj H
    have p5 : 0 ≤ (x6_1 : Int) := od_
    have q5 : x6_1 < (a0.size : Int) := od_
    have hx5 := bt_at a0 x6_1
    replace p5 := eq_true p5
    replace q5 := eq_true q5
    have p7 : 0 ≤ (x6_1 : Int) := od_
    have q7 : x6_1 < (a0.size : Int) := od_
    have hx7 := bt_at a0 x6_1
    replace p7 := eq_true p7
    replace q7 := eq_true q7
    go_wp2
    go_ret
    exact ⟨by first | rfl | (simp; done) | (simp [*]; done), by repeat (first | exact Drawn0.refl _ | apply Drawn0.step)⟩
   rw [if_neg c8] at H
   have c8b0 : decide (122 < (bt a0 x6_1)) = false := decide_eq_false c8
   clear c8
   have H' := Aside0.mk H
   clear H
   have p5 : 0 ≤ (x6_1 : Int) := od_
   have q5 : x6_1 < (a0.size : Int) := od_
   have hx5 := bt_at a0 x6_1
   replace p5 := eq_true p5
   replace q5 := eq_true q5
   have p7 : 0 ≤ (x6_1 : Int) := od_
   have q7 : x6_1 < (a0.size : Int) := od_
   have hx7 := bt_at a0 x6_1
   replace p7 := eq_true p7
   replace q7 := eq_true q7
   go_wp2
   go_roundg k1
   case measure => have := HK1.out; omega
   case rel => exact ⟨(wrap64 (x6_1 + 1)), eqq_, H', ⟨by have := HK1.out; omega⟩, by repeat (first | exact Drawn0.refl _ | apply Drawn0.step)⟩

/-! ### impl_TextOk: function 82 -/
def impl_TextOk.l0 : Nat → ByteArray → Int → Int → Option (Bool)
 | 0, _, _, _ => none
 | k + 1, x0, x5, x6 => if x6 < x5 then (if 0 ≤ x6 then (if x6 < (x0.size : Int) then (if (bt x0 x6) < 32 then (some false) else (if (bt x0 x6) > 126 then (some false) else (impl_TextOk.l0 k x0 x5 (wrap64 (x6 + 1))))) else (none)) else (none)) else (some (decide ((x0.size : Int) ≤ 100)))
def impl_TextOk.f (k : Nat) (a0 : ByteArray) : Option (Bool) := impl_TextOk.l0 k a0 (a0.size : Int) 0
theorem impl_TextOk.mono_l : ∀ k, (∀ y0 y1 y2, LeO (impl_TextOk.l0 k y0 y1 y2) (impl_TextOk.l0 (k + 1) y0 y1 y2))
 | 0 => fun _ _ _ r h => by simp [impl_TextOk.l0] at h
 | k + 1 => by
  have ih0 := impl_TextOk.mono_l k
  ·
   intro y0 y1 y2
   unfold impl_TextOk.l0
   exact mo_
theorem impl_TextOk.mono : ∀ a0 k, LeO (impl_TextOk.f k a0) (impl_TextOk.f (k + 1) a0) := by
 intro a0 k
 have ih0 := impl_TextOk.mono_l k
 unfold impl_TextOk.f
 exact mo_
set_option maxHeartbeats 8000000 in
set_option maxRecDepth 100000 in
theorem impl_TextOk.calls (k : Nat) (a0 : ByteArray) (r : Bool) (w : World) (h : impl_TextOk.f k a0 = some r) :
  Calls Try.prog 82 #[.string a0] w fun e w' => e = .returned (.bool r) ∧ Drawn0 w w' := by
 have H : (impl_TextOk.l0 k a0 (a0.size : Int) 0) = some r := h
 clear h
 have H' := Aside0.mk H
 clear H
 go_enter Try.func82, Try.ntmps82
 go_wp2
 go_loopg [6] k (fun kq v6 w' => ∃ (x6_1 : Int), v6 = .int .i64 x6_1 ∧ Aside0 (impl_TextOk.l0 kq a0 (a0.size : Int) x6_1 = some r) ∧ Aside0 (kq ≤ k) ∧ Drawn0 w w')
 case atStart => exact ⟨(0), eqq_, H', ⟨Nat.le_refl _⟩, by repeat (first | exact Drawn0.refl _ | apply Drawn0.step)⟩
 case round =>
  clear H'
  obtain ⟨x6_1, rfl, HA, HK1, ⟨m1, rfl⟩⟩ := hrel
  cases gk with
  | zero => exact absurd HA.out (by simp [impl_TextOk.l0])
  | succ k1 =>
   have H := HA.out
   clear HA
   simp only [impl_TextOk.l0] at H
   by_cases c2 : x6_1 < (a0.size : Int)
   rotate_left
   ·
    rw [if_neg c2] at H
    have c2b0 : decide (x6_1 < (a0.size : Int)) = false := decide_eq_false c2
    clear c2
    obtain rfl := Option.some.inj H
    go_wp2
    go_ret
    exact ⟨by first | rfl | (simp; done) | (simp [*]; done), by repeat (first | exact Drawn0.refl _ | apply Drawn0.step)⟩
   rw [if_pos c2] at H
   have c2b0 : decide (x6_1 < (a0.size : Int)) = true := decide_eq_true c2
   clear c2
   by_cases c3 : 0 ≤ x6_1
   case neg => exact nn_ c3 H
   rw [if_pos c3] at H
   have c3b0 : decide (0 ≤ x6_1) = true := decide_eq_true c3
   clear c3
   by_cases c4 : x6_1 < (a0.size : Int)
   case neg => exact nn_ c4 H
   rw [if_pos c4] at H
   have c4b0 : decide (x6_1 < (a0.size : Int)) = true := decide_eq_true c4
   clear c4
   by_cases c6 : (bt a0 x6_1) < 32
   ·
    rw [if_pos c6] at H
    have c6b0 : decide ((bt a0 x6_1) < 32) = true := decide_eq_true c6
    clear c6
    obtain rfl := Option.some.inj H
    have p5 : 0 ≤ (x6_1 : Int) := od_
    have q5 : x6_1 < (a0.size : Int) := od_
    have hx5 := bt_at a0 x6_1
    replace p5 := eq_true p5
    replace q5 := eq_true q5
    go_wp2
    go_ret
    exact ⟨by first | rfl | (simp; done) | (simp [*]; done), by repeat (first | exact Drawn0.refl _ | apply Drawn0.step)⟩
   rw [if_neg c6] at H
   have c6b0 : decide ((bt a0 x6_1) < 32) = false := decide_eq_false c6
   clear c6
   by_cases c8 : (bt a0 x6_1) > 126
   ·
    rw [if_pos c8] at H
    have c8b0 : decide (126 < (bt a0 x6_1)) = true := decide_eq_true c8
    clear c8
    obtain rfl := Option.some.inj H
    have p5 : 0 ≤ (x6_1 : Int) := od_
    have q5 : x6_1 < (a0.size : Int) := od_
    have hx5 := bt_at a0 x6_1
    replace p5 := eq_true p5
    replace q5 := eq_true q5
    have p7 : 0 ≤ (x6_1 : Int) := od_
    have q7 : x6_1 < (a0.size : Int) := od_
    have hx7 := bt_at a0 x6_1
    replace p7 := eq_true p7
    replace q7 := eq_true q7
    go_wp2
    go_ret
    exact ⟨by first | rfl | (simp; done) | (simp [*]; done), by repeat (first | exact Drawn0.refl _ | apply Drawn0.step)⟩
   rw [if_neg c8] at H
   have c8b0 : decide (126 < (bt a0 x6_1)) = false := decide_eq_false c8
   clear c8
   have H' := Aside0.mk H
   clear H
   have p5 : 0 ≤ (x6_1 : Int) := od_
   have q5 : x6_1 < (a0.size : Int) := od_
   have hx5 := bt_at a0 x6_1
   replace p5 := eq_true p5
   replace q5 := eq_true q5
   have p7 : 0 ≤ (x6_1 : Int) := od_
   have q7 : x6_1 < (a0.size : Int) := od_
   have hx7 := bt_at a0 x6_1
   replace p7 := eq_true p7
   replace q7 := eq_true q7
   go_wp2
   go_roundg k1
   case measure => have := HK1.out; omega
   case rel => exact ⟨(wrap64 (x6_1 + 1)), eqq_, H', ⟨by have := HK1.out; omega⟩, by repeat (first | exact Drawn0.refl _ | apply Drawn0.step)⟩

/-! ### impl_FrameOk: function 98 -/
def impl_FrameOk.j0 : Nat → Int → Bool → Int → ByteArray → Int → Option (Bool)
 | 0, _, _, _, _, _ => none
 | k + 1, x4, x15, x498000, x498001, x498002 => if x15 = true then ((impl_TextOk.f k x498001).bind fun t499 => (if t499 = true then (some (x498002 == 0)) else (some false))) else (if x4 = 5 then (if x498001.toList = ([] : List UInt8) then ((impl_isIn.f x498002 0 2).bind fun t500 => (some t500)) else (some false)) else (if x4 = 3 then (some (x498000 == 3 && (x498001.toList == ([] : List UInt8) && (x498002 == 0)))) else (some false)))
def impl_FrameOk.f (k : Nat) (a0_0 : Int) (a0_1 : ByteArray) (a0_2 : Int) : Option (Bool) := if a0_0 = 1 then ((impl_nameOk.f k a0_1).bind fun t498 => (if t498 = true then (some (a0_2 == 0)) else (some false))) else (if a0_0 = 2 then (impl_FrameOk.j0 k a0_0 (a0_0 == 2) a0_0 a0_1 a0_2) else (if a0_0 = 4 then (impl_FrameOk.j0 k a0_0 (a0_0 == 4) a0_0 a0_1 a0_2) else (impl_FrameOk.j0 k a0_0 (a0_0 == 6) a0_0 a0_1 a0_2)))
theorem impl_FrameOk.mono_l : ∀ k, (∀ y0 y1 y2 y3 y4, LeO (impl_FrameOk.j0 k y0 y1 y2 y3 y4) (impl_FrameOk.j0 (k + 1) y0 y1 y2 y3 y4))
 | 0 => fun _ _ _ _ _ r h => by simp [impl_FrameOk.j0] at h
 | k + 1 => by
  have ih0 := impl_FrameOk.mono_l k
  ·
   intro y0 y1 y2 y3 y4
   unfold impl_FrameOk.j0
   have m0 := @impl_TextOk.mono; have m1 := @impl_nameOk.mono; exact mo_
theorem impl_FrameOk.mono : ∀ a0 a1 a2 k, LeO (impl_FrameOk.f k a0 a1 a2) (impl_FrameOk.f (k + 1) a0 a1 a2) := by
 intro a0 a1 a2 k
 have ih0 := impl_FrameOk.mono_l k
 unfold impl_FrameOk.f
 have m0 := @impl_TextOk.mono; have m1 := @impl_nameOk.mono; exact mo_
set_option maxHeartbeats 8000000 in
set_option maxRecDepth 100000 in
theorem impl_FrameOk.calls (k : Nat) (a0_0 : Int) (a0_1 : ByteArray) (a0_2 : Int) (r : Bool) (w : World) (h : impl_FrameOk.f k a0_0 a0_1 a0_2 = some r) :
  Calls Try.prog 98 #[.agg #[.int .i64 a0_0, .string a0_1, .int .i64 a0_2]] w fun e w' => e = .returned (.bool r) ∧ Below w.heap.size w w' := by
 have hu49 := Try.underlying49
 have HB := Aside0.mk (Below.refl w.heap.size w)
 have H := h
 unfold impl_FrameOk.f at H
 clear h
 have HC2 := Aside0.mk H
 clear H
 go_enter Try.func98, Try.ntmps98
 go_upto_if 5 with (first | ((with_reducible refine gate_dst (N := 1) rfl ?_); refine bx_ (N := 1) (cs := #[.int .i64 a0_0, .string a0_1, .int .i64 a0_2]) (t := 49) ?_; intro gb497 hg w3 hbox hb; have BK497 := am_ (hbox); have GW497 := gA_ hg HB; have GE497 := GW497; have IGE497 := gI_ GE497; replace HB := bS_ HB hb; clear hb hbox hg; (try clear zK497); have zK497 := cz3 BK497.out))
 (try simp only [Act.put, List.setIfInBounds_toArray, List.set_cons_zero, List.set_cons_succ])
 have H := HC2.out
 clear HC2
 by_cases c5 : a0_0 = 1
 ·
  rw [if_pos c5] at H
  have c5b0 : (a0_0 == 1) = true := beq_iff_eq.mpr c5
  have c5b1 : (a0_0 != 1) = false := bne_eq_false_iff_eq.mpr c5
  clear c5
  (first | rw [c5b0] | rw [c5b1] | (simp only [i64_w, i32_w]; rw [c5b0]) | skip)
  replace H := bd_ H
  obtain ⟨t498, A6, H⟩ := H
  by_cases c7 : t498 = true
  ·
   subst c7
   rw [if_pos rfl] at H
   obtain rfl := Option.some.inj H
   (try clear zK497)
   have zK497 := cz3 BK497.out
   go_wp2_with (first | ((with_reducible refine gate_callee (f := 80) rfl ?_); refine gl_ (some 9) Try.func80 #[.string a0_1] ?_; (with_reducible refine (impl_nameOk.calls k a0_1 true _ A6.out).mono ?_); rintro e w' ⟨rfl, ⟨nd, rfl⟩⟩; refine ⟨_, rfl, ?_⟩))
   go_ret
   exact ⟨er_, qB HB⟩
  replace c7 := Bool.eq_false_iff.mpr c7
  subst c7
  rw [if_neg (show ¬ (false = true) by decide)] at H
  obtain rfl := Option.some.inj H
  (try clear zK497)
  have zK497 := cz3 BK497.out
  go_wp2_with (first | ((with_reducible refine gate_callee (f := 80) rfl ?_); refine gl_ (some 9) Try.func80 #[.string a0_1] ?_; (with_reducible refine (impl_nameOk.calls k a0_1 false _ A6.out).mono ?_); rintro e w' ⟨rfl, ⟨nd, rfl⟩⟩; refine ⟨_, rfl, ?_⟩))
  go_ret
  exact ⟨er_, qB HB⟩
 rw [if_neg c5] at H
 have c5b0 : (a0_0 == 1) = false := beq_eq_false_iff_ne.mpr c5
 have c5b1 : (a0_0 != 1) = true := bne_iff_ne.mpr c5
 (first | rw [c5b0] | rw [c5b1] | (simp only [i64_w, i32_w]; rw [c5b0]) | skip)
 have HC10 := Aside0.mk H
 clear H
 go_upto_if 15 with (fail)
 go_cut [15] (fun v15 wc => ∃ (kq : Nat) (x15_9 : Bool), v15 = .bool x15_9 ∧ Aside0 (impl_FrameOk.j0 kq a0_0 x15_9 a0_0 a0_1 a0_2 = some r) ∧ Aside0 (kq ≤ k) ∧ Aside0 (wc.heap[gb497]? = some (.cells #[.int .i64 a0_0, .string a0_1, .int .i64 a0_2] 49 (0, 0))) ∧ Aside0 (Below w.heap.size w wc))
 case first =>
  have H := HC10.out
  clear HC10
  by_cases c11 : a0_0 = 2
  ·
   rw [if_pos c11] at H
   have c11b0 : (a0_0 == 2) = true := beq_iff_eq.mpr c11
   have c11b1 : (a0_0 != 2) = false := bne_eq_false_iff_eq.mpr c11
   clear c11
   (first | rw [c11b0] | rw [c11b1] | (simp only [i64_w, i32_w]; rw [c11b0]) | skip)
   have H' := Aside0.mk H
   clear H
   go_wp2
   go_meet
   case rel => exact ⟨_, ((a0_0 == 2)), eqq_, H', ⟨by first | omega | exact Nat.le_refl _⟩, ⟨qK BK497⟩, ⟨qB HB⟩⟩
  rw [if_neg c11] at H
  have c11b0 : (a0_0 == 2) = false := beq_eq_false_iff_ne.mpr c11
  have c11b1 : (a0_0 != 2) = true := bne_iff_ne.mpr c11
  (first | rw [c11b0] | rw [c11b1] | (simp only [i64_w, i32_w]; rw [c11b0]) | skip)
  by_cases c12 : a0_0 = 4
  rotate_left
  ·
   rw [if_neg c12] at H
   have c12b0 : (a0_0 == 4) = false := beq_eq_false_iff_ne.mpr c12
   have c12b1 : (a0_0 != 4) = true := bne_iff_ne.mpr c12
   have H' := Aside0.mk H
   clear H
   go_wp2
   go_meet
   case rel => exact ⟨_, ((a0_0 == 6)), eqq_, H', ⟨by first | omega | exact Nat.le_refl _⟩, ⟨qK BK497⟩, ⟨qB HB⟩⟩
  rw [if_pos c12] at H
  have c12b0 : (a0_0 == 4) = true := beq_iff_eq.mpr c12
  have c12b1 : (a0_0 != 4) = false := bne_eq_false_iff_eq.mpr c12
  clear c12
  have H' := Aside0.mk H
  clear H
  go_wp2
  go_meet
  case rel => exact ⟨_, ((a0_0 == 4)), eqq_, H', ⟨by first | omega | exact Nat.le_refl _⟩, ⟨qK BK497⟩, ⟨qB HB⟩⟩
 case rest =>
  clear HC10
  try clear c1
  try clear p2
  try clear c5
  try clear c5b0
  try clear c5b1
  try clear c7
  try clear c8
  try clear c9
  try clear c11
  try clear c11b0
  try clear c11b1
  try clear c12
  try clear c12b0
  try clear c12b1
  (try clear zK497)
  (try clear zK497)
  (try clear zK497)
  (try clear f4)
  (try clear f8)
  (try clear f9)
  obtain ⟨kq, x15_9, rfl, HA, HJ9, BK497, HB⟩ := hcut
  cases kq with
  | zero => exact absurd HA.out (by simp [impl_FrameOk.j0])
  | succ kj9 =>
   have H := HA.out
   clear HA
   simp only [impl_FrameOk.j0] at H
   by_cases c13 : x15_9 = true
   ·
    subst c13
    rw [if_pos rfl] at H
    replace H := bd_ H
    obtain ⟨t499, A14, H⟩ := H
    by_cases c15 : t499 = true
    ·
     subst c15
     rw [if_pos rfl] at H
     obtain rfl := Option.some.inj H
     (try clear zK497)
     have zK497 := cz3 BK497.out
     go_wp2_with (first | ((with_reducible refine gate_callee (f := 82) rfl ?_); refine gl_ (some 21) Try.func82 #[.string a0_1] ?_; (with_reducible refine (impl_TextOk.calls kj9 a0_1 true _ A14.out).mono ?_); rintro e w' ⟨rfl, ⟨nd, rfl⟩⟩; refine ⟨_, rfl, ?_⟩))
     go_ret
     exact ⟨er_, qB HB⟩
    replace c15 := Bool.eq_false_iff.mpr c15
    subst c15
    rw [if_neg (show ¬ (false = true) by decide)] at H
    obtain rfl := Option.some.inj H
    (try clear zK497)
    have zK497 := cz3 BK497.out
    go_wp2_with (first | ((with_reducible refine gate_callee (f := 82) rfl ?_); refine gl_ (some 21) Try.func82 #[.string a0_1] ?_; (with_reducible refine (impl_TextOk.calls kj9 a0_1 false _ A14.out).mono ?_); rintro e w' ⟨rfl, ⟨nd, rfl⟩⟩; refine ⟨_, rfl, ?_⟩))
    go_ret
    exact ⟨er_, qB HB⟩
   replace c13 := Bool.eq_false_iff.mpr c13
   subst c13
   rw [if_neg (show ¬ (false = true) by decide)] at H
   by_cases c18 : a0_0 = 5
   rotate_left
   ·
    rw [if_neg c18] at H
    have c18b0 : (a0_0 == 5) = false := beq_eq_false_iff_ne.mpr c18
    have c18b1 : (a0_0 != 5) = true := bne_iff_ne.mpr c18
    by_cases c23 : a0_0 = 3
    rotate_left
    ·
     rw [if_neg c23] at H
     have c23b0 : (a0_0 == 3) = false := beq_eq_false_iff_ne.mpr c23
     have c23b1 : (a0_0 != 3) = true := bne_iff_ne.mpr c23
     obtain rfl := Option.some.inj H
     go_wp2
     go_ret
     exact ⟨er_, qB HB⟩
    rw [if_pos c23] at H
    have c23b0 : (a0_0 == 3) = true := beq_iff_eq.mpr c23
    have c23b1 : (a0_0 != 3) = false := bne_eq_false_iff_eq.mpr c23
    clear c23
    obtain rfl := Option.some.inj H
    (try clear zK497)
    have zK497 := cz3 BK497.out
    go_wp2
    go_ret
    exact ⟨er_, qB HB⟩
   rw [if_pos c18] at H
   have c18b0 : (a0_0 == 5) = true := beq_iff_eq.mpr c18
   have c18b1 : (a0_0 != 5) = false := bne_eq_false_iff_eq.mpr c18
   clear c18
   by_cases c19 : a0_1.toList = ([] : List UInt8)
   rotate_left
   ·
    rw [if_neg c19] at H
    have c19b0 : (a0_1.toList == ([] : List UInt8)) = false := beq_eq_false_iff_ne.mpr c19
    (try (have c19b0e := c19b0; simp only [beq_nil, bne_nil] at c19b0e))
    have c19b1 : (a0_1.toList != ([] : List UInt8)) = true := bne_iff_ne.mpr c19
    obtain rfl := Option.some.inj H
    (try clear zK497)
    have zK497 := cz3 BK497.out
    go_wp2
    go_ret
    exact ⟨er_, qB HB⟩
   rw [if_pos c19] at H
   have c19b0 : (a0_1.toList == ([] : List UInt8)) = true := beq_iff_eq.mpr c19
   (try (have c19b0e := c19b0; simp only [beq_nil, bne_nil] at c19b0e))
   have c19b1 : (a0_1.toList != ([] : List UInt8)) = false := bne_eq_false_iff_eq.mpr c19
   clear c19
   replace H := bd_ H
   obtain ⟨t500, A20, H⟩ := H
   obtain rfl := Option.some.inj H
   (try clear zK497)
   have zK497 := cz3 BK497.out
   go_wp2_with (first | (go_at_call 87; (with_reducible refine (impl_isIn.calls a0_2 0 2 t500 _ A20.out).mono ?_); rintro e w' ⟨rfl, ⟨nd, rfl⟩⟩))
   go_ret
   exact ⟨er_, qB HB⟩

end Go.Proofs.Ytiffahfpfgnjnaa.PFnSocks
