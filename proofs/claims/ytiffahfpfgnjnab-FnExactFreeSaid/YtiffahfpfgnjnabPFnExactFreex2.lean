-- Written by a program of this session (myprint.py, over the kit's print): contracts of FnExactFree
import Derived.Test.YtiffahfpfgnjnabPFnExactFreex0
import Derived.Test.YtiffahfpfgnjnabPFnExactFreex1
namespace Go.Proofs.Ytiffahfpfgnjnab.PFnExactFree
open Go.RowKit Go.Proofs.YtiffahfpfgnjnabW.PrintWords Go.Proofs.YtiffahfpfgnjnabW.PrintLast Go.Proofs.YtiffahfpfgnjnabW.PrintMore Go.Proofs.YtiffahfpfgnjnabV
attribute [local go_sem] max2_int min2_int max_two min_two max_three min_three max_four min_four   -- for this text's walks alone
set_option linter.unusedVariables false
set_option linter.unusedSimpArgs false

/-! ### laws_toSock: function 43 -/
def laws_toSock.f (k : Nat) (a0_0 : Int) (a0_1 : Int) (a0_2 : Int) (a0_3 : Bool) (l0_4 : List Int) (l0_5 : List Int) (a0_6 : Int) (a0_7 : Int) : Option (Int × Int × Int × Bool × List Int × List Int × Int × Int) := (laws_toByteS.f k l0_4).bind fun t153 => ((laws_toByteS.f k l0_5).bind fun t156 => (some (a0_0, a0_1, a0_2, a0_3, t153, t156, a0_6, a0_7)))
theorem laws_toSock.mono : ∀ a0 a1 a2 a3 a4 a5 a6 a7 k, LeO (laws_toSock.f k a0 a1 a2 a3 a4 a5 a6 a7) (laws_toSock.f (k + 1) a0 a1 a2 a3 a4 a5 a6 a7) := by
 intro a0 a1 a2 a3 a4 a5 a6 a7 k
 unfold laws_toSock.f
 repeat' first
   | (with_reducible exact laws_toByteS.mono _ _)
   | (with_reducible exact LeO.refl _)
   | (with_reducible exact LeO.none _)
   | (with_reducible refine LeO.ite ?_ ?_)
   | (with_reducible refine LeO.bind ?_ (fun _ => ?_))
set_option maxHeartbeats 8000000 in
set_option maxRecDepth 100000 in
theorem laws_toSock.calls (k : Nat) (a0_0 : Int) (a0_1 : Int) (a0_2 : Int) (a0_3 : Bool) (A0_4 : Option Addr) (c0_4 : Nat) (l0_4 : List Int) (A0_5 : Option Addr) (c0_5 : Nat) (l0_5 : List Int) (a0_6 : Int) (a0_7 : Int) (r1 : Int) (r2 : Int) (r3 : Int) (r4 : Bool) (r5 : List Int) (r6 : List Int) (r7 : Int) (r8 : Int) (w : World) (hr0_4 : Kd.C (Kd.int .u8) w A0_4 l0_4.length l0_4) (hc0_4 : l0_4.length ≤ c0_4) (hr0_5 : Kd.C (Kd.int .u8) w A0_5 l0_5.length l0_5) (hc0_5 : l0_5.length ≤ c0_5) (h : laws_toSock.f k a0_0 a0_1 a0_2 a0_3 l0_4 l0_5 a0_6 a0_7 = some (r1, r2, r3, r4, r5, r6, r7, r8)) :
  Calls Try.prog 43 #[.agg #[.int .i64 a0_0, .int .i64 a0_1, .int .i64 a0_2, .bool a0_3, .slice A0_4 l0_4.length c0_4, .slice A0_5 l0_5.length c0_5, .int .i64 a0_6, .int .i64 a0_7]] w fun e w' => ∃ v4_ v5_ : Value, e = .returned (.agg #[.int .i64 r1, .int .i64 r2, .int .i64 r3, .bool r4, v4_, v5_, .int .i64 r7, .int .i64 r8]) ∧ Kd.R (Kd.int .u8) 5 w' w.heap.size (fun k_ => some k_ ≠ (v5_ : Value).ownBlock) v4_ r5 ∧ Kd.R (Kd.int .u8) 5 w' w.heap.size (fun k_ => some k_ ≠ (v4_ : Value).ownBlock) v5_ r6 ∧ Below w.heap.size w w' := by
 have hu79 := Try.underlying79
 have hu80 := Try.underlying80
 have HR0_4 := Aside0.mk hr0_4
 have HC0_4 := Aside0.mk hc0_4
 clear hr0_4 hc0_4
 have HR0_5 := Aside0.mk hr0_5
 have HC0_5 := Aside0.mk hc0_5
 clear hr0_5 hc0_5
 have HB := Aside0.mk (Below.refl w.heap.size w)
 have H := h
 unfold laws_toSock.f at H
 clear h
 replace H := bd_ H
 obtain ⟨t153, A2, H⟩ := H
 replace H := bd_ H
 obtain ⟨t156, A3, H⟩ := H
 simp only [Option.some.injEq, Prod.mk.injEq] at H
 obtain ⟨rfl, rfl, rfl, rfl, rfl, rfl, rfl, rfl⟩ := H
 go_enter Try.func43, Try.ntmps43
 go_wp2_with (first | ((with_reducible refine gate_dst (N := 1) rfl ?_); refine box_event ?hg (N := 1) ?hd (cs := #[.int .i64 a0_0, .int .i64 a0_1, .int .i64 a0_2, .bool a0_3, .slice A0_4 l0_4.length c0_4, .slice A0_5 l0_5.length c0_5, .int .i64 a0_6, .int .i64 a0_7]) (t := 79) ?hr ?_; (case hd => rfl); (case hg => rfl); (case hr => first | (go_simp; done) | (go_simp; rfl)); intro gb150 hg w4 hbox hb; have BK150 := am_ (hbox); have GW150 := gA_ hg HB; have GE150 := GW150; have IGE150 := gI_ GE150; replace HB := bS_ HB hb; clear hb hbox hg) | ((with_reducible refine gate_dst (N := 2) rfl ?_); refine box_event ?hg (N := 2) ?hd (cs := #[.int .i64 0, .int .i64 0, .int .i64 0, .bool false, .slice none 0 0, .slice none 0 0, .int .i64 0, .int .i64 0]) (t := 80) ?hr ?_; (case hd => rfl); (case hg => rfl); (case hr => first | (go_simp; done) | (go_simp; rfl)); intro gb151 hg w5 hbox hb; have BK151 := am_ (hbox); have GW151 := gA_ hg HB; have GE151 := GW151; have IGE151 := gI_ GE151; replace HB := bS_ HB hb; have NB150_151 := am_ ((gN_ hg (qK BK150))); have NB151_150 := am_ ((gM_ hg (qK BK150))); replace BK150 := bK_ BK150 hb; clear hb hbox hg) | ((with_reducible refine gate_dst (N := 3) rfl ?_); refine box_event ?hg (N := 3) ?hd (cs := #[.int .i64 0, .int .i64 0, .int .i64 0, .bool false, .slice none 0 0, .slice none 0 0, .int .i64 0, .int .i64 0]) (t := 80) ?hr ?_; (case hd => rfl); (case hg => rfl); (case hr => first | (go_simp; done) | (go_simp; rfl)); intro gb152 hg w6 hbox hb; have BK152 := am_ (hbox); have GW152 := gA_ hg HB; have GE152 := GW152; have IGE152 := gI_ GE152; replace HB := bS_ HB hb; have NB150_152 := am_ ((gN_ hg (qK BK150))); have NB152_150 := am_ ((gM_ hg (qK BK150))); replace BK150 := bK_ BK150 hb; have NB151_152 := am_ ((gN_ hg (qK BK151))); have NB152_151 := am_ ((gM_ hg (qK BK151))); replace BK151 := bK_ BK151 hb; clear hb hbox hg; have hnb7 := NB150_151.out; have hnc7 := NB151_150.out; have hnb8 := NB150_152.out; have hnc8 := NB152_150.out; have z9 := cz8 BK150.out; have f9 := fz8 BK150.out; have hnb10 := NB152_151.out; have hnc10 := NB151_152.out; have z11 := cz8 BK152.out; have f11 := fz8 BK152.out) | ((with_reducible refine gate_callee (f := 35) rfl ?_); refine goesL_ (some 18) rfl rfl Try.func35 (by kernel_rfl) rfl #[.slice A0_4 l0_4.length c0_4] rfl la_ ?_; (with_reducible refine (laws_toByteS.calls k _ _ l0_4 t153 _ ?side1 ?side2 A2.out).mono ?_); (case side1 => exact Kd.C_below HR0_4.out (qB HB)); (case side2 => exact HC0_4.out); rintro e w12 ⟨v154, rfl, ho0, hb⟩; refine ⟨_, rfl, ?_⟩; have HO155 := am_ (Kd.R_lower ho0 (below_size (qB HB))); replace BK150 := am_ (blk_below (g := gb150) (o := .cells #[.int .i64 a0_0, .int .i64 a0_1, .int .i64 a0_2, .bool a0_3, .slice A0_4 l0_4.length c0_4, .slice A0_5 l0_5.length c0_5, .int .i64 a0_6, .int .i64 a0_7] 79 (0, 0)) (by (with_reducible repeat (first | refine blk_drewN ?_ _ | refine blk_drew ?_ | refine blk_alloc ?_ _)); refine blk_far4 ?_ NB150_152.out; exact qK BK150) hb); replace BK151 := am_ (blk_below (g := gb151) (o := .cells #[.int .i64 0, .int .i64 0, .int .i64 0, .bool false, .slice none 0 0, .slice none 0 0, .int .i64 0, .int .i64 0] 80 (0, 0)) (by (with_reducible repeat (first | refine blk_drewN ?_ _ | refine blk_drew ?_ | refine blk_alloc ?_ _)); refine blk_far4 ?_ NB151_152.out; exact qK BK151) hb); replace BK152 := am_ (blk_below (g := gb152) (o := .cells #[.int .i64 a0_0, .int .i64 a0_1, .int .i64 a0_2, .bool a0_3, .slice none 0 0, .slice none 0 0, .int .i64 0, .int .i64 0] 80 (0, 0)) (by (with_reducible repeat (first | refine blk_drewN ?_ _ | refine blk_drew ?_ | refine blk_alloc ?_ _)); refine blk_put (cs := #[.int .i64 a0_0, .int .i64 a0_1, .int .i64 a0_2, .bool false, .slice none 0 0, .slice none 0 0, .int .i64 0, .int .i64 0]) ?_ 3 _ rfl; (with_reducible repeat (first | refine blk_drewN ?_ _ | refine blk_drew ?_ | refine blk_alloc ?_ _)); refine blk_put (cs := #[.int .i64 a0_0, .int .i64 a0_1, .int .i64 0, .bool false, .slice none 0 0, .slice none 0 0, .int .i64 0, .int .i64 0]) ?_ 2 _ rfl; (with_reducible repeat (first | refine blk_drewN ?_ _ | refine blk_drew ?_ | refine blk_alloc ?_ _)); refine blk_put (cs := #[.int .i64 a0_0, .int .i64 0, .int .i64 0, .bool false, .slice none 0 0, .slice none 0 0, .int .i64 0, .int .i64 0]) ?_ 1 _ rfl; (with_reducible repeat (first | refine blk_drewN ?_ _ | refine blk_drew ?_ | refine blk_alloc ?_ _)); refine blk_put (cs := #[.int .i64 0, .int .i64 0, .int .i64 0, .bool false, .slice none 0 0, .slice none 0 0, .int .i64 0, .int .i64 0]) ?_ 0 _ rfl; exact qK BK152) hb); replace HB := bS_ HB hb; (try clear hb); (try clear ho0); obtain ⟨Ao13, co13, eo13⟩ := Kd.R_slice HO155.out; subst eo13; have z14 := cz8 BK152.out; have f14 := fz8 BK152.out; have z15 := cz8 BK150.out; have f15 := fz8 BK150.out) | ((with_reducible refine gate_callee (f := 35) rfl ?_); refine goesL_ (some 22) rfl rfl Try.func35 (by kernel_rfl) rfl #[.slice A0_5 l0_5.length c0_5] rfl la_ ?_; (with_reducible refine (laws_toByteS.calls k _ _ l0_5 t156 _ ?side1 ?side2 A3.out).mono ?_); (case side1 => exact Kd.C_below HR0_5.out (qB HB)); (case side2 => exact HC0_5.out); rintro e w16 ⟨v157, rfl, ho0, hb⟩; refine ⟨_, rfl, ?_⟩; have HO158 := am_ (Kd.R_lower (Kd.R_new' ho0 (Kd.R_lt (by (with_reducible repeat (first | apply Kd.R_alloc | apply Kd.R_drewN | apply Kd.R_drew)); exact (Kd.R_mono (Kd.R_far (p := ⟨gb152, 4, none⟩) (Kd.R_types HO155.out BK152.out (by decide)) (fun _ hk => hk.2) (.slice Ao13 t153.length co13)) (fun _ h_ => h_.1))))) (below_size (qB HB))); replace HO155 := am_ (Kd.R_elder' (by (with_reducible repeat (first | apply Kd.R_alloc | apply Kd.R_drewN | apply Kd.R_drew)); exact (Kd.R_mono (Kd.R_far (p := ⟨gb152, 4, none⟩) (Kd.R_types HO155.out BK152.out (by decide)) (fun _ hk => hk.2) (.slice Ao13 t153.length co13)) (fun _ h_ => h_.1))) (Kd.R_base ho0) hb); replace BK150 := am_ (blk_below (g := gb150) (o := .cells #[.int .i64 a0_0, .int .i64 a0_1, .int .i64 a0_2, .bool a0_3, .slice A0_4 l0_4.length c0_4, .slice A0_5 l0_5.length c0_5, .int .i64 a0_6, .int .i64 a0_7] 79 (0, 0)) (by (with_reducible repeat (first | refine blk_drewN ?_ _ | refine blk_drew ?_ | refine blk_alloc ?_ _)); refine blk_far ?_ NB150_152.out _; exact qK BK150) hb); replace BK151 := am_ (blk_below (g := gb151) (o := .cells #[.int .i64 0, .int .i64 0, .int .i64 0, .bool false, .slice none 0 0, .slice none 0 0, .int .i64 0, .int .i64 0] 80 (0, 0)) (by (with_reducible repeat (first | refine blk_drewN ?_ _ | refine blk_drew ?_ | refine blk_alloc ?_ _)); refine blk_far ?_ NB151_152.out _; exact qK BK151) hb); replace BK152 := am_ (blk_below (g := gb152) (o := .cells #[.int .i64 a0_0, .int .i64 a0_1, .int .i64 a0_2, .bool a0_3, .slice Ao13 t153.length co13, .slice none 0 0, .int .i64 0, .int .i64 0] 80 (0, 0)) (by (with_reducible repeat (first | refine blk_drewN ?_ _ | refine blk_drew ?_ | refine blk_alloc ?_ _)); refine blk_put (cs := #[.int .i64 a0_0, .int .i64 a0_1, .int .i64 a0_2, .bool a0_3, .slice none 0 0, .slice none 0 0, .int .i64 0, .int .i64 0]) ?_ 4 _ rfl; exact qK BK152) hb); replace HB := bS_ HB hb; (try clear hb); (try clear ho0); obtain ⟨Ao17, co17, eo17⟩ := Kd.R_slice HO158.out; subst eo17; have z18 := cz8 BK152.out; have f18 := fz8 BK152.out; have z19 := cz8 BK150.out; have z20 := cz8 BK151.out; have f20 := fz8 BK151.out))
 refine bodyPost_ret (results_cell_row rfl _ _ gb151 80 #[.int .i64 a0_0, .int .i64 a0_1, .int .i64 a0_2, .bool a0_3, .slice Ao13 t153.length co13, .slice Ao17 t156.length co17, .int .i64 a0_6, .int .i64 a0_7] (0, 0) _ rfl (by exact blk_all8 (blk_far1 (blk_far1 (blk_far1 (qK BK151) NB151_152.out) NB151_152.out) NB151_152.out)) Try.underlying80 rfl (by kernel_rfl)) rfl ?_
 exact ⟨_, _, er_, by (with_reducible repeat (first | apply Kd.R_alloc | apply Kd.R_drewN | apply Kd.R_drew)); exact Kd.R_mono (R_far8 (g := gb151) (R_far3 (g := gb152) (Kd.R_types (Kd.R_types HO155.out BK152.out (by decide)) BK151.out (by decide)) (fun _ hk => hk.1.2)) (fun _ hk => hk.2)) (fun _ hk => hk.1.1.2), by (with_reducible repeat (first | apply Kd.R_alloc | apply Kd.R_drewN | apply Kd.R_drew)); exact Kd.R_mono (R_far8 (g := gb151) (R_far3 (g := gb152) (Kd.R_types (Kd.R_types HO158.out BK152.out (by decide)) BK151.out (by decide)) (fun _ hk => hk.1.2)) (fun _ hk => hk.2)) (fun _ hk => hk.1.1.2), qB HB⟩

/-! ### laws_toSockS: function 9 -/
def laws_toSockS.l0 : Nat → List (S79) → List (S80) → Int → Option ((List (S80)))
 | 0, _, _, _ => none
 | k + 1, x0, x3, x4 => if x4 < (x0.length : Int) then (if 0 ≤ x4 then ((laws_toSock.f k ((rd_T79 x0 x4).f0) ((rd_T79 x0 x4).f1) ((rd_T79 x0 x4).f2) ((rd_T79 x0 x4).f3) ((rd_T79 x0 x4).f4) ((rd_T79 x0 x4).f5) ((rd_T79 x0 x4).f6) ((rd_T79 x0 x4).f7)).bind fun bt163 => (if x4 < (x3.length : Int) then (laws_toSockS.l0 k x0 (x3.set (x4 : Int).toNat (⟨bt163.1, bt163.2.1, bt163.2.2.1, bt163.2.2.2.1, bt163.2.2.2.2.1, bt163.2.2.2.2.2.1, bt163.2.2.2.2.2.2.1, bt163.2.2.2.2.2.2.2⟩ : S80)) (wrap64 (x4 + 1))) else (none))) else (none)) else (some x3)
def laws_toSockS.f (k : Nat) (l0 : List (S79)) : Option ((List (S80))) := if 0 ≤ (l0.length : Int) then (if ((l0.length : Int) : Int).toNat ≤ 2932031007402 then (laws_toSockS.l0 k l0 (List.replicate ((l0.length : Int) : Int).toNat z80) 0) else (none)) else (none)
theorem laws_toSockS.mono_l : ∀ k, (∀ y0 y1 y2, LeO (laws_toSockS.l0 k y0 y1 y2) (laws_toSockS.l0 (k + 1) y0 y1 y2))
 | 0 => fun _ _ _ r h => by simp [laws_toSockS.l0] at h
 | k + 1 => by
  have ih0 := laws_toSockS.mono_l k
  ·
   intro y0 y1 y2
   unfold laws_toSockS.l0
   repeat' first
   | (with_reducible exact ih0 _ _ _)
   | (with_reducible exact laws_toSock.mono _ _ _ _ _ _ _ _ _)
   | (with_reducible exact LeO.refl _)
   | (with_reducible exact LeO.none _)
   | (with_reducible refine LeO.ite ?_ ?_)
   | (with_reducible refine LeO.bind ?_ (fun _ => ?_))
theorem laws_toSockS.mono : ∀ a0 k, LeO (laws_toSockS.f k a0) (laws_toSockS.f (k + 1) a0) := by
 intro a0 k
 have ih0 := laws_toSockS.mono_l k
 unfold laws_toSockS.f
 repeat' first
   | (with_reducible exact ih0 _ _ _)
   | (with_reducible exact laws_toSock.mono _ _ _ _ _ _ _ _ _)
   | (with_reducible exact LeO.refl _)
   | (with_reducible exact LeO.none _)
   | (with_reducible refine LeO.ite ?_ ?_)
   | (with_reducible refine LeO.bind ?_ (fun _ => ?_))
set_option maxHeartbeats 8000000 in
set_option maxRecDepth 100000 in
theorem laws_toSockS.calls (k : Nat) (A0 : Option Addr) (c0 : Nat) (l0 : List (S79)) (r : List (S80)) (w : World) (hr0 : Kd.C k79 w A0 l0.length l0) (hc0 : l0.length ≤ c0) (h : laws_toSockS.f k l0 = some r) :
  Calls Try.prog 9 #[.slice A0 l0.length c0] w fun e w' => ∃ v0_ : Value, e = .returned (v0_) ∧ Kd.S k80 80 w' w.heap.size (fun _ => True) v0_ r ∧ Below w.heap.size w w' := by
 have hu79 := Try.underlying79
 have hu80 := Try.underlying80
 have HR0 := Aside0.mk hr0
 have HC0 := Aside0.mk hc0
 clear hr0 hc0
 have HB := Aside0.mk (Below.refl w.heap.size w)
 have H := h
 unfold laws_toSockS.f at H
 clear h
 by_cases c2 : 0 ≤ (l0.length : Int)
 case neg => exact nn_ c2 H
 rw [if_pos c2] at H
 have c2b0 := eq_true c2
 have c2b1 : decide (0 ≤ (l0.length : Int)) = true := decide_eq_true c2
 clear c2
 by_cases c3 : ((l0.length : Int) : Int).toNat ≤ 2932031007402
 case neg => exact nn_ c3 H
 rw [if_pos c3] at H
 have c3b0 := eq_true c3
 have c3b1 : decide (((l0.length : Int) : Int).toNat ≤ 2932031007402) = true := decide_eq_true c3
 clear c3
 obtain ⟨y159, hy159⟩ : ∃ y_ : List (S80), y_ = (List.replicate ((l0.length : Int) : Int).toNat z80) := ⟨_, rfl⟩
 rw [← hy159] at H
 have Ny159 := Aside0.mk hy159
 clear hy159
 have H' := Aside0.mk H
 clear H
 go_enter Try.func9, Try.ntmps9
 go_wp2_with (first | ((with_reducible refine gate_dst (N := 7) rfl ?_); refine Kd.S_make k80 _ 80 rfl (N := 7) rfl 24 _ _ rfl (l0.length : Int) rfl rfl Try.underlying24 (.agg #[(.int .i64 0), (.int .i64 0), (.int .i64 0), (.bool false), (.slice none 0 0), (.slice none 0 0), (.int .i64 0), (.int .i64 0)]) 96 info80 rfl (by decide) (by omega) z80 (ok := fun _ => True) (okp := fun _ => True) (k80_mkM _ _ _ z80 (Kd.R_nil _ _ _ _ _) (Kd.R_nil _ _ _ _ _)) (fun _ hk => hk) trivial od_ (Nat.le_trans (Nat.mul_le_mul_right _ (od_ : (l0.length : Int).toNat ≤ 2932031007402)) (by omega)) (Below.refl _ _) (Nat.le_refl _) ?_; intro v160 w4 ho5 hb hg_ hnew_; clear hg_ hnew_; (first | rw [← Ny159.out] at ho5 | (simp only [Int.reduceToNat] at ho5; rw [← Ny159.out] at ho5)); have HO161 := am_ (Kd.S_lower ho5 (below_size (qB HB))); replace HB := bS_ HB hb; clear hb ho5))
 go_loopg [4] k (fun kq v4 w' => ∃ (x3_1 : List (S80)) (x4_1 : Int), v4 = .int .i64 x4_1 ∧ Aside0 (laws_toSockS.l0 kq l0 x3_1 x4_1 = some r) ∧ Aside0 (kq ≤ k) ∧ Aside0 (Kd.S k80 80 w' w.heap.size (fun _ => True) v160 x3_1) ∧ Aside0 (Below w.heap.size w w'))
 case atStart => exact ⟨(y159), (0), eqq_, H', ⟨Nat.le_refl _⟩, ⟨qS HO161⟩, ⟨qB HB⟩⟩
 case round =>
  clear H'
  try clear c2
  try clear c2b0
  try clear c2b1
  try clear p2
  try clear c3
  try clear c3b0
  try clear c3b1
  obtain ⟨x3_1, x4_1, rfl, HA, HK1, HO_3, HB⟩ := hrel
  cases gk with
  | zero => exact absurd HA.out (by simp [laws_toSockS.l0])
  | succ k1 =>
   have H := HA.out
   clear HA
   simp only [laws_toSockS.l0] at H
   by_cases c6 : x4_1 < (l0.length : Int)
   rotate_left
   ·
    rw [if_neg c6] at H
    have c6b0 : decide (x4_1 < (l0.length : Int)) = false := decide_eq_false c6
    clear c6
    obtain rfl := Option.some.inj H
    go_wp2
    go_ret
    exact ⟨_, er_, qS HO_3, qB HB⟩
   rw [if_pos c6] at H
   have c6b0 : decide (x4_1 < (l0.length : Int)) = true := decide_eq_true c6
   clear c6
   by_cases c7 : 0 ≤ x4_1
   case neg => exact nn_ c7 H
   rw [if_pos c7] at H
   have c7b0 : decide (0 ≤ x4_1) = true := decide_eq_true c7
   clear c7
   replace H := bf_ H
   obtain ⟨f_, hf_, ⟨t163, t164, t165, t166, t167, t170, t173, t174⟩, A8, H⟩ := H
   subst hf_
   (try dsimp only at H)
   by_cases c9 : x4_1 < (x3_1.length : Int)
   case neg => exact nn_ c9 H
   rw [if_pos c9] at H
   have c9b0 : decide (x4_1 < (x3_1.length : Int)) = true := decide_eq_true c9
   clear c9
   obtain ⟨y175, hy175⟩ : ∃ y_ : List (S80), y_ = (x3_1.set (x4_1 : Int).toNat (⟨t163, t164, t165, t166, t167, t170, t173, t174⟩ : S80)) := ⟨_, rfl⟩
   rw [← hy175] at H
   have Ny175 := Aside0.mk hy175
   clear hy175
   have H' := Aside0.mk H
   clear H
   have p162 : 0 ≤ (x4_1 : Int) := od_
   have q162 : x4_1 < (l0.length : Int) := od_
   obtain ⟨ad162, A162_4, c162_4, A162_5, c162_5, e162, hx162_0, hx162_1, hx162_2, hx162_3, hx162_4, hx162_5, hx162_6, hx162_7, hl162_4, hi162_4, hl162_5, hi162_5⟩ := at_T79 HR0.out x4_1 p162 q162
   cases e162
   replace hx162_0 := lb_ HB hx162_0
   replace hx162_1 := lb_ HB hx162_1
   replace hx162_2 := lb_ HB hx162_2
   replace hx162_3 := lb_ HB hx162_3
   replace hx162_4 := lb_ HB hx162_4
   replace hx162_5 := lb_ HB hx162_5
   replace hx162_6 := lb_ HB hx162_6
   replace hx162_7 := lb_ HB hx162_7
   have HR162_4 := Aside0.mk hi162_4
   have HC162_4 := Aside0.mk hl162_4
   clear hi162_4 hl162_4
   have HR162_5 := Aside0.mk hi162_5
   have HC162_5 := Aside0.mk hl162_5
   clear hi162_5 hl162_5
   replace p162 := eq_true p162
   replace q162 := eq_true q162
   go_wp2_with (first | ((with_reducible refine gate_callee (f := 43) rfl ?_); refine goesL_ (some 20) rfl rfl Try.func43 (by kernel_rfl) rfl #[.agg #[.int .i64 ((rd_T79 l0 x4_1).f0), .int .i64 ((rd_T79 l0 x4_1).f1), .int .i64 ((rd_T79 l0 x4_1).f2), .bool ((rd_T79 l0 x4_1).f3), .slice A162_4 ((rd_T79 l0 x4_1).f4).length c162_4, .slice A162_5 ((rd_T79 l0 x4_1).f5).length c162_5, .int .i64 ((rd_T79 l0 x4_1).f6), .int .i64 ((rd_T79 l0 x4_1).f7)]] rfl la_ ?_; (with_reducible refine (laws_toSock.calls k1 ((rd_T79 l0 x4_1).f0) ((rd_T79 l0 x4_1).f1) ((rd_T79 l0 x4_1).f2) ((rd_T79 l0 x4_1).f3) _ _ ((rd_T79 l0 x4_1).f4) _ _ ((rd_T79 l0 x4_1).f5) ((rd_T79 l0 x4_1).f6) ((rd_T79 l0 x4_1).f7) t163 t164 t165 t166 t167 t170 t173 t174 _ ?side1 ?side2 ?side3 ?side4 A8.out).mono ?_); (case side1 => exact qC (Kd.C_below HR162_4.out HB.out)); (case side2 => exact HC162_4.out); (case side3 => exact qC (Kd.C_below HR162_5.out HB.out)); (case side4 => exact HC162_5.out); rintro e w11 ⟨v168, v171, rfl, ho0, ho1, hb⟩; refine ⟨_, rfl, ?_⟩; replace HO_3 := am_ (Kd.S_mono (Kd.S_told (Kd.S_told (Kd.S_old (qS HO_3) hb) (Kd.R_base ho0)) (Kd.R_base ho1)) (fun _ h_ => h_.1)); have HO169 := am_ (Kd.R_lower ho0 (below_size (qB HB))); have HO172 := am_ (Kd.R_lower ho1 (below_size (qB HB))); replace HB := bS_ HB hb; (try clear hb); (try clear ho0); (try clear ho1); have p10 : 0 ≤ (x4_1 : Int) := od_; have q10 : (x4_1 : Int) < ((x3_1.length : Int) : Int) := od_; obtain ⟨go10, co10, eo10, gb10, gl10, cl10, HG10⟩ := Kd.S_form HO_3.out (by omega); (first | cases eo10 | (injection eo10 with ea_ en_ ec_; (first | subst ea_ | (injection ea_ with ea_; subst ea_)); subst ec_; clear en_)); have GB10 := Aside0.mk gb10; have GG10 := Aside0.mk HG10; clear gb10 gl10 HG10; obtain ⟨_, ce10, hcl10, hM10, hcc10, hfr10, _, _⟩ := Kd.S_elem HO_3.out z80 (x4_1 : Int) p10 q10; obtain ⟨ve10_4, ve10_5, rfl, ge10_4, ge10_5⟩ := k80_openM hM10; have hx10_0 : w11.cell? ⟨go10, (x4_1 : Int).toNat * 8, none⟩ = some (.int .i64 ((rd_T80 x3_1 x4_1).f0)) := hcc10 0 _ rfl; have hx10_1 : w11.cell? ⟨go10, (x4_1 : Int).toNat * 8 + 1, none⟩ = some (.int .i64 ((rd_T80 x3_1 x4_1).f1)) := hcc10 1 _ rfl; have hx10_2 : w11.cell? ⟨go10, (x4_1 : Int).toNat * 8 + 2, none⟩ = some (.int .i64 ((rd_T80 x3_1 x4_1).f2)) := hcc10 2 _ rfl; have hx10_3 : w11.cell? ⟨go10, (x4_1 : Int).toNat * 8 + 3, none⟩ = some (.bool ((rd_T80 x3_1 x4_1).f3)) := hcc10 3 _ rfl; have hx10_4 : w11.cell? ⟨go10, (x4_1 : Int).toNat * 8 + 4, none⟩ = some (ve10_4) := hcc10 4 _ rfl; have hx10_5 : w11.cell? ⟨go10, (x4_1 : Int).toNat * 8 + 5, none⟩ = some (ve10_5) := hcc10 5 _ rfl; have hx10_6 : w11.cell? ⟨go10, (x4_1 : Int).toNat * 8 + 6, none⟩ = some (.int .i64 ((rd_T80 x3_1 x4_1).f6)) := hcc10 6 _ rfl; have hx10_7 : w11.cell? ⟨go10, (x4_1 : Int).toNat * 8 + 7, none⟩ = some (.int .i64 ((rd_T80 x3_1 x4_1).f7)) := hcc10 7 _ rfl; have hf10_0 : w11.frozen? ⟨go10, (x4_1 : Int).toNat * 8, none⟩ = false := hfr10 0; have hf10_1 : w11.frozen? ⟨go10, (x4_1 : Int).toNat * 8 + 1, none⟩ = false := hfr10 1; have hf10_2 : w11.frozen? ⟨go10, (x4_1 : Int).toNat * 8 + 2, none⟩ = false := hfr10 2; have hf10_3 : w11.frozen? ⟨go10, (x4_1 : Int).toNat * 8 + 3, none⟩ = false := hfr10 3; have hf10_4 : w11.frozen? ⟨go10, (x4_1 : Int).toNat * 8 + 4, none⟩ = false := hfr10 4; have hf10_5 : w11.frozen? ⟨go10, (x4_1 : Int).toNat * 8 + 5, none⟩ = false := hfr10 5; have hf10_6 : w11.frozen? ⟨go10, (x4_1 : Int).toNat * 8 + 6, none⟩ = false := hfr10 6; have hf10_7 : w11.frozen? ⟨go10, (x4_1 : Int).toNat * 8 + 7, none⟩ = false := hfr10 7; clear hcl10 hcc10 hfr10 hM10; replace p10 := eq_true p10; replace q10 := eq_true q10; have n_ := Aside0.mk (Kd.S_mono (ok' := (fun k_ => some k_ ≠ (v168 : Value).ownBlock ∧ some k_ ≠ (v171 : Value).ownBlock)) HO_3.out (fun k_ hk => ⟨hk.1.2, hk.2⟩)); clear HO_3; have HO_3 := n_; clear n_; have HX12 := Aside0.mk (show Kd.S k80 80 w11 w.heap.size (fun k_ => ((fun _ => True)) k_ ∧ ¬ ((fun k_ => some k_ = (v168 : Value).ownBlock ∨ some k_ = (v171 : Value).ownBlock)) k_) (.slice (some ⟨go10, 0, none⟩) x3_1.length co10) x3_1 from (tS (Kd.S_mono HO_3.out (fun k_ hk => ⟨trivial, fun e_ => e_.elim (fun h_ => hk.1 h_) (fun h_ => hk.2 h_)⟩)))); obtain ⟨oki12, ce12, hcl12, hM12, hcc12, hfr12, hoki12, hH12⟩ := Kd.S_elem HX12.out z80 (x4_1 : Int) od_ (by have h_ : (x4_1 : Int) < ((x3_1.length : Int) : Int) := od_; first | exact h_ | (have e_ := (Kd.S_reads' HO_3.out).1; omega) | simpa using h_); obtain ⟨ve12_4, ve12_5, rfl, ge12_4, ge12_5⟩ := k80_openM hM12; have HP12 := Kd.S_seg hH12 od_ (by have h_ : (x4_1 : Int) < ((x3_1.length : Int) : Int) := od_; first | exact h_ | (have e_ := (Kd.S_reads' HO_3.out).1; omega) | simpa using h_) (seg := [.int .i64 t163, .int .i64 t164, .int .i64 t165, .bool t166, v168, v171, .int .i64 t173, .int .i64 t174]) (j := 0) (show 8 ≤ 8 from by decide) (x' := (⟨t163, t164, t165, t166, t167, t170, t173, t174⟩ : S80)) (k80_mkM _ _ _ (⟨t163, t164, t165, t166, t167, t170, t173, t174⟩ : S80) (Kd.R_mono (Kd.R_tight rfl (Kd.R_mono (ok' := fun k_ => ((fun _ => True)) k_ ∧ k_ ≠ go10) (Kd.R_apart' (HO169.out) (Kd.S_typed HO_3.out) (by decide)) (fun k_ hk => ⟨trivial, fun e_ => (hk.2) (by rw [e_]; rfl)⟩))) (fun _ h_ => Or.inr (Or.inl h_))) (Kd.R_mono (Kd.R_tight rfl (Kd.R_mono (ok' := fun k_ => ((fun _ => True)) k_ ∧ k_ ≠ go10) (Kd.R_apart' (HO172.out) (Kd.S_typed HO_3.out) (by decide)) (fun k_ hk => ⟨trivial, fun e_ => (hk.2) (by rw [e_]; rfl)⟩))) (fun _ h_ => Or.inr (Or.inr (h_)))) (hd := by intro q_ h4_ h5_; have e_ := HO169.out.1 q_ h4_.symm; first | exact e_ h5_ | exact e_.1 h5_ | exact e_.2 h5_ | exact e_.1.1 h5_ | exact e_.1.2 h5_ | exact e_.2.1 h5_ | exact e_.2.2 h5_)) (fun _ hk => hk) (fun k_ hk_ => hk_.elim (fun h_ => ((Kd.R_mono (ok' := fun k_ => ((fun _ => True)) k_ ∧ k_ ≠ go10) (Kd.R_apart' (HO169.out) (Kd.S_typed HO_3.out) (by decide)) (fun k_ hk => ⟨trivial, fun e_ => (hk.2) (by rw [e_]; rfl)⟩))).1 k_ h_.symm) (fun h_ => ((Kd.R_mono (ok' := fun k_ => ((fun _ => True)) k_ ∧ k_ ≠ go10) (Kd.R_apart' (HO172.out) (Kd.S_typed HO_3.out) (by decide)) (fun k_ hk => ⟨trivial, fun e_ => (hk.2) (by rw [e_]; rfl)⟩))).1 k_ h_.symm)); have hx12_0 := hcc12 0 _ rfl; (try simp only [show (k80).sz = 8 from rfl, Nat.mul_one, Nat.add_zero] at hx12_0); have hf12_0 := hfr12 0; (try simp only [show (k80).sz = 8 from rfl, Nat.mul_one, Nat.add_zero] at hf12_0); have hx12_1 := hcc12 1 _ rfl; (try simp only [show (k80).sz = 8 from rfl, Nat.mul_one, Nat.add_zero] at hx12_1); have hf12_1 := hfr12 1; (try simp only [show (k80).sz = 8 from rfl, Nat.mul_one, Nat.add_zero] at hf12_1); have hx12_2 := hcc12 2 _ rfl; (try simp only [show (k80).sz = 8 from rfl, Nat.mul_one, Nat.add_zero] at hx12_2); have hf12_2 := hfr12 2; (try simp only [show (k80).sz = 8 from rfl, Nat.mul_one, Nat.add_zero] at hf12_2); have hx12_3 := hcc12 3 _ rfl; (try simp only [show (k80).sz = 8 from rfl, Nat.mul_one, Nat.add_zero] at hx12_3); have hf12_3 := hfr12 3; (try simp only [show (k80).sz = 8 from rfl, Nat.mul_one, Nat.add_zero] at hf12_3); have hx12_4 := hcc12 4 _ rfl; (try simp only [show (k80).sz = 8 from rfl, Nat.mul_one, Nat.add_zero] at hx12_4); have hf12_4 := hfr12 4; (try simp only [show (k80).sz = 8 from rfl, Nat.mul_one, Nat.add_zero] at hf12_4); have hx12_5 := hcc12 5 _ rfl; (try simp only [show (k80).sz = 8 from rfl, Nat.mul_one, Nat.add_zero] at hx12_5); have hf12_5 := hfr12 5; (try simp only [show (k80).sz = 8 from rfl, Nat.mul_one, Nat.add_zero] at hf12_5); have hx12_6 := hcc12 6 _ rfl; (try simp only [show (k80).sz = 8 from rfl, Nat.mul_one, Nat.add_zero] at hx12_6); have hf12_6 := hfr12 6; (try simp only [show (k80).sz = 8 from rfl, Nat.mul_one, Nat.add_zero] at hf12_6); have hx12_7 := hcc12 7 _ rfl; (try simp only [show (k80).sz = 8 from rfl, Nat.mul_one, Nat.add_zero] at hx12_7); have hf12_7 := hfr12 7; (try simp only [show (k80).sz = 8 from rfl, Nat.mul_one, Nat.add_zero] at hf12_7); clear hcl12 hcc12 hfr12 hM12 hoki12 hH12) | ((with_reducible refine gate_store (t := 80) (p := 21) rfl ?_); refine store_event (t := 80) (p := 21) (v := ?vo_w13) (w1 := ((((((((w11.setCell ⟨go10, (x4_1 : Int).toNat * 8, none⟩ (.int .i64 t163)).setCell ⟨go10, (x4_1 : Int).toNat * 8 + 1, none⟩ (.int .i64 t164)).setCell ⟨go10, (x4_1 : Int).toNat * 8 + 2, none⟩ (.int .i64 t165)).setCell ⟨go10, (x4_1 : Int).toNat * 8 + 3, none⟩ (.bool t166)).setCell ⟨go10, (x4_1 : Int).toNat * 8 + 4, none⟩ (v168)).setCell ⟨go10, (x4_1 : Int).toNat * 8 + 5, none⟩ (v171)).setCell ⟨go10, (x4_1 : Int).toNat * 8 + 6, none⟩ (.int .i64 t173)).setCell ⟨go10, (x4_1 : Int).toNat * 8 + 7, none⟩ (.int .i64 t174))) ?hg ?ho ?hn ?hr ?_; (case ho => rfl); (case hg => rfl); (case hn => rfl); (case hr => first | (go_simp; done) | (go_simp; rfl) | ((try (obtain ⟨_, _, rfl⟩ := Kd.R_slice HO169.out)); (try (obtain ⟨_, _, rfl⟩ := Kd.R_slice HO172.out)); first | (go_simp; done) | (go_simp; rfl))); intro w13 hw; have hg : w11.grownBy w13 (some go10) := (by rw [hw]; exact HP12.2); have hp_ : Kd.S k80 80 w13 w.heap.size (fun _ => True) (.slice (some ⟨go10, 0, none⟩) x3_1.length co10) y175 := (by rw [hw, Ny175.out]; exact HP12.1); clear HP12; replace HO_3 := am_ (hp_); replace HB := am_ ((by rw [hw]; exact below_set (below_set (below_set (below_set (below_set (below_set (below_set (below_set (HB.out) GB10.out) GB10.out) GB10.out) GB10.out) GB10.out) GB10.out) GB10.out) GB10.out : Below w.heap.size w w13)); clear HO169 HO172; clear hg hw hp_))
   go_roundg k1
   case measure => have := HK1.out; omega
   case rel => exact ⟨(y175), (wrap64 (x4_1 + 1)), eqq_, H', ⟨by have := HK1.out; omega⟩, ⟨qS HO_3⟩, ⟨qB HB⟩⟩

/-! ### slices_Clone_byte: function 119 -/
def slices_Clone_byte.f (l0 : List Int) : Option (List Int) := (some (([] : List Int) : List Int)).bind fun y176 => (if y176.length + l0.length < 140737488355328 then (some (y176 ++ l0)) else (none))
set_option maxHeartbeats 8000000 in
set_option maxRecDepth 100000 in
theorem slices_Clone_byte.calls_some (a0_ : Addr) (c0 : Nat) (l0 : List Int) (r : List Int) (w : World) (hr0 : Kd.C (Kd.int .u8) w (some a0_) l0.length l0) (hc0 : l0.length ≤ c0) (h : slices_Clone_byte.f l0 = some r) :
  Calls Try.prog 119 #[.slice (some a0_) l0.length c0] w fun e w' => ∃ v0_ : Value, e = .returned (v0_) ∧ Kd.R (Kd.int .u8) 5 w' w.heap.size (fun _ => True) v0_ r ∧ Below w.heap.size w w' := by
 have HR0 := Aside0.mk hr0
 have HC0 := Aside0.mk hc0
 clear hr0 hc0
 have HB := Aside0.mk (Below.refl w.heap.size w)
 have H := h
 unfold slices_Clone_byte.f at H
 clear h
 obtain ⟨y176, hy176⟩ : ∃ y_ : List Int, y_ = (([] : List Int)) := ⟨_, rfl⟩
 replace H := mk_ H hy176
 (try dsimp only at H)
 have Ny176 := Aside0.mk hy176
 clear hy176
 by_cases c2 : y176.length + l0.length < 140737488355328
 case neg => exact nn_ c2 H
 rw [if_pos c2] at H
 have LMc2 := Aside0.mk c2
 clear c2
 obtain ⟨y179, hy179⟩ : ∃ y_ : List Int, y_ = (y176 ++ l0) := ⟨_, rfl⟩
 replace H : (some y179) = some r := by first | (rw [hy179]; with_reducible exact H) | (have H2_ := (Option.bind_some _ _).symm.trans H; rw [hy179]; with_reducible exact H2_) | (have H2_ := (Option.bind_some _ _).symm.trans H; with_reducible exact H2_) | with_reducible exact H | (rw [hy179]; exact H) | exact H
 have Ny179 := Aside0.mk hy179
 clear hy179
 obtain rfl := Option.some.inj H
 have hnil := fun (W : World) => Lib.run_eql_slice_nil (P := Try.prog) W 70 5 (some a0_) l0.length c0 0 0 Try.underlying70
 go_enter Try.func119, Try.ntmps119
 go_wp2_with (first | ((with_reducible refine gate_dst (N := 5) rfl ?_); refine Kd.R_lit (Kd.int .u8) _ 5 ?hg (N := 5) ?hd (xs := ([] : List Int)) (inner := []) (ok := fun _ => True) (okp := fun _ => True) ?hr ?hp (fun _ hk => hk) trivial (Below.refl _ _) (Nat.le_refl _) (by simp) ?_; (case hd => rfl); (case hg => rfl); (case hr => first | (go_simp; done) | (go_simp; rfl)); (case hp => exact (Reps.none _ _)); intro v177 w3 ho4 hb hg_ hnew_; clear hg_ hnew_; (first | rw [← Ny176.out] at ho4 | (simp only [Int.reduceToNat] at ho4; rw [← Ny176.out] at ho4)); have HO178 := am_ (Kd.R_lower ho4 (below_size (qB HB))); replace HB := bS_ HB hb; clear hb ho4) | ((with_reducible refine gate_builtin (b := .append) (xs := #[.tmp 5, .tmp 6]) rfl ?_); at_builtin; refine Kd.R_append_rows (Kd.int .u8) (w0 := w) w.heap.size rfl (.tmp 5) (.tmp 6) 70 5 (.int .u8 0) 1 rfl Try.underlying70 info5 rfl (by decide) (by omega) v177 y176 l0 _ _ _ (fun _ => True) (fun _ => False) rfl rfl ?aO ?aR (fun _ _ h => h) (fun _ h => h.elim) ?aF ?aB ?aS ?aL ?_; (case aR => exact qC (Kd.C_below HR0.out HB.out)); (case aB => exact (qB HB)); (case aF => exact (fun _ _ => trivial)); (case aO => exact (qR HO178)); (case aS => exact (below_size (qB HB))); (case aL => have := LMc2.out; omega); intro v180 w5 ho hb hg hat; rw [← Ny179.out] at ho; replace HB := am_ (hb); have HO181 := am_ (ho); clear HO178; clear ho hb hg hat))
 go_ret
 exact ⟨_, er_, qR HO181, qB HB⟩
set_option maxHeartbeats 4000000 in
set_option maxRecDepth 100000 in
theorem slices_Clone_byte.calls_nil (c0 : Nat) (w : World) : Calls Try.prog 119 #[.slice none 0 c0] w fun e w' => e = .returned (.slice none 0 0) ∧ Below w.heap.size w w' := by
 have hnil := fun (W : World) => Lib.run_eql_slice_nil (P := Try.prog) W 70 5 none 0 c0 0 0 Try.underlying70
 go_enter Try.func119, Try.ntmps119
 go_wp2
 go_ret
 exact ⟨rfl, Below.refl _ _⟩
theorem slices_Clone_byte.calls (A0 : Option Addr) (c0 : Nat) (l0 : List Int) (r : List Int) (w : World) (hr0 : Kd.C (Kd.int .u8) w A0 l0.length l0) (hc0 : l0.length ≤ c0) (h : slices_Clone_byte.f l0 = some r) :
  Calls Try.prog 119 #[.slice A0 l0.length c0] w fun e w' => ∃ v0_ : Value, e = .returned (v0_) ∧ Kd.R (Kd.int .u8) 5 w' w.heap.size (fun _ => True) v0_ r ∧ Below w.heap.size w w' := by
 cases A0 with
 | some a0_ => exact slices_Clone_byte.calls_some a0_ c0 l0 r w hr0 hc0 h
 | none =>
  obtain rfl : l0 = [] := by
   rcases l0 with _ | ⟨x_, l_⟩
   ·
    rfl
   ·
    obtain ⟨_, e_, _⟩ := hr0.2.2 (by simp)
    cases e_
  obtain rfl : r = [] := by
   have h' := h
   simp [slices_Clone_byte.f] at h'
   exact h'
  refine (slices_Clone_byte.calls_nil c0 w).mono ?_
  rintro e w' ⟨rfl, hb⟩
  exact ⟨_, rfl, Kd.R_nil _ _ _ _ _, hb⟩

/-! ### impl_sockCopy: function 90 -/
def impl_sockCopy.f (a0_0 : Int) (a0_1 : Int) (a0_2 : Int) (a0_3 : Bool) (l0_4 : List Int) (l0_5 : List Int) (a0_6 : Int) (a0_7 : Int) : Option (Int × Int × Int × Bool × List Int × List Int × Int × Int) := (slices_Clone_byte.f l0_4).bind fun t184 => ((slices_Clone_byte.f l0_5).bind fun t187 => (some (a0_0, a0_1, a0_2, a0_3, t184, t187, a0_6, a0_7)))
def impl_sockCopy.T1 : Bool × List (List Nat × List Nat) := (true, [([], []), ([0], [0]), ([1], [1]), ([], []), ([3], [3]), ([4, 2], [4]), ([0, 1, 2, 3, 4], []), ([6, 2, 5, 0, 1, 2, 3, 4], [2, 6]), ([0, 1, 2, 3, 4, 5, 6, 7], []), ([8, 5, 7, 0, 1, 2, 3, 4, 5, 6, 7], [5, 8])])
def impl_sockCopy.B1 : List Nat := [0, 1, 3, 0, 8, 31, 31, 127, 255, 511]
theorem impl_sockCopy.tab1 : rtab .any (opsOf Try.f90 1) = impl_sockCopy.T1 := by kernel_rfl
theorem impl_sockCopy.bits1 : waitsOk impl_sockCopy.T1.2 impl_sockCopy.B1 = true := by kernel_rfl
set_option maxHeartbeats 8000000 in
set_option maxRecDepth 100000 in
theorem impl_sockCopy.calls (a0_0 : Int) (a0_1 : Int) (a0_2 : Int) (a0_3 : Bool) (A0_4 : Option Addr) (c0_4 : Nat) (l0_4 : List Int) (A0_5 : Option Addr) (c0_5 : Nat) (l0_5 : List Int) (a0_6 : Int) (a0_7 : Int) (r1 : Int) (r2 : Int) (r3 : Int) (r4 : Bool) (r5 : List Int) (r6 : List Int) (r7 : Int) (r8 : Int) (w : World) (hr0_4 : Kd.C (Kd.int .u8) w A0_4 l0_4.length l0_4) (hc0_4 : l0_4.length ≤ c0_4) (hr0_5 : Kd.C (Kd.int .u8) w A0_5 l0_5.length l0_5) (hc0_5 : l0_5.length ≤ c0_5) (h : impl_sockCopy.f a0_0 a0_1 a0_2 a0_3 l0_4 l0_5 a0_6 a0_7 = some (r1, r2, r3, r4, r5, r6, r7, r8)) :
  Calls Try.prog 90 #[.agg #[.int .i64 a0_0, .int .i64 a0_1, .int .i64 a0_2, .bool a0_3, .slice A0_4 l0_4.length c0_4, .slice A0_5 l0_5.length c0_5, .int .i64 a0_6, .int .i64 a0_7]] w fun e w' => ∃ v4_ v5_ : Value, e = .returned (.agg #[.int .i64 r1, .int .i64 r2, .int .i64 r3, .bool r4, v4_, v5_, .int .i64 r7, .int .i64 r8]) ∧ Kd.R (Kd.int .u8) 5 w' w.heap.size (fun k_ => some k_ ≠ (v5_ : Value).ownBlock) v4_ r5 ∧ Kd.R (Kd.int .u8) 5 w' w.heap.size (fun k_ => some k_ ≠ (v4_ : Value).ownBlock) v5_ r6 ∧ Below w.heap.size w w' := by
 have hu80 := Try.underlying80
 have HR0_4 := Aside0.mk hr0_4
 have HC0_4 := Aside0.mk hc0_4
 clear hr0_4 hc0_4
 have HR0_5 := Aside0.mk hr0_5
 have HC0_5 := Aside0.mk hc0_5
 clear hr0_5 hc0_5
 have HB := Aside0.mk (Below.refl w.heap.size w)
 have H := h
 unfold impl_sockCopy.f at H
 clear h
 replace H := bd_ H
 obtain ⟨t184, A2, H⟩ := H
 replace H := bd_ H
 obtain ⟨t187, A3, H⟩ := H
 simp only [Option.some.injEq, Prod.mk.injEq] at H
 obtain ⟨rfl, rfl, rfl, rfl, rfl, rfl, rfl, rfl⟩ := H
 go_enter Try.func90, Try.ntmps90
 try go_wp2_with (first | ((with_reducible refine gate_dst (N := 1) rfl ?_); refine box_event ?hg (N := 1) ?hd (cs := #[.int .i64 a0_0, .int .i64 a0_1, .int .i64 a0_2, .bool a0_3, .slice A0_4 l0_4.length c0_4, .slice A0_5 l0_5.length c0_5, .int .i64 a0_6, .int .i64 a0_7]) (t := 80) ?hr ?_; (case hd => rfl); (case hg => rfl); (case hr => first | (go_simp; done) | (go_simp; rfl)); intro gb182 hg w4 hbox hb; have BK182 := am_ (hbox); have GW182 := gA_ hg HB; have GE182 := GW182; have IGE182 := gI_ GE182; replace HB := bS_ HB hb; clear hb hbox hg) | ((with_reducible refine gate_dst (N := 2) rfl ?_); refine box_event ?hg (N := 2) ?hd (cs := #[.int .i64 0, .int .i64 0, .int .i64 0, .bool false, .slice none 0 0, .slice none 0 0, .int .i64 0, .int .i64 0]) (t := 80) ?hr ?_; (case hd => rfl); (case hg => rfl); (case hr => first | (go_simp; done) | (go_simp; rfl)); intro gb183 hg w5 hbox hb; have BK183 := am_ (hbox); have GW183 := gA_ hg HB; have GE183 := GW183; have IGE183 := gI_ GE183; replace HB := bS_ HB hb; have NB182_183 := am_ ((gN_ hg (qK BK182))); have NB183_182 := am_ ((gM_ hg (qK BK182))); replace BK182 := bK_ BK182 hb; clear hb hbox hg))
 replace BK182 := am_ (blk_drew BK182.out)
 replace BK183 := am_ (blk_drew BK183.out)
 replace HB := am_ (below_drew1 HB.out)
 refine start_ (n := 10) (S := fun w' => w'.cell? ⟨gb182, 0, none⟩ = some (.int .i64 a0_0) ∧ w'.cell? ⟨gb182, 1, none⟩ = some (.int .i64 a0_1) ∧ w'.cell? ⟨gb182, 2, none⟩ = some (.int .i64 a0_2) ∧ w'.cell? ⟨gb182, 3, none⟩ = some (.bool a0_3) ∧ w'.cell? ⟨gb182, 4, none⟩ = some (.slice A0_4 l0_4.length c0_4) ∧ w'.cell? ⟨gb182, 5, none⟩ = some (.slice A0_5 l0_5.length c0_5) ∧ w'.cell? ⟨gb182, 6, none⟩ = some (.int .i64 a0_6) ∧ w'.cell? ⟨gb182, 7, none⟩ = some (.int .i64 a0_7)) (ds := [7, 9]) #[oo,oo,oo,oo,oo,oo,oo,oo,oo,oo] (by kernel_rfl) rfl rfl (cz8 BK182.out) (fun hHeld => ?_); refine with_tabW impl_sockCopy.tab1 impl_sockCopy.bits1 (fun HT_ HW_ => ?_)
 generalize w5.drew = w6 at BK182 BK183 HB hHeld ⊢
 refine pz_ (i := 0) (N := some 3) HT_ #[ii,oo,oo,oo,oo,oo,oo,oo,oo,oo] rfl rfl ?_
 refine pz_ (i := 3) (N := some 6) HT_ #[ii,oo,oo,ii,oo,oo,oo,oo,oo,oo] rfl rfl ?_
 refine take_ (i := 1) (N := some 4) (v := ?_) (a' := ?_) #[ii,ii,oo,ii,oo,oo,oo,oo,oo,oo] rfl rfl (take_ofW HT_.out HW_.out (by kernel_rfl)) (fun _ _ _ h => h) (Or.inl ⟨by rfl, ?_⟩) hHeld ?_ ?_
 rotate_left
 ·
  rintro w' ⟨s0, s1, s2, s3, s4, s5, s6, s7⟩
  go_simp
  with_reducible rfl
 rotate_left
 ·
  exact ap_
 refine take_ (i := 4) (N := some 7) (v := ?_) (a' := ?_) #[ii,ii,oo,ii,ii,oo,oo,oo,oo,oo] rfl rfl (take_ofW HT_.out HW_.out (by kernel_rfl)) (fun _ _ _ h => h) (Or.inl ⟨by rfl, ?_⟩) hHeld ?_ ?_
 rotate_left
 ·
  rintro w' ⟨s0, s1, s2, s3, s4, s5, s6, s7⟩
  go_simp
  with_reducible rfl
 rotate_left
 ·
  exact ap_
 refine one_ (i := 2) (N := some 5) #[ii,ii,ii,ii,ii,oo,oo,oo,oo,oo] rfl rfl (one_of HT_.out (by kernel_rfl)) (by decide) (fun K hK => ?_)
 refine goes_ Try.func119 (by kernel_rfl) rfl #[.slice A0_4 l0_4.length c0_4] (by rfl) rfl rfl la_ ?_
 with_reducible refine (slices_Clone_byte.calls _ _ l0_4 t184 _ ?side1 ?side2 A2.out).mono ?_
 (case side1 => exact qC (Kd.C_below HR0_4.out HB.out))
 (case side2 => exact HC0_4.out)
 rintro e w7 ⟨v185, rfl, ho0, hb⟩
 refine ⟨_, rfl, ?_⟩
 have HO186 := am_ (Kd.R_lower ho0 (below_size (qB HB)))
 replace BK182 := bK_ BK182 hb
 replace BK183 := bK_ BK183 hb
 replace HB := bS_ HB hb
 (try clear hb ho0)
 refine hK.out _ _ (cz8 BK182.out) (fun hHeld => ?_)
 clear hK K
 refine norm_ (a' := ?_) ?_ ?_
 rotate_left
 ·
  show Act.put _ (some 5) _ = _
  exact ap_
 refine pz_ (i := 6) (N := some 9) HT_ #[ii,ii,ii,ii,ii,oo,ii,oo,oo,oo] rfl rfl ?_
 refine one_ (i := 5) (N := some 8) #[ii,ii,ii,ii,ii,ii,ii,oo,oo,oo] rfl rfl (one_of HT_.out (by kernel_rfl)) (by decide) (fun K hK => ?_)
 refine goes_ Try.func119 (by kernel_rfl) rfl #[.slice A0_5 l0_5.length c0_5] (by rfl) rfl rfl la_ ?_
 with_reducible refine (slices_Clone_byte.calls _ _ l0_5 t187 _ ?side1 ?side2 A3.out).mono ?_
 (case side1 => exact qC (Kd.C_below HR0_5.out HB.out))
 (case side2 => exact HC0_5.out)
 rintro e w8 ⟨v188, rfl, ho0, hb⟩
 refine ⟨_, rfl, ?_⟩
 have HO189 := am_ (Kd.R_lower (Kd.R_new' ho0 (Kd.R_lt (qR HO186))) (below_size (qB HB)))
 replace HO186 := eA_ HO186 ho0 hb
 replace BK182 := bK_ BK182 hb
 replace BK183 := bK_ BK183 hb
 replace HB := bS_ HB hb
 (try clear hb ho0)
 obtain ⟨Ao9, co9, eo9⟩ := Kd.R_slice HO186.out
 (first | subst eo9 | (injection eo9 with f1_ f2_ f3_; have f4_ := f1_.symm; have f5_ := f3_.symm; clear f1_ f2_ f3_; subst f4_; subst f5_))
 obtain ⟨Ao11, co11, eo11⟩ := Kd.R_slice HO189.out
 (first | subst eo11 | (injection eo11 with f1_ f2_ f3_; have f4_ := f1_.symm; have f5_ := f3_.symm; clear f1_ f2_ f3_; subst f4_; subst f5_))
 refine hK.out _ _ (cz8 BK182.out) (fun hHeld => ?_)
 clear hK K
 refine norm_ (a' := ?_) ?_ ?_
 rotate_left
 ·
  show Act.put _ (some 8) _ = _
  exact ap_
 refine last_ (i := 7) (N := none) #[ii,ii,ii,ii,ii,ii,ii,ii,oo,oo] rfl rfl (one_of HT_.out (by kernel_rfl)) (by decide) (fun K hK => ?_)
 have hs10 : w8.cell? ⟨gb182, 4, none⟩ = some (.slice A0_4 l0_4.length c0_4) := (blk_cell BK182.out 4).trans rfl
 have hfs10 := blk_frozen BK182.out 4
 have hns10_1 := NB183_182.out
 have hms10_1 := NB182_183.out
 refine skip_ (w1 := ?_) (by rfl) rfl ?_ ?_
 rotate_left
 ·
  go_simp
  rfl
 refine hK.out _ _ ?_
 clear hK K
 refine pz_ (i := 8) (N := some 10) HT_ #[ii,ii,ii,ii,ii,ii,ii,ii,ii,oo] rfl rfl ?_
 refine last_ (i := 9) (N := none) #[ii,ii,ii,ii,ii,ii,ii,ii,ii,ii] rfl rfl (one_of HT_.out (by kernel_rfl)) (by decide) (fun K hK => ?_)
 have hs12 : w8.cell? ⟨gb182, 5, none⟩ = some (.slice A0_5 l0_5.length c0_5) := (blk_cell BK182.out 5).trans rfl
 have hfs12 := blk_frozen BK182.out 5
 have hns12_1 := NB183_182.out
 have hms12_1 := NB182_183.out
 refine skip_ (w1 := ?_) (by rfl) rfl ?_ ?_
 rotate_left
 ·
  go_simp
  rfl
 refine hK.out _ _ ?_
 clear hK K
 refine done_ (done_of HT_.out (by kernel_rfl)) ?_
 have hnb13 := NB182_183.out
 have hnc13 := NB183_182.out
 have z14 := cz8 BK182.out
 have f14 := fz8 BK182.out
 have z15 := cz8 BK183.out
 have f15 := fz8 BK183.out
 try go_wp2
 refine bodyPost_ret (results_cell_row rfl _ _ gb183 80 #[.int .i64 a0_0, .int .i64 a0_1, .int .i64 a0_2, .bool a0_3, .slice Ao9 t184.length co9, .slice Ao11 t187.length co11, .int .i64 a0_6, .int .i64 a0_7] (0, 0) _ rfl (by exact blk_all8 (blk_far1 (blk_far1 (qK BK183) NB183_182.out) NB183_182.out)) Try.underlying80 rfl (by kernel_rfl)) rfl ?_
 exact ⟨_, _, er_, by (with_reducible repeat (first | apply Kd.R_alloc | apply Kd.R_drewN | apply Kd.R_drew)); exact Kd.R_mono (R_far8 (g := gb183) (R_far2 (g := gb182) (Kd.R_types (Kd.R_types HO186.out BK182.out (by decide)) BK183.out (by decide)) (fun _ hk => hk.1.2)) (fun _ hk => hk.2)) (fun _ hk => hk.1.1.2), by (with_reducible repeat (first | apply Kd.R_alloc | apply Kd.R_drewN | apply Kd.R_drew)); exact Kd.R_mono (R_far8 (g := gb183) (R_far2 (g := gb182) (Kd.R_types (Kd.R_types HO189.out BK182.out (by decide)) BK183.out (by decide)) (fun _ hk => hk.1.2)) (fun _ hk => hk.2)) (fun _ hk => hk.1.1.2), qB HB⟩

/-! ### impl_socksCopy: function 44 -/
def impl_socksCopy.l0 : Nat → List (S80) → List (S80) → Int → Int → Option ((List (S80)))
 | 0, _, _, _, _ => none
 | k + 1, x3, x7, x8, x9 => if x9 < x8 then (if 0 ≤ x9 then (if x9 < (x7.length : Int) then ((impl_sockCopy.f ((rd_T80 x7 x9).f0) ((rd_T80 x7 x9).f1) ((rd_T80 x7 x9).f2) ((rd_T80 x7 x9).f3) ((rd_T80 x7 x9).f4) ((rd_T80 x7 x9).f5) ((rd_T80 x7 x9).f6) ((rd_T80 x7 x9).f7)).bind fun bt195 => (if x3.length < 1466015503701 then (impl_socksCopy.l0 k (x3 ++ [(⟨bt195.1, bt195.2.1, bt195.2.2.1, bt195.2.2.2.1, bt195.2.2.2.2.1, bt195.2.2.2.2.2.1, bt195.2.2.2.2.2.2.1, bt195.2.2.2.2.2.2.2⟩ : S80)]) x7 x8 (wrap64 (x9 + 1))) else (none))) else (none)) else (none)) else (some x3)
def impl_socksCopy.f (k : Nat) (l0 : List (S80)) : Option ((List (S80))) := impl_socksCopy.l0 k (([] : List (S80))) l0 (l0.length : Int) 0
theorem impl_socksCopy.mono_l : ∀ k, (∀ y0 y1 y2 y3, LeO (impl_socksCopy.l0 k y0 y1 y2 y3) (impl_socksCopy.l0 (k + 1) y0 y1 y2 y3))
 | 0 => fun _ _ _ _ r h => by simp [impl_socksCopy.l0] at h
 | k + 1 => by
  have ih0 := impl_socksCopy.mono_l k
  ·
   intro y0 y1 y2 y3
   unfold impl_socksCopy.l0
   repeat' first
   | (with_reducible exact ih0 _ _ _ _)
   | (with_reducible exact LeO.refl _)
   | (with_reducible exact LeO.none _)
   | (with_reducible refine LeO.ite ?_ ?_)
   | (with_reducible refine LeO.bind ?_ (fun _ => ?_))
theorem impl_socksCopy.mono : ∀ a0 k, LeO (impl_socksCopy.f k a0) (impl_socksCopy.f (k + 1) a0) := by
 intro a0 k
 have ih0 := impl_socksCopy.mono_l k
 unfold impl_socksCopy.f
 repeat' first
   | (with_reducible exact ih0 _ _ _ _)
   | (with_reducible exact LeO.refl _)
   | (with_reducible exact LeO.none _)
   | (with_reducible refine LeO.ite ?_ ?_)
   | (with_reducible refine LeO.bind ?_ (fun _ => ?_))
set_option maxHeartbeats 8000000 in
set_option maxRecDepth 100000 in
theorem impl_socksCopy.calls (k : Nat) (A0 : Option Addr) (c0 : Nat) (l0 : List (S80)) (r : List (S80)) (w : World) (hr0 : Kd.C k80 w A0 l0.length l0) (hc0 : l0.length ≤ c0) (h : impl_socksCopy.f k l0 = some r) :
  Calls Try.prog 44 #[.slice A0 l0.length c0] w fun e w' => ∃ v0_ : Value, e = .returned (v0_) ∧ Kd.S k80 80 w' w.heap.size (fun _ => True) v0_ r ∧ Below w.heap.size w w' := by
 have hu80 := Try.underlying80
 have HR0 := Aside0.mk hr0
 have HC0 := Aside0.mk hc0
 clear hr0 hc0
 have HB := Aside0.mk (Below.refl w.heap.size w)
 have H := h
 unfold impl_socksCopy.f at H
 clear h
 obtain ⟨y190, hy190⟩ : ∃ y_ : List (S80), y_ = (([] : List (S80))) := ⟨_, rfl⟩
 rw [← hy190] at H
 have Ny190 := Aside0.mk hy190
 clear hy190
 have H' := Aside0.mk H
 clear H
 go_enter Try.func44, Try.ntmps44
 go_wp2_with (first | ((with_reducible refine gate_dst (N := 6) rfl ?_); refine Kd.S_lit k80 _ 80 ?hg (N := 6) ?hd (xs := ([] : List (S80))) (inner := []) (ok := fun _ => True) (okp := fun _ => True) ?hr ?hp (fun _ hk => hk) trivial (Below.refl _ _) (Nat.le_refl _) (by simp) ?_; (case hd => rfl); (case hg => rfl); (case hr => first | (go_simp; done) | (go_simp; rfl)); (case hp => exact (Reps.none _ _)); intro v191 w2 ho3 hb hg_ hnew_; clear hg_ hnew_; (first | rw [← Ny190.out] at ho3 | (simp only [Int.reduceToNat] at ho3; rw [← Ny190.out] at ho3)); have HO192 := am_ (Kd.S_lower ho3 (below_size (qB HB))); replace HB := bS_ HB hb; clear hb ho3))
 go_loopg [3, 9] k (fun kq v3 v9 w' => ∃ (x3_1 : List (S80)) (x9_1 : Int), v9 = .int .i64 x9_1 ∧ Aside0 (impl_socksCopy.l0 kq x3_1 l0 (l0.length : Int) x9_1 = some r) ∧ Aside0 (kq ≤ k) ∧ Aside0 (Kd.S k80 80 w' w.heap.size (fun _ => True) v3 x3_1) ∧ Aside0 (Below w.heap.size w w'))
 case atStart => exact ⟨(y190), (0), eqq_, H', ⟨Nat.le_refl _⟩, ⟨qS HO192⟩, ⟨qB HB⟩⟩
 case round =>
  clear H'
  try clear p2
  obtain ⟨x3_1, x9_1, rfl, HA, HK1, HO_3, HB⟩ := hrel
  cases gk with
  | zero => exact absurd HA.out (by simp [impl_socksCopy.l0])
  | succ k1 =>
   have H := HA.out
   clear HA
   simp only [impl_socksCopy.l0] at H
   by_cases c4 : x9_1 < (l0.length : Int)
   rotate_left
   ·
    rw [if_neg c4] at H
    have c4b0 : decide (x9_1 < (l0.length : Int)) = false := decide_eq_false c4
    clear c4
    obtain rfl := Option.some.inj H
    go_wp2
    go_ret
    exact ⟨_, er_, qS HO_3, qB HB⟩
   rw [if_pos c4] at H
   have c4b0 : decide (x9_1 < (l0.length : Int)) = true := decide_eq_true c4
   clear c4
   by_cases c5 : 0 ≤ x9_1
   case neg => exact nn_ c5 H
   rw [if_pos c5] at H
   have c5b0 : decide (0 ≤ x9_1) = true := decide_eq_true c5
   clear c5
   by_cases c6 : x9_1 < (l0.length : Int)
   case neg => exact nn_ c6 H
   rw [if_pos c6] at H
   have c6b0 : decide (x9_1 < (l0.length : Int)) = true := decide_eq_true c6
   clear c6
   replace H := bf_ H
   obtain ⟨f_, hf_, ⟨t195, t196, t197, t198, t199, t202, t205, t206⟩, A7, H⟩ := H
   subst hf_
   (try dsimp only at H)
   by_cases c8 : x3_1.length < 1466015503701
   case neg => exact nn_ c8 H
   rw [if_pos c8] at H
   have LMc8 := Aside0.mk c8
   clear c8
   obtain ⟨y207, hy207⟩ : ∃ y_ : List (S80), y_ = (x3_1 ++ [(⟨t195, t196, t197, t198, t199, t202, t205, t206⟩ : S80)]) := ⟨_, rfl⟩
   rw [← hy207] at H
   have Ny207 := Aside0.mk hy207
   clear hy207
   have H' := Aside0.mk H
   clear H
   have p193 : 0 ≤ (x9_1 : Int) := od_
   have q193 : x9_1 < (l0.length : Int) := od_
   obtain ⟨ad193, A193_4, c193_4, A193_5, c193_5, e193, hx193_0, hx193_1, hx193_2, hx193_3, hx193_4, hx193_5, hx193_6, hx193_7, hl193_4, hi193_4, hl193_5, hi193_5⟩ := at_T80 HR0.out x9_1 p193 q193
   cases e193
   replace hx193_0 := lb_ HB hx193_0
   replace hx193_1 := lb_ HB hx193_1
   replace hx193_2 := lb_ HB hx193_2
   replace hx193_3 := lb_ HB hx193_3
   replace hx193_4 := lb_ HB hx193_4
   replace hx193_5 := lb_ HB hx193_5
   replace hx193_6 := lb_ HB hx193_6
   replace hx193_7 := lb_ HB hx193_7
   have HR193_4 := Aside0.mk hi193_4
   have HC193_4 := Aside0.mk hl193_4
   clear hi193_4 hl193_4
   have HR193_5 := Aside0.mk hi193_5
   have HC193_5 := Aside0.mk hl193_5
   clear hi193_5 hl193_5
   replace p193 := eq_true p193
   replace q193 := eq_true q193
   go_wp2_with (first | ((with_reducible refine gate_dst (N := 5) rfl ?_); refine box_event ?hg (N := 5) ?hd (cs := #[.int .i64 0, .int .i64 0, .int .i64 0, .bool false, .slice none 0 0, .slice none 0 0, .int .i64 0, .int .i64 0]) (t := 80) ?hr ?_; (case hd => rfl); (case hg => rfl); (case hr => first | (go_simp; done) | (go_simp; rfl)); intro gb194 hg w9 hbox hb; replace HO_3 := am_ (Kd.S_below (Kd.S_elderB (qS HO_3) gb194 (Nat.le_of_eq hg.symm)) hb); have BK194 := am_ (hbox); have GW194 := gA_ hg HB; have GE194 := GW194; have IGE194 := gI_ GE194; replace HB := bS_ HB hb; clear hb hbox hg; have z10 := cz8 BK194.out; have f10 := fz8 BK194.out) | ((with_reducible refine gate_callee (f := 90) rfl ?_); refine goesL_ (some 15) rfl rfl Try.func90 (by kernel_rfl) rfl #[.agg #[.int .i64 ((rd_T80 l0 x9_1).f0), .int .i64 ((rd_T80 l0 x9_1).f1), .int .i64 ((rd_T80 l0 x9_1).f2), .bool ((rd_T80 l0 x9_1).f3), .slice A193_4 ((rd_T80 l0 x9_1).f4).length c193_4, .slice A193_5 ((rd_T80 l0 x9_1).f5).length c193_5, .int .i64 ((rd_T80 l0 x9_1).f6), .int .i64 ((rd_T80 l0 x9_1).f7)]] rfl la_ ?_; (with_reducible refine (impl_sockCopy.calls ((rd_T80 l0 x9_1).f0) ((rd_T80 l0 x9_1).f1) ((rd_T80 l0 x9_1).f2) ((rd_T80 l0 x9_1).f3) _ _ ((rd_T80 l0 x9_1).f4) _ _ ((rd_T80 l0 x9_1).f5) ((rd_T80 l0 x9_1).f6) ((rd_T80 l0 x9_1).f7) t195 t196 t197 t198 t199 t202 t205 t206 _ ?side1 ?side2 ?side3 ?side4 A7.out).mono ?_); (case side1 => exact Kd.C_below HR193_4.out (qB HB)); (case side2 => exact HC193_4.out); (case side3 => exact Kd.C_below HR193_5.out (qB HB)); (case side4 => exact HC193_5.out); rintro e w11 ⟨v200, v203, rfl, ho0, ho1, hb⟩; refine ⟨_, rfl, ?_⟩; replace HO_3 := am_ (Kd.S_mono (Kd.S_told (Kd.S_told (Kd.S_old (by (with_reducible repeat (first | apply Kd.S_alloc | apply Kd.S_drewN | apply Kd.S_drew)); exact (Kd.S_mono (Kd.S_far (p := ⟨gb194, 7, none⟩) (Kd.S_far (p := ⟨gb194, 6, none⟩) (Kd.S_far (p := ⟨gb194, 5, none⟩) (Kd.S_far (p := ⟨gb194, 4, none⟩) (Kd.S_far (p := ⟨gb194, 3, none⟩) (Kd.S_far (p := ⟨gb194, 2, none⟩) (Kd.S_far (p := ⟨gb194, 1, none⟩) (Kd.S_far (p := ⟨gb194, 0, none⟩) (Kd.S_mono HO_3.out (fun k_ hk => (⟨hk, hk.2⟩ : _ ∧ k_ ≠ gb194))) (fun _ hk => hk.2) (.int .i64 ((rd_T80 l0 x9_1).f0))) (fun _ hk => hk.2) (.int .i64 ((rd_T80 l0 x9_1).f1))) (fun _ hk => hk.2) (.int .i64 ((rd_T80 l0 x9_1).f2))) (fun _ hk => hk.2) (.bool ((rd_T80 l0 x9_1).f3))) (fun _ hk => hk.2) (.slice A193_4 ((rd_T80 l0 x9_1).f4).length c193_4)) (fun _ hk => hk.2) (.slice A193_5 ((rd_T80 l0 x9_1).f5).length c193_5)) (fun _ hk => hk.2) (.int .i64 ((rd_T80 l0 x9_1).f6))) (fun _ hk => hk.2) (.int .i64 ((rd_T80 l0 x9_1).f7))) (fun _ h_ => h_.1))) hb) (Kd.R_base ho0)) (Kd.R_base ho1)) (fun _ h_ => h_.1)); have HO201 := am_ (Kd.R_lower ho0 (below_size (qB HB))); have HO204 := am_ (Kd.R_lower ho1 (below_size (qB HB))); replace BK194 := am_ (blk_below (g := gb194) (o := .cells #[.int .i64 ((rd_T80 l0 x9_1).f0), .int .i64 ((rd_T80 l0 x9_1).f1), .int .i64 ((rd_T80 l0 x9_1).f2), .bool ((rd_T80 l0 x9_1).f3), .slice A193_4 ((rd_T80 l0 x9_1).f4).length c193_4, .slice A193_5 ((rd_T80 l0 x9_1).f5).length c193_5, .int .i64 ((rd_T80 l0 x9_1).f6), .int .i64 ((rd_T80 l0 x9_1).f7)] 80 (0, 0)) (by exact blk_all8 (qK BK194)) hb); replace HB := bS_ HB hb; (try clear hb); (try clear hk); (try clear ho0); (try clear ho1); obtain ⟨Ao13, co13, eo13⟩ := Kd.R_slice HO201.out; subst eo13; obtain ⟨Ao14, co14, eo14⟩ := Kd.R_slice HO204.out; subst eo14) | ((with_reducible refine gate_builtin (b := .append) (xs := #[.tmp 13, .tmp 16]) rfl ?_); at_builtin; refine Kd.S_append k80 (w0 := w) w.heap.size rfl (.tmp 13) (.tmp 16) 24 80 (.agg #[(.int .i64 0), (.int .i64 0), (.int .i64 0), (.bool false), (.slice none 0 0), (.slice none 0 0), (.int .i64 0), (.int .i64 0)]) 96 rfl Try.underlying24 info80 rfl (by decide) (by omega) u3 x3_1 (⟨t195, t196, t197, t198, t199, t202, t205, t206⟩ : S80) [.int .i64 t195, .int .i64 t196, .int .i64 t197, .bool t198, .slice Ao13 t199.length co13, .slice Ao14 t202.length co14, .int .i64 t205, .int .i64 t206] (fun k_ => k_ ≠ gb194) (fun k_ => some k_ = (.slice Ao13 t199.length co13 : Value).ownBlock ∨ some k_ = (.slice Ao14 t202.length co14 : Value).ownBlock) rfl rfl ?aP (fun k_ hk_ => hk_.elim (fun h_ => ((Kd.R_mono (ok' := fun k_ => ((fun k_ => k_ ≠ gb194)) k_ ∧ some k_ ≠ (u3 : Value).ownBlock) (Kd.R_types (Kd.R_apart' (HO201.out) (Kd.S_typed HO_3.out) (by decide)) BK194.out (by decide)) (fun k_ hk => ⟨hk.2, hk.1.2⟩))).1 k_ h_.symm) (fun h_ => ((Kd.R_mono (ok' := fun k_ => ((fun k_ => k_ ≠ gb194)) k_ ∧ some k_ ≠ (u3 : Value).ownBlock) (Kd.R_types (Kd.R_apart' (HO204.out) (Kd.S_typed HO_3.out) (by decide)) BK194.out (by decide)) (fun k_ hk => ⟨hk.2, hk.1.2⟩))).1 k_ h_.symm)) ?aF ?aO ?aB ?aS ?aL ?_; (case aP => exact k80_mkM _ _ _ (⟨t195, t196, t197, t198, t199, t202, t205, t206⟩ : S80) (Kd.R_mono (Kd.R_tight rfl (Kd.R_mono (ok' := fun k_ => ((fun k_ => k_ ≠ gb194)) k_ ∧ some k_ ≠ (u3 : Value).ownBlock) (Kd.R_types (Kd.R_apart' (HO201.out) (Kd.S_typed HO_3.out) (by decide)) BK194.out (by decide)) (fun k_ hk => ⟨hk.2, hk.1.2⟩))) (fun _ h_ => Or.inl h_)) (Kd.R_mono (Kd.R_tight rfl (Kd.R_mono (ok' := fun k_ => ((fun k_ => k_ ≠ gb194)) k_ ∧ some k_ ≠ (u3 : Value).ownBlock) (Kd.R_types (Kd.R_apart' (HO204.out) (Kd.S_typed HO_3.out) (by decide)) BK194.out (by decide)) (fun k_ hk => ⟨hk.2, hk.1.2⟩))) (fun _ h_ => Or.inr (h_))) (hd := by intro q_ h4_ h5_; have e_ := HO201.out.1 q_ h4_.symm; first | exact e_ h5_ | exact e_.1 h5_ | exact e_.2 h5_ | exact e_.1.1 h5_ | exact e_.1.2 h5_ | exact e_.2.1 h5_ | exact e_.2.2 h5_)); (case aB => exact (qB HB)); (case aF => exact (fun k_ hk => Kd.freshB (qK BK194) k_ hk)); (case aO => exact (tS (Kd.S_mono HO_3.out (fun k_ hk => ⟨hk.1.1.2, fun e_ => e_.elim (fun h_ => hk.1.2 h_) (fun h_ => hk.2 h_)⟩)))); (case aS => exact (below_size (qB HB))); (case aL => have := LMc8.out; omega); intro v208 w12 ho hb hg hat; rw [← Ny207.out] at ho; replace BK194 := am_ (blk_grown (qK BK194) hg (Kd.S_away HO_3.out (fun _ hk => hk.1.1.2))); replace HB := am_ (hb); have HO209 := am_ (ho); clear HO_3 HO201 HO204; clear ho hb hg hat))
   go_roundg k1
   case measure => have := HK1.out; omega
   case rel => exact ⟨(y207), (wrap64 (x9_1 + 1)), eqq_, H', ⟨by have := HK1.out; omega⟩, ⟨by (with_reducible repeat (first | apply Kd.S_alloc | apply Kd.S_drewN | apply Kd.S_drew)); exact Kd.S_mono HO209.out (fun _ hk => trivial)⟩, ⟨qB HB⟩⟩

/-! ### impl_isIn: function 45 -/
def impl_isIn.f (a0 : Int) (a1 : Int) (a2 : Int) : Option (Bool) := if a1 ≤ a0 then (some (decide (a0 ≤ a2))) else (some false)
set_option maxHeartbeats 8000000 in
set_option maxRecDepth 100000 in
theorem impl_isIn.calls (a0 : Int) (a1 : Int) (a2 : Int) (r : Bool) (w : World) (h : impl_isIn.f a0 a1 a2 = some r) :
  Calls Try.prog 45 #[.int .i64 a0, .int .i64 a1, .int .i64 a2] w fun e w' => e = .returned (.bool r) ∧ Drawn0 w w' := by
 have H := h
 unfold impl_isIn.f at H
 clear h
 by_cases c4 : a1 ≤ a0
 ·
  rw [if_pos c4] at H
  have c4b0 : decide (a1 ≤ a0) = true := decide_eq_true c4
  clear c4
  obtain rfl := Option.some.inj H
  go_enter Try.func45, Try.ntmps45
  go_wp2
  go_ret
  exact ⟨by first | rfl | (simp; done) | (simp [*]; done), by repeat (first | exact Drawn0.refl _ | apply Drawn0.step)⟩
 rw [if_neg c4] at H
 have c4b0 : decide (a1 ≤ a0) = false := decide_eq_false c4
 clear c4
 obtain rfl := Option.some.inj H
 go_enter Try.func45, Try.ntmps45
 go_wp2
 go_ret
 exact ⟨by first | rfl | (simp; done) | (simp [*]; done), by repeat (first | exact Drawn0.refl _ | apply Drawn0.step)⟩

/-! ### impl_Free: function 10, by hand: the copied list's elements pass on, one by one -/
def impl_Free.g (a1 a2 : Int) : List (S80) → List (S80) → Option (List (S80))
 | [], ys => some ys
 | x :: l, ys => (impl_isIn.f a2 1 3).bind fun b => if x.f0 = a1 ∧ b = true then (if Go.bits .andNot .i64 x.f2 a2 = 0 then impl_Free.g a1 a2 l ys else if ys.length < 1466015503701 then impl_Free.g a1 a2 l (ys ++ [(⟨x.f0, x.f1, Go.bits .andNot .i64 x.f2 a2, x.f3, x.f4, x.f5, x.f6, x.f7⟩ : S80)]) else none) else if ys.length < 1466015503701 then impl_Free.g a1 a2 l (ys ++ [x]) else none
def impl_Free.f (k : Nat) (l0 : List (S80)) (a1 : Int) (a2 : Int) : Option (List (S80)) := (impl_socksCopy.f k l0).bind fun xs => impl_Free.g a1 a2 xs []
theorem impl_Free.mono : ∀ a0 a1 a2 k, LeO (impl_Free.f k a0 a1 a2) (impl_Free.f (k + 1) a0 a1 a2) := fun _ _ _ _ => LeO.bind (impl_socksCopy.mono _ _) (fun _ => LeO.refl _)
set_option maxHeartbeats 8000000 in
set_option maxRecDepth 100000 in
theorem impl_Free.calls (k : Nat) (A0 : Option Addr) (c0 : Nat) (l0 : List (S80)) (a1 : Int) (a2 : Int) (r : List (S80)) (w : World) (hr0 : Kd.C k80 w A0 l0.length l0) (hc0 : l0.length ≤ c0) (h : impl_Free.f k l0 a1 a2 = some r) :
  Calls Try.prog 10 #[.slice A0 l0.length c0, .int .i64 a1, .int .i64 a2] w fun e w' => ∃ v0_ : Value, e = .returned (v0_) ∧ Kd.S k80 80 w' w.heap.size (fun _ => True) v0_ r ∧ Below w.heap.size w w' := by
 have hu80 := Try.underlying80
 have HR0 := Aside0.mk hr0
 have HC0 := Aside0.mk hc0
 clear hr0 hc0
 have HB := Aside0.mk (Below.refl w.heap.size w)
 obtain ⟨xs, hx, h⟩ := Option.bind_eq_some_iff.mp h
 have HX := Aside0.mk hx
 have QI0 := Aside0.mk h
 clear hx h
 go_enter Try.func10, Try.ntmps10
 go_wp2_with (first | ((with_reducible refine gate_dst (N := 10) rfl ?_); refine Kd.S_lit k80 _ 80 ?hg (N := 10) ?hd (xs := ([] : List (S80))) (inner := []) (ok := fun _ => True) (okp := fun _ => True) ?hr ?hp (fun _ hk => hk) trivial (Below.refl _ _) (Nat.le_refl _) (by simp) ?_; (case hd => rfl); (case hg => rfl); (case hr => first | (go_simp; done) | (go_simp; rfl)); (case hp => exact (Reps.none _ _)); intro v1 w4 ho5 hb hg_ hnew_; clear hg_ hnew_; have HO := am_ (Kd.S_lower ho5 (below_size (qB HB))); replace HB := bS_ HB hb; clear hb ho5) | (go_at_call 44; (with_reducible refine (impl_socksCopy.calls k A0 c0 l0 xs _ (qC (Kd.C_below HR0.out HB.out)) HC0.out HX.out).mono ?_); rintro e w5 ⟨v2, rfl, hL, hb⟩; obtain ⟨AL, cL, e2⟩ := Kd.S_slice hL; subst e2; replace HO := am_ (Kd.S_old (qS HO) hb); have HL := am_ (Kd.S_bound hL); have HLE := am_ (show w.heap.size ≤ w4.heap.size from below_size (qB HB)); have Hn01 := am_ (Below.size hb); replace HB := bS_ HB hb; clear hL hb))
 obtain ⟨f, hT⟩ := HL.out
 clear HL
 obtain ⟨n0, en0⟩ : ∃ n_, n_ = w4.heap.size := ⟨_, rfl⟩
 obtain ⟨n1, en1⟩ : ∃ n_, n_ = w5.heap.size := ⟨_, rfl⟩
 have HT := Aside0.mk (Kd.R_mono (ok' := fun k_ => n0 ≤ k_ ∧ k_ < n1) hT (fun k_ hk => ⟨by rw [en0]; exact hk.2.1, by rw [en1]; exact hk.2.2.1⟩))
 clear hT
 replace HO := Aside0.mk (Kd.S_mono (ok' := fun k_ => ¬ (n0 ≤ k_ ∧ k_ < n1) ∨ f k_ < (0 : Int).toNat) HO.out (fun k_ hk => .inl (fun h_ => by have := hk.2; omega)))
 have HV := Aside0.mk (show ∀ k_, v1.ownBlock = some k_ → ¬ (n0 ≤ k_ ∧ k_ < n1) from fun k_ hk => (((Kd.S_R HO.out).1 k_ hk).resolve_right (by simp)))
 rw [← en0] at HT HLE
 have HN := Aside0.mk (show n1 ≤ w5.heap.size by omega)
 have Hlen := Aside0.mk (show xs.length ≤ 9223372036854775807 from (by have h_ := (Kd.R_reads' HT.out).2.2.2.1; rwa [List.length_zipIdx] at h_))
 replace en0 := Aside0.mk en0
 replace en1 := Aside0.mk en1
 clear Hn01 HR0 HC0 HX
 go_loopg [7, 14] xs.length (fun gg v7 v14 wr => ∃ (ys : List (S80)) (i : Int), v14 = .int .i64 i ∧ Aside0 (0 ≤ i ∧ i ≤ (xs.length : Int) ∧ ((xs.length : Int) - i).toNat ≤ gg) ∧ Aside0 (impl_Free.g a1 a2 (xs.drop i.toNat) ys = some r) ∧ Aside0 ((Kd.tag f k80).R 80 wr n0 (fun k_ => n0 ≤ k_ ∧ k_ < n1) (.slice AL xs.length cL) xs.zipIdx) ∧ Aside0 (Kd.S k80 80 wr w.heap.size (fun k_ => ¬ (n0 ≤ k_ ∧ k_ < n1) ∨ f k_ < i.toNat) v7 ys) ∧ Aside0 (∀ k_, v7.ownBlock = some k_ → ¬ (n0 ≤ k_ ∧ k_ < n1)) ∧ Aside0 (n1 ≤ wr.heap.size) ∧ Aside0 (Below w.heap.size w wr))
 case atStart => exact ⟨[], 0, rfl, ⟨by omega, by omega, by omega⟩, QI0, HT, HO, HV, HN, ⟨qB HB⟩⟩
 case round =>
  clear QI0 HT HO HV HN HB
  obtain ⟨ys, i, rfl, HR, HI, HT, HO, HV, HN, HB⟩ := hrel
  by_cases hlt : i < (xs.length : Int)
  rotate_left
  ·
   have c3 : decide (i < (xs.length : Int)) = false := decide_eq_false hlt
   go_wp2
   go_ret
   have hi := HI.out
   have := HR.out
   rw [List.drop_eq_nil_of_le (by omega)] at hi
   simp only [impl_Free.g] at hi
   obtain rfl := Option.some.inj hi
   exact ⟨_, rfl, Kd.S_mono HO.out (fun _ _ => trivial), qB HB⟩
  have c3 : decide (i < (xs.length : Int)) = true := decide_eq_true hlt
  have h0 : 0 ≤ i := HR.out.1
  obtain ⟨gL, capL, eL, _, _, _⟩ := Kd.R_form HT.out (by rw [List.length_zipIdx]; omega)
  injection eL with eL1 eL2 eL3
  subst eL1
  clear eL2 eL3
  obtain ⟨cf, hcl, hM, hcc, hfr⟩ := Kd.R_elem HT.out (z80, 0) i h0 hlt
  have hit : i.toNat < xs.length := by omega
  have hel : xs.zipIdx.getD i.toNat (z80, 0) = (xs[i.toNat], i.toNat) := by
   rw [List.getD_eq_getElem?_getD, List.getElem?_eq_getElem (by rw [List.length_zipIdx]; exact hit)]
   simp
  rw [hel] at hM
  have hM1 : k80.M wr n0 (fun k_ => (n0 ≤ k_ ∧ k_ < n1) ∧ f k_ = i.toNat) xs[i.toNat] cf := k80.M_mono (fun k_ hk => ⟨hk.1.1, hk.2⟩) hM
  clear hM hel hfr hcl
  have hI := HI.out
  rw [List.drop_eq_getElem_cons hit] at hI
  have hsucc : (i + 1).toNat = i.toNat + 1 := by omega
  rw [← hsucc] at hI
  generalize xs[i.toNat] = x at hM1 hI
  obtain ⟨t0, t1, t2, t3, t4, t5, t6, t7⟩ := x
  obtain ⟨p, v4, v5, rfl, g4, g5⟩ := k80_openD hM1
  obtain ⟨A4, c4, rfl⟩ := Kd.R_slice g4
  obtain ⟨A5, c5, rfl⟩ := Kd.R_slice g5
  have hx0 : wr.cell? ⟨gL, i.toNat * 8, none⟩ = some (.int .i64 t0) := hcc 0 _ rfl
  have hx1 : wr.cell? ⟨gL, i.toNat * 8 + 1, none⟩ = some (.int .i64 t1) := hcc 1 _ rfl
  have hx2 : wr.cell? ⟨gL, i.toNat * 8 + 2, none⟩ = some (.int .i64 t2) := hcc 2 _ rfl
  have hx3 : wr.cell? ⟨gL, i.toNat * 8 + 3, none⟩ = some (.bool t3) := hcc 3 _ rfl
  have hx4 : wr.cell? ⟨gL, i.toNat * 8 + 4, none⟩ = some (.slice A4 t4.length c4) := hcc 4 _ rfl
  have hx5 : wr.cell? ⟨gL, i.toNat * 8 + 5, none⟩ = some (.slice A5 t5.length c5) := hcc 5 _ rfl
  have hx6 : wr.cell? ⟨gL, i.toNat * 8 + 6, none⟩ = some (.int .i64 t6) := hcc 6 _ rfl
  have hx7 : wr.cell? ⟨gL, i.toNat * 8 + 7, none⟩ = some (.int .i64 t7) := hcc 7 _ rfl
  have G4 := Aside0.mk g4
  have G5 := Aside0.mk g5
  clear g4 g5 hcc hM1
  simp only [impl_Free.g] at hI
  obtain ⟨b, hb, hI⟩ := Option.bind_eq_some_iff.mp hI
  have HIN := Aside0.mk hb
  clear hb HI
  have HM := Aside0.mk (show ((xs.length : Int) - (i + 1)).toNat < gk ∧ 0 ≤ i + 1 ∧ i + 1 ≤ (xs.length : Int) ∧ wrap64 (i + 1) = i + 1 from by have := HR.out; have := Hlen.out; exact ⟨by omega, by omega, by omega, by unfold wrap64; omega⟩)
  have HS := Aside0.mk hsucc
  clear HR hsucc hit
  replace h0 := eq_true h0
  replace hlt := eq_true hlt
  by_cases c1 : t0 = a1
  rotate_left
  ·
   have c1b0 : (t0 == a1) = false := beq_eq_false_iff_ne.mpr c1
   rw [if_neg (fun h_ => c1 h_.1)] at hI
   by_cases c5_ : ys.length < 1466015503701
   case neg => exact nn_ c5_ hI
   rw [if_pos c5_] at hI
   have LM := Aside0.mk c5_
   clear c5_
   have HI := Aside0.mk hI
   clear hI
   go_wp2_with (first | ((with_reducible refine gate_dst (N := 9) rfl ?_); refine box_event ?hg (N := 9) ?hd (cs := #[.int .i64 0, .int .i64 0, .int .i64 0, .bool false, .slice none 0 0, .slice none 0 0, .int .i64 0, .int .i64 0]) (t := 80) ?hr ?_; (case hd => rfl); (case hg => rfl); (case hr => first | (go_simp; done) | (go_simp; rfl)); intro gb hg w2 hbox hb; have HG := am_ (show n1 ≤ gb by have := HN.out; omega); replace HT := am_ (Kd.R_below HT.out hb); replace HO := am_ (Kd.S_below (Kd.S_elderB (qS HO) gb (Nat.le_of_eq hg.symm)) hb); replace G4 := rB_ G4 hb; replace G5 := rB_ G5 hb; have BK := am_ hbox; have GW := gA_ hg HB; have IGE := gI_ GW; replace HB := bS_ HB hb; clear hb hbox hg; (try clear hx0 hx1 hx2 hx3 hx4 hx5 hx6 hx7)) | ((with_reducible refine gate_store (t := 80) (p := 9) rfl ?_); refine store_evs (t := 80) (p := 9) (j := 0) (cs := [.int .i64 t0, .int .i64 t1, .int .i64 t2, .bool t3, .slice A4 t4.length c4, .slice A5 t5.length c5, .int .i64 t6, .int .i64 t7]) (qK BK) ?_; intro w3 hw; have h_ := sR_ (g := gb) (j := 0) (cs := [.int .i64 t0, .int .i64 t1, .int .i64 t2, .bool t3, .slice A4 t4.length c4, .slice A5 t5.length c5, .int .i64 t6, .int .i64 t7]) HT.out (fun k_ hk => by have := HG.out; omega); rw [← hw] at h_; replace HT := am_ h_; clear h_; have h_ := sS_ (g := gb) (j := 0) (cs := [.int .i64 t0, .int .i64 t1, .int .i64 t2, .bool t3, .slice A4 t4.length c4, .slice A5 t5.length c5, .int .i64 t6, .int .i64 t7]) HO.out (fun k_ hk => hk.2); rw [← hw] at h_; replace HO := am_ h_; clear h_; have h_ := sR_ (g := gb) (j := 0) (cs := [.int .i64 t0, .int .i64 t1, .int .i64 t2, .bool t3, .slice A4 t4.length c4, .slice A5 t5.length c5, .int .i64 t6, .int .i64 t7]) G4.out (fun k_ hk => by have := HG.out; omega); rw [← hw] at h_; replace G4 := am_ h_; clear h_; have h_ := sR_ (g := gb) (j := 0) (cs := [.int .i64 t0, .int .i64 t1, .int .i64 t2, .bool t3, .slice A4 t4.length c4, .slice A5 t5.length c5, .int .i64 t6, .int .i64 t7]) G5.out (fun k_ hk => by have := HG.out; omega); rw [← hw] at h_; replace G5 := am_ h_; clear h_; replace HB := sB_ hw HB; replace BK := sW_ hw BK; clear hw; have zK := cz8 BK.out; have fK := fz8 BK.out) | ((with_reducible refine gate_builtin (b := .append) (xs := #[.tmp 34, .tmp 36]) rfl ?_); at_builtin; refine Kd.S_append k80 (w0 := w) w.heap.size rfl (.tmp 34) (.tmp 36) 24 80 (.agg #[(.int .i64 0), (.int .i64 0), (.int .i64 0), .bool false, .slice none 0 0, .slice none 0 0, (.int .i64 0), (.int .i64 0)]) 96 rfl Try.underlying24 info80 rfl (by decide) (by omega) u7 ys (⟨t0, t1, t2, t3, t4, t5, t6, t7⟩ : S80) [.int .i64 t0, .int .i64 t1, .int .i64 t2, .bool t3, .slice A4 t4.length c4, .slice A5 t5.length c5, .int .i64 t6, .int .i64 t7] (fun k_ => (¬ (n0 ≤ k_ ∧ k_ < n1) ∨ f k_ < (i + 1).toNat) ∧ k_ ≠ gb) (fun k_ => (n0 ≤ k_ ∧ k_ < n1) ∧ f k_ = i.toNat) rfl (by first | rfl | (go_simp; done) | (go_simp; rfl)) ?aP ?aK ?aF ?aO ?aB ?aS ?aL ?_; (case aP => refine k80_mkMp _ _ _ (⟨t0, t1, t2, t3, t4, t5, t6, t7⟩ : S80) p (Kd.R_lower ?_ HLE.out) (Kd.R_lower ?_ HLE.out); (exact (tR G4.out)); (exact (tR G5.out))); (case aK => exact fun k_ hk => ⟨⟨.inr (by have := HS.out; have := hk.2; omega), by have := HG.out; have := hk.1; omega⟩, fun e_ => HV.out k_ e_.symm hk.1⟩); (case aF => exact fun k_ hk => (by have h_ := Nat.lt_of_lt_of_le (blk_lt (qK BK)) hk; have := HG.out; exact ⟨.inl (by omega), by omega⟩)); (case aO => exact Kd.S_mono (tS HO.out) (fun k_ hk => ⟨⟨hk.1.elim .inl (fun h_ => .inr (by have := HS.out; omega)), hk.2⟩, fun h_ => hk.1.elim (fun q_ => q_ h_.1) (fun q_ => by have := h_.2; omega)⟩)); (case aB => exact (qB HB)); (case aS => exact (below_size (qB HB))); (case aL => have := LM.out; omega); intro v9 w9 ho hb hg hat; replace HT := am_ (Kd.R_grown (tR HT.out) hg (fun k_ hk e_ => HV.out k_ e_.symm hk)); replace HV := am_ (show ∀ k_, v9.ownBlock = some k_ → ¬ (n0 ≤ k_ ∧ k_ < n1) from fun k_ hk => hat.elim (fun e_ => HV.out k_ (e_ ▸ hk)) (fun ⟨b_, e_, l_⟩ => by have := HG.out; have h_ := Nat.lt_of_lt_of_le (blk_lt (qK BK)) l_; rw [e_] at hk; injection hk with hk; omega)); replace BK := am_ (blk_grown (qK BK) hg (Kd.S_away HO.out (fun _ hk => hk.2))); replace HB := am_ hb; replace HO := am_ ho; (try clear zK); (try clear fK); clear ho hb hg hat))
   have hw := HM.out.2.2.2
   go_roundg (((xs.length : Int) - (i + 1)).toNat)
   case measure => exact HM.out.1
   case rel => exact ⟨(ys ++ [(⟨t0, t1, t2, t3, t4, t5, t6, t7⟩ : S80)]), i + 1, by rw [hw], ⟨HM.out.2.1, HM.out.2.2.1, Nat.le_refl _⟩, HI, ⟨(tR HT.out)⟩, ⟨(Kd.S_mono (tS HO.out) (fun _ hk => hk.1))⟩, HV, ⟨Nat.le_of_lt (Nat.lt_of_le_of_lt HG.out (blk_lt (qK BK)))⟩, ⟨qB HB⟩⟩
  have c1b0 : (t0 == a1) = true := beq_iff_eq.mpr c1
  by_cases c2 : b = true
  rotate_left
  ·
   rw [if_neg (fun h_ => c2 h_.2)] at hI
   replace c2 := Bool.eq_false_iff.mpr c2
   subst c2
   clear c1
   by_cases c5_ : ys.length < 1466015503701
   case neg => exact nn_ c5_ hI
   rw [if_pos c5_] at hI
   have LM := Aside0.mk c5_
   clear c5_
   have HI := Aside0.mk hI
   clear hI
   go_wp2_with (first | ((with_reducible refine gate_dst (N := 9) rfl ?_); refine box_event ?hg (N := 9) ?hd (cs := #[.int .i64 0, .int .i64 0, .int .i64 0, .bool false, .slice none 0 0, .slice none 0 0, .int .i64 0, .int .i64 0]) (t := 80) ?hr ?_; (case hd => rfl); (case hg => rfl); (case hr => first | (go_simp; done) | (go_simp; rfl)); intro gb hg w2 hbox hb; have HG := am_ (show n1 ≤ gb by have := HN.out; omega); replace HT := am_ (Kd.R_below HT.out hb); replace HO := am_ (Kd.S_below (Kd.S_elderB (qS HO) gb (Nat.le_of_eq hg.symm)) hb); replace G4 := rB_ G4 hb; replace G5 := rB_ G5 hb; have BK := am_ hbox; have GW := gA_ hg HB; have IGE := gI_ GW; replace HB := bS_ HB hb; clear hb hbox hg; (try clear hx0 hx1 hx2 hx3 hx4 hx5 hx6 hx7)) | ((with_reducible refine gate_store (t := 80) (p := 9) rfl ?_); refine store_evs (t := 80) (p := 9) (j := 0) (cs := [.int .i64 t0, .int .i64 t1, .int .i64 t2, .bool t3, .slice A4 t4.length c4, .slice A5 t5.length c5, .int .i64 t6, .int .i64 t7]) (qK BK) ?_; intro w3 hw; have h_ := sR_ (g := gb) (j := 0) (cs := [.int .i64 t0, .int .i64 t1, .int .i64 t2, .bool t3, .slice A4 t4.length c4, .slice A5 t5.length c5, .int .i64 t6, .int .i64 t7]) HT.out (fun k_ hk => by have := HG.out; omega); rw [← hw] at h_; replace HT := am_ h_; clear h_; have h_ := sS_ (g := gb) (j := 0) (cs := [.int .i64 t0, .int .i64 t1, .int .i64 t2, .bool t3, .slice A4 t4.length c4, .slice A5 t5.length c5, .int .i64 t6, .int .i64 t7]) HO.out (fun k_ hk => hk.2); rw [← hw] at h_; replace HO := am_ h_; clear h_; have h_ := sR_ (g := gb) (j := 0) (cs := [.int .i64 t0, .int .i64 t1, .int .i64 t2, .bool t3, .slice A4 t4.length c4, .slice A5 t5.length c5, .int .i64 t6, .int .i64 t7]) G4.out (fun k_ hk => by have := HG.out; omega); rw [← hw] at h_; replace G4 := am_ h_; clear h_; have h_ := sR_ (g := gb) (j := 0) (cs := [.int .i64 t0, .int .i64 t1, .int .i64 t2, .bool t3, .slice A4 t4.length c4, .slice A5 t5.length c5, .int .i64 t6, .int .i64 t7]) G5.out (fun k_ hk => by have := HG.out; omega); rw [← hw] at h_; replace G5 := am_ h_; clear h_; replace HB := sB_ hw HB; replace BK := sW_ hw BK; clear hw; have zK := cz8 BK.out; have fK := fz8 BK.out) | (go_at_call 45; (with_reducible refine (impl_isIn.calls a2 1 3 _ _ HIN.out).mono ?_); rintro e w' ⟨rfl, ⟨nd, rfl⟩⟩) | ((with_reducible refine gate_builtin (b := .append) (xs := #[.tmp 34, .tmp 36]) rfl ?_); at_builtin; refine Kd.S_append k80 (w0 := w) w.heap.size rfl (.tmp 34) (.tmp 36) 24 80 (.agg #[(.int .i64 0), (.int .i64 0), (.int .i64 0), .bool false, .slice none 0 0, .slice none 0 0, (.int .i64 0), (.int .i64 0)]) 96 rfl Try.underlying24 info80 rfl (by decide) (by omega) u7 ys (⟨t0, t1, t2, t3, t4, t5, t6, t7⟩ : S80) [.int .i64 t0, .int .i64 t1, .int .i64 t2, .bool t3, .slice A4 t4.length c4, .slice A5 t5.length c5, .int .i64 t6, .int .i64 t7] (fun k_ => (¬ (n0 ≤ k_ ∧ k_ < n1) ∨ f k_ < (i + 1).toNat) ∧ k_ ≠ gb) (fun k_ => (n0 ≤ k_ ∧ k_ < n1) ∧ f k_ = i.toNat) rfl (by first | rfl | (go_simp; done) | (go_simp; rfl)) ?aP ?aK ?aF ?aO ?aB ?aS ?aL ?_; (case aP => refine k80_mkMp _ _ _ (⟨t0, t1, t2, t3, t4, t5, t6, t7⟩ : S80) p (Kd.R_lower ?_ HLE.out) (Kd.R_lower ?_ HLE.out); (exact (tR G4.out)); (exact (tR G5.out))); (case aK => exact fun k_ hk => ⟨⟨.inr (by have := HS.out; have := hk.2; omega), by have := HG.out; have := hk.1; omega⟩, fun e_ => HV.out k_ e_.symm hk.1⟩); (case aF => exact fun k_ hk => (by have h_ := Nat.lt_of_lt_of_le (blk_lt (qK BK)) hk; have := HG.out; exact ⟨.inl (by omega), by omega⟩)); (case aO => exact Kd.S_mono (tS HO.out) (fun k_ hk => ⟨⟨hk.1.elim .inl (fun h_ => .inr (by have := HS.out; omega)), hk.2⟩, fun h_ => hk.1.elim (fun q_ => q_ h_.1) (fun q_ => by have := h_.2; omega)⟩)); (case aB => exact (qB HB)); (case aS => exact (below_size (qB HB))); (case aL => have := LM.out; omega); intro v9 w9 ho hb hg hat; replace HT := am_ (Kd.R_grown (tR HT.out) hg (fun k_ hk e_ => HV.out k_ e_.symm hk)); replace HV := am_ (show ∀ k_, v9.ownBlock = some k_ → ¬ (n0 ≤ k_ ∧ k_ < n1) from fun k_ hk => hat.elim (fun e_ => HV.out k_ (e_ ▸ hk)) (fun ⟨b_, e_, l_⟩ => by have := HG.out; have h_ := Nat.lt_of_lt_of_le (blk_lt (qK BK)) l_; rw [e_] at hk; injection hk with hk; omega)); replace BK := am_ (blk_grown (qK BK) hg (Kd.S_away HO.out (fun _ hk => hk.2))); replace HB := am_ hb; replace HO := am_ ho; (try clear zK); (try clear fK); clear ho hb hg hat))
   have hw := HM.out.2.2.2
   go_roundg (((xs.length : Int) - (i + 1)).toNat)
   case measure => exact HM.out.1
   case rel => exact ⟨(ys ++ [(⟨t0, t1, t2, t3, t4, t5, t6, t7⟩ : S80)]), i + 1, by rw [hw], ⟨HM.out.2.1, HM.out.2.2.1, Nat.le_refl _⟩, HI, ⟨(tR HT.out)⟩, ⟨(Kd.S_mono (tS HO.out) (fun _ hk => hk.1))⟩, HV, ⟨Nat.le_of_lt (Nat.lt_of_le_of_lt HG.out (blk_lt (qK BK)))⟩, ⟨qB HB⟩⟩
  subst c2
  rw [if_pos ⟨c1, rfl⟩] at hI
  clear c1
  by_cases c4_ : (Go.bits .andNot .i64 t2 a2) = 0
  ·
   have c4b0 : ((Go.bits .andNot .i64 t2 a2) == 0) = true := beq_iff_eq.mpr c4_
   rw [if_pos c4_] at hI
   clear c4_
   have HI := Aside0.mk hI
   clear hI
   go_wp2_with (first | ((with_reducible refine gate_dst (N := 9) rfl ?_); refine box_event ?hg (N := 9) ?hd (cs := #[.int .i64 0, .int .i64 0, .int .i64 0, .bool false, .slice none 0 0, .slice none 0 0, .int .i64 0, .int .i64 0]) (t := 80) ?hr ?_; (case hd => rfl); (case hg => rfl); (case hr => first | (go_simp; done) | (go_simp; rfl)); intro gb hg w2 hbox hb; have HG := am_ (show n1 ≤ gb by have := HN.out; omega); replace HT := am_ (Kd.R_below HT.out hb); replace HO := am_ (Kd.S_below (Kd.S_elderB (qS HO) gb (Nat.le_of_eq hg.symm)) hb); replace G4 := rB_ G4 hb; replace G5 := rB_ G5 hb; have BK := am_ hbox; have GW := gA_ hg HB; have IGE := gI_ GW; replace HB := bS_ HB hb; clear hb hbox hg; (try clear hx0 hx1 hx2 hx3 hx4 hx5 hx6 hx7)) | ((with_reducible refine gate_store (t := 80) (p := 9) rfl ?_); refine store_evs (t := 80) (p := 9) (j := 0) (cs := [.int .i64 t0, .int .i64 t1, .int .i64 t2, .bool t3, .slice A4 t4.length c4, .slice A5 t5.length c5, .int .i64 t6, .int .i64 t7]) (qK BK) ?_; intro w3 hw; have h_ := sR_ (g := gb) (j := 0) (cs := [.int .i64 t0, .int .i64 t1, .int .i64 t2, .bool t3, .slice A4 t4.length c4, .slice A5 t5.length c5, .int .i64 t6, .int .i64 t7]) HT.out (fun k_ hk => by have := HG.out; omega); rw [← hw] at h_; replace HT := am_ h_; clear h_; have h_ := sS_ (g := gb) (j := 0) (cs := [.int .i64 t0, .int .i64 t1, .int .i64 t2, .bool t3, .slice A4 t4.length c4, .slice A5 t5.length c5, .int .i64 t6, .int .i64 t7]) HO.out (fun k_ hk => hk.2); rw [← hw] at h_; replace HO := am_ h_; clear h_; have h_ := sR_ (g := gb) (j := 0) (cs := [.int .i64 t0, .int .i64 t1, .int .i64 t2, .bool t3, .slice A4 t4.length c4, .slice A5 t5.length c5, .int .i64 t6, .int .i64 t7]) G4.out (fun k_ hk => by have := HG.out; omega); rw [← hw] at h_; replace G4 := am_ h_; clear h_; have h_ := sR_ (g := gb) (j := 0) (cs := [.int .i64 t0, .int .i64 t1, .int .i64 t2, .bool t3, .slice A4 t4.length c4, .slice A5 t5.length c5, .int .i64 t6, .int .i64 t7]) G5.out (fun k_ hk => by have := HG.out; omega); rw [← hw] at h_; replace G5 := am_ h_; clear h_; replace HB := sB_ hw HB; replace BK := sW_ hw BK; clear hw; have zK := cz8 BK.out; have fK := fz8 BK.out) | (go_at_call 45; (with_reducible refine (impl_isIn.calls a2 1 3 _ _ HIN.out).mono ?_); rintro e w' ⟨rfl, ⟨nd, rfl⟩⟩))
   have hw := HM.out.2.2.2
   go_roundg (((xs.length : Int) - (i + 1)).toNat)
   case measure => exact HM.out.1
   case rel => exact ⟨ys, i + 1, by rw [hw], ⟨HM.out.2.1, HM.out.2.2.1, Nat.le_refl _⟩, HI, ⟨(Kd.R_far (p := ⟨gb, 2, none⟩) (tR HT.out) (fun k_ hk => by have := HG.out; show k_ ≠ gb; omega) _)⟩, ⟨(Kd.S_mono (Kd.S_far (p := ⟨gb, 2, none⟩) (tS HO.out) (fun _ hk => hk.2) _) (fun k_ hk => hk.1.elim .inl (fun h_ => .inr (by have := HS.out; omega))))⟩, HV, ⟨Nat.le_of_lt (Nat.lt_of_le_of_lt HG.out (blk_lt (blk_put (cs := #[.int .i64 t0, .int .i64 t1, .int .i64 t2, .bool t3, .slice A4 t4.length c4, .slice A5 t5.length c5, .int .i64 t6, .int .i64 t7]) (qK BK) 2 _ rfl)))⟩, ⟨qB HB⟩⟩
  have c4b0 : ((Go.bits .andNot .i64 t2 a2) == 0) = false := beq_eq_false_iff_ne.mpr c4_
  rw [if_neg c4_] at hI
  clear c4_
  by_cases c5_ : ys.length < 1466015503701
  case neg => exact nn_ c5_ hI
  rw [if_pos c5_] at hI
  have LM := Aside0.mk c5_
  clear c5_
  have HI := Aside0.mk hI
  clear hI
  go_wp2_with (first | ((with_reducible refine gate_dst (N := 9) rfl ?_); refine box_event ?hg (N := 9) ?hd (cs := #[.int .i64 0, .int .i64 0, .int .i64 0, .bool false, .slice none 0 0, .slice none 0 0, .int .i64 0, .int .i64 0]) (t := 80) ?hr ?_; (case hd => rfl); (case hg => rfl); (case hr => first | (go_simp; done) | (go_simp; rfl)); intro gb hg w2 hbox hb; have HG := am_ (show n1 ≤ gb by have := HN.out; omega); replace HT := am_ (Kd.R_below HT.out hb); replace HO := am_ (Kd.S_below (Kd.S_elderB (qS HO) gb (Nat.le_of_eq hg.symm)) hb); replace G4 := rB_ G4 hb; replace G5 := rB_ G5 hb; have BK := am_ hbox; have GW := gA_ hg HB; have IGE := gI_ GW; replace HB := bS_ HB hb; clear hb hbox hg; (try clear hx0 hx1 hx2 hx3 hx4 hx5 hx6 hx7)) | ((with_reducible refine gate_store (t := 80) (p := 9) rfl ?_); refine store_evs (t := 80) (p := 9) (j := 0) (cs := [.int .i64 t0, .int .i64 t1, .int .i64 t2, .bool t3, .slice A4 t4.length c4, .slice A5 t5.length c5, .int .i64 t6, .int .i64 t7]) (qK BK) ?_; intro w3 hw; have h_ := sR_ (g := gb) (j := 0) (cs := [.int .i64 t0, .int .i64 t1, .int .i64 t2, .bool t3, .slice A4 t4.length c4, .slice A5 t5.length c5, .int .i64 t6, .int .i64 t7]) HT.out (fun k_ hk => by have := HG.out; omega); rw [← hw] at h_; replace HT := am_ h_; clear h_; have h_ := sS_ (g := gb) (j := 0) (cs := [.int .i64 t0, .int .i64 t1, .int .i64 t2, .bool t3, .slice A4 t4.length c4, .slice A5 t5.length c5, .int .i64 t6, .int .i64 t7]) HO.out (fun k_ hk => hk.2); rw [← hw] at h_; replace HO := am_ h_; clear h_; have h_ := sR_ (g := gb) (j := 0) (cs := [.int .i64 t0, .int .i64 t1, .int .i64 t2, .bool t3, .slice A4 t4.length c4, .slice A5 t5.length c5, .int .i64 t6, .int .i64 t7]) G4.out (fun k_ hk => by have := HG.out; omega); rw [← hw] at h_; replace G4 := am_ h_; clear h_; have h_ := sR_ (g := gb) (j := 0) (cs := [.int .i64 t0, .int .i64 t1, .int .i64 t2, .bool t3, .slice A4 t4.length c4, .slice A5 t5.length c5, .int .i64 t6, .int .i64 t7]) G5.out (fun k_ hk => by have := HG.out; omega); rw [← hw] at h_; replace G5 := am_ h_; clear h_; replace HB := sB_ hw HB; replace BK := sW_ hw BK; clear hw; have zK := cz8 BK.out; have fK := fz8 BK.out) | (go_at_call 45; (with_reducible refine (impl_isIn.calls a2 1 3 _ _ HIN.out).mono ?_); rintro e w' ⟨rfl, ⟨nd, rfl⟩⟩) | ((with_reducible refine gate_builtin (b := .append) (xs := #[.tmp 34, .tmp 36]) rfl ?_); at_builtin; refine Kd.S_append k80 (w0 := w) w.heap.size rfl (.tmp 34) (.tmp 36) 24 80 (.agg #[(.int .i64 0), (.int .i64 0), (.int .i64 0), .bool false, .slice none 0 0, .slice none 0 0, (.int .i64 0), (.int .i64 0)]) 96 rfl Try.underlying24 info80 rfl (by decide) (by omega) u7 ys (⟨t0, t1, (Go.bits .andNot .i64 t2 a2), t3, t4, t5, t6, t7⟩ : S80) [.int .i64 t0, .int .i64 t1, .int .i64 (Go.bits .andNot .i64 t2 a2), .bool t3, .slice A4 t4.length c4, .slice A5 t5.length c5, .int .i64 t6, .int .i64 t7] (fun k_ => (¬ (n0 ≤ k_ ∧ k_ < n1) ∨ f k_ < (i + 1).toNat) ∧ k_ ≠ gb) (fun k_ => (n0 ≤ k_ ∧ k_ < n1) ∧ f k_ = i.toNat) rfl (by first | rfl | (go_simp; done) | (go_simp; rfl)) ?aP ?aK ?aF ?aO ?aB ?aS ?aL ?_; (case aP => refine k80_mkMp _ _ _ (⟨t0, t1, (Go.bits .andNot .i64 t2 a2), t3, t4, t5, t6, t7⟩ : S80) p (Kd.R_lower ?_ HLE.out) (Kd.R_lower ?_ HLE.out); (exact (Kd.R_far (p := ⟨gb, 2, none⟩) (tR G4.out) (fun k_ hk => by have := HG.out; show k_ ≠ gb; omega) _)); (exact (Kd.R_far (p := ⟨gb, 2, none⟩) (tR G5.out) (fun k_ hk => by have := HG.out; show k_ ≠ gb; omega) _))); (case aK => exact fun k_ hk => ⟨⟨.inr (by have := HS.out; have := hk.2; omega), by have := HG.out; have := hk.1; omega⟩, fun e_ => HV.out k_ e_.symm hk.1⟩); (case aF => exact fun k_ hk => (by have h_ := Nat.lt_of_lt_of_le (blk_lt (blk_put (cs := #[.int .i64 t0, .int .i64 t1, .int .i64 t2, .bool t3, .slice A4 t4.length c4, .slice A5 t5.length c5, .int .i64 t6, .int .i64 t7]) (qK BK) 2 _ rfl)) hk; have := HG.out; exact ⟨.inl (by omega), by omega⟩)); (case aO => exact Kd.S_mono (Kd.S_far (p := ⟨gb, 2, none⟩) (tS HO.out) (fun _ hk => hk.2) _) (fun k_ hk => ⟨⟨hk.1.elim .inl (fun h_ => .inr (by have := HS.out; omega)), hk.2⟩, fun h_ => hk.1.elim (fun q_ => q_ h_.1) (fun q_ => by have := h_.2; omega)⟩)); (case aB => exact (qB HB)); (case aS => exact (below_size (qB HB))); (case aL => have := LM.out; omega); intro v9 w9 ho hb hg hat; replace HT := am_ (Kd.R_grown (Kd.R_far (p := ⟨gb, 2, none⟩) (tR HT.out) (fun k_ hk => by have := HG.out; show k_ ≠ gb; omega) _) hg (fun k_ hk e_ => HV.out k_ e_.symm hk)); replace HV := am_ (show ∀ k_, v9.ownBlock = some k_ → ¬ (n0 ≤ k_ ∧ k_ < n1) from fun k_ hk => hat.elim (fun e_ => HV.out k_ (e_ ▸ hk)) (fun ⟨b_, e_, l_⟩ => by have := HG.out; have h_ := Nat.lt_of_lt_of_le (blk_lt (blk_put (cs := #[.int .i64 t0, .int .i64 t1, .int .i64 t2, .bool t3, .slice A4 t4.length c4, .slice A5 t5.length c5, .int .i64 t6, .int .i64 t7]) (qK BK) 2 _ rfl)) l_; rw [e_] at hk; injection hk with hk; omega)); replace BK := am_ (blk_grown (blk_put (cs := #[.int .i64 t0, .int .i64 t1, .int .i64 t2, .bool t3, .slice A4 t4.length c4, .slice A5 t5.length c5, .int .i64 t6, .int .i64 t7]) (qK BK) 2 _ rfl) hg (Kd.S_away HO.out (fun _ hk => hk.2))); replace HB := am_ hb; replace HO := am_ ho; (try clear zK); (try clear fK); clear ho hb hg hat))
  have hw := HM.out.2.2.2
  go_roundg (((xs.length : Int) - (i + 1)).toNat)
  case measure => exact HM.out.1
  case rel => exact ⟨(ys ++ [(⟨t0, t1, (Go.bits .andNot .i64 t2 a2), t3, t4, t5, t6, t7⟩ : S80)]), i + 1, by rw [hw], ⟨HM.out.2.1, HM.out.2.2.1, Nat.le_refl _⟩, HI, ⟨(tR HT.out)⟩, ⟨(Kd.S_mono (tS HO.out) (fun _ hk => hk.1))⟩, HV, ⟨Nat.le_of_lt (Nat.lt_of_le_of_lt HG.out (blk_lt (qK BK)))⟩, ⟨qB HB⟩⟩

end Go.Proofs.Ytiffahfpfgnjnab.PFnExactFree
