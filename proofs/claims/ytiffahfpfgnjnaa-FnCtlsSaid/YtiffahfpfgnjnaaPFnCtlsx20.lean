-- Written by a program of this session (myprint.py, over the kit's print): contracts of FnCtls
import Derived.Test.YtiffahfpfgnjnaaPFnCtlsx9
import Derived.Test.YtiffahfpfgnjnaaPFnCtlsx19
namespace Go.Proofs.Ytiffahfpfgnjnaa.PFnCtls
open Go.RowKit Go.Proofs.YtiffahfpfgnjnaaW.PrintWords Go.Proofs.YtiffahfpfgnjnaaW.PrintLast Go.Proofs.YtiffahfpfgnjnaaW.PrintMore Go.Proofs.YtiffahfpfgnjnaaV
attribute [local go_sem] max2_int min2_int max_two min_two max_three min_three max_four min_four
set_option linter.unusedVariables false
set_option linter.unusedSimpArgs false

/-! ### spec_DrawGetCtl: function 53 -/
def spec_DrawGetCtl.f (k : Nat) (l0 : List Int) : Option (List Int) := (spec_l1New.f k l0).bind fun bt800 => ((spec_l11Draw.f k bt800.1 bt800.2.1 bt800.2.2).bind fun bt804 => ((spec_PutCtl.f k bt804.1 bt804.2.1 bt804.2.2.1 bt804.2.2.2.1 bt804.2.2.2.2.1 bt804.2.2.2.2.2.1 bt804.2.2.2.2.2.2.1 bt804.2.2.2.2.2.2.2.1).bind fun t816 => ((spec_l1Once.f bt800.1 bt804.2.2.2.2.2.2.2.2.1 bt804.2.2.2.2.2.2.2.2.2 4).bind fun bt819 => (if bt819.1 = true then ((some (([] : List Int) : List Int)).bind fun y822 => (if 0 ≤ (wrap64 ((t816.length : Int) - 2)) then (if (wrap64 ((t816.length : Int) - 2)) ≤ (t816.length : Int) then ((some (t816.take ((wrap64 ((t816.length : Int) - 2)) : Int).toNat : List Int)).bind fun y825 => (if y822.length + y825.length < 140737488355328 then ((some (y822 ++ y825 : List Int)).bind fun y829 => ((spec_l1Below.f bt800.1 bt819.2.1 bt819.2.2 9).bind fun bt832 => ((spec_l1Below.f bt800.1 bt832.2.1 bt832.2.2 4).bind fun bt835 => (if 0 ≤ bt832.1 then (if bt832.1 < (y829.length : Int) then ((some (y829.set (bt832.1 : Int).toNat ((bt835.1) % 256) : List Int)).bind fun y838 => ((spec_Sum.f k y838).bind fun t839 => ((spec_PutWord.f y838 t839).bind fun t840 => (some t840)))) else (none)) else (none))))) else (none))) else (none)) else (none))) else ((spec_l1Bend.f bt800.1 bt819.2.1 bt819.2.2 t816).bind fun bt843 => (some bt843.1))))))
theorem spec_DrawGetCtl.mono : ∀ a0 k, LeO (spec_DrawGetCtl.f k a0) (spec_DrawGetCtl.f (k + 1) a0) := by
 intro a0 k
 unfold spec_DrawGetCtl.f
 have m0 := @spec_PutCtl.mono; have m1 := @spec_Sum.mono; have m2 := @spec_l11Draw.mono; have m3 := @spec_l1New.mono; exact mo_
set_option maxHeartbeats 8000000 in
set_option maxRecDepth 100000 in
theorem spec_DrawGetCtl.calls (k : Nat) (A0 : Option Addr) (c0 : Nat) (l0 : List Int) (r : List Int) (w : World) (hr0 : Kd.C (Kd.int .u8) w A0 l0.length l0) (hc0 : l0.length ≤ c0) (h : spec_DrawGetCtl.f k l0 = some r) :
  Calls Try.prog 53 #[.slice A0 l0.length c0] w fun e w' => ∃ v0_ : Value, e = .returned (v0_) ∧ Kd.R (Kd.int .u8) 5 w' w.heap.size (fun _ => True) v0_ r ∧ Below w.heap.size w w' := by
 have HR0 := am_ hr0
 have HC0 := am_ hc0
 clear hr0 hc0
 have HB := Aside0.mk (Below.refl w.heap.size w)
 have H := h
 unfold spec_DrawGetCtl.f at H
 clear h
 replace H := bf_ H
 obtain ⟨f_, hf_, ⟨t800, t801, t802⟩, A2, H⟩ := H
 subst hf_
 (try dsimp only at H)
 replace H := bf_ H
 obtain ⟨f_, hf_, ⟨t804, t805, t806, t807, t808, t809, t810, t811, t814, t815⟩, A3, H⟩ := H
 subst hf_
 (try dsimp only at H)
 replace H := bd_ H
 obtain ⟨t816, A4, H⟩ := H
 replace H := bf_ H
 obtain ⟨f_, hf_, ⟨t819, t820, t821⟩, A5, H⟩ := H
 subst hf_
 (try dsimp only at H)
 have HC6 := am_ H
 clear H
 go_enter Try.func53, Try.ntmps53
 go_upto_if 12 with (first | (refine gc_ 59 rfl ?_; refine gl_ (some 7) Try.func59 #[.slice A0 l0.length c0] ?_; (with_reducible refine (spec_l1New.calls k _ _ l0 t800 t801 t802 w _ (qB HB) ?side2 ?side3 A2.out).mono ?_); (case side2 => exact HR0.out); (case side3 => exact HC0.out); rintro e w7 ⟨g803, rfl, hi, hb, hb2⟩; refine ⟨_, rfl, ?_⟩; replace HB := am_ (hb); have HI803 := am_ (hi); have IGHI803 := iG_ HI803.out.ge; (try clear hb); (try clear hb2); (try clear hi)) | (refine gc_ 109 rfl ?_; refine gl_ (some 9) Try.func109 #[.pointer (some ⟨g803, 0, none⟩)] ?_; (with_reducible refine (spec_l11Draw.calls k g803 t800 t801 t802 t804 t805 t806 t807 t808 t809 t810 t811 t814 t815 w _ (IsS128.q HI803) (qB HB) A3.out).mono ?_); rintro e w8 ⟨v812, rfl, ho0, hi, hb, hk⟩; refine ⟨_, rfl, ?_⟩; have HO813 := am_ (Kd.R_lower ho0 (below_size (qB HB))); replace HB := am_ (hb); replace HI803 := am_ (hi); (try clear hb); (try clear hk); (try clear hi); (try clear ho0); obtain ⟨Ao9, co9, eo9⟩ := Kd.R_slice HO813.out; subst eo9) | (refine gc_ 107 rfl ?_; refine gl_ (some 10) Try.func107 #[.agg #[.int .i64 t804, .int .i64 t805, .int .i64 t806, .int .i64 t807, .int .i64 t808, .bool t809, .int .i64 t810, .slice Ao9 t811.length co9]] ?_; (with_reducible refine (spec_PutCtl.calls k t804 t805 t806 t807 t808 t809 t810 _ _ t811 t816 _ (rC_ HO813) ?side2 A4.out).mono ?_); (case side2 => exact (rL_ HO813)); rintro e w10 ⟨v817, rfl, ho0, hb⟩; refine ⟨_, rfl, ?_⟩; replace HO813 := rB_ HO813 hb; have HO818 := am_ (Kd.R_lower ho0 (below_size (qB HB))); replace HB := bS_ HB hb; replace HI803 := am_ (IsS128.below (IsS128.q HI803) hb); (try clear hb); (try clear ho0)) | (refine gc_ 110 rfl ?_; refine gl_ (some 12) Try.func110 #[.pointer (some ⟨g803, 0, none⟩), .int .i64 4] ?_; (with_reducible refine (spec_l1Once.calls g803 t800 t814 t815 4 t819 t820 t821 w _ (IsS128.q HI803) (qB HB) A5.out).mono ?_); rintro e w11 ⟨rfl, hi, hb, hk⟩; refine ⟨_, rfl, ?_⟩; replace HO813 := IsS128.rk HI803 (qR HO813) hk; replace HO818 := IsS128.rk HI803 (qR HO818) hk; replace HB := am_ (hb); replace HI803 := am_ (hi); (try clear hb); (try clear hk); (try clear hi)))
 (try simp only [Act.put, List.setIfInBounds_toArray, List.set_cons_zero, List.set_cons_succ])
 have H := HC6.out
 clear HC6
 by_cases c12 : t819 = true
 rotate_left
 ·
  replace c12 := nf_ c12
  subst c12
  rw [if_neg (show ¬ (false = true) by decide)] at H
  replace H := bf_ H
  obtain ⟨f_, hf_, ⟨t843, t846, t847⟩, A34, H⟩ := H
  subst hf_
  (try dsimp only at H)
  obtain rfl := si_ H
  obtain ⟨Ao35, co35, eo35⟩ := Kd.R_slice HO818.out
  subst eo35
  go_wp2_with (first | (refine gc_ 74 rfl ?_; refine gl_ (some 33) Try.func74 #[.pointer (some ⟨g803, 0, none⟩), .slice Ao35 t816.length co35] ?_; (with_reducible refine (spec_l1Bend.calls g803 t800 t820 t821 _ _ t816 t843 t846 t847 w _ (IsS128.q HI803) (qB HB) (rC_ HO818) ?side4 ?side5 A34.out).mono ?_); (case side4 => exact (rL_ HO818)); (case side5 => exact far_slice (IsS128.own_ne HI803.out HO818.out (by decide))); rintro e w36 ⟨v844, rfl, ho0, hi, hb, hk⟩; refine ⟨_, rfl, ?_⟩; replace HO813 := IsS128.rk HI803 (qR HO813) hk; have HO845 := am_ (Kd.R_lower (Kd.R_new' ho0 (Kd.R_lt (qR HO818))) (below_size (qB HB))); replace HO818 := am_ (Kd.R_mono (Kd.R_told (Kd.R_oldK (IsS128.apart (show IsS128 w _ g803 t800 t820 t821 from IsS128.q HI803) (qR HO818) (by decide)) hk) (Kd.R_base ho0)) (fun _ h_ => h_.1)); replace HB := am_ (hb); replace HI803 := am_ (hi); (try clear hb); (try clear hk); (try clear hi); (try clear ho0)))
  go_ret
  exact ⟨_, er_, (xR1_ HO845), qB HB⟩
 subst c12
 rw [if_pos rfl] at H
 replace H := my_ (([] : List Int)) H
 obtain ⟨y822, Ny822, H⟩ := H
 (try dsimp only at H)
 obtain ⟨ji13, hji13⟩ : ∃ j_ : Int, (wrap64 ((t816.length : Int) - 2)) = j_ := ⟨_, rfl⟩
 replace H : (if 0 ≤ (ji13) then (if (ji13) ≤ (t816.length : Int) then ((some (t816.take ((ji13) : Int).toNat : List Int)).bind fun y825 => (if y822.length + y825.length < 140737488355328 then ((some (y822 ++ y825 : List Int)).bind fun y829 => ((spec_l1Below.f t800 t820 t821 9).bind fun bt832 => ((spec_l1Below.f t800 bt832.2.1 bt832.2.2 4).bind fun bt835 => (if 0 ≤ bt832.1 then (if bt832.1 < (y829.length : Int) then ((some (y829.set (bt832.1 : Int).toNat ((bt835.1) % 256) : List Int)).bind fun y838 => ((spec_Sum.f k y838).bind fun t839 => ((spec_PutWord.f y838 t839).bind fun t840 => (some t840)))) else (none)) else (none))))) else (none))) else (none)) else (none)) = some r := by first | (rw [hji13] at H; exact H) | (simp only [hji13] at H ⊢; exact H)
 have hji13w : (IntKind.i64.wrap ((t816.length : Int) - 2)) = ji13 := (i64_w _).trans hji13
 replace H := ip_ H
 obtain ⟨c14, H, -⟩ := H
 have c14b0 := eq_true c14
 have c14b1 : decide (0 ≤ (ji13)) = true := decide_eq_true c14
 clear c14
 replace H := ip_ H
 obtain ⟨c15, H, -⟩ := H
 have c15b0 := eq_true c15
 have c15b1 : decide ((ji13) ≤ (t816.length : Int)) = true := decide_eq_true c15
 clear c15
 replace H := my_ (t816.take ((ji13) : Int).toNat) H
 obtain ⟨y825, Ny825, H⟩ := H
 (try dsimp only at H)
 replace H := ip_ H
 obtain ⟨c16, H, -⟩ := H
 have LMc16 := am_ c16
 clear c16
 replace H := my_ (y822 ++ y825) H
 obtain ⟨y829, Ny829, H⟩ := H
 (try dsimp only at H)
 replace H := bf_ H
 obtain ⟨f_, hf_, ⟨t832, t833, t834⟩, A17, H⟩ := H
 subst hf_
 (try dsimp only at H)
 replace H := bf_ H
 obtain ⟨f_, hf_, ⟨t835, t836, t837⟩, A18, H⟩ := H
 subst hf_
 (try dsimp only at H)
 replace H := ip_ H
 obtain ⟨-, H, c19b0⟩ := H
 (first | rw [c19b0] | (simp only [i64_w, i32_w]; rw [c19b0]) | skip)
 replace H := ip_ H
 obtain ⟨-, H, c20b0⟩ := H
 replace H := my_ (y829.set (t832 : Int).toNat ((t835) % 256)) H
 obtain ⟨y838, Ny838, H⟩ := H
 (try dsimp only at H)
 replace H := bd_ H
 obtain ⟨t839, A22, H⟩ := H
 replace H := bd_ H
 obtain ⟨t840, A23, H⟩ := H
 obtain rfl := si_ H
 go_wp2_with (first | (refine gd_ 13 rfl ?_; refine Kd.R_lit (Kd.int .u8) _ 5 ?hg (N := 13) ?hd (xs := ([] : List Int)) (inner := []) (ok := fun _ => True) (okp := fun _ => True) ?hr ?hp (fun _ hk => hk) trivial (Below.refl _ _) (Nat.le_refl _) (by simp) ?_; (case hd => rfl); (case hg => rfl); (case hr => first | (go_simp; done) | (go_simp; rfl) | ((try (obtain ⟨_, _, rfl⟩ := Kd.R_slice HO813.out)); (try (obtain ⟨_, _, rfl⟩ := Kd.R_slice HO818.out)); (try (obtain ⟨_, _, rfl⟩ := Kd.R_slice HO824.out)); (try (obtain ⟨_, _, rfl⟩ := Kd.R_slice HO831.out)); (try (obtain ⟨_, _, rfl⟩ := Kd.R_slice HO842.out)); first | (go_simp; done) | (go_simp; rfl))); (case hp => exact (Reps.none _ _)); intro v823 w24 ho25 hb hg_ hnew_; clear hg_ hnew_; (first | rw [← Ny822.out] at ho25 | (simp only [Int.reduceToNat] at ho25; rw [← Ny822.out] at ho25)); replace HO813 := rB_ HO813 hb; have HO824 := am_ (Kd.R_lower (Kd.R_new' ho25 (Kd.R_lt (qR HO818))) (below_size (qB HB))); replace HO818 := eA_ HO818 ho25 hb; replace HB := bS_ HB hb; replace HI803 := am_ (IsS128.below (IsS128.q HI803) hb); clear hb ho25; obtain ⟨Ao26, co26, eo26⟩ := Kd.R_slice HO818.out; subst eo26; have q27 : ((ji13) : Int) ≤ ((t816.length : Int) : Int) := od_; obtain ⟨i027, hi027, _, hsz27, _⟩ := info_parts info5; have hroom27 : t816.length ≤ co26 := (rL_ HO818); have hC27 : Kd.C (Kd.int .u8) _ Ao26 t816.length t816 := (Kd.R_reads' HO818.out).2.2; have hcut27 := cut_to (P := Try.prog) 22 5 .i64 Try.underlying22 hi027 Ao26 t816.length co26 (ji13) od_ q27 hroom27; have hr27 := Kd.C_take (m := ((ji13) : Int).toNat) hC27 (by omega); have hy27 : y825.length = ((ji13) : Int).toNat := (by rw [Ny825.out, List.length_take]; omega); rw [← Ny825.out] at hr27; rw [← hy27] at hcut27; have HR828 := Aside0.mk hr27; have HC828 := Aside0.mk (show y825.length ≤ co26 from by omega); clear hr27 hC27 hroom27 hi027 hsz27; have KY27 := Aside0.mk hy27; clear hy27; have KL27 := Aside0.mk (show ((ji13) : Int).toNat ≤ t816.length from by omega); replace q27 := eq_true q27) | ((with_reducible refine gate_builtin (b := .append) (xs := #[.tmp 13, .tmp 18]) rfl ?_); at_builtin; refine Kd.R_append_rows (Kd.int .u8) (w0 := w) w.heap.size rfl (.tmp 13) (.tmp 18) 22 5 (.int .u8 0) 1 rfl Try.underlying22 info5 rfl (by decide) (by omega) v823 y822 y825 _ _ _ (fun k_ => nb Ao26 t816.length co26 k_) (fun _ => False) rfl rfl ?aO ?aR (fun _ _ h => h) (fun _ h => h.elim) ?aF ?aB ?aS ?aL ?_; (case aR => repeat (first | exact (by repeat (first | (with_reducible exact HR828.out) | (with_reducible refine Kd.C_alloc ?_ _) | (with_reducible refine Kd.C_drewN ?_ _) | (with_reducible refine Kd.C_drew ?_) | exact HR828.out)) | (with_reducible refine Kd.C_alloc ?_ _) | (with_reducible refine Kd.C_drewN ?_ _) | (with_reducible refine Kd.C_drew ?_))); (case aB => exact (qB HB)); (case aF => exact (fun k_ hk => Kd.fresh' (Kd.R_lt (qR HO818)) k_ hk)); (case aO => exact (xR1_ HO824)); (case aS => exact (below_size (qB HB))); (case aL => have := LMc16.out; omega); intro v830 w28 ho hb hg hat; rw [← Ny829.out] at ho; replace HI803 := am_ (IsS128.grown (IsS128.q HI803) hg (IsS128.own_ne HI803.out HO824.out (by decide))); replace HO813 := am_ (Kd.R_over' (qR HO813) (Kd.R_typed (qR HO824)) (by decide) hg); replace HB := am_ (hb); replace HR828 := am_ ((show Kd.C (Kd.int .u8) w28 Ao26 y825.length y825 from by rw [Ny825.out]; exact Kd.C_take (m := ((ji13) : Int).toNat) ((Kd.R_reads' (Kd.R_after (ok := (fun _ => True)) (qR HO818) hg hat)).2.2) KL27.out)); replace HO818 := aR_ HO818 hg hat; have HO831 := am_ (ho); clear HO824; clear ho hb hg hat) | (refine gc_ 61 rfl ?_; refine gl_ (some 22) Try.func61 #[.pointer (some ⟨g803, 0, none⟩), .int .i64 9] ?_; (with_reducible refine (spec_l1Below.calls g803 t800 t820 t821 9 t832 t833 t834 w _ (IsS128.q HI803) (qB HB) A17.out).mono ?_); rintro e w29 ⟨rfl, hi, hb, hk⟩; refine ⟨_, rfl, ?_⟩; replace HO813 := IsS128.rk HI803 (qR HO813) hk; replace HO818 := IsS128.rk HI803 (qR HO818) hk; replace HO831 := IsS128.rk HI803 (qR HO831) hk; replace HB := am_ (hb); replace HI803 := am_ (hi); (try clear hb); (try clear hk); (try clear hi)) | (refine gc_ 61 rfl ?_; refine gl_ (some 24) Try.func61 #[.pointer (some ⟨g803, 0, none⟩), .int .i64 4] ?_; (with_reducible refine (spec_l1Below.calls g803 t800 t833 t834 4 t835 t836 t837 w _ (IsS128.q HI803) (qB HB) A18.out).mono ?_); rintro e w30 ⟨rfl, hi, hb, hk⟩; refine ⟨_, rfl, ?_⟩; replace HO813 := IsS128.rk HI803 (qR HO813) hk; replace HO818 := IsS128.rk HI803 (qR HO818) hk; replace HO831 := IsS128.rk HI803 (qR HO831) hk; replace HB := am_ (hb); replace HI803 := am_ (hi); (try clear hb); (try clear hk); (try clear hi); have p21 : 0 ≤ (t832 : Int) := od_; have q21 : (t832 : Int) < ((y829.length : Int) : Int) := od_; obtain ⟨go21, co21, eo21, gb21, gl21, cl21, HG21⟩ := Kd.R_form HO831.out (by omega); (first | cases eo21 | (injection eo21 with ea_ en_ ec_; (first | subst ea_ | (injection ea_ with ea_; subst ea_)); subst ec_; clear en_)); have GB21 := Aside0.mk gb21; have GG21 := Aside0.mk HG21; clear gb21 gl21 HG21; obtain ⟨hx21_0, hf21_0⟩ := Kd.R_celln 0 HO831.out (t832 : Int) p21 q21; replace p21 := eq_true p21; replace q21 := eq_true q21; obtain ⟨hy31_, hz31_⟩ := Kd.R_celln 0 HO831.out (t832 : Int) od_ od_; have HP31 := Kd.R_putg HO831.out (t832 : Int) ((t835) % 256)) | ((with_reducible refine gate_store (t := 5) (p := 26) rfl ?_); refine store_event (t := 5) (p := 26) (v := ?vo_w32) (w1 := (w30.setCell ⟨go21, (t832 : Int).toNat, none⟩ (.int .u8 ((t835) % 256)))) ?hg ?ho ?hn ?hr ?_; (case ho => rfl); (case hg => rfl); (case hn => rfl); (case hr => first | (go_simp; done) | (go_simp; rfl) | ((try (obtain ⟨_, _, rfl⟩ := Kd.R_slice HO813.out)); (try (obtain ⟨_, _, rfl⟩ := Kd.R_slice HO818.out)); (try (obtain ⟨_, _, rfl⟩ := Kd.R_slice HO824.out)); (try (obtain ⟨_, _, rfl⟩ := Kd.R_slice HO831.out)); (try (obtain ⟨_, _, rfl⟩ := Kd.R_slice HO842.out)); first | (go_simp; done) | (go_simp; rfl))); intro w32 hw; have hg : w30.grownBy w32 (some go21) := (by rw [hw]; exact HP31.2); have hp_ : Kd.R (Kd.int .u8) 5 w32 w.heap.size (fun k_ => nb Ao26 t816.length co26 k_) (.slice (some ⟨go21, 0, none⟩) y829.length co21) y838 := (by rw [hw, Ny838.out]; exact HP31.1); clear HP31; replace HI803 := am_ (IsS128.grown (IsS128.q HI803) hg (IsS128.own_ne HI803.out HO831.out (by decide))); replace HO813 := am_ (Kd.R_over' (v := (.slice (some ⟨go21, 0, none⟩) y829.length co21)) (qR HO813) (Kd.R_typed HO831.out) (by decide) hg); replace HO818 := am_ (Kd.R_after (v := (.slice (some ⟨go21, 0, none⟩) y829.length co21)) (v1 := (.slice (some ⟨go21, 0, none⟩) y829.length co21)) (ok := (fun _ => True)) (qR HO818) hg (.inl rfl)); replace HO831 := am_ (hp_); replace HB := am_ ((by rw [hw]; exact below_set (HB.out) GB21.out : Below w.heap.size w w32)); clear hg hw hp_) | (refine gc_ 111 rfl ?_; refine gl_ (some 29) Try.func111 #[.slice (some ⟨go21, 0, none⟩) y838.length co21] ?_ (hargs := (by (try simp only [List.map_toArray, List.map_cons, List.map_nil]); first | done | (rw [show y838.length = y829.length from (Kd.R_reads' HO831.out).1.symm] <;> rfl) | rfl | (simp only [List.length_drop, List.length_take]; rfl))); (with_reducible refine (spec_Sum.calls k _ _ y838 t839 _ (rC_ HO831) ?side2 A22.out).mono ?_); (case side2 => rw [show y838.length = y829.length from (Kd.R_reads' HO831.out).1.symm]; exact (rL_ HO831)); rintro e w' ⟨rfl, ⟨nd, rfl⟩⟩; refine ⟨_, rfl, ?_⟩) | (refine gc_ 89 rfl ?_; refine gl_ (some 30) Try.func89 #[.slice (some ⟨go21, 0, none⟩) y838.length co21, .int .i64 t839] ?_ (hargs := (by (try simp only [List.map_toArray, List.map_cons, List.map_nil]); first | done | (rw [show y838.length = y829.length from (Kd.R_reads' HO831.out).1.symm] <;> rfl) | rfl | (simp only [List.length_drop, List.length_take]; rfl))); (with_reducible refine (spec_PutWord.calls _ _ y838 t839 t840 _ (rC_ HO831) ?side2 A23.out).mono ?_); (case side2 => rw [show y838.length = y829.length from (Kd.R_reads' HO831.out).1.symm]; exact (rL_ HO831)); rintro e w33 ⟨v841, rfl, ho0, hb⟩; refine ⟨_, rfl, ?_⟩; replace HO813 := rB_ HO813 hb; have HO842 := am_ (Kd.R_lower (Kd.R_new' (Kd.R_new' ho0 (Kd.R_lt (qR HO818))) (Kd.R_lt (qR HO831))) (below_size (qB HB))); replace HO818 := eA_ HO818 ho0 hb; replace HO831 := eA_ HO831 ho0 hb; replace HB := bS_ HB hb; replace HI803 := am_ (IsS128.below (IsS128.q HI803) hb); (try clear hb); (try clear ho0)))
 go_ret
 exact ⟨_, by first | rfl | (simp [errW_none, errW_some] <;> rfl) | (simp only [← hji13]; first | rfl | (simp [errW_none, errW_some] <;> rfl)) | (simp [*, errW_none, errW_some] <;> rfl), (xR1_ HO842), qB HB⟩

/-- A state of type 100 at block g of W; what its slices lead to came in by w0. -/
def IsS100 (w0 W : World) (g : Nat) (f0 : List Int) (f1 : Int) : Prop := ∃ A0 c0, W.heap[g]? = some (.cells #[.slice A0 f0.length c0, .int .i64 f1] 100 (0, 0)) ∧ w0.heap.size ≤ g ∧ (Kd.C (Kd.int .u8) w0 A0 f0.length f0 ∧ f0.length ≤ c0)
theorem IsS100.grown {w0 W : World} {g : Nat} {f0 : List Int} {f1 : Int} {W1 : World} {row : Option Nat} (h : IsS100 w0 W g f0 f1) (hw : W.grownBy W1 row) (hne : some g ≠ row) : IsS100 w0 W1 g f0 f1 := by
 obtain ⟨A0, c0, hb, hg, hr0⟩ := h
 exact ⟨A0, c0, blk_grown hb hw hne, hg, hr0⟩
theorem IsS100.below {w0 W : World} {g : Nat} {f0 : List Int} {f1 : Int} {W1 : World} (h : IsS100 w0 W g f0 f1) (hw : Below W.heap.size W W1) : IsS100 w0 W1 g f0 f1 := h.grown (grown_of_below hw none) (by simp)
theorem IsS100.alloc {w0 W : World} {g : Nat} {f0 : List Int} {f1 : Int} (h : IsS100 w0 W g f0 f1) (o : Obj) : IsS100 w0 (W.alloc o) g f0 f1 := h.below (below_alloc (Below.refl _ _) o)
theorem IsS100.lt_ {w0 W : World} {g : Nat} {f0 : List Int} {f1 : Int} (h : IsS100 w0 W g f0 f1) : g < W.heap.size := by
  unfold IsS100 at h
  refine Nat.lt_of_not_le fun hn => ?_
  rw [Array.getElem?_eq_none hn] at h
  simp at h
theorem IsS100.q {w0 W : World} {g : Nat} {f0 : List Int} {f1 : Int} {W1 : World} (h : Aside0 (IsS100 w0 W g f0 f1)) [s : Sti g W W1] : IsS100 w0 W1 g f0 f1 := by
  have e := (s.out h.out.lt_).2
  have h := h.out
  unfold IsS100 at h ⊢
  rw [e]
  exact h
theorem IsS100.s_ {w0 W : World} {g : Nat} {f0 : List Int} {f1 : Int} {W1 w' : World} {g' j : Nat} {cs : List Value} (hw : w' = W1.setCells g' j cs) (h : Aside0 (IsS100 w0 W g f0 f1)) (hn : Aside0 (g ≠ g')) [s : Sti g W W1] : Aside0 (IsS100 w0 w' g f0 f1) := by
  have := nI_ hn
  exact ⟨hw ▸ IsS100.q h⟩
theorem IsS100.drewN {w0 W : World} {g : Nat} {f0 : List Int} {f1 : Int} (h : IsS100 w0 W g f0 f1) (m : Nat) : IsS100 w0 (W.drewN m) g f0 f1 := h
theorem IsS100.drew {w0 W : World} {g : Nat} {f0 : List Int} {f1 : Int} (h : IsS100 w0 W g f0 f1) : IsS100 w0 W.drew g f0 f1 := h
theorem IsS100.apart {w0 W : World} {g : Nat} {f0 : List Int} {f1 : Int} {α : Type} {d : Kd α} {e : Nat} {base : Nat} {ok : Nat → Prop} {v : Value} {xs : List α} (h : IsS100 w0 W g f0 f1) (ho : d.R e W base ok v xs) (ht : ∀ q, q ∈ e :: d.E → q ≠ 100) : d.R e W base (fun k => ok k ∧ k ≠ g) v xs := by
 obtain ⟨A0, c0, hb, hg, hr0⟩ := h
 exact Kd.R_types ho hb ht
theorem IsS100.own_ne {w0 W : World} {g : Nat} {f0 : List Int} {f1 : Int} {α : Type} {d : Kd α} {e : Nat} {base : Nat} {ok : Nat → Prop} {v : Value} {xs : List α} (h : IsS100 w0 W g f0 f1) (ho : d.R e W base ok v xs) (ht : e ≠ 100) : some g ≠ v.ownBlock := by
 obtain ⟨A0, c0, hb, hg, hr0⟩ := h
 exact Kd.R_ne ho hb ht
theorem IsS100.lt {w0 W : World} {g : Nat} {f0 : List Int} {f1 : Int} (h : IsS100 w0 W g f0 f1) : g < W.heap.size := by
 obtain ⟨A0, c0, hb, hg, hr0⟩ := h
 exact blk_lt hb
theorem IsS100.ge {w0 W : World} {g : Nat} {f0 : List Int} {f1 : Int} (h : IsS100 w0 W g f0 f1) : w0.heap.size ≤ g := by
 obtain ⟨A0, c0, hb, hg, hr0⟩ := h
 exact hg
theorem IsS100.far {w0 W : World} {g : Nat} {f0 : List Int} {f1 : Int} {p : Addr} (h : IsS100 w0 W g f0 f1) (hne : g ≠ p.block) (u : Value) : IsS100 w0 (W.setCell p u) g f0 f1 := by
 obtain ⟨A0, c0, hb, hg, hr0⟩ := h
 exact ⟨A0, c0, blk_far hb hne u, hg, hr0⟩
theorem cellS100_0 {W : World} {g : Nat} {A0 : Option Addr} {c0 : Nat} {f0 : List Int} {f1 : Int} (h : W.heap[g]? = some (.cells #[.slice A0 f0.length c0, .int .i64 f1] 100 (0, 0))) : W.cell? ⟨g, 0, none⟩ = some (.slice A0 f0.length c0) := (blk_cell h 0).trans rfl
theorem cellS100_1 {W : World} {g : Nat} {A0 : Option Addr} {c0 : Nat} {f0 : List Int} {f1 : Int} (h : W.heap[g]? = some (.cells #[.slice A0 f0.length c0, .int .i64 f1] 100 (0, 0))) : W.cell? ⟨g, 1, none⟩ = some (.int .i64 f1) := (blk_cell h 1).trans rfl
theorem IsS100.set_1 {w0 W : World} {g : Nat} {f0 : List Int} {f1 : Int} (h : IsS100 w0 W g f0 f1) (x : Int) : IsS100 w0 (W.setCell ⟨g, 1, none⟩ (.int .i64 x)) g f0 x := by
 obtain ⟨A0, c0, hb, hg, hr0⟩ := h
 exact ⟨A0, c0, by simpa using blk_set hb 1 (.int .i64 x), hg, hr0⟩
theorem IsS100.qz {w0 W : World} {g : Nat} {f0 : List Int} {f1 : Int} {W1 : World} {f0' : List Int} {f1' : Int} (h : Aside0 (IsS100 w0 W g f0 f1)) (hs : IsS100 w0 W g f0 f1 → IsS100 w0 W1 g f0' f1' := by
  intro h_
  repeat (first | with_reducible exact h_ | with_reducible apply IsS100.alloc | with_reducible apply IsS100.drewN | with_reducible apply IsS100.drew | with_reducible apply IsS100.set_1 | with_reducible apply IsS100.far (hne := Aside0.out (by with_reducible assumption)))) : IsS100 w0 W1 g f0' f1' := hs h.out
/-! ### impl_reader_one: function 69 -/
def impl_reader_one.f (s0_0 : List Int) (s0_1 : Int) : Option (Int × Int) := if s0_1 < (s0_0.length : Int) then (if 0 ≤ s0_1 then (some (wrap64 (rd s0_0 s0_1), wrap64 (s0_1 + 1))) else (none)) else (some (0, wrap64 (s0_1 + 1)))
set_option maxHeartbeats 8000000 in
set_option maxRecDepth 100000 in
theorem impl_reader_one.calls (g : Nat) (s0_0 : List Int) (s0_1 : Int) (r1 : Int) (r2 : Int) (w0 w : World) (hI : IsS100 w0 w g s0_0 s0_1) (hB : Below w0.heap.size w0 w) (h : impl_reader_one.f s0_0 s0_1 = some (r1, r2)) :
  Calls Try.prog 69 #[.pointer (some ⟨g, 0, none⟩)] w fun e w' => e = .returned (.int .i64 r1) ∧ IsS100 w0 w' g s0_0 r2 ∧ Below w0.heap.size w0 w' ∧ KeepBut w w' g none := by
 have HI0 := am_ hI
 have HK := Aside0.mk (KeepBut.refl w g none)
 have HL := Aside0.mk hB.size
 clear hI
 have HW0 := Aside0.mk hB.size
 have HB := am_ hB
 clear hB
 have H := h
 unfold impl_reader_one.f at H
 clear h
 replace H := id_ H
 obtain ⟨-, H, c2b0⟩ | ⟨-, H, c2b0⟩ := H
 rotate_left
 ·
  simp only [Option.some.injEq, Prod.mk.injEq] at H
  obtain ⟨rfl, rfl⟩ := H
  obtain ⟨ASz5_0, cSz5_0, HGz5, hgz5, HSz5_0⟩ := HI0.out
  obtain ⟨HSz5_0, HQz5_0⟩ := HSz5_0
  have z5_0 := cellS100_0 HGz5
  have z5_1 := cellS100_1 HGz5
  have f5_1 := blk_frozen HGz5 1
  clear HGz5 hgz5
  go_enter Try.func69, Try.ntmps69
  go_wp2
  repeat (go_quiet (fail); try go_wp2)
  go_ret
  exact ⟨by first | rfl | (simp [errW_none, errW_some] <;> rfl) | (simp [*, errW_none, errW_some] <;> rfl), IsS100.qz HI0, by repeat (first | (with_reducible first | exact HB.out | apply below_alloc | apply pw_below_drewN | apply below_drew1 | refine below_set ?_ (IsS100.ge HI0.out)) | exact HB.out), by repeat (first | (with_reducible first | exact HK.out | apply KeepBut.set_ | apply keep_drewN | apply keep_drew | apply keep_alloc) | exact HK.out)⟩
 replace H := ip_ H
 obtain ⟨-, H, c3b0⟩ := H
 simp only [Option.some.injEq, Prod.mk.injEq] at H
 obtain ⟨rfl, rfl⟩ := H
 obtain ⟨ASz4_0, cSz4_0, HGz4, hgz4, HSz4_0⟩ := HI0.out
 obtain ⟨HSz4_0, HQz4_0⟩ := HSz4_0
 have z4_0 := cellS100_0 HGz4
 have z4_1 := cellS100_1 HGz4
 have f4_1 := blk_frozen HGz4 1
 clear HGz4 hgz4
 have p848 : 0 ≤ (s0_1 : Int) := od_
 have q848 : s0_1 < (s0_0.length : Int) := od_
 obtain ⟨ad848, e848, hx848_0⟩ := Kd.at_int HSz4_0 s0_1 p848 q848
 cases e848
 replace hx848_0 := pw_cell_below HB.out hx848_0
 replace p848 := eq_true p848
 replace q848 := eq_true q848
 go_enter Try.func69, Try.ntmps69
 go_wp2
 repeat (go_quiet (fail); try go_wp2)
 go_ret
 exact ⟨by first | rfl | (simp [errW_none, errW_some] <;> rfl) | (simp [*, errW_none, errW_some] <;> rfl), IsS100.qz HI0, by repeat (first | (with_reducible first | exact HB.out | apply below_alloc | apply pw_below_drewN | apply below_drew1 | refine below_set ?_ (IsS100.ge HI0.out)) | exact HB.out), by repeat (first | (with_reducible first | exact HK.out | apply KeepBut.set_ | apply keep_drewN | apply keep_drew | apply keep_alloc) | exact HK.out)⟩

/-! ### impl_reader_word: function 70 -/
def impl_reader_word.f (s0_0 : List Int) (s0_1 : Int) : Option (Int × Int) := (impl_reader_one.f s0_0 s0_1).bind fun bt849 => ((impl_reader_one.f s0_0 bt849.2).bind fun bt851 => (some (Go.bits .or .i64 (wrap64 (bt849.1 * 256)) bt851.1, bt851.2)))
set_option maxHeartbeats 8000000 in
set_option maxRecDepth 100000 in
theorem impl_reader_word.calls (g : Nat) (s0_0 : List Int) (s0_1 : Int) (r1 : Int) (r2 : Int) (w0 w : World) (hI : IsS100 w0 w g s0_0 s0_1) (hB : Below w0.heap.size w0 w) (h : impl_reader_word.f s0_0 s0_1 = some (r1, r2)) :
  Calls Try.prog 70 #[.pointer (some ⟨g, 0, none⟩)] w fun e w' => e = .returned (.int .i64 r1) ∧ IsS100 w0 w' g s0_0 r2 ∧ Below w0.heap.size w0 w' ∧ KeepBut w w' g none := by
 have HI0 := am_ hI
 have IGHI0 := iG_ HI0.out.ge
 have HK := Aside0.mk (KeepBut.refl w g none)
 have HL := Aside0.mk hB.size
 clear hI
 have HW0 := Aside0.mk hB.size
 have HB := am_ hB
 clear hB
 have H := h
 unfold impl_reader_word.f at H
 clear h
 replace H := bd_ H
 obtain ⟨⟨t849, t850⟩, A2, H⟩ := H
 (try dsimp only at H)
 replace H := bd_ H
 obtain ⟨⟨t851, t852⟩, A3, H⟩ := H
 (try dsimp only at H)
 simp only [Option.some.injEq, Prod.mk.injEq] at H
 obtain ⟨rfl, rfl⟩ := H
 go_enter Try.func70, Try.ntmps70
 go_wp2_with (first | (refine gc_ 69 rfl ?_; refine gl_ (some 4) Try.func69 #[.pointer (some ⟨g, 0, none⟩)] ?_; (with_reducible refine (impl_reader_one.calls g s0_0 s0_1 t849 t850 w0 _ (IsS100.q HI0) (qB HB) A2.out).mono ?_); rintro e w4 ⟨rfl, hi, hb, hk⟩; refine ⟨_, rfl, ?_⟩; replace HK := kT_ HK hk; replace HB := am_ (hb); replace HI0 := am_ (hi); (try clear hb); (try clear hk); (try clear hi)) | (refine gc_ 69 rfl ?_; refine gl_ (some 7) Try.func69 #[.pointer (some ⟨g, 0, none⟩)] ?_; (with_reducible refine (impl_reader_one.calls g s0_0 t850 t851 t852 w0 _ (IsS100.q HI0) (qB HB) A3.out).mono ?_); rintro e w5 ⟨rfl, hi, hb, hk⟩; refine ⟨_, rfl, ?_⟩; replace HK := kT_ HK hk; replace HB := am_ (hb); replace HI0 := am_ (hi); (try clear hb); (try clear hk); (try clear hi)))
 go_ret
 exact ⟨er_, IsS100.q HI0, qB HB, qP HK⟩

/-! ### impl_GetText: function 119 -/
def impl_GetText.j0 : Nat → List Int → Int → Bool → Option (ByteArray × Int × Bool)
 | 0, _, _, _ => none
 | k + 1, x0, x1, x27 => if x27 = true then (some ((⟨#[]⟩ : ByteArray), 0, false)) else (if 0 ≤ x1 then (if x1 < (x0.length : Int) then (if 0 ≤ (wrap64 (x1 + 1)) then (if (wrap64 (x1 + 1)) ≤ (wrap64 ((wrap64 (x1 + 1)) + (wrap64 (rd x0 x1)))) then (if (wrap64 ((wrap64 (x1 + 1)) + (wrap64 (rd x0 x1)))) ≤ (x0.length : Int) then ((impl_TextOk.f k (strOfNums ((x0.take ((wrap64 ((wrap64 (x1 + 1)) + (wrap64 (rd x0 x1)))) : Int).toNat).drop ((wrap64 (x1 + 1)) : Int).toNat))).bind fun t857 => (if t857 = true then (some (strOfNums ((x0.take ((wrap64 ((wrap64 (x1 + 1)) + (wrap64 (rd x0 x1)))) : Int).toNat).drop ((wrap64 (x1 + 1)) : Int).toNat), wrap64 ((wrap64 (x1 + 1)) + (wrap64 (rd x0 x1))), true)) else (some ((⟨#[]⟩ : ByteArray), 0, false)))) else (none)) else (none)) else (none)) else (none)) else (none))
def impl_GetText.f (k : Nat) (l0 : List Int) (a1 : Int) : Option (ByteArray × Int × Bool) := (impl_isIn.f a1 0 (wrap64 ((l0.length : Int) - 1))).bind fun t853 => (if t853 = true then (if 0 ≤ a1 then (if a1 < (l0.length : Int) then (impl_GetText.j0 k l0 a1 (decide ((wrap64 (rd l0 a1)) > (wrap64 ((wrap64 ((l0.length : Int) - a1)) - 1))))) else (none)) else (none)) else (impl_GetText.j0 k l0 a1 true))
theorem impl_GetText.mono_l : ∀ k, (∀ y0 y1 y2, LeO (impl_GetText.j0 k y0 y1 y2) (impl_GetText.j0 (k + 1) y0 y1 y2))
 | 0 => fun _ _ _ r h => by simp [impl_GetText.j0] at h
 | k + 1 => by
  have ih0 := impl_GetText.mono_l k
  ·
   intro y0 y1 y2
   unfold impl_GetText.j0
   have m0 := @impl_TextOk.mono; exact mo_
theorem impl_GetText.mono : ∀ a0 a1 k, LeO (impl_GetText.f k a0 a1) (impl_GetText.f (k + 1) a0 a1) := by
 intro a0 a1 k
 have ih0 := impl_GetText.mono_l k
 unfold impl_GetText.f
 have m0 := @impl_TextOk.mono; exact mo_
set_option maxHeartbeats 8000000 in
set_option maxRecDepth 100000 in
theorem impl_GetText.calls (k : Nat) (A0 : Option Addr) (c0 : Nat) (l0 : List Int) (a1 : Int) (r1 : ByteArray) (r2 : Int) (r3 : Bool) (w : World) (hr0 : Kd.C (Kd.int .u8) w A0 l0.length l0) (hc0 : l0.length ≤ c0) (h : impl_GetText.f k l0 a1 = some (r1, r2, r3)) :
  Calls Try.prog 119 #[.slice A0 l0.length c0, .int .i64 a1] w fun e w' => e = .returned (.tuple #[.string r1, .int .i64 r2, .bool r3]) ∧ Drawn0 w w' := by
 have HR0 := am_ hr0
 have HC0 := am_ hc0
 clear hr0 hc0
 have H := h
 unfold impl_GetText.f at H
 clear h
 have HC3 := am_ H
 clear H
 go_enter Try.func119, Try.ntmps119
 go_upto_region 1 with (fail)
 go_cut [27] (fun v27 wc => ∃ (kq : Nat) (x27_2 : Bool), v27 = .bool x27_2 ∧ Aside0 (impl_GetText.j0 kq l0 a1 x27_2 = some (r1, r2, r3)) ∧ Aside0 (kq ≤ k) ∧ Drawn0 w wc)
 case first =>
  have H := HC3.out
  clear HC3
  replace H := bd_ H
  obtain ⟨t853, A4, H⟩ := H
  by_cases c5 : t853 = true
  rotate_left
  ·
   replace c5 := nf_ c5
   subst c5
   rw [if_neg (show ¬ (false = true) by decide)] at H
   have H' := Aside0.mk H
   clear H
   go_wp2_with (first | (refine gc_ 87 rfl ?_; refine gl_ (some 13) Try.func87 #[.int .i64 a1, .int .i64 0, .int .i64 (wrap64 ((l0.length : Int) - 1))] ?_; (with_reducible refine (impl_isIn.calls a1 0 (wrap64 ((l0.length : Int) - 1)) false _ A4.out).mono ?_); rintro e w' ⟨rfl, ⟨nd, rfl⟩⟩; refine ⟨_, rfl, ?_⟩))
   go_meet
   case rel => exact ⟨_, (true), eqq_, H', ⟨by first | omega | exact Nat.le_refl _⟩, by repeat (first | exact Drawn0.refl _ | apply Drawn0.step)⟩
  subst c5
  rw [if_pos rfl] at H
  replace H := ip_ H
  obtain ⟨-, H, c6b0⟩ := H
  (first | rw [c6b0] | (simp only [i64_w, i32_w]; rw [c6b0]) | skip)
  replace H := ip_ H
  obtain ⟨-, H, c7b0⟩ := H
  have H' := Aside0.mk H
  clear H
  go_wp2_with (first | (refine gc_ 87 rfl ?_; refine gl_ (some 13) Try.func87 #[.int .i64 a1, .int .i64 0, .int .i64 (wrap64 ((l0.length : Int) - 1))] ?_; (with_reducible refine (impl_isIn.calls a1 0 (wrap64 ((l0.length : Int) - 1)) true _ A4.out).mono ?_); rintro e w' ⟨rfl, ⟨nd, rfl⟩⟩; refine ⟨_, rfl, ?_⟩; have p854 : 0 ≤ (a1 : Int) := od_; have q854 : a1 < (l0.length : Int) := od_; obtain ⟨ad854, e854, hx854_0⟩ := Kd.at_int HR0.out a1 p854 q854; cases e854; replace p854 := eq_true p854; replace q854 := eq_true q854))
  go_meet
  case rel => exact ⟨_, (decide ((wrap64 (rd l0 a1)) > (wrap64 ((wrap64 ((l0.length : Int) - a1)) - 1)))), eqq_, H', ⟨by first | omega | exact Nat.le_refl _⟩, by repeat (first | exact Drawn0.refl _ | apply Drawn0.step)⟩
 case rest =>
  clear HC3
  try clear c1
  try clear p2
  try clear c5
  try clear c6
  try clear c6b0
  try clear p6
  try clear c7
  try clear c7b0
  try clear hx854_0
  try clear p854
  try clear q854
  obtain ⟨kq, x27_2, rfl, HA, HJ2, ⟨mc2, rfl⟩⟩ := hcut
  cases kq with
  | zero => exact absurd HA.out (by simp [impl_GetText.j0])
  | succ kj2 =>
   have H := HA.out
   clear HA
   simp only [impl_GetText.j0] at H
   by_cases c8 : x27_2 = true
   ·
    subst c8
    rw [if_pos rfl] at H
    simp only [Option.some.injEq, Prod.mk.injEq] at H
    obtain ⟨rfl, rfl, rfl⟩ := H
    go_wp2
    go_ret3
    exact ⟨ea_, dn_⟩
   replace c8 := nf_ c8
   subst c8
   rw [if_neg (show ¬ (false = true) by decide)] at H
   replace H := ip_ H
   obtain ⟨-, H, c9b0⟩ := H
   replace H := ip_ H
   obtain ⟨-, H, c10b0⟩ := H
   obtain ⟨ji11, hji11⟩ : ∃ j_ : Int, (wrap64 (a1 + 1)) = j_ := ⟨_, rfl⟩
   replace H : (if 0 ≤ (ji11) then (if (ji11) ≤ (wrap64 ((ji11) + (wrap64 (rd l0 a1)))) then (if (wrap64 ((ji11) + (wrap64 (rd l0 a1)))) ≤ (l0.length : Int) then ((impl_TextOk.f kj2 (strOfNums ((l0.take ((wrap64 ((ji11) + (wrap64 (rd l0 a1)))) : Int).toNat).drop ((ji11) : Int).toNat))).bind fun t857 => (if t857 = true then (some (strOfNums ((l0.take ((wrap64 ((ji11) + (wrap64 (rd l0 a1)))) : Int).toNat).drop ((ji11) : Int).toNat), wrap64 ((ji11) + (wrap64 (rd l0 a1))), true)) else (some ((⟨#[]⟩ : ByteArray), 0, false)))) else (none)) else (none)) else (none)) = some (r1, r2, r3) := by first | (rw [hji11] at H; exact H) | (simp only [hji11] at H ⊢; exact H)
   have hji11w : (IntKind.i64.wrap (a1 + 1)) = ji11 := (i64_w _).trans hji11
   replace H := ip_ H
   obtain ⟨c12, H, -⟩ := H
   have c12b0 := eq_true c12
   have c12b1 : decide (0 ≤ (ji11)) = true := decide_eq_true c12
   clear c12
   replace H := ip_ H
   obtain ⟨c13, H, -⟩ := H
   have c13b0 := eq_true c13
   have c13b1 : decide ((ji11) ≤ (wrap64 ((ji11) + (wrap64 (rd l0 a1))))) = true := decide_eq_true c13
   replace H := ip_ H
   obtain ⟨c14, H, -⟩ := H
   have c14b0 := eq_true c14
   have c14b1 : decide ((wrap64 ((ji11) + (wrap64 (rd l0 a1)))) ≤ (l0.length : Int)) = true := decide_eq_true c14
   replace H := bd_ H
   obtain ⟨t857, A15, H⟩ := H
   have HC16 := am_ H
   clear H
   have p855 : 0 ≤ (a1 : Int) := od_
   have q855 : a1 < (l0.length : Int) := od_
   obtain ⟨ad855, e855, hx855_0⟩ := Kd.at_int HR0.out a1 p855 q855
   cases e855
   replace p855 := eq_true p855
   replace q855 := eq_true q855
   obtain ⟨i017, hi017, _, hsz17, _⟩ := info_parts info5
   obtain ⟨A17, hcut17, hA17, hC17⟩ := print_mid_of (P := Try.prog) (Value.int .u8) 0 22 5 .i64 .i64 Try.underlying22 hi017 hsz17 (some ad855) c0 l0 (ji11) (wrap64 ((ji11) + (wrap64 (rd l0 a1)))) od_ (by first | omega | exact od_) od_ HC0.out
   have HR856 := Aside0.mk (Kd.C_of_reads (h1 := fun _ => rfl) (hA17 _ (Kd.reads_of_C HR0.out)))
   have HC856 := am_ hC17
   clear hA17 hC17 hi017 hsz17
   have hcv18 := conv_len (Kd.C_string (P := Try.prog) (A := A17) (c := (c0 - (ji11).toNat)) Try.underlying22 Try.underlying5 Try.underlying9 HR856.out)
   have hcv18d := fun k_ : Nat => conv_len (Kd.C_string (P := Try.prog) (A := A17) (c := (c0 - (ji11).toNat)) Try.underlying22 Try.underlying5 Try.underlying9 (Kd.C_drewN HR856.out k_))
   go_upto_if 44 with (first | (refine gc_ 82 rfl ?_; refine gl_ (some 43) Try.func82 #[.string (strOfNums ((l0.take ((wrap64 ((ji11) + (wrap64 (rd l0 a1)))) : Int).toNat).drop ((ji11) : Int).toNat))] ?_ (hargs := (by (try simp only [List.map_toArray, List.map_cons, List.map_nil]); first | done | (simp only [hji11]; rfl) | rfl | (simp only [List.length_drop, List.length_take]; rfl))); (with_reducible refine (impl_TextOk.calls kj2 (strOfNums ((l0.take ((wrap64 ((ji11) + (wrap64 (rd l0 a1)))) : Int).toNat).drop ((ji11) : Int).toNat)) t857 _ A15.out).mono ?_); rintro e w' ⟨rfl, ⟨nd, rfl⟩⟩; refine ⟨_, rfl, ?_⟩))
   (try simp only [Act.put, List.setIfInBounds_toArray, List.set_cons_zero, List.set_cons_succ])
   have H := HC16.out
   clear HC16
   by_cases c19 : t857 = true
   ·
    subst c19
    rw [if_pos rfl] at H
    simp only [Option.some.injEq, Prod.mk.injEq] at H
    obtain ⟨rfl, rfl, rfl⟩ := H
    go_wp2
    go_ret3
    exact ⟨by first | rfl | (simp; done) | (simp only [← hji11] <;> (first | rfl | simp)) | (simp [*]; done), by repeat (first | exact Drawn0.refl _ | apply Drawn0.step)⟩
   replace c19 := nf_ c19
   subst c19
   rw [if_neg (show ¬ (false = true) by decide)] at H
   simp only [Option.some.injEq, Prod.mk.injEq] at H
   obtain ⟨rfl, rfl, rfl⟩ := H
   go_wp2
   go_ret3
   exact ⟨by first | rfl | (simp; done) | (simp only [← hji11] <;> (first | rfl | simp)) | (simp [*]; done), by repeat (first | exact Drawn0.refl _ | apply Drawn0.step)⟩

/-! ### impl_reader_text: function 71 -/
def impl_reader_text.f (k : Nat) (s0_0 : List Int) (s0_1 : Int) : Option (ByteArray × Int) := (impl_GetText.f k s0_0 s0_1).bind fun bt858 => (if bt858.2.2 = true then (some (bt858.1, bt858.2.1)) else (some (bt858.1, s0_1)))
theorem impl_reader_text.mono : ∀ a0 a1 k, LeO (impl_reader_text.f k a0 a1) (impl_reader_text.f (k + 1) a0 a1) := by
 intro a0 a1 k
 unfold impl_reader_text.f
 have m0 := @impl_GetText.mono; exact mo_
set_option maxHeartbeats 8000000 in
set_option maxRecDepth 100000 in
theorem impl_reader_text.calls (k : Nat) (g : Nat) (s0_0 : List Int) (s0_1 : Int) (r1 : ByteArray) (r2 : Int) (w0 w : World) (hI : IsS100 w0 w g s0_0 s0_1) (hB : Below w0.heap.size w0 w) (h : impl_reader_text.f k s0_0 s0_1 = some (r1, r2)) :
  Calls Try.prog 71 #[.pointer (some ⟨g, 0, none⟩)] w fun e w' => e = .returned (.string r1) ∧ IsS100 w0 w' g s0_0 r2 ∧ Below w0.heap.size w0 w' ∧ KeepBut w w' g none := by
 have HI0 := am_ hI
 have HK := Aside0.mk (KeepBut.refl w g none)
 have HL := Aside0.mk hB.size
 clear hI
 have HW0 := Aside0.mk hB.size
 have HB := am_ hB
 clear hB
 have H := h
 unfold impl_reader_text.f at H
 clear h
 replace H := bf_ H
 obtain ⟨f_, hf_, ⟨t858, t859, t860⟩, A2, H⟩ := H
 subst hf_
 (try dsimp only at H)
 by_cases c3 : t860 = true
 ·
  subst c3
  rw [if_pos rfl] at H
  simp only [Option.some.injEq, Prod.mk.injEq] at H
  obtain ⟨rfl, rfl⟩ := H
  obtain ⟨ASz4_0, cSz4_0, HGz4, hgz4, HSz4_0⟩ := HI0.out
  obtain ⟨HSz4_0, HQz4_0⟩ := HSz4_0
  have z4_0 := cellS100_0 HGz4
  have z4_1 := cellS100_1 HGz4
  have f4_1 := blk_frozen HGz4 1
  clear HGz4 hgz4
  go_enter Try.func71, Try.ntmps71
  go_wp2_with (first | (go_at_call 119; (with_reducible refine (impl_GetText.calls k _ _ s0_0 s0_1 t858 t859 true _ ?side1 ?side2 A2.out).mono ?_); (case side1 => exact Kd.C_below HSz4_0 (by repeat (first | (with_reducible first | exact HB.out | apply below_alloc | apply pw_below_drewN | apply below_drew1 | refine below_set ?_ (IsS100.ge HI0.out)) | exact HB.out))); (case side2 => exact HQz4_0); rintro e w' ⟨rfl, ⟨nd, rfl⟩⟩; (try first | exact ⟨rfl, _, World.drewN_drewN _ _ _⟩ | exact ⟨rfl, _, Eq.trans (World.drewN_drewN _ _ _) (congrArg (World.drewN _) (Nat.add_assoc _ _ _))⟩)))
  repeat (go_quiet (first | (go_at_call 119; (with_reducible refine (impl_GetText.calls k _ _ s0_0 s0_1 t858 t859 true _ ?side1 ?side2 A2.out).mono ?_); (case side1 => exact Kd.C_below HSz4_0 (by repeat (first | (with_reducible first | exact HB.out | apply below_alloc | apply pw_below_drewN | apply below_drew1 | refine below_set ?_ (IsS100.ge HI0.out)) | exact HB.out))); (case side2 => exact HQz4_0); rintro e w' ⟨rfl, ⟨nd, rfl⟩⟩; (try first | exact ⟨rfl, _, World.drewN_drewN _ _ _⟩ | exact ⟨rfl, _, Eq.trans (World.drewN_drewN _ _ _) (congrArg (World.drewN _) (Nat.add_assoc _ _ _))⟩))); try go_wp2_with (first | (go_at_call 119; (with_reducible refine (impl_GetText.calls k _ _ s0_0 s0_1 t858 t859 true _ ?side1 ?side2 A2.out).mono ?_); (case side1 => exact Kd.C_below HSz4_0 (by repeat (first | (with_reducible first | exact HB.out | apply below_alloc | apply pw_below_drewN | apply below_drew1 | refine below_set ?_ (IsS100.ge HI0.out)) | exact HB.out))); (case side2 => exact HQz4_0); rintro e w' ⟨rfl, ⟨nd, rfl⟩⟩; (try first | exact ⟨rfl, _, World.drewN_drewN _ _ _⟩ | exact ⟨rfl, _, Eq.trans (World.drewN_drewN _ _ _) (congrArg (World.drewN _) (Nat.add_assoc _ _ _))⟩))))
  go_ret
  exact ⟨by first | rfl | (simp [errW_none, errW_some] <;> rfl) | (simp [*, errW_none, errW_some] <;> rfl), IsS100.qz HI0, by repeat (first | (with_reducible first | exact HB.out | apply below_alloc | apply pw_below_drewN | apply below_drew1 | refine below_set ?_ (IsS100.ge HI0.out)) | exact HB.out), by repeat (first | (with_reducible first | exact HK.out | apply KeepBut.set_ | apply keep_drewN | apply keep_drew | apply keep_alloc) | exact HK.out)⟩
 replace c3 := nf_ c3
 subst c3
 rw [if_neg (show ¬ (false = true) by decide)] at H
 simp only [Option.some.injEq, Prod.mk.injEq] at H
 obtain ⟨rfl, rfl⟩ := H
 obtain ⟨ASz5_0, cSz5_0, HGz5, hgz5, HSz5_0⟩ := HI0.out
 obtain ⟨HSz5_0, HQz5_0⟩ := HSz5_0
 have z5_0 := cellS100_0 HGz5
 have z5_1 := cellS100_1 HGz5
 have f5_1 := blk_frozen HGz5 1
 clear HGz5 hgz5
 go_enter Try.func71, Try.ntmps71
 go_wp2_with (first | (go_at_call 119; (with_reducible refine (impl_GetText.calls k _ _ s0_0 s0_1 t858 t859 false _ ?side1 ?side2 A2.out).mono ?_); (case side1 => exact Kd.C_below HSz5_0 (by repeat (first | (with_reducible first | exact HB.out | apply below_alloc | apply pw_below_drewN | apply below_drew1 | refine below_set ?_ (IsS100.ge HI0.out)) | exact HB.out))); (case side2 => exact HQz5_0); rintro e w' ⟨rfl, ⟨nd, rfl⟩⟩; (try first | exact ⟨rfl, _, World.drewN_drewN _ _ _⟩ | exact ⟨rfl, _, Eq.trans (World.drewN_drewN _ _ _) (congrArg (World.drewN _) (Nat.add_assoc _ _ _))⟩)))
 repeat (go_quiet (first | (go_at_call 119; (with_reducible refine (impl_GetText.calls k _ _ s0_0 s0_1 t858 t859 false _ ?side1 ?side2 A2.out).mono ?_); (case side1 => exact Kd.C_below HSz5_0 (by repeat (first | (with_reducible first | exact HB.out | apply below_alloc | apply pw_below_drewN | apply below_drew1 | refine below_set ?_ (IsS100.ge HI0.out)) | exact HB.out))); (case side2 => exact HQz5_0); rintro e w' ⟨rfl, ⟨nd, rfl⟩⟩; (try first | exact ⟨rfl, _, World.drewN_drewN _ _ _⟩ | exact ⟨rfl, _, Eq.trans (World.drewN_drewN _ _ _) (congrArg (World.drewN _) (Nat.add_assoc _ _ _))⟩))); try go_wp2_with (first | (go_at_call 119; (with_reducible refine (impl_GetText.calls k _ _ s0_0 s0_1 t858 t859 false _ ?side1 ?side2 A2.out).mono ?_); (case side1 => exact Kd.C_below HSz5_0 (by repeat (first | (with_reducible first | exact HB.out | apply below_alloc | apply pw_below_drewN | apply below_drew1 | refine below_set ?_ (IsS100.ge HI0.out)) | exact HB.out))); (case side2 => exact HQz5_0); rintro e w' ⟨rfl, ⟨nd, rfl⟩⟩; (try first | exact ⟨rfl, _, World.drewN_drewN _ _ _⟩ | exact ⟨rfl, _, Eq.trans (World.drewN_drewN _ _ _) (congrArg (World.drewN _) (Nat.add_assoc _ _ _))⟩))))
 go_ret
 exact ⟨by first | rfl | (simp [errW_none, errW_some] <;> rfl) | (simp [*, errW_none, errW_some] <;> rfl), IsS100.qz HI0, by repeat (first | (with_reducible first | exact HB.out | apply below_alloc | apply pw_below_drewN | apply below_drew1 | refine below_set ?_ (IsS100.ge HI0.out)) | exact HB.out), by repeat (first | (with_reducible first | exact HK.out | apply KeepBut.set_ | apply keep_drewN | apply keep_drew | apply keep_alloc) | exact HK.out)⟩

/-! ### impl_reader_since: function 72 -/
def impl_reader_since.f (s0_0 : List Int) (s0_1 : Int) : Option (Int × Int) := (impl_reader_word.f s0_0 s0_1).bind fun bt861 => ((impl_reader_one.f s0_0 bt861.2).bind fun bt863 => (some (wrap64 ((wrap64 (bt861.1 * 256)) + bt863.1), bt863.2)))
set_option maxHeartbeats 8000000 in
set_option maxRecDepth 100000 in
theorem impl_reader_since.calls (g : Nat) (s0_0 : List Int) (s0_1 : Int) (r1 : Int) (r2 : Int) (w0 w : World) (hI : IsS100 w0 w g s0_0 s0_1) (hB : Below w0.heap.size w0 w) (h : impl_reader_since.f s0_0 s0_1 = some (r1, r2)) :
  Calls Try.prog 72 #[.pointer (some ⟨g, 0, none⟩)] w fun e w' => e = .returned (.int .i64 r1) ∧ IsS100 w0 w' g s0_0 r2 ∧ Below w0.heap.size w0 w' ∧ KeepBut w w' g none := by
 have HI0 := am_ hI
 have IGHI0 := iG_ HI0.out.ge
 have HK := Aside0.mk (KeepBut.refl w g none)
 have HL := Aside0.mk hB.size
 clear hI
 have HW0 := Aside0.mk hB.size
 have HB := am_ hB
 clear hB
 have H := h
 unfold impl_reader_since.f at H
 clear h
 replace H := bd_ H
 obtain ⟨⟨t861, t862⟩, A2, H⟩ := H
 (try dsimp only at H)
 replace H := bd_ H
 obtain ⟨⟨t863, t864⟩, A3, H⟩ := H
 (try dsimp only at H)
 simp only [Option.some.injEq, Prod.mk.injEq] at H
 obtain ⟨rfl, rfl⟩ := H
 go_enter Try.func72, Try.ntmps72
 go_wp2_with (first | (refine gc_ 70 rfl ?_; refine gl_ (some 4) Try.func70 #[.pointer (some ⟨g, 0, none⟩)] ?_; (with_reducible refine (impl_reader_word.calls g s0_0 s0_1 t861 t862 w0 _ (IsS100.q HI0) (qB HB) A2.out).mono ?_); rintro e w4 ⟨rfl, hi, hb, hk⟩; refine ⟨_, rfl, ?_⟩; replace HK := kT_ HK hk; replace HB := am_ (hb); replace HI0 := am_ (hi); (try clear hb); (try clear hk); (try clear hi)) | (refine gc_ 69 rfl ?_; refine gl_ (some 7) Try.func69 #[.pointer (some ⟨g, 0, none⟩)] ?_; (with_reducible refine (impl_reader_one.calls g s0_0 t862 t863 t864 w0 _ (IsS100.q HI0) (qB HB) A3.out).mono ?_); rintro e w5 ⟨rfl, hi, hb, hk⟩; refine ⟨_, rfl, ?_⟩; replace HK := kT_ HK hk; replace HB := am_ (hb); replace HI0 := am_ (hi); (try clear hb); (try clear hk); (try clear hi)))
 go_ret
 exact ⟨er_, IsS100.q HI0, qB HB, qP HK⟩

/-! ### bytes_Equal: function 73 -/
def bytes_Equal.f (l0 : List Int) (l1 : List Int) : Option (Bool) := some ((strOfNums l0).toList == (strOfNums l1).toList)
set_option maxHeartbeats 8000000 in
set_option maxRecDepth 100000 in
theorem bytes_Equal.calls (A0 : Option Addr) (c0 : Nat) (l0 : List Int) (A1 : Option Addr) (c1 : Nat) (l1 : List Int) (r : Bool) (w : World) (hr0 : Kd.C (Kd.int .u8) w A0 l0.length l0) (hc0 : l0.length ≤ c0) (hr1 : Kd.C (Kd.int .u8) w A1 l1.length l1) (hc1 : l1.length ≤ c1) (h : bytes_Equal.f l0 l1 = some r) :
  Calls Try.prog 73 #[.slice A0 l0.length c0, .slice A1 l1.length c1] w fun e w' => e = .returned (.bool r) ∧ Drawn0 w w' := by
 have HR0 := am_ hr0
 have HC0 := am_ hc0
 clear hr0 hc0
 have HR1 := am_ hr1
 have HC1 := am_ hc1
 clear hr1 hc1
 have H : (some ((strOfNums l0).toList == (strOfNums l1).toList)) = some r := h
 clear h
 obtain rfl := si_ H
 have hcv3 := conv_len (Kd.C_string (P := Try.prog) (A := A0) (c := c0) Try.underlying22 Try.underlying5 Try.underlying9 HR0.out)
 have hcv4 := conv_len (Kd.C_string (P := Try.prog) (A := A1) (c := c1) Try.underlying22 Try.underlying5 Try.underlying9 HR1.out)
 go_enter Try.func73, Try.ntmps73
 go_wp2
 go_ret
 exact ⟨ea_, dn_⟩

end Go.Proofs.Ytiffahfpfgnjnaa.PFnCtls
