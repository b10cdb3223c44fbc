-- Written by a program of this session (myprint.py, over the kit's print): contracts of FnCtls
import Derived.Test.YtiffahfpfgnjnaaPFnCtlsx3
import Derived.Test.YtiffahfpfgnjnaaPFnCtlsx22
import Derived.Test.YtiffahfpfgnjnaaPFnCtlsx25
namespace Go.Proofs.Ytiffahfpfgnjnaa.PFnCtls
open Go.RowKit Go.Proofs.YtiffahfpfgnjnaaW.PrintWords Go.Proofs.YtiffahfpfgnjnaaW.PrintLast Go.Proofs.YtiffahfpfgnjnaaW.PrintMore Go.Proofs.YtiffahfpfgnjnaaV
attribute [local go_sem] max2_int min2_int max_two min_two max_three min_three max_four min_four
set_option linter.unusedVariables false
set_option linter.unusedSimpArgs false

/-! ### laws_at: function 112 -/
def laws_at.f (l0 : List Int) (a1 : Int) : Option (Int) := if a1 < (l0.length : Int) then (if 0 ≤ a1 then (some (wrap64 (rd l0 a1))) else (none)) else (some (Int.tmod (wrap64 ((wrap64 (a1 * 31)) + (wrap64 ((l0.length : Int) * 7)))) 256))
set_option maxHeartbeats 8000000 in
set_option maxRecDepth 100000 in
theorem laws_at.calls (A0 : Option Addr) (c0 : Nat) (l0 : List Int) (a1 : Int) (r : Int) (w : World) (hr0 : Kd.C (Kd.int .u8) w A0 l0.length l0) (hc0 : l0.length ≤ c0) (h : laws_at.f l0 a1 = some r) :
  Calls Try.prog 112 #[.slice A0 l0.length c0, .int .i64 a1] w fun e w' => e = .returned (.int .i64 r) ∧ Drawn0 w w' := by
 have HR0 := am_ hr0
 have HC0 := am_ hc0
 clear hr0 hc0
 have H := h
 unfold laws_at.f at H
 clear h
 replace H := id_ H
 obtain ⟨-, H, c3b0⟩ | ⟨-, H, c3b0⟩ := H
 rotate_left
 ·
  obtain rfl := si_ H
  go_enter Try.func112, Try.ntmps112
  go_wp2
  go_ret
  exact ⟨ea_, dn_⟩
 replace H := ip_ H
 obtain ⟨-, H, c4b0⟩ := H
 obtain rfl := si_ H
 have p1072 : 0 ≤ (a1 : Int) := od_
 have q1072 : a1 < (l0.length : Int) := od_
 obtain ⟨ad1072, e1072, hx1072_0⟩ := Kd.at_int HR0.out a1 p1072 q1072
 cases e1072
 replace p1072 := eq_true p1072
 replace q1072 := eq_true q1072
 go_enter Try.func112, Try.ntmps112
 go_wp2
 go_ret
 exact ⟨ea_, dn_⟩

/-! ### laws_bent: function 58 -/
def laws_bent.f (l0 : List Int) (l1 : List Int) : Option (List Int) := (some (([] : List Int) : List Int)).bind fun y1073 => (if y1073.length + l1.length < 140737488355328 then ((some (y1073 ++ l1 : List Int)).bind fun y1076 => (if (y1076.length : Int) > 0 then ((laws_at.f l0 2).bind fun t1079 => ((laws_at.f l0 3).bind fun t1080 => (if (y1076.length : Int) = 0 then (none) else (if 0 ≤ (Int.tmod (wrap64 ((wrap64 (t1079 * 256)) + t1080)) (y1076.length : Int)) then (if (Int.tmod (wrap64 ((wrap64 (t1079 * 256)) + t1080)) (y1076.length : Int)) < (y1076.length : Int) then ((laws_at.f l0 4).bind fun t1082 => (some (y1076.set ((Int.tmod (wrap64 ((wrap64 (t1079 * 256)) + t1080)) (y1076.length : Int)) : Int).toNat (Go.bits .xor .u8 (rd y1076 (Int.tmod (wrap64 ((wrap64 (t1079 * 256)) + t1080)) (y1076.length : Int))) ((wrap64 (1 + (Int.tmod t1082 255))) % 256))))) else (none)) else (none))))) else (some y1076))) else (none))
def laws_bent.T4 : Bool × List (List Nat × List Nat) := (true, [([], []), ([], []), ([], []), ([], []), ([2, 3], [2, 3]), ([4], [4]), ([], []), ([6], [6]), ([7], [7]), ([8], [8]), ([9], [9]), ([5, 10], [5, 10]), ([0, 1, 0, 1, 2, 3, 4, 5, 6, 7, 8, 9, 10, 11], [0, 1]), ([12, 11, 7, 0, 1, 2, 3, 4, 5, 6, 7, 8, 9, 10, 11], [11, 12])])
def laws_bent.B4 : List Nat := [0, 0, 0, 0, 12, 28, 0, 64, 192, 448, 960, 2044, 4095, 8191]
theorem laws_bent.tab4 : rtab .any (opsOf Try.f58 4) = laws_bent.T4 := by kernel_rfl
theorem laws_bent.bits4 : waitsOk laws_bent.T4.2 laws_bent.B4 = true := by kernel_rfl
set_option maxHeartbeats 8000000 in
set_option maxRecDepth 100000 in
theorem laws_bent.calls (A0 : Option Addr) (c0 : Nat) (l0 : List Int) (A1 : Option Addr) (c1 : Nat) (l1 : List Int) (r : List Int) (w : World) (hr0 : Kd.C (Kd.int .u8) w A0 l0.length l0) (hc0 : l0.length ≤ c0) (hr1 : Kd.C (Kd.int .u8) w A1 l1.length l1) (hc1 : l1.length ≤ c1) (h : laws_bent.f l0 l1 = some r) :
  Calls Try.prog 58 #[.slice A0 l0.length c0, .slice A1 l1.length c1] w fun e w' => ∃ v0_ : Value, e = .returned (v0_) ∧ Kd.R (Kd.int .u8) 5 w' w.heap.size (fun _ => True) v0_ r ∧ Below w.heap.size w w' := by
 have HR0 := am_ hr0
 have HC0 := am_ hc0
 clear hr0 hc0
 have HR1 := am_ hr1
 have HC1 := am_ hc1
 clear hr1 hc1
 have HB := Aside0.mk (Below.refl w.heap.size w)
 have H := h
 unfold laws_bent.f at H
 clear h
 replace H := my_ (([] : List Int)) H
 obtain ⟨y1073, Ny1073, H⟩ := H
 (try dsimp only at H)
 replace H := ip_ H
 obtain ⟨c3, H, -⟩ := H
 have LMc3 := am_ c3
 clear c3
 replace H := my_ (y1073 ++ l1) H
 obtain ⟨y1076, Ny1076, H⟩ := H
 (try dsimp only at H)
 have HC4 := am_ H
 clear H
 go_enter Try.func58, Try.ntmps58
 go_upto_if 12 with (first | (refine gd_ 7 rfl ?_; refine l8_ 5 7 ([] : List Int) [] ?_; intro v1074 w5 ho6 hb hg_ hnew_; clear hg_ hnew_; (first | rw [← Ny1073.out] at ho6 | (simp only [Int.reduceToNat] at ho6; rw [← Ny1073.out] at ho6)); have HO1075 := am_ (Kd.R_lower ho6 (below_size (qB HB))); replace HB := bS_ HB hb; clear hb ho6) | ((with_reducible refine gate_builtin (b := .append) (xs := #[.tmp 7, .tmp 8]) rfl ?_); at_builtin; refine Kd.R_append_rows (Kd.int .u8) (w0 := w) w.heap.size rfl (.tmp 7) (.tmp 8) 22 5 (.int .u8 0) 1 rfl Try.underlying22 info5 rfl (by decide) (by omega) v1074 y1073 l1 _ _ _ (fun _ => True) (fun _ => False) rfl rfl ?aO ?aR (fun _ _ h => h) (fun _ h => h.elim) ?aF ?aB ?aS ?aL ?_; (case aR => exact qC (Kd.C_below HR1.out HB.out)); (case aB => exact (qB HB)); (case aF => exact (fun _ _ => trivial)); (case aO => exact (qR HO1075)); (case aS => exact (below_size (qB HB))); (case aL => have := LMc3.out; omega); intro v1077 w7 ho hb hg hat; rw [← Ny1076.out] at ho; replace HB := am_ (hb); have HO1078 := am_ (ho); clear HO1075; clear ho hb hg hat; obtain ⟨Ao8, co8, eo8⟩ := Kd.R_slice HO1078.out; subst eo8))
 (try simp only [Act.put, List.setIfInBounds_toArray, List.set_cons_zero, List.set_cons_succ])
 have H := HC4.out
 clear HC4
 replace H := id_ H
 obtain ⟨c9, H, c9b0⟩ | ⟨c9, H, c9b0⟩ := H
 rotate_left
 ·
  have c9b1 : decide (0 < y1076.length) = false := decide_eq_false (by omega)
  clear c9
  (first | rw [c9b0] | rw [c9b1] | (simp only [i64_w, i32_w]; rw [c9b0]) | skip)
  obtain rfl := si_ H
  go_wp2
  go_ret
  exact ⟨_, er_, qR HO1078, qB HB⟩
 have c9b1 : decide (0 < y1076.length) = true := decide_eq_true (by omega)
 clear c9
 (first | rw [c9b0] | rw [c9b1] | (simp only [i64_w, i32_w]; rw [c9b0]) | skip)
 replace H := bd_ H
 obtain ⟨t1079, A10, H⟩ := H
 replace H := bd_ H
 obtain ⟨t1080, A11, H⟩ := H
 replace H := ie_ H
 obtain ⟨c12, H, -, -⟩ | ⟨c12, H, c12b0, c12b1⟩ := H
 ·
  exact absurd H (by simp)
 have c12b2 : ¬ (y1076 = []) := fun h_ => c12 (by rw [h_]; rfl)
 obtain ⟨ji13, hji13⟩ : ∃ j_ : Int, (Int.tmod (wrap64 ((wrap64 (t1079 * 256)) + t1080)) (y1076.length : Int)) = j_ := ⟨_, rfl⟩
 replace H : (if 0 ≤ (ji13) then (if (ji13) < (y1076.length : Int) then ((laws_at.f l0 4).bind fun t1082 => (some (y1076.set ((ji13) : Int).toNat (Go.bits .xor .u8 (rd y1076 (ji13)) ((wrap64 (1 + (Int.tmod t1082 255))) % 256))))) else (none)) else (none)) = some r := by first | (rw [hji13] at H; exact H) | (simp only [hji13] at H ⊢; exact H)
 (try rw [hji13] at A10)
 (try rw [hji13] at A11)
 replace H := ip_ H
 obtain ⟨-, H, c14b0⟩ := H
 replace H := ip_ H
 obtain ⟨-, H, c15b0⟩ := H
 replace H := bd_ H
 obtain ⟨t1082, A16, H⟩ := H
 obtain ⟨y1083, hy1083⟩ : ∃ y_ : List Int, y_ = (y1076.set ((ji13) : Int).toNat (Go.bits .xor .u8 (rd y1076 (ji13)) ((wrap64 (1 + (Int.tmod t1082 255))) % 256))) := ⟨_, rfl⟩
 rw [← hy1083] at H
 have Ny1083 := am_ hy1083
 clear hy1083
 obtain rfl := si_ H
 try go_wp2_with (first | (refine gc_ 112 rfl ?_; refine gl_ (some 14) Try.func112 #[.slice A0 l0.length c0, .int .i64 2] ?_; (with_reducible refine (laws_at.calls _ _ l0 2 t1079 _ ?side1 ?side2 A10.out).mono ?_); (case side1 => exact qC (Kd.C_below HR0.out HB.out)); (case side2 => exact HC0.out); rintro e w' ⟨rfl, ⟨nd, rfl⟩⟩; refine ⟨_, rfl, ?_⟩; (try (rw [drewN_self w7]; generalize hq_ : World.drewN w7 _ = w7; have n0_ : Aside0 (Kd.R (Kd.int .u8) 5 w7 w.heap.size (fun _ => True) (.slice Ao8 y1076.length co8) y1076) := ⟨by rw [← hq_]; exact (qR HO1078)⟩; have n1_ : Aside0 (Below w.heap.size w w7) := ⟨by rw [← hq_]; exact (qB HB)⟩; clear HO1078 HB hq_; have HO1078 := n0_; have HB := n1_; clear n0_ n1_))) | (refine gc_ 112 rfl ?_; refine gl_ (some 17) Try.func112 #[.slice A0 l0.length c0, .int .i64 3] ?_; (with_reducible refine (laws_at.calls _ _ l0 3 t1080 _ ?side1 ?side2 A11.out).mono ?_); (case side1 => exact qC (Kd.C_below HR0.out HB.out)); (case side2 => exact HC0.out); rintro e w' ⟨rfl, ⟨nd, rfl⟩⟩; refine ⟨_, rfl, ?_⟩; (try (rw [drewN_self w7]; generalize hq_ : World.drewN w7 _ = w7; have n0_ : Aside0 (Kd.R (Kd.int .u8) 5 w7 w.heap.size (fun _ => True) (.slice Ao8 y1076.length co8) y1076) := ⟨by rw [← hq_]; exact (qR HO1078)⟩; have n1_ : Aside0 (Below w.heap.size w w7) := ⟨by rw [← hq_]; exact (qB HB)⟩; clear HO1078 HB hq_; have HO1078 := n0_; have HB := n1_; clear n0_ n1_))))
 replace HO1078 := am_ (Kd.R_drew HO1078.out)
 replace HB := am_ (below_drew1 HB.out)
 have p1081 : 0 ≤ ((ji13) : Int) := od_
 have q1081 : (ji13) < (y1076.length : Int) := od_
 obtain ⟨ad1081, e1081, hx1081_0⟩ := Kd.at_int (Kd.R_reads' HO1078.out).2.2 (ji13) p1081 q1081
 cases e1081
 replace p1081 := eq_true p1081
 replace q1081 := eq_true q1081
 refine start_ (n := 14) (S := fun w' => w'.cell? (ad1081.add ((ji13)).toNat) = some (.int .u8 (rd y1076 (ji13)))) (ds := [13]) (rl [0,14]) (by kernel_rfl) rfl rfl (hx1081_0) (fun hHeld => ?_); refine with_tabW laws_bent.tab4 laws_bent.bits4 (fun HT_ HW_ => ?_)
 generalize w7.drew = w18 at HO1078 HB hx1081_0 hHeld ⊢
 refine pq_ 0 22 HT_ (rl [1,13]) ?_
 refine pq_ 1 23 HT_ (rl [2,12]) ?_
 refine pq_ 2 24 HT_ (rl [3,11]) ?_
 refine pq_ 3 25 HT_ (rl [4,10]) ?_
 refine pq_ 4 26 HT_ (rl [5,9]) ?_
 refine pq_ 6 28 HT_ (rl [5,1,1,7]) ?_
 refine tz_ (i := 5) (N := some 27) HT_ HW_ (rl [7,7]) rfl rfl hHeld ?_
 refine on_ HT_ (i := 7) (N := some 29) (rl [8,6]) (fun K hK => ?_)
 refine goes_ Try.func112 (by kernel_rfl) rfl #[.slice A0 l0.length c0, .int .i64 4] (by rfl) rfl rfl la_ ?_
 with_reducible refine (laws_at.calls _ _ l0 4 t1082 _ ?side1 ?side2 A16.out).mono ?_
 (case side1 => exact qC (Kd.C_below HR0.out HB.out))
 (case side2 => exact HC0.out)
 rintro e w' ⟨rfl, ⟨nd, rfl⟩⟩
 refine ⟨_, rfl, ?_⟩
 have p17 : 0 ≤ ((ji13) : Int) := od_
 have q17 : ((ji13) : Int) < ((y1076.length : Int) : Int) := od_
 obtain ⟨go17, co17, eo17, gb17, gl17, cl17, HG17⟩ := Kd.R_form HO1078.out (by omega)
 (first | cases eo17 | (injection eo17 with ea_ en_ ec_; (first | subst ea_ | (injection ea_ with ea_; subst ea_)); subst ec_; clear en_))
 have GB17 := am_ gb17
 have GG17 := am_ HG17
 clear gb17 gl17 HG17
 (first | simp only [add_plain] at hx1081_0 | skip)
 obtain ⟨hx17_0, hf17_0⟩ := Kd.R_celln 0 HO1078.out ((ji13) : Int) p17 q17
 replace p17 := eq_true p17
 replace q17 := eq_true q17
 have HP19 := Kd.R_putn HO1078.out ((ji13) : Int) (Go.bits .xor .u8 (rd y1076 (ji13)) ((wrap64 (1 + (Int.tmod t1082 255))) % 256))
 rw [← Ny1083.out] at HP19
 have HQ19 := am_ HP19
 clear HP19
 refine hK.out _ _ (hHeld) (fun hHeld => ?_)
 clear hK K
 refine nm_ (some 29) ?_
 refine pq_ 8 30 HT_ (rl [9,5]) ?_
 refine pq_ 9 31 HT_ (rl [10,4]) ?_
 refine pq_ 10 32 HT_ (rl [11,3]) ?_
 refine pq_ 11 33 HT_ (rl [12,2]) ?_
 refine pq_ 12 34 HT_ (rl [13,1]) ?_
 refine last_ (i := 13) (N := none) (rl [14]) rfl rfl (one_of HT_.out (by kernel_rfl)) (by decide) (fun K hK => ?_)
 refine skip_ (w1 := ?_) (by rfl) rfl ?_ ?_
 rotate_left
 ·
  go_simp
  rfl
 refine hK.out _ _ ?_
 clear hK K
 refine done_ (done_of HT_.out (by kernel_rfl)) ?_
 try go_wp2
 go_ret
 exact ⟨_, by first | rfl | (simp [errW_none, errW_some] <;> rfl) | (simp only [← hji13]; first | rfl | (simp [errW_none, errW_some] <;> rfl)) | (simp [*, errW_none, errW_some] <;> rfl), by (with_reducible repeat (first | apply Kd.R_alloc | apply Kd.R_drewN | apply Kd.R_drew)); exact HQ19.out, by repeat (first | (with_reducible first | exact HB.out | apply below_alloc | apply pw_below_drewN | apply below_drew1 | refine below_set ?_ GB17.out) | exact HB.out)⟩


/-! ### laws_FnCtls: function 6 -/
def laws_FnCtls.j0 : Nat → List Int → List Int → Bool → Int → Int → Int → Int → Int → Bool → Int → List (S29) → Option (Bool)
 | 0, _, _, _, _, _, _, _, _, _, _, _ => none
 | k + 1, x0, x4, x51, x1096000, x1096001, x1096002, x1096003, x1096004, x1096005, x1096006, x1096007 => if x51 = true then (some false) else ((impl_CtlOk.f k x1096000 x1096001 x1096002 x1096003 x1096004 x1096005 x1096006 x1096007).bind fun t1132 => (if t1132 = true then ((impl_GetCtl.f k x4).bind fun bt1133 => ((laws_bent.f x0 x4).bind fun t1145 => ((impl_GetCtl.f k t1145).bind fun bt1148 => (if bt1133.2.2.2.2.2.2.2.2 = true then (if bt1133.1 = x1096000 then (if bt1133.2.1 = x1096001 then (if bt1133.2.2.1 = x1096002 then (if bt1133.2.2.2.1 = x1096003 then (if bt1133.2.2.2.2.1 = x1096004 then (if (bt1133.2.2.2.2.2.1 == x1096005) = true then (if bt1133.2.2.2.2.2.2.1 = x1096006 then (if (bt1133.2.2.2.2.2.2.2.1.length : Int) = (x1096007.length : Int) then ((impl_PutCtl.f k bt1133.1 bt1133.2.1 bt1133.2.2.1 bt1133.2.2.2.1 bt1133.2.2.2.2.1 bt1133.2.2.2.2.2.1 bt1133.2.2.2.2.2.2.1 bt1133.2.2.2.2.2.2.2.1).bind fun t1160 => ((laws_same.f t1160 x4).bind fun t1163 => (if t1163 = true then (if bt1148.2.2.2.2.2.2.2.2 = true then (some false) else (some (decide ((x4.length : Int) ≤ 400)))) else (some false)))) else (some false)) else (some false)) else (some false)) else (some false)) else (some false)) else (some false)) else (some false)) else (some false)) else (some false))))) else (some ((x4.length : Int) == 0))))
def laws_FnCtls.f (k : Nat) (l0 : List Int) : Option (Bool) := (laws_big.f l0).bind fun t1084 => (if t1084 = true then (some true) else ((spec_DrawPutCtl.f k l0).bind fun bt1085 => ((impl_PutCtl.f k bt1085.1 bt1085.2.1 bt1085.2.2.1 bt1085.2.2.2.1 bt1085.2.2.2.2.1 bt1085.2.2.2.2.2.1 bt1085.2.2.2.2.2.2.1 bt1085.2.2.2.2.2.2.2).bind fun t1096 => ((spec_DrawGetCtl.f k l0).bind fun t1099 => ((impl_GetCtl.f k t1099).bind fun bt1102 => ((spec_GetCtl.f k t1099).bind fun bt1114 => ((impl_CtlOk.f k bt1085.1 bt1085.2.1 bt1085.2.2.1 bt1085.2.2.2.1 bt1085.2.2.2.2.1 bt1085.2.2.2.2.2.1 bt1085.2.2.2.2.2.2.1 bt1085.2.2.2.2.2.2.2).bind fun t1126 => ((spec_CtlOk.f k bt1085.1 bt1085.2.1 bt1085.2.2.1 bt1085.2.2.2.1 bt1085.2.2.2.2.1 bt1085.2.2.2.2.2.1 bt1085.2.2.2.2.2.2.1 bt1085.2.2.2.2.2.2.2).bind fun t1127 => (if (t1126 != t1127) = true then (laws_FnCtls.j0 k l0 t1096 true bt1085.1 bt1085.2.1 bt1085.2.2.1 bt1085.2.2.2.1 bt1085.2.2.2.2.1 bt1085.2.2.2.2.2.1 bt1085.2.2.2.2.2.2.1 bt1085.2.2.2.2.2.2.2) else (if (bt1102.2.2.2.2.2.2.2.2 != bt1114.2.2.2.2.2.2.2.2) = true then (laws_FnCtls.j0 k l0 t1096 true bt1085.1 bt1085.2.1 bt1085.2.2.1 bt1085.2.2.2.1 bt1085.2.2.2.2.1 bt1085.2.2.2.2.2.1 bt1085.2.2.2.2.2.2.1 bt1085.2.2.2.2.2.2.2) else (if bt1102.2.2.2.2.2.2.2.2 = true then ((impl_PutCtl.f k bt1102.1 bt1102.2.1 bt1102.2.2.1 bt1102.2.2.2.1 bt1102.2.2.2.2.1 bt1102.2.2.2.2.2.1 bt1102.2.2.2.2.2.2.1 bt1102.2.2.2.2.2.2.2.1).bind fun t1128 => ((laws_same.f t1128 t1099).bind fun t1131 => (laws_FnCtls.j0 k l0 t1096 (!t1131) bt1085.1 bt1085.2.1 bt1085.2.2.1 bt1085.2.2.2.1 bt1085.2.2.2.2.1 bt1085.2.2.2.2.2.1 bt1085.2.2.2.2.2.2.1 bt1085.2.2.2.2.2.2.2))) else (laws_FnCtls.j0 k l0 t1096 false bt1085.1 bt1085.2.1 bt1085.2.2.1 bt1085.2.2.2.1 bt1085.2.2.2.2.1 bt1085.2.2.2.2.2.1 bt1085.2.2.2.2.2.2.1 bt1085.2.2.2.2.2.2.2))))))))))))
theorem laws_FnCtls.mono_l : ∀ k, (∀ y0 y1 y2 y3 y4 y5 y6 y7 y8 y9 y10, LeO (laws_FnCtls.j0 k y0 y1 y2 y3 y4 y5 y6 y7 y8 y9 y10) (laws_FnCtls.j0 (k + 1) y0 y1 y2 y3 y4 y5 y6 y7 y8 y9 y10))
 | 0 => fun _ _ _ _ _ _ _ _ _ _ _ r h => by simp [laws_FnCtls.j0] at h
 | k + 1 => by
  have ih0 := laws_FnCtls.mono_l k
  ·
   intro y0 y1 y2 y3 y4 y5 y6 y7 y8 y9 y10
   unfold laws_FnCtls.j0
   have m0 := @impl_CtlOk.mono; have m1 := @impl_GetCtl.mono; have m2 := @impl_PutCtl.mono; have m3 := @spec_CtlOk.mono; have m4 := @spec_DrawGetCtl.mono; have m5 := @spec_DrawPutCtl.mono; have m6 := @spec_GetCtl.mono; exact mo_
theorem laws_FnCtls.mono : ∀ a0 k, LeO (laws_FnCtls.f k a0) (laws_FnCtls.f (k + 1) a0) := by
 intro a0 k
 have ih0 := laws_FnCtls.mono_l k
 unfold laws_FnCtls.f
 have m0 := @impl_CtlOk.mono; have m1 := @impl_GetCtl.mono; have m2 := @impl_PutCtl.mono; have m3 := @spec_CtlOk.mono; have m4 := @spec_DrawGetCtl.mono; have m5 := @spec_DrawPutCtl.mono; have m6 := @spec_GetCtl.mono; exact mo_
def laws_FnCtls.T8 : Bool × List (List Nat × List Nat) := (true, [([], []), ([0], [0]), ([], []), ([2, 1], [2]), ([1, 3], [1, 3]), ([4, 3], [4]), ([5], [5]), ([5], [5]), ([6, 7, 5], [5, 6, 7]), ([5, 8], [5, 8]), ([9, 5], [9]), ([10], [10]), ([11, 10, 10], [10, 11]), ([12], [12]), ([13, 12, 12], [12, 13]), ([12], [12]), ([14, 15, 14, 12], [12, 14, 15]), ([16, 12], [12, 16]), ([12, 17, 10], [10, 12, 17]), ([10, 18], [10, 18])])
def laws_FnCtls.B8 : List Nat := [0, 1, 0, 7, 15, 31, 63, 63, 255, 511, 1023, 2047, 4095, 8191, 16383, 8191, 65535, 131071, 262143, 524287]
theorem laws_FnCtls.tab8 : rtab .any (opsOf Try.f6 8) = laws_FnCtls.T8 := by kernel_rfl
theorem laws_FnCtls.bits8 : waitsOk laws_FnCtls.T8.2 laws_FnCtls.B8 = true := by kernel_rfl
set_option maxHeartbeats 8000000 in
set_option maxRecDepth 100000 in
theorem laws_FnCtls.calls (k : Nat) (A0 : Option Addr) (c0 : Nat) (l0 : List Int) (r : Bool) (w : World) (hr0 : Kd.C (Kd.int .u8) w A0 l0.length l0) (hc0 : l0.length ≤ c0) (hr_ : Aside0 (r = true)) (h : laws_FnCtls.f k l0 = some r) :
  Calls Try.prog 6 #[.slice A0 l0.length c0] w fun e w' => e = .returned (.bool r) ∧ Below w.heap.size w w' := by
 have hu75 := Try.underlying75
 have HR0 := am_ hr0
 have HC0 := am_ hc0
 clear hr0 hc0
 have HB := Aside0.mk (Below.refl w.heap.size w)
 have H := h
 unfold laws_FnCtls.f at H
 clear h
 replace H := bd_ H
 obtain ⟨t1084, A2, H⟩ := H
 have HC3 := am_ H
 clear H
 go_enter Try.func6, Try.ntmps6
 go_upto_if 15 with (first | ((with_reducible refine gate_ld rfl ?_); first | refine ld_ ?_ | fail) | (refine gc_ 7 rfl ?_; refine gl_ (some 15) Try.func7 #[.slice A0 l0.length c0] ?_; (with_reducible refine (laws_big.calls _ _ l0 t1084 _ (qC (HR0.out)) HC0.out A2.out).mono ?_); rintro e w' ⟨rfl, ⟨nd, rfl⟩⟩; refine ⟨_, rfl, ?_⟩))
 (try simp only [Act.put, List.setIfInBounds_toArray, List.set_cons_zero, List.set_cons_succ])
 have H := HC3.out
 clear HC3
 by_cases c4 : t1084 = true
 ·
  subst c4
  rw [if_pos rfl] at H
  obtain rfl := si_ H
  go_wp2_with ((with_reducible refine gate_ld rfl ?_); first | refine ld_ ?_ | fail)
  go_ret
  exact ⟨er_, qB HB⟩
 replace c4 := nf_ c4
 subst c4
 rw [if_neg (show ¬ (false = true) by decide)] at H
 replace H := bf_ H
 obtain ⟨f_, hf_, ⟨t1085, t1086, t1087, t1088, t1089, t1090, t1091, t1092⟩, A5, H⟩ := H
 subst hf_
 (try dsimp only at H)
 replace H := bd_ H
 obtain ⟨t1096, A6, H⟩ := H
 replace H := bd_ H
 obtain ⟨t1099, A7, H⟩ := H
 replace H := bf_ H
 obtain ⟨f_, hf_, ⟨t1102, t1103, t1104, t1105, t1106, t1107, t1108, t1109, t1112⟩, A8, H⟩ := H
 subst hf_
 (try dsimp only at H)
 replace H := bf_ H
 obtain ⟨f_, hf_, ⟨t1114, t1115, t1116, t1117, t1118, t1119, t1120, t1121, t1124⟩, A9, H⟩ := H
 subst hf_
 (try dsimp only at H)
 have HC10 := am_ H
 clear H
 go_upto_region 8 with (first | ((with_reducible refine gate_ld rfl ?_); first | refine ld_ ?_ | fail) | (refine gc_ 51 rfl ?_; refine gl_ (some 17) Try.func51 #[.slice A0 l0.length c0] ?_; (with_reducible refine (spec_DrawPutCtl.calls k _ _ l0 t1085 t1086 t1087 t1088 t1089 t1090 t1091 t1092 _ ?side1 ?side2 A5.out).mono ?_); (case side1 => exact qC (Kd.C_below HR0.out HB.out)); (case side2 => exact HC0.out); rintro e w11 ⟨v1093, rfl, ho0, hb⟩; refine ⟨_, rfl, ?_⟩; have HO1094 := am_ (Kd.R_lower ho0 (below_size (qB HB))); replace HB := bS_ HB hb; (try clear hb); (try clear ho0)) | (refine gd_ 3 rfl ?_; (try (refine gate_guard (by rfl) ?_; dsimp only)); refine box_event ?hg (N := 3) ?hd (cs := #[.int .i64 0, .int .i64 0, .int .i64 0, .int .i64 0, .int .i64 0, .bool false, .int .i64 0, .slice none 0 0]) (t := 75) ?hr ?_; (case hd => rfl); (case hg => rfl); (case hr => first | (go_simp; done) | (go_simp; rfl) | ((try (obtain ⟨_, _, rfl⟩ := Kd.R_slice HO1094.out)); (try (obtain ⟨_, _, rfl⟩ := Kd.R_slice HO1098.out)); (try (obtain ⟨_, _, rfl⟩ := Kd.R_slice HO1101.out)); (try (obtain ⟨_, _, rfl⟩ := Kd.R_slice HO1111.out)); (try (obtain ⟨_, _, rfl⟩ := Kd.R_slice HO1123.out)); first | (go_simp; done) | (go_simp; rfl))); intro gb1095 hg w12 hbox hb; replace HO1094 := rB_ HO1094 hb; have BK1095 := am_ (hbox); have GW1095 := gA_ hg HB; have GE1095 := GW1095; have IGE1095 := gI_ GE1095; replace HB := bS_ HB hb; clear hb hbox hg; (try clear zK1095); have zK1095 := cf8 BK1095.out; obtain ⟨Ao14, co14, eo14⟩ := Kd.R_slice HO1094.out; subst eo14) | ((with_reducible refine gate_store (t := 75) (p := 3) rfl ?_); refine store_evs (t := 75) (p := 3) (j := 0) (cs := [.int .i64 t1085, .int .i64 t1086, .int .i64 t1087, .int .i64 t1088, .int .i64 t1089, .bool t1090, .int .i64 t1091, .slice Ao14 t1092.length co14]) (qK BK1095) ?_; intro w15 hw; have n0_ := fR0_ hw HO1094 BK1095; replace HB := sB_ hw HB; replace BK1095 := sW_ hw BK1095; clear hw; clear HO1094; have HO1094 := n0_; clear n0_; (try clear zK1095); have zK1095 := cf8 BK1095.out) | (refine gc_ 52 rfl ?_; refine gl_ (some 19) Try.func52 #[.agg #[.int .i64 t1085, .int .i64 t1086, .int .i64 t1087, .int .i64 t1088, .int .i64 t1089, .bool t1090, .int .i64 t1091, .slice Ao14 t1092.length co14]] ?_; (with_reducible refine (impl_PutCtl.calls k t1085 t1086 t1087 t1088 t1089 t1090 t1091 _ _ t1092 t1096 _ (rC_ HO1094) ?side2 A6.out).mono ?_); (case side2 => exact (rL_ HO1094)); rintro e w17 ⟨v1097, rfl, ho0, hb⟩; refine ⟨_, rfl, ?_⟩; replace HO1094 := rB_ HO1094 hb; have HO1098 := am_ (Kd.R_lower ho0 (below_size (qB HB))); replace BK1095 := bK_ BK1095 hb; replace HB := bS_ HB hb; (try clear hb); (try clear ho0)) | (refine gc_ 53 rfl ?_; refine gl_ (some 21) Try.func53 #[.slice A0 l0.length c0] ?_; (with_reducible refine (spec_DrawGetCtl.calls k _ _ l0 t1099 _ ?side1 ?side2 A7.out).mono ?_); (case side1 => exact qC (Kd.C_below HR0.out HB.out)); (case side2 => exact HC0.out); rintro e w18 ⟨v1100, rfl, ho0, hb⟩; refine ⟨_, rfl, ?_⟩; replace HO1094 := rB_ HO1094 hb; have HO1101 := am_ (Kd.R_lower (Kd.R_new' ho0 (Kd.R_lt (qR HO1098))) (below_size (qB HB))); replace HO1098 := eA_ HO1098 ho0 hb; replace BK1095 := bK_ BK1095 hb; replace HB := bS_ HB hb; (try clear hb); (try clear ho0); obtain ⟨Ao19, co19, eo19⟩ := Kd.R_slice HO1101.out; subst eo19) | (refine gc_ 54 rfl ?_; refine gl_ (some 24) Try.func54 #[.slice Ao19 t1099.length co19] ?_; (with_reducible refine (impl_GetCtl.calls k _ _ t1099 t1102 t1103 t1104 t1105 t1106 t1107 t1108 t1109 t1112 _ (rC_ HO1101) ?side2 A8.out).mono ?_); (case side2 => exact (rL_ HO1101)); rintro e w20 ⟨v1110, rfl, ho0, hb⟩; refine ⟨_, rfl, ?_⟩; replace HO1098 := rB_ HO1098 hb; replace HO1101 := rB_ HO1101 hb; have HO1111 := am_ (Kd.R_lower (Kd.R_new' ho0 (Kd.R_lt (qR HO1094))) (below_size (qB HB))); replace HO1094 := eA_ HO1094 ho0 hb; replace BK1095 := bK_ BK1095 hb; replace HB := bS_ HB hb; (try clear hb); (try clear ho0)) | (refine gd_ 6 rfl ?_; (try (refine gate_guard (by rfl) ?_; dsimp only)); refine box_event ?hg (N := 6) ?hd (cs := #[.int .i64 0, .int .i64 0, .int .i64 0, .int .i64 0, .int .i64 0, .bool false, .int .i64 0, .slice none 0 0]) (t := 75) ?hr ?_; (case hd => rfl); (case hg => rfl); (case hr => first | (go_simp; done) | (go_simp; rfl) | ((try (obtain ⟨_, _, rfl⟩ := Kd.R_slice HO1094.out)); (try (obtain ⟨_, _, rfl⟩ := Kd.R_slice HO1098.out)); (try (obtain ⟨_, _, rfl⟩ := Kd.R_slice HO1101.out)); (try (obtain ⟨_, _, rfl⟩ := Kd.R_slice HO1111.out)); (try (obtain ⟨_, _, rfl⟩ := Kd.R_slice HO1123.out)); first | (go_simp; done) | (go_simp; rfl))); intro gb1113 hg w21 hbox hb; replace HO1094 := rB_ HO1094 hb; replace HO1098 := rB_ HO1098 hb; replace HO1101 := rB_ HO1101 hb; replace HO1111 := rB_ HO1111 hb; have BK1113 := am_ (hbox); have GW1113 := gA_ hg HB; have GE1113 := GW1113; have IGE1113 := gI_ GE1113; replace HB := bS_ HB hb; have NB1095_1113 := am_ ((gN_ hg (qK BK1095))); have NB1113_1095 := am_ ((gM_ hg (qK BK1095))); replace BK1095 := bK_ BK1095 hb; clear hb hbox hg; have hnb22 := nx_ NB1113_1095; (try clear zK1113); have zK1113 := cf8 BK1113.out; obtain ⟨Ao24, co24, eo24⟩ := Kd.R_slice HO1111.out; subst eo24) | ((with_reducible refine gate_store (t := 75) (p := 6) rfl ?_); refine store_evs (t := 75) (p := 6) (j := 0) (cs := [.int .i64 t1102, .int .i64 t1103, .int .i64 t1104, .int .i64 t1105, .int .i64 t1106, .bool t1107, .int .i64 t1108, .slice Ao24 t1109.length co24]) (qK BK1113) ?_; intro w25 hw; have n0_ : Aside0 (Kd.R k29 29 w25 w.heap.size (fun k_ => nb Ao24 t1109.length co24 k_) (.slice Ao14 t1092.length co14) t1092) := ⟨(by rw [hw]; exact (fR1_ HO1094 BK1113))⟩; have n1_ : Aside0 (Kd.R (Kd.int .u8) 5 w25 w.heap.size (fun k_ => nb Ao19 t1099.length co19 k_) v1097 t1096) := ⟨(by rw [hw]; exact (fR1_ HO1098 BK1113))⟩; have n2_ : Aside0 (Kd.R (Kd.int .u8) 5 w25 w.heap.size (fun k_ => nv v1097 k_) (.slice Ao19 t1099.length co19) t1099) := ⟨(by rw [hw]; exact (fR1_ HO1101 BK1113))⟩; have n3_ : Aside0 (Kd.R k29 29 w25 w.heap.size (fun k_ => nb Ao14 t1092.length co14 k_) (.slice Ao24 t1109.length co24) t1109) := ⟨(by rw [hw]; exact (fR1_ HO1111 BK1113))⟩; replace BK1095 := sK_ hw BK1095 NB1095_1113; replace HB := sB_ hw HB; replace BK1113 := sW_ hw BK1113; clear hw; clear HO1094 HO1098 HO1101 HO1111; have HO1094 := n0_; have HO1098 := n1_; have HO1101 := n2_; have HO1111 := n3_; clear n0_ n1_ n2_ n3_) | (refine gc_ 55 rfl ?_; refine gl_ (some 29) Try.func55 #[.slice Ao19 t1099.length co19] ?_; (with_reducible refine (spec_GetCtl.calls k _ _ t1099 t1114 t1115 t1116 t1117 t1118 t1119 t1120 t1121 t1124 _ (rC_ HO1101) ?side2 A9.out).mono ?_); (case side2 => exact (rL_ HO1101)); rintro e w26 ⟨v1122, rfl, ho0, hb⟩; refine ⟨_, rfl, ?_⟩; replace HO1098 := rB_ HO1098 hb; replace HO1101 := rB_ HO1101 hb; have HO1123 := am_ (Kd.R_lower (Kd.R_new' (Kd.R_new' ho0 (Kd.R_lt (qR HO1094))) (Kd.R_lt (qR HO1111))) (below_size (qB HB))); replace HO1094 := eA_ HO1094 ho0 hb; replace HO1111 := eA_ HO1111 ho0 hb; replace BK1095 := bK_ BK1095 hb; replace BK1113 := bK_ BK1113 hb; replace HB := bS_ HB hb; (try clear hb); (try clear ho0)) | (refine gd_ 8 rfl ?_; (try (refine gate_guard (by rfl) ?_; dsimp only)); refine box_event ?hg (N := 8) ?hd (cs := #[.int .i64 0, .int .i64 0, .int .i64 0, .int .i64 0, .int .i64 0, .bool false, .int .i64 0, .slice none 0 0]) (t := 75) ?hr ?_; (case hd => rfl); (case hg => rfl); (case hr => first | (go_simp; done) | (go_simp; rfl) | ((try (obtain ⟨_, _, rfl⟩ := Kd.R_slice HO1094.out)); (try (obtain ⟨_, _, rfl⟩ := Kd.R_slice HO1098.out)); (try (obtain ⟨_, _, rfl⟩ := Kd.R_slice HO1101.out)); (try (obtain ⟨_, _, rfl⟩ := Kd.R_slice HO1111.out)); (try (obtain ⟨_, _, rfl⟩ := Kd.R_slice HO1123.out)); first | (go_simp; done) | (go_simp; rfl))); intro gb1125 hg w27 hbox hb; replace HO1094 := rB_ HO1094 hb; replace HO1098 := rB_ HO1098 hb; replace HO1101 := rB_ HO1101 hb; replace HO1111 := rB_ HO1111 hb; replace HO1123 := rB_ HO1123 hb; have BK1125 := am_ (hbox); have GW1125 := gA_ hg HB; have GE1125 := GW1125; have IGE1125 := gI_ GE1125; replace HB := bS_ HB hb; have NB1095_1125 := am_ ((gN_ hg (qK BK1095))); have NB1125_1095 := am_ ((gM_ hg (qK BK1095))); replace BK1095 := bK_ BK1095 hb; have NB1113_1125 := am_ ((gN_ hg (qK BK1113))); have NB1125_1113 := am_ ((gM_ hg (qK BK1113))); replace BK1113 := bK_ BK1113 hb; clear hb hbox hg; have hnb28 := nx_ NB1125_1095; have hnb29 := nx_ NB1125_1113; (try clear zK1125); have zK1125 := cf8 BK1125.out; obtain ⟨Ao31, co31, eo31⟩ := Kd.R_slice HO1123.out; subst eo31) | ((with_reducible refine gate_store (t := 75) (p := 8) rfl ?_); refine store_evs (t := 75) (p := 8) (j := 0) (cs := [.int .i64 t1114, .int .i64 t1115, .int .i64 t1116, .int .i64 t1117, .int .i64 t1118, .bool t1119, .int .i64 t1120, .slice Ao31 t1121.length co31]) (qK BK1125) ?_; intro w32 hw; have n0_ := fR0_ hw HO1094 BK1125; have n1_ := fR0_ hw HO1098 BK1125; have n2_ := fR0_ hw HO1101 BK1125; have n3_ := fR0_ hw HO1111 BK1125; have n4_ : Aside0 (Kd.R k29 29 w32 w.heap.size (fun k_ => nb Ao14 t1092.length co14 k_ ∧ nb Ao24 t1109.length co24 k_) (.slice Ao31 t1121.length co31) t1121) := ⟨(by rw [hw]; exact (fR1_ HO1123 BK1125))⟩; replace BK1095 := sK_ hw BK1095 NB1095_1125; replace BK1113 := sK_ hw BK1113 NB1113_1125; replace HB := sB_ hw HB; replace BK1125 := sW_ hw BK1125; clear hw; clear HO1094 HO1098 HO1101 HO1111 HO1123; have HO1094 := n0_; have HO1098 := n1_; have HO1101 := n2_; have HO1111 := n3_; have HO1123 := n4_; clear n0_ n1_ n2_ n3_ n4_))
 (try simp only [Act.put, List.setIfInBounds_toArray, List.set_cons_zero, List.set_cons_succ])
 go_cut [51] (fun v51 wc => ∃ (kq : Nat) (x51_9 : Bool), v51 = .bool x51_9 ∧ Aside0 (laws_FnCtls.j0 kq l0 t1096 x51_9 t1085 t1086 t1087 t1088 t1089 t1090 t1091 t1092 = some r) ∧ Aside0 (kq ≤ k) ∧ Aside0 (Kd.R (Kd.int .u8) 5 wc w.heap.size (fun _ => True) v1097 t1096) ∧ Aside0 (Kd.R k29 29 wc w.heap.size (fun k_ => nb Ao24 t1109.length co24 k_ ∧ nb Ao31 t1121.length co31 k_) (.slice Ao14 t1092.length co14) t1092) ∧ Aside0 (Kd.R k29 29 wc w.heap.size (fun k_ => nb Ao14 t1092.length co14 k_ ∧ nb Ao31 t1121.length co31 k_) (.slice Ao24 t1109.length co24) t1109) ∧ Aside0 (Kd.R k29 29 wc w.heap.size (fun k_ => nb Ao14 t1092.length co14 k_ ∧ nb Ao24 t1109.length co24 k_) (.slice Ao31 t1121.length co31) t1121) ∧ Aside0 (wc.heap[gb1095]? = some (.cells #[.int .i64 t1085, .int .i64 t1086, .int .i64 t1087, .int .i64 t1088, .int .i64 t1089, .bool t1090, .int .i64 t1091, (.slice Ao14 t1092.length co14)] 75 (0, 0))) ∧ Aside0 (wc.heap[gb1113]? = some (.cells #[.int .i64 t1102, .int .i64 t1103, .int .i64 t1104, .int .i64 t1105, .int .i64 t1106, .bool t1107, .int .i64 t1108, (.slice Ao24 t1109.length co24)] 75 (0, 0))) ∧ Aside0 (wc.heap[gb1125]? = some (.cells #[.int .i64 t1114, .int .i64 t1115, .int .i64 t1116, .int .i64 t1117, .int .i64 t1118, .bool t1119, .int .i64 t1120, (.slice Ao31 t1121.length co31)] 75 (0, 0))) ∧ Aside0 (Below w.heap.size w wc))
 case first =>
  have H := HC10.out
  clear HC10
  replace H := bd_ H
  obtain ⟨t1126, A33, H⟩ := H
  replace H := bd_ H
  obtain ⟨t1127, A34, H⟩ := H
  replace H := id_ H
  obtain ⟨c35, H, -⟩ | ⟨c35, H, -⟩ := H
  ·
   have c35b0 : (t1126 != t1127) = true := c35
   (try (have c35b1 : decide (t1126 = t1127) = false := by simpa using c35))
   (try (have c35b2 : (t1126 == t1127) = false := by simpa using c35))
   (try (have c35b3 : ¬ (t1126 = t1127) := by simpa using c35))
   clear c35
   (first | rw [c35b0] | rw [c35b1] | rw [c35b2] | rw [c35b3] | (simp only [i64_w, i32_w]; rw [c35b0]) | skip)
   exact absurd (hr_.out ▸ H) (by cases k <;> simp [laws_FnCtls.j0])
  have c35b0 : (t1126 != t1127) = false := by simpa using c35
  (try (have c35b1 : decide (t1126 = t1127) = true := by simpa using c35))
  (try (have c35b2 : (t1126 == t1127) = true := by simpa using c35))
  clear c35
  (first | rw [c35b0] | rw [c35b1] | rw [c35b2] | (simp only [i64_w, i32_w]; rw [c35b0]) | skip)
  replace H := id_ H
  obtain ⟨c36, H, -⟩ | ⟨c36, H, -⟩ := H
  ·
   have c36b0 : (t1112 != t1124) = true := c36
   (try (have c36b1 : decide (t1112 = t1124) = false := by simpa using c36))
   (try (have c36b2 : (t1112 == t1124) = false := by simpa using c36))
   (try (have c36b3 : ¬ (t1112 = t1124) := by simpa using c36))
   clear c36
   exact absurd (hr_.out ▸ H) (by cases k <;> simp [laws_FnCtls.j0])
  have c36b0 : (t1112 != t1124) = false := by simpa using c36
  (try (have c36b1 : decide (t1112 = t1124) = true := by simpa using c36))
  (try (have c36b2 : (t1112 == t1124) = true := by simpa using c36))
  clear c36
  by_cases c37 : t1112 = true
  rotate_left
  ·
   replace c37 := nf_ c37
   subst c37
   rw [if_neg (show ¬ (false = true) by decide)] at H
   have H' := Aside0.mk H
   clear H
   try go_wp2_with ((with_reducible refine gate_ld rfl ?_); first | refine ld_ ?_ | fail)
   replace HO1094 := am_ (Kd.R_drew HO1094.out)
   replace HO1098 := am_ (Kd.R_drew HO1098.out)
   replace HO1101 := am_ (Kd.R_drew HO1101.out)
   replace HO1111 := am_ (Kd.R_drew HO1111.out)
   replace HO1123 := am_ (Kd.R_drew HO1123.out)
   replace BK1095 := am_ (blk_drew BK1095.out)
   replace BK1113 := am_ (blk_drew BK1113.out)
   replace BK1125 := am_ (blk_drew BK1125.out)
   replace HB := am_ (below_drew1 HB.out)
   refine start_ (n := 20) (S := fun w' => w'.cell? ⟨gb1095, 0, none⟩ = some (.int .i64 t1085) ∧ w'.cell? ⟨gb1095, 1, none⟩ = some (.int .i64 t1086) ∧ w'.cell? ⟨gb1095, 2, none⟩ = some (.int .i64 t1087) ∧ w'.cell? ⟨gb1095, 3, none⟩ = some (.int .i64 t1088) ∧ w'.cell? ⟨gb1095, 4, none⟩ = some (.int .i64 t1089) ∧ w'.cell? ⟨gb1095, 5, none⟩ = some (.bool t1090) ∧ w'.cell? ⟨gb1095, 6, none⟩ = some (.int .i64 t1091) ∧ w'.cell? ⟨gb1095, 7, none⟩ = some (.slice Ao14 t1092.length co14)) (ds := []) (rl [0,20]) (by kernel_rfl) rfl rfl (cz8 BK1095.out) (fun hHeld => ?_); refine with_tabW laws_FnCtls.tab8 laws_FnCtls.bits8 (fun HT_ HW_ => ?_)
   generalize w32.drew = w45 at HO1094 HO1098 HO1101 HO1111 HO1123 BK1095 BK1113 BK1125 HB hHeld ⊢
   refine tz_ (i := 0) (N := some 32) HT_ HW_ (rl [1,19]) rfl rfl hHeld ?_ (hy := fun w' ⟨s0, s1, s2, s3, s4, s5, s6, s7⟩ => ldr8 s0 s1 s2 s3 s4 s5 s6 s7)
   refine tz_ (i := 2) (N := some 34) HT_ HW_ (rl [1,1,1,17]) rfl rfl hHeld ?_ (hy := fun w' ⟨s0, s1, s2, s3, s4, s5, s6, s7⟩ => ldr8 s0 s1 s2 s3 s4 s5 s6 s7)
   refine on_ HT_ (i := 1) (N := some 33) (rl [3,17]) (fun K hK => ?_)
   refine goes_ Try.func56 (by kernel_rfl) rfl #[.agg #[.int .i64 t1085, .int .i64 t1086, .int .i64 t1087, .int .i64 t1088, .int .i64 t1089, .bool t1090, .int .i64 t1091, .slice Ao14 t1092.length co14]] (by rfl) rfl rfl la_ ?_
   with_reducible refine (impl_CtlOk.calls k t1085 t1086 t1087 t1088 t1089 t1090 t1091 _ _ t1092 t1126 _ (rC_ HO1094) ?side2 A33.out).mono ?_
   (case side2 => exact (rL_ HO1094))
   rintro e w46 ⟨rfl, hb⟩
   refine ⟨_, rfl, ?_⟩
   replace HO1094 := rB_ HO1094 hb
   replace HO1098 := rB_ HO1098 hb
   replace HO1101 := rB_ HO1101 hb
   replace HO1111 := rB_ HO1111 hb
   replace HO1123 := rB_ HO1123 hb
   replace BK1095 := bK_ BK1095 hb
   replace BK1113 := bK_ BK1113 hb
   replace BK1125 := bK_ BK1125 hb
   replace HB := bS_ HB hb
   (try clear hb)
   refine hK.out _ _ (cz8 BK1095.out) (fun hHeld => ?_)
   clear hK K
   refine nm_ (some 33) ?_
   refine on_ HT_ (i := 3) (N := some 35) (rl [4,16]) (fun K hK => ?_)
   refine goes_ Try.func57 (by kernel_rfl) rfl #[.agg #[.int .i64 t1085, .int .i64 t1086, .int .i64 t1087, .int .i64 t1088, .int .i64 t1089, .bool t1090, .int .i64 t1091, .slice Ao14 t1092.length co14]] (by rfl) rfl rfl la_ ?_
   with_reducible refine (spec_CtlOk.calls k t1085 t1086 t1087 t1088 t1089 t1090 t1091 _ _ t1092 t1127 _ (rC_ HO1094) ?side2 A34.out).mono ?_
   (case side2 => exact (rL_ HO1094))
   rintro e w47 ⟨rfl, hb⟩
   refine ⟨_, rfl, ?_⟩
   replace HO1094 := rB_ HO1094 hb
   replace HO1098 := rB_ HO1098 hb
   replace HO1101 := rB_ HO1101 hb
   replace HO1111 := rB_ HO1111 hb
   replace HO1123 := rB_ HO1123 hb
   replace BK1095 := bK_ BK1095 hb
   replace BK1113 := bK_ BK1113 hb
   replace BK1125 := bK_ BK1125 hb
   replace HB := bS_ HB hb
   (try clear hb)
   refine hK.out _ _ (cz8 BK1095.out) (fun hHeld => ?_)
   clear hK K
   refine nm_ (some 35) ?_
   refine pq_ 4 36 HT_ (rl [5,15]) ?_
   refine pq_ 5 37 HT_ (rl [6,14]) ?_
   refine pq_ 6 38 HT_ (rl [7,13]) ?_
   refine pq_ 7 39 HT_ (rl [8,12]) ?_
   refine pq_ 8 40 HT_ (rl [9,11]) ?_
   refine pq_ 9 41 HT_ (rl [10,10]) ?_
   refine pq_ 10 42 HT_ (rl [11,9]) ?_
   refine pq_ 11 43 HT_ (rl [12,8]) ?_
   refine pq_ 12 44 HT_ (rl [13,7]) ?_
   refine pv_ 13 45 HT_ (rl [14,6]) ?_
   refine pv_ 14 46 HT_ (rl [15,5]) ?_
   refine pv_ 15 47 HT_ (rl [16,4]) ?_
   refine pv_ 16 48 HT_ (rl [17,3]) ?_
   refine pv_ 17 49 HT_ (rl [18,2]) ?_
   refine pq_ 18 50 HT_ (rl [19,1]) ?_
   refine pq_ 19 51 HT_ (rl [20]) ?_
   refine done_ (done_of HT_.out (by kernel_rfl)) ?_
   try go_wp2_with ((with_reducible refine gate_ld rfl ?_); first | refine ld_ ?_ | fail)
   go_meet
   case rel => exact ⟨_, (false), eqq_, H', ⟨by first | omega | exact Nat.le_refl _⟩, xR_ HO1098, ⟨qR HO1094⟩, ⟨qR HO1111⟩, ⟨qR HO1123⟩, ⟨qK BK1095⟩, ⟨qK BK1113⟩, ⟨qK BK1125⟩, ⟨qB HB⟩⟩
  subst c37
  rw [if_pos rfl] at H
  replace H := bd_ H
  obtain ⟨t1128, A38, H⟩ := H
  replace H := bd_ H
  obtain ⟨t1131, A39, H⟩ := H
  have H' := Aside0.mk H
  clear H
  try go_wp2_with ((with_reducible refine gate_ld rfl ?_); first | refine ld_ ?_ | fail)
  replace HO1094 := am_ (Kd.R_drew HO1094.out)
  replace HO1098 := am_ (Kd.R_drew HO1098.out)
  replace HO1101 := am_ (Kd.R_drew HO1101.out)
  replace HO1111 := am_ (Kd.R_drew HO1111.out)
  replace HO1123 := am_ (Kd.R_drew HO1123.out)
  replace BK1095 := am_ (blk_drew BK1095.out)
  replace BK1113 := am_ (blk_drew BK1113.out)
  replace BK1125 := am_ (blk_drew BK1125.out)
  replace HB := am_ (below_drew1 HB.out)
  refine start_ (n := 20) (S := fun w' => w'.cell? ⟨gb1095, 0, none⟩ = some (.int .i64 t1085) ∧ w'.cell? ⟨gb1095, 1, none⟩ = some (.int .i64 t1086) ∧ w'.cell? ⟨gb1095, 2, none⟩ = some (.int .i64 t1087) ∧ w'.cell? ⟨gb1095, 3, none⟩ = some (.int .i64 t1088) ∧ w'.cell? ⟨gb1095, 4, none⟩ = some (.int .i64 t1089) ∧ w'.cell? ⟨gb1095, 5, none⟩ = some (.bool t1090) ∧ w'.cell? ⟨gb1095, 6, none⟩ = some (.int .i64 t1091) ∧ w'.cell? ⟨gb1095, 7, none⟩ = some (.slice Ao14 t1092.length co14) ∧ w'.cell? ⟨gb1113, 0, none⟩ = some (.int .i64 t1102) ∧ w'.cell? ⟨gb1113, 1, none⟩ = some (.int .i64 t1103) ∧ w'.cell? ⟨gb1113, 2, none⟩ = some (.int .i64 t1104) ∧ w'.cell? ⟨gb1113, 3, none⟩ = some (.int .i64 t1105) ∧ w'.cell? ⟨gb1113, 4, none⟩ = some (.int .i64 t1106) ∧ w'.cell? ⟨gb1113, 5, none⟩ = some (.bool t1107) ∧ w'.cell? ⟨gb1113, 6, none⟩ = some (.int .i64 t1108) ∧ w'.cell? ⟨gb1113, 7, none⟩ = some (.slice Ao24 t1109.length co24)) (ds := []) (rl [0,20]) (by kernel_rfl) rfl rfl (cw8 BK1095.out (cz8 BK1113.out)) (fun hHeld => ?_); refine with_tabW laws_FnCtls.tab8 laws_FnCtls.bits8 (fun HT_ HW_ => ?_)
  generalize w32.drew = w40 at HO1094 HO1098 HO1101 HO1111 HO1123 BK1095 BK1113 BK1125 HB hHeld ⊢
  refine tz_ (i := 0) (N := some 32) HT_ HW_ (rl [1,19]) rfl rfl hHeld ?_ (hy := fun w' ⟨s0, s1, s2, s3, s4, s5, s6, s7, _, _, _, _, _, _, _, _⟩ => ldr8 s0 s1 s2 s3 s4 s5 s6 s7)
  refine tz_ (i := 2) (N := some 34) HT_ HW_ (rl [1,1,1,17]) rfl rfl hHeld ?_ (hy := fun w' ⟨s0, s1, s2, s3, s4, s5, s6, s7, _, _, _, _, _, _, _, _⟩ => ldr8 s0 s1 s2 s3 s4 s5 s6 s7)
  refine on_ HT_ (i := 1) (N := some 33) (rl [3,17]) (fun K hK => ?_)
  refine goes_ Try.func56 (by kernel_rfl) rfl #[.agg #[.int .i64 t1085, .int .i64 t1086, .int .i64 t1087, .int .i64 t1088, .int .i64 t1089, .bool t1090, .int .i64 t1091, .slice Ao14 t1092.length co14]] (by rfl) rfl rfl la_ ?_
  with_reducible refine (impl_CtlOk.calls k t1085 t1086 t1087 t1088 t1089 t1090 t1091 _ _ t1092 t1126 _ (rC_ HO1094) ?side2 A33.out).mono ?_
  (case side2 => exact (rL_ HO1094))
  rintro e w41 ⟨rfl, hb⟩
  refine ⟨_, rfl, ?_⟩
  replace HO1094 := rB_ HO1094 hb
  replace HO1098 := rB_ HO1098 hb
  replace HO1101 := rB_ HO1101 hb
  replace HO1111 := rB_ HO1111 hb
  replace HO1123 := rB_ HO1123 hb
  replace BK1095 := bK_ BK1095 hb
  replace BK1113 := bK_ BK1113 hb
  replace BK1125 := bK_ BK1125 hb
  replace HB := bS_ HB hb
  (try clear hb)
  refine hK.out _ _ (cw8 BK1095.out (cz8 BK1113.out)) (fun hHeld => ?_)
  clear hK K
  refine nm_ (some 33) ?_
  refine on_ HT_ (i := 3) (N := some 35) (rl [4,16]) (fun K hK => ?_)
  refine goes_ Try.func57 (by kernel_rfl) rfl #[.agg #[.int .i64 t1085, .int .i64 t1086, .int .i64 t1087, .int .i64 t1088, .int .i64 t1089, .bool t1090, .int .i64 t1091, .slice Ao14 t1092.length co14]] (by rfl) rfl rfl la_ ?_
  with_reducible refine (spec_CtlOk.calls k t1085 t1086 t1087 t1088 t1089 t1090 t1091 _ _ t1092 t1127 _ (rC_ HO1094) ?side2 A34.out).mono ?_
  (case side2 => exact (rL_ HO1094))
  rintro e w42 ⟨rfl, hb⟩
  refine ⟨_, rfl, ?_⟩
  replace HO1094 := rB_ HO1094 hb
  replace HO1098 := rB_ HO1098 hb
  replace HO1101 := rB_ HO1101 hb
  replace HO1111 := rB_ HO1111 hb
  replace HO1123 := rB_ HO1123 hb
  replace BK1095 := bK_ BK1095 hb
  replace BK1113 := bK_ BK1113 hb
  replace BK1125 := bK_ BK1125 hb
  replace HB := bS_ HB hb
  (try clear hb)
  refine hK.out _ _ (cw8 BK1095.out (cz8 BK1113.out)) (fun hHeld => ?_)
  clear hK K
  refine nm_ (some 35) ?_
  refine pq_ 4 36 HT_ (rl [5,15]) ?_
  refine pq_ 5 37 HT_ (rl [6,14]) ?_
  refine pq_ 6 38 HT_ (rl [7,13]) ?_
  refine pq_ 7 39 HT_ (rl [8,12]) ?_
  refine pq_ 8 40 HT_ (rl [9,11]) ?_
  refine pq_ 9 41 HT_ (rl [10,10]) ?_
  refine pq_ 10 42 HT_ (rl [11,9]) ?_
  refine pq_ 11 43 HT_ (rl [12,8]) ?_
  refine pq_ 12 44 HT_ (rl [13,7]) ?_
  refine pq_ 15 47 HT_ (rl [13,2,1,4]) ?_
  refine tz_ (i := 13) (N := some 45) HT_ HW_ (rl [14,1,1,4]) rfl rfl hHeld ?_ (hy := fun w' ⟨_, _, _, _, _, _, _, _, s8, s9, s10, s11, s12, s13, s14, s15⟩ => ldr8 s8 s9 s10 s11 s12 s13 s14 s15)
  refine on_ HT_ (i := 14) (N := some 46) (rl [16,4]) (fun K hK => ?_)
  refine goes_ Try.func52 (by kernel_rfl) rfl #[.agg #[.int .i64 t1102, .int .i64 t1103, .int .i64 t1104, .int .i64 t1105, .int .i64 t1106, .bool t1107, .int .i64 t1108, .slice Ao24 t1109.length co24]] (by rfl) rfl rfl la_ ?_
  with_reducible refine (impl_PutCtl.calls k t1102 t1103 t1104 t1105 t1106 t1107 t1108 _ _ t1109 t1128 _ (rC_ HO1111) ?side2 A38.out).mono ?_
  (case side2 => exact (rL_ HO1111))
  rintro e w43 ⟨v1129, rfl, ho0, hb⟩
  refine ⟨_, rfl, ?_⟩
  replace HO1094 := rB_ HO1094 hb
  replace HO1111 := rB_ HO1111 hb
  replace HO1123 := rB_ HO1123 hb
  have HO1130 := am_ (Kd.R_lower (Kd.R_new' (Kd.R_new' ho0 (Kd.R_lt (qR HO1098))) (Kd.R_lt (qR HO1101))) (below_size (qB HB)))
  replace HO1098 := eA_ HO1098 ho0 hb
  replace HO1101 := eA_ HO1101 ho0 hb
  replace BK1095 := bK_ BK1095 hb
  replace BK1113 := bK_ BK1113 hb
  replace BK1125 := bK_ BK1125 hb
  replace HB := bS_ HB hb
  (try clear hb ho0)
  obtain ⟨Ao44, co44, eo44⟩ := Kd.R_slice HO1130.out
  (first | subst eo44 | (injection eo44 with f1_ f2_ f3_; have f4_ := f1_.symm; have f5_ := f3_.symm; clear f1_ f2_ f3_; subst f4_; subst f5_))
  refine hK.out _ _ (cw8 BK1095.out (cz8 BK1113.out)) (fun hHeld => ?_)
  clear hK K
  refine nm_ (some 46) ?_
  refine on_ HT_ (i := 16) (N := some 48) (rl [17,3]) (fun K hK => ?_)
  refine goes_ Try.func15 (by kernel_rfl) rfl #[.slice Ao44 t1128.length co44, .slice Ao19 t1099.length co19] (by rfl) rfl rfl la_ ?_
  with_reducible refine (laws_same.calls _ _ t1128 _ _ t1099 t1131 _ (rC_ HO1130) ((rL_ HO1130)) ?side3 ?side4 A39.out).mono ?_
  (case side3 => exact rC_ HO1101)
  (case side4 => exact (rL_ HO1101))
  rintro e w' ⟨rfl, ⟨nd, rfl⟩⟩
  refine ⟨_, rfl, ?_⟩
  refine hK.out _ _ (cw8 BK1095.out (cz8 BK1113.out)) (fun hHeld => ?_)
  clear hK K
  refine nm_ (some 48) ?_
  refine pq_ 17 49 HT_ (rl [18,2]) ?_
  refine pq_ 18 50 HT_ (rl [19,1]) ?_
  refine pq_ 19 51 HT_ (rl [20]) ?_
  refine done_ (done_of HT_.out (by kernel_rfl)) ?_
  try go_wp2_with ((with_reducible refine gate_ld rfl ?_); first | refine ld_ ?_ | fail)
  go_meet
  case rel => exact ⟨_, (!t1131), eqq_, H', ⟨by first | omega | exact Nat.le_refl _⟩, xR_ HO1098, ⟨qR HO1094⟩, ⟨qR HO1111⟩, ⟨qR HO1123⟩, ⟨qK BK1095⟩, ⟨qK BK1113⟩, ⟨qK BK1125⟩, ⟨qB HB⟩⟩
 case rest =>
  clear HC10
  try clear c1
  try clear p2
  try clear c3
  try clear c5
  try clear c15
  try clear c36
  try clear c36b0
  try clear c36b1
  try clear c36b2
  try clear c37
  obtain ⟨kq, x51_9, rfl, HA, HJ9, HO_4, HO_1096007, HO_1114007, HO_1126007, BK1095, BK1113, BK1125, HB⟩ := hcut
  cases kq with
  | zero => exact absurd HA.out (by simp [laws_FnCtls.j0])
  | succ kj9 =>
   have H := HA.out
   clear HA
   simp only [laws_FnCtls.j0] at H
   by_cases c48 : x51_9 = true
   ·
    subst c48
    rw [if_pos rfl] at H
    exact absurd (hr_.out ▸ H) (by simp)
   replace c48 := nf_ c48
   subst c48
   rw [if_neg (show ¬ (false = true) by decide)] at H
   replace H := bd_ H
   obtain ⟨t1132, A49, H⟩ := H
   have HC50 := am_ H
   clear H
   have hnb51 := nx_ NB1095_1113
   have hnb52 := nx_ NB1095_1125
   (try clear zK1095)
   have zK1095 := cf8 BK1095.out
   go_upto_if 54 with (first | ((with_reducible refine gate_ld rfl ?_); first | refine ld_ ?_ | fail) | (refine gc_ 56 rfl ?_; refine gl_ (some 53) Try.func56 #[.agg #[.int .i64 t1085, .int .i64 t1086, .int .i64 t1087, .int .i64 t1088, .int .i64 t1089, .bool t1090, .int .i64 t1091, .slice Ao14 t1092.length co14]] ?_; (with_reducible refine (impl_CtlOk.calls kj9 t1085 t1086 t1087 t1088 t1089 t1090 t1091 _ _ t1092 t1132 _ (rC_ HO_1096007) ?side2 A49.out).mono ?_); (case side2 => exact (rL_ HO_1096007)); rintro e w54 ⟨rfl, hb⟩; refine ⟨_, rfl, ?_⟩; replace HO_4 := rB_ HO_4 hb; replace HO_1096007 := rB_ HO_1096007 hb; replace HO_1114007 := rB_ HO_1114007 hb; replace HO_1126007 := rB_ HO_1126007 hb; replace BK1095 := bK_ BK1095 hb; replace BK1113 := bK_ BK1113 hb; replace BK1125 := bK_ BK1125 hb; replace HB := bS_ HB hb; (try clear hb)))
   (try simp only [Act.put, List.setIfInBounds_toArray, List.set_cons_zero, List.set_cons_succ])
   have H := HC50.out
   clear HC50
   by_cases c55 : t1132 = true
   rotate_left
   ·
    replace c55 := nf_ c55
    subst c55
    rw [if_neg (show ¬ (false = true) by decide)] at H
    obtain rfl := si_ H
    obtain ⟨Ao98, co98, eo98⟩ := Kd.R_slice HO_4.out
    subst eo98
    go_wp2_with ((with_reducible refine gate_ld rfl ?_); first | refine ld_ ?_ | fail)
    go_ret
    exact ⟨er_, qB HB⟩
   subst c55
   rw [if_pos rfl] at H
   replace H := bf_ H
   obtain ⟨f_, hf_, ⟨t1133, t1134, t1135, t1136, t1137, t1138, t1139, t1140, t1143⟩, A56, H⟩ := H
   subst hf_
   (try dsimp only at H)
   replace H := bd_ H
   obtain ⟨t1145, A57, H⟩ := H
   replace H := bf_ H
   obtain ⟨f_, hf_, ⟨t1148, t1149, t1150, t1151, t1152, t1153, t1154, t1155, t1158⟩, A58, H⟩ := H
   subst hf_
   (try dsimp only at H)
   by_cases c59 : t1143 = true
   rotate_left
   ·
    replace c59 := nf_ c59
    subst c59
    rw [if_neg (show ¬ (false = true) by decide)] at H
    exact absurd (hr_.out ▸ H) (by simp)
   subst c59
   rw [if_pos rfl] at H
   replace H := ie_ H
   obtain ⟨-, H, c60b0, c60b1⟩ | ⟨c60, H, c60b0, c60b1⟩ := H
   rotate_left
   ·
    (first | rw [c60b0] | rw [c60b1] | (simp only [i64_w, i32_w]; rw [c60b0]) | skip)
    exact absurd (hr_.out ▸ H) (by simp)
   (first | rw [c60b0] | rw [c60b1] | (simp only [i64_w, i32_w]; rw [c60b0]) | skip)
   replace H := ie_ H
   obtain ⟨-, H, c61b0, c61b1⟩ | ⟨c61, H, c61b0, c61b1⟩ := H
   rotate_left
   ·
    exact absurd (hr_.out ▸ H) (by simp)
   replace H := ie_ H
   obtain ⟨-, H, c62b0, c62b1⟩ | ⟨c62, H, c62b0, c62b1⟩ := H
   rotate_left
   ·
    exact absurd (hr_.out ▸ H) (by simp)
   replace H := ie_ H
   obtain ⟨-, H, c63b0, c63b1⟩ | ⟨c63, H, c63b0, c63b1⟩ := H
   rotate_left
   ·
    exact absurd (hr_.out ▸ H) (by simp)
   replace H := ie_ H
   obtain ⟨-, H, c64b0, c64b1⟩ | ⟨c64, H, c64b0, c64b1⟩ := H
   rotate_left
   ·
    exact absurd (hr_.out ▸ H) (by simp)
   replace H := id_ H
   obtain ⟨c65, H, -⟩ | ⟨c65, H, -⟩ := H
   rotate_left
   ·
    have c65b0 : (t1138 == t1090) = false := by simpa using c65
    (try (have c65b1 : decide (t1138 = t1090) = false := by simpa using c65))
    (try (have c65b2 : (t1138 == t1090) = false := by simpa using c65))
    (try (have c65b3 : ¬ (t1138 = t1090) := by simpa using c65))
    clear c65
    exact absurd (hr_.out ▸ H) (by simp)
   have c65b0 : (t1138 == t1090) = true := c65
   (try (have c65b1 : decide (t1138 = t1090) = true := by simpa using c65))
   (try (have c65b2 : (t1138 == t1090) = true := by simpa using c65))
   clear c65
   replace H := ie_ H
   obtain ⟨-, H, c66b0, c66b1⟩ | ⟨c66, H, c66b0, c66b1⟩ := H
   rotate_left
   ·
    exact absurd (hr_.out ▸ H) (by simp)
   replace H := ie_ H
   obtain ⟨c67, H, c67b0, c67b1⟩ | ⟨c67, H, c67b0, c67b1⟩ := H
   rotate_left
   ·
    have c67b2 : (t1140.length == t1092.length) = false := by first | simpa using c67 | (simp at c67 ⊢; omega)
    exact absurd (hr_.out ▸ H) (by simp)
   have c67b2 : (t1140.length == t1092.length) = true := by first | simpa using c67 | (simp at c67 ⊢; omega)
   clear c67
   replace H := bd_ H
   obtain ⟨t1160, A68, H⟩ := H
   replace H := bd_ H
   obtain ⟨t1163, A69, H⟩ := H
   by_cases c70 : t1163 = true
   rotate_left
   ·
    replace c70 := nf_ c70
    subst c70
    rw [if_neg (show ¬ (false = true) by decide)] at H
    exact absurd (hr_.out ▸ H) (by simp)
   subst c70
   rw [if_pos rfl] at H
   by_cases c71 : t1158 = true
   ·
    subst c71
    rw [if_pos rfl] at H
    exact absurd (hr_.out ▸ H) (by simp)
   replace c71 := nf_ c71
   subst c71
   rw [if_neg (show ¬ (false = true) by decide)] at H
   obtain rfl := si_ H
   obtain ⟨Ao72, co72, eo72⟩ := Kd.R_slice HO_4.out
   subst eo72
   go_wp2_with (first | ((with_reducible refine gate_ld rfl ?_); first | refine ld_ ?_ | fail) | (refine gc_ 54 rfl ?_; refine gl_ (some 60) Try.func54 #[.slice Ao72 t1096.length co72] ?_; (with_reducible refine (impl_GetCtl.calls kj9 _ _ t1096 t1133 t1134 t1135 t1136 t1137 t1138 t1139 t1140 true _ (rC_ HO_4) ?side2 A56.out).mono ?_); (case side2 => exact (rL_ HO_4)); rintro e w73 ⟨v1141, rfl, ho0, hb⟩; refine ⟨_, rfl, ?_⟩; replace HO_4 := rB_ HO_4 hb; have HO1142 := am_ (Kd.R_lower (Kd.R_new' (Kd.R_new' (Kd.R_new' ho0 (Kd.R_lt (qR HO_1096007))) (Kd.R_lt (qR HO_1114007))) (Kd.R_lt (qR HO_1126007))) (below_size (qB HB))); replace HO_1096007 := eA_ HO_1096007 ho0 hb; replace HO_1114007 := eA_ HO_1114007 ho0 hb; replace HO_1126007 := eA_ HO_1126007 ho0 hb; replace BK1095 := bK_ BK1095 hb; replace BK1113 := bK_ BK1113 hb; replace BK1125 := bK_ BK1125 hb; replace HB := bS_ HB hb; (try clear hb); (try clear ho0)) | (refine gd_ 10 rfl ?_; (try (refine gate_guard (by rfl) ?_; dsimp only)); refine box_event ?hg (N := 10) ?hd (cs := #[.int .i64 0, .int .i64 0, .int .i64 0, .int .i64 0, .int .i64 0, .bool false, .int .i64 0, .slice none 0 0]) (t := 75) ?hr ?_; (case hd => rfl); (case hg => rfl); (case hr => first | (go_simp; done) | (go_simp; rfl) | ((try (obtain ⟨_, _, rfl⟩ := Kd.R_slice HO1142.out)); (try (obtain ⟨_, _, rfl⟩ := Kd.R_slice HO1147.out)); (try (obtain ⟨_, _, rfl⟩ := Kd.R_slice HO1157.out)); (try (obtain ⟨_, _, rfl⟩ := Kd.R_slice HO1162.out)); first | (go_simp; done) | (go_simp; rfl))); intro gb1144 hg w74 hbox hb; replace HO_4 := rB_ HO_4 hb; replace HO_1096007 := rB_ HO_1096007 hb; replace HO_1114007 := rB_ HO_1114007 hb; replace HO_1126007 := rB_ HO_1126007 hb; replace HO1142 := rB_ HO1142 hb; have BK1144 := am_ (hbox); have GW1144 := gA_ hg HB; have GE1144 := GW1144; have IGE1144 := gI_ GE1144; replace HB := bS_ HB hb; have NB1095_1144 := am_ ((gN_ hg (qK BK1095))); have NB1144_1095 := am_ ((gM_ hg (qK BK1095))); replace BK1095 := bK_ BK1095 hb; have NB1113_1144 := am_ ((gN_ hg (qK BK1113))); have NB1144_1113 := am_ ((gM_ hg (qK BK1113))); replace BK1113 := bK_ BK1113 hb; have NB1125_1144 := am_ ((gN_ hg (qK BK1125))); have NB1144_1125 := am_ ((gM_ hg (qK BK1125))); replace BK1125 := bK_ BK1125 hb; clear hb hbox hg; have hnb75 := nx_ NB1144_1095; have hnb76 := nx_ NB1144_1113; have hnb77 := nx_ NB1144_1125; (try clear zK1144); have zK1144 := cf8 BK1144.out; obtain ⟨Ao79, co79, eo79⟩ := Kd.R_slice HO1142.out; subst eo79) | ((with_reducible refine gate_store (t := 75) (p := 10) rfl ?_); refine store_evs (t := 75) (p := 10) (j := 0) (cs := [.int .i64 t1133, .int .i64 t1134, .int .i64 t1135, .int .i64 t1136, .int .i64 t1137, .bool t1138, .int .i64 t1139, .slice Ao79 t1140.length co79]) (qK BK1144) ?_; intro w80 hw; have n0_ := fR0_ hw HO_4 BK1144; have n1_ : Aside0 (Kd.R k29 29 w80 w.heap.size (fun k_ => nb Ao24 t1109.length co24 k_ ∧ nb Ao31 t1121.length co31 k_ ∧ nb Ao79 t1140.length co79 k_) (.slice Ao14 t1092.length co14) t1092) := ⟨(by rw [hw]; exact (fR1_ HO_1096007 BK1144))⟩; have n2_ : Aside0 (Kd.R k29 29 w80 w.heap.size (fun k_ => nb Ao14 t1092.length co14 k_ ∧ nb Ao31 t1121.length co31 k_ ∧ nb Ao79 t1140.length co79 k_) (.slice Ao24 t1109.length co24) t1109) := ⟨(by rw [hw]; exact (fR1_ HO_1114007 BK1144))⟩; have n3_ : Aside0 (Kd.R k29 29 w80 w.heap.size (fun k_ => nb Ao14 t1092.length co14 k_ ∧ nb Ao24 t1109.length co24 k_ ∧ nb Ao79 t1140.length co79 k_) (.slice Ao31 t1121.length co31) t1121) := ⟨(by rw [hw]; exact (fR1_ HO_1126007 BK1144))⟩; have n4_ : Aside0 (Kd.R k29 29 w80 w.heap.size (fun k_ => nb Ao14 t1092.length co14 k_ ∧ nb Ao24 t1109.length co24 k_ ∧ nb Ao31 t1121.length co31 k_) (.slice Ao79 t1140.length co79) t1140) := ⟨(by rw [hw]; exact (fR1_ HO1142 BK1144))⟩; replace BK1095 := sK_ hw BK1095 NB1095_1144; replace BK1113 := sK_ hw BK1113 NB1113_1144; replace BK1125 := sK_ hw BK1125 NB1125_1144; replace HB := sB_ hw HB; replace BK1144 := sW_ hw BK1144; clear hw; clear HO_4 HO_1096007 HO_1114007 HO_1126007 HO1142; have HO_4 := n0_; have HO_1096007 := n1_; have HO_1114007 := n2_; have HO_1126007 := n3_; have HO1142 := n4_; clear n0_ n1_ n2_ n3_ n4_) | (refine gc_ 58 rfl ?_; refine gl_ (some 66) Try.func58 #[.slice A0 l0.length c0, .slice Ao72 t1096.length co72] ?_; (with_reducible refine (laws_bent.calls _ _ l0 _ _ t1096 t1145 _ ?side1 ?side2 ?side3 ?side4 A57.out).mono ?_); (case side1 => exact qC (Kd.C_below HR0.out HB.out)); (case side2 => exact HC0.out); (case side3 => exact rC_ HO_4); (case side4 => exact (rL_ HO_4)); rintro e w81 ⟨v1146, rfl, ho0, hb⟩; refine ⟨_, rfl, ?_⟩; replace HO_1096007 := rB_ HO_1096007 hb; replace HO_1114007 := rB_ HO_1114007 hb; replace HO_1126007 := rB_ HO_1126007 hb; replace HO1142 := rB_ HO1142 hb; have HO1147 := am_ (Kd.R_lower (Kd.R_new' ho0 (Kd.R_lt (qR HO_4))) (below_size (qB HB))); replace HO_4 := eA_ HO_4 ho0 hb; replace BK1095 := bK_ BK1095 hb; replace BK1113 := bK_ BK1113 hb; replace BK1125 := bK_ BK1125 hb; replace BK1144 := bK_ BK1144 hb; replace HB := bS_ HB hb; (try clear hb); (try clear ho0); obtain ⟨Ao82, co82, eo82⟩ := Kd.R_slice HO1147.out; subst eo82) | (refine gc_ 54 rfl ?_; refine gl_ (some 67) Try.func54 #[.slice Ao82 t1145.length co82] ?_; (with_reducible refine (impl_GetCtl.calls kj9 _ _ t1145 t1148 t1149 t1150 t1151 t1152 t1153 t1154 t1155 false _ (rC_ HO1147) ?side2 A58.out).mono ?_); (case side2 => exact (rL_ HO1147)); rintro e w83 ⟨v1156, rfl, ho0, hb⟩; refine ⟨_, rfl, ?_⟩; replace HO_4 := rB_ HO_4 hb; replace HO1147 := rB_ HO1147 hb; have HO1157 := am_ (Kd.R_lower (Kd.R_new' (Kd.R_new' (Kd.R_new' (Kd.R_new' ho0 (Kd.R_lt (qR HO_1096007))) (Kd.R_lt (qR HO_1114007))) (Kd.R_lt (qR HO_1126007))) (Kd.R_lt (qR HO1142))) (below_size (qB HB))); replace HO_1096007 := eA_ HO_1096007 ho0 hb; replace HO_1114007 := eA_ HO_1114007 ho0 hb; replace HO_1126007 := eA_ HO_1126007 ho0 hb; replace HO1142 := eA_ HO1142 ho0 hb; replace BK1095 := bK_ BK1095 hb; replace BK1113 := bK_ BK1113 hb; replace BK1125 := bK_ BK1125 hb; replace BK1144 := bK_ BK1144 hb; replace HB := bS_ HB hb; (try clear hb); (try clear ho0)) | (refine gd_ 12 rfl ?_; (try (refine gate_guard (by rfl) ?_; dsimp only)); refine box_event ?hg (N := 12) ?hd (cs := #[.int .i64 0, .int .i64 0, .int .i64 0, .int .i64 0, .int .i64 0, .bool false, .int .i64 0, .slice none 0 0]) (t := 75) ?hr ?_; (case hd => rfl); (case hg => rfl); (case hr => first | (go_simp; done) | (go_simp; rfl) | ((try (obtain ⟨_, _, rfl⟩ := Kd.R_slice HO1142.out)); (try (obtain ⟨_, _, rfl⟩ := Kd.R_slice HO1147.out)); (try (obtain ⟨_, _, rfl⟩ := Kd.R_slice HO1157.out)); (try (obtain ⟨_, _, rfl⟩ := Kd.R_slice HO1162.out)); first | (go_simp; done) | (go_simp; rfl))); intro gb1159 hg w84 hbox hb; replace HO_4 := rB_ HO_4 hb; replace HO_1096007 := rB_ HO_1096007 hb; replace HO_1114007 := rB_ HO_1114007 hb; replace HO_1126007 := rB_ HO_1126007 hb; replace HO1142 := rB_ HO1142 hb; replace HO1147 := rB_ HO1147 hb; replace HO1157 := rB_ HO1157 hb; have BK1159 := am_ (hbox); have GW1159 := gA_ hg HB; have GE1159 := GW1159; have IGE1159 := gI_ GE1159; replace HB := bS_ HB hb; have NB1095_1159 := am_ ((gN_ hg (qK BK1095))); have NB1159_1095 := am_ ((gM_ hg (qK BK1095))); replace BK1095 := bK_ BK1095 hb; have NB1113_1159 := am_ ((gN_ hg (qK BK1113))); have NB1159_1113 := am_ ((gM_ hg (qK BK1113))); replace BK1113 := bK_ BK1113 hb; have NB1125_1159 := am_ ((gN_ hg (qK BK1125))); have NB1159_1125 := am_ ((gM_ hg (qK BK1125))); replace BK1125 := bK_ BK1125 hb; have NB1144_1159 := am_ ((gN_ hg (qK BK1144))); have NB1159_1144 := am_ ((gM_ hg (qK BK1144))); replace BK1144 := bK_ BK1144 hb; clear hb hbox hg; have hnb85 := nx_ NB1159_1095; have hnb86 := nx_ NB1159_1113; have hnb87 := nx_ NB1159_1125; have hnb88 := nx_ NB1159_1144; (try clear zK1159); have zK1159 := cf8 BK1159.out; obtain ⟨Ao90, co90, eo90⟩ := Kd.R_slice HO1157.out; subst eo90) | ((with_reducible refine gate_store (t := 75) (p := 12) rfl ?_); refine store_evs (t := 75) (p := 12) (j := 0) (cs := [.int .i64 t1148, .int .i64 t1149, .int .i64 t1150, .int .i64 t1151, .int .i64 t1152, .bool t1153, .int .i64 t1154, .slice Ao90 t1155.length co90]) (qK BK1159) ?_; intro w91 hw; have n0_ : Aside0 (Kd.R (Kd.int .u8) 5 w91 w.heap.size (fun k_ => nb Ao82 t1145.length co82 k_) (.slice Ao72 t1096.length co72) t1096) := ⟨(by rw [hw]; exact (fR1_ HO_4 BK1159))⟩; have n1_ : Aside0 (Kd.R k29 29 w91 w.heap.size (fun k_ => nb Ao24 t1109.length co24 k_ ∧ nb Ao31 t1121.length co31 k_ ∧ nb Ao79 t1140.length co79 k_ ∧ nb Ao90 t1155.length co90 k_) (.slice Ao14 t1092.length co14) t1092) := ⟨(by rw [hw]; exact (fR1_ HO_1096007 BK1159))⟩; have n2_ : Aside0 (Kd.R k29 29 w91 w.heap.size (fun k_ => nb Ao14 t1092.length co14 k_ ∧ nb Ao31 t1121.length co31 k_ ∧ nb Ao79 t1140.length co79 k_ ∧ nb Ao90 t1155.length co90 k_) (.slice Ao24 t1109.length co24) t1109) := ⟨(by rw [hw]; exact (fR1_ HO_1114007 BK1159))⟩; have n3_ : Aside0 (Kd.R k29 29 w91 w.heap.size (fun k_ => nb Ao14 t1092.length co14 k_ ∧ nb Ao24 t1109.length co24 k_ ∧ nb Ao79 t1140.length co79 k_ ∧ nb Ao90 t1155.length co90 k_) (.slice Ao31 t1121.length co31) t1121) := ⟨(by rw [hw]; exact (fR1_ HO_1126007 BK1159))⟩; have n4_ : Aside0 (Kd.R k29 29 w91 w.heap.size (fun k_ => nb Ao14 t1092.length co14 k_ ∧ nb Ao24 t1109.length co24 k_ ∧ nb Ao31 t1121.length co31 k_ ∧ nb Ao90 t1155.length co90 k_) (.slice Ao79 t1140.length co79) t1140) := ⟨(by rw [hw]; exact (fR1_ HO1142 BK1159))⟩; have n5_ : Aside0 (Kd.R (Kd.int .u8) 5 w91 w.heap.size (fun k_ => nb Ao72 t1096.length co72 k_) (.slice Ao82 t1145.length co82) t1145) := ⟨(by rw [hw]; exact (fR1_ HO1147 BK1159))⟩; have n6_ : Aside0 (Kd.R k29 29 w91 w.heap.size (fun k_ => nb Ao14 t1092.length co14 k_ ∧ nb Ao24 t1109.length co24 k_ ∧ nb Ao31 t1121.length co31 k_ ∧ nb Ao79 t1140.length co79 k_) (.slice Ao90 t1155.length co90) t1155) := ⟨(by rw [hw]; exact (fR1_ HO1157 BK1159))⟩; replace BK1095 := sK_ hw BK1095 NB1095_1159; replace BK1113 := sK_ hw BK1113 NB1113_1159; replace BK1125 := sK_ hw BK1125 NB1125_1159; replace BK1144 := sK_ hw BK1144 NB1144_1159; replace HB := sB_ hw HB; replace BK1159 := sW_ hw BK1159; clear hw; clear HO_4 HO_1096007 HO_1114007 HO_1126007 HO1142 HO1147 HO1157; have HO_4 := n0_; have HO_1096007 := n1_; have HO_1114007 := n2_; have HO_1126007 := n3_; have HO1142 := n4_; have HO1147 := n5_; have HO1157 := n6_; clear n0_ n1_ n2_ n3_ n4_ n5_ n6_; (try clear zK1144); have zK1144 := cz8 BK1144.out; have hnb93 := nx_ NB1095_1113; have hnb94 := nx_ NB1095_1125; (try clear zK1095); have zK1095 := cz8 BK1095.out) | (go_at_call 52; (with_reducible refine (impl_PutCtl.calls kj9 t1133 t1134 t1135 t1136 t1137 t1138 t1139 _ _ t1140 t1160 _ (rC_ HO1142) ?side2 A68.out).mono ?_); (case side2 => exact (rL_ HO1142)); rintro e w96 ⟨v1161, rfl, ho0, hb⟩; replace HO_1096007 := rB_ HO_1096007 hb; replace HO_1114007 := rB_ HO_1114007 hb; replace HO_1126007 := rB_ HO_1126007 hb; replace HO1142 := rB_ HO1142 hb; replace HO1157 := rB_ HO1157 hb; have HO1162 := am_ (Kd.R_lower (Kd.R_new' (Kd.R_new' ho0 (Kd.R_lt (qR HO_4))) (Kd.R_lt (qR HO1147))) (below_size (qB HB))); replace HO_4 := eA_ HO_4 ho0 hb; replace HO1147 := eA_ HO1147 ho0 hb; replace BK1095 := bK_ BK1095 hb; replace BK1113 := bK_ BK1113 hb; replace BK1125 := bK_ BK1125 hb; replace BK1144 := bK_ BK1144 hb; replace BK1159 := bK_ BK1159 hb; replace HB := bS_ HB hb; (try clear hb); (try clear ho0); obtain ⟨Ao97, co97, eo97⟩ := Kd.R_slice HO1162.out; subst eo97) | (go_at_call 15; (with_reducible refine (laws_same.calls _ _ t1160 _ _ t1096 true _ (rC_ HO1162) ((rL_ HO1162)) ?side3 ?side4 A69.out).mono ?_); (case side3 => exact rC_ HO_4); (case side4 => exact (rL_ HO_4)); rintro e w' ⟨rfl, ⟨nd, rfl⟩⟩))
   go_ret
   exact ⟨er_, qB HB⟩

/-- THE ONE PURE STATEMENT of laws_FnCtls: yours. -/
def laws_FnCtls.Pure : Prop := ∀ (l0 : List Int), l0.length ≤ maxLen → l0.length * 1 ≤ 140737488351232 → (∀ x ∈ l0, (Lit.int .u8 x).wf = true) → ∃ k, laws_FnCtls.f k l0 = some true
theorem laws_FnCtls.walk (P : laws_FnCtls.Pure) (a0 : Option Addr) (len0 cap0 : Nat) (z0 : List Int) (w : World) (w0 : (a0 = none ∧ len0 = 0 ∧ cap0 = 0 ∧ z0 = []) ∨ ∃ x, a0 = some x ∧ len0 ≤ cap0 ∧ cap0 ≤ maxLen ∧ z0.length = cap0 ∧ (∀ i, i < z0.length → w.cell? (x.add i) = some (.int .u8 (z0.getD i 0))) ∧ ∀ n ∈ z0, (Lit.int .u8 n).wf = true) (y0 : len0 * 1 ≤ 140737488351232) :
  Calls Try.prog 6 #[.slice a0 len0 cap0] w fun e w' => e = .returned (.bool true) ∧ Below w.heap.size w w' := by
 obtain ⟨l0, rfl, hr0, hm0, hw0, hc0⟩ := ReadsInt.ofRowC w0
 obtain ⟨k, h⟩ := P l0 hm0 y0 hw0
 refine (laws_FnCtls.calls k _ _ l0 true w (Kd.C_of_reads (d := (0 : Int)) (h1 := fun _ => rfl) hr0) hc0 ⟨rfl⟩ h).mono ?_
 rintro e w' ⟨rfl, hd⟩
 exact ⟨rfl, hd⟩
end Go.Proofs.Ytiffahfpfgnjnaa.PFnCtls
