-- Written by a program of this session (myprint.py, over the kit's print): contracts of FnSocks
import Derived.Test.YtiffahfpfgnjnaaPFnSocksx0
import Derived.Test.YtiffahfpfgnjnaaPFnSocksx3
import Derived.Test.YtiffahfpfgnjnaaPFnSocksx6
namespace Go.Proofs.Ytiffahfpfgnjnaa.PFnSocks
open Go.RowKit Go.Proofs.YtiffahfpfgnjnaaW.PrintWords Go.Proofs.YtiffahfpfgnjnaaW.PrintLast Go.Proofs.YtiffahfpfgnjnaaW.PrintMore Go.Proofs.YtiffahfpfgnjnaaV
attribute [local go_sem] max2_int min2_int max_two min_two max_three min_three max_four min_four   -- for this text's walks alone
set_option linter.unusedVariables false
set_option linter.unusedSimpArgs false

/-! ### slices_Clone_byte: function 118 -/
def slices_Clone_byte.f (l0 : List Int) : Option (List Int) := (some (([] : List Int) : List Int)).bind fun y404 => (if y404.length + l0.length < 140737488355328 then (some (y404 ++ l0)) else (none))
set_option maxHeartbeats 8000000 in
set_option maxRecDepth 100000 in
theorem slices_Clone_byte.calls_some (a0_ : Addr) (c0 : Nat) (l0 : List Int) (r : List Int) (w : World) (hr0 : Kd.C (Kd.int .u8) w (some a0_) l0.length l0) (hc0 : l0.length ≤ c0) (h : slices_Clone_byte.f l0 = some r) :
  Calls Try.prog 118 #[.slice (some a0_) l0.length c0] w fun e w' => ∃ v0_ : Value, e = .returned (v0_) ∧ Kd.R (Kd.int .u8) 5 w' w.heap.size (fun _ => True) v0_ r ∧ Below w.heap.size w w' := by
 have HR0 := Aside0.mk hr0
 have HC0 := Aside0.mk hc0
 clear hr0 hc0
 have HB := Aside0.mk (Below.refl w.heap.size w)
 have H := h
 unfold slices_Clone_byte.f at H
 clear h
 obtain ⟨y404, hy404⟩ : ∃ y_ : List Int, y_ = (([] : List Int)) := ⟨_, rfl⟩
 replace H := mk_ H hy404
 (try dsimp only at H)
 have Ny404 := Aside0.mk hy404
 clear hy404
 by_cases c2 : y404.length + l0.length < 140737488355328
 case neg => exact nn_ c2 H
 rw [if_pos c2] at H
 have LMc2 := Aside0.mk c2
 clear c2
 obtain ⟨y407, hy407⟩ : ∃ y_ : List Int, y_ = (y404 ++ l0) := ⟨_, rfl⟩
 replace H : (some y407) = some r := by first | (rw [hy407]; with_reducible exact H) | (have H2_ := (Option.bind_some _ _).symm.trans H; rw [hy407]; with_reducible exact H2_) | (have H2_ := (Option.bind_some _ _).symm.trans H; with_reducible exact H2_) | with_reducible exact H | (rw [hy407]; exact H) | exact H
 have Ny407 := Aside0.mk hy407
 clear hy407
 obtain rfl := Option.some.inj H
 have hnil := fun (W : World) => Lib.run_eql_slice_nil (P := Try.prog) W 22 5 (some a0_) l0.length c0 0 0 Try.underlying22
 go_enter Try.func118, Try.ntmps118
 go_wp2_with (first | ((with_reducible refine gate_dst (N := 5) rfl ?_); refine Kd.R_lit (Kd.int .u8) _ 5 ?hg (N := 5) ?hd (xs := ([] : List Int)) (inner := []) (ok := fun _ => True) (okp := fun _ => True) ?hr ?hp (fun _ hk => hk) trivial (Below.refl _ _) (Nat.le_refl _) (by simp) ?_; (case hd => rfl); (case hg => rfl); (case hr => first | (go_simp; done) | (go_simp; rfl)); (case hp => exact (Reps.none _ _)); intro v405 w3 ho4 hb hg_ hnew_; clear hg_ hnew_; (first | rw [← Ny404.out] at ho4 | (simp only [Int.reduceToNat] at ho4; rw [← Ny404.out] at ho4)); have HO406 := am_ (Kd.R_lower ho4 (below_size (qB HB))); replace HB := bS_ HB hb; clear hb ho4) | ((with_reducible refine gate_builtin (b := .append) (xs := #[.tmp 5, .tmp 6]) rfl ?_); at_builtin; refine Kd.R_append_rows (Kd.int .u8) (w0 := w) w.heap.size rfl (.tmp 5) (.tmp 6) 22 5 (.int .u8 0) 1 rfl Try.underlying22 info5 rfl (by decide) (by omega) v405 y404 l0 _ _ _ (fun _ => True) (fun _ => False) rfl rfl ?aO ?aR (fun _ _ h => h) (fun _ h => h.elim) ?aF ?aB ?aS ?aL ?_; (case aR => exact qC (Kd.C_below HR0.out HB.out)); (case aB => exact (qB HB)); (case aF => exact (fun _ _ => trivial)); (case aO => exact (qR HO406)); (case aS => exact (below_size (qB HB))); (case aL => have := LMc2.out; omega); intro v408 w5 ho hb hg hat; rw [← Ny407.out] at ho; replace HB := am_ (hb); have HO409 := am_ (ho); clear HO406; clear ho hb hg hat))
 go_ret
 exact ⟨_, er_, qR HO409, qB HB⟩
set_option maxHeartbeats 4000000 in
set_option maxRecDepth 100000 in
theorem slices_Clone_byte.calls_nil (c0 : Nat) (w : World) : Calls Try.prog 118 #[.slice none 0 c0] w fun e w' => e = .returned (.slice none 0 0) ∧ Below w.heap.size w w' := by
 have hnil := fun (W : World) => Lib.run_eql_slice_nil (P := Try.prog) W 22 5 none 0 c0 0 0 Try.underlying22
 go_enter Try.func118, Try.ntmps118
 go_wp2
 go_ret
 exact ⟨rfl, Below.refl _ _⟩
theorem slices_Clone_byte.calls (A0 : Option Addr) (c0 : Nat) (l0 : List Int) (r : List Int) (w : World) (hr0 : Kd.C (Kd.int .u8) w A0 l0.length l0) (hc0 : l0.length ≤ c0) (h : slices_Clone_byte.f l0 = some r) :
  Calls Try.prog 118 #[.slice A0 l0.length c0] w fun e w' => ∃ v0_ : Value, e = .returned (v0_) ∧ Kd.R (Kd.int .u8) 5 w' w.heap.size (fun _ => True) v0_ r ∧ Below w.heap.size w w' := by
 cases A0 with
 | some a0_ => exact slices_Clone_byte.calls_some a0_ c0 l0 r w hr0 hc0 h
 | none =>
  obtain rfl : l0 = [] := by
   rcases l0 with _ | ⟨x_, l_⟩
   ·
    rfl
   ·
    obtain ⟨_, e_, _⟩ := hr0.2.2 (by simp)
    cases e_
  obtain rfl : r = [] := by
   have h' := h
   simp [slices_Clone_byte.f] at h'
   exact h'
  refine (slices_Clone_byte.calls_nil c0 w).mono ?_
  rintro e w' ⟨rfl, hb⟩
  exact ⟨_, rfl, Kd.R_nil _ _ _ _ _, hb⟩

/-! ### impl_sockCopy: function 92 -/
def impl_sockCopy.f (a0_0 : Int) (a0_1 : Int) (a0_2 : Int) (a0_3 : Bool) (l0_4 : List Int) (l0_5 : List Int) (a0_6 : Int) (a0_7 : Int) : Option (Int × Int × Int × Bool × List Int × List Int × Int × Int) := (slices_Clone_byte.f l0_4).bind fun t412 => ((slices_Clone_byte.f l0_5).bind fun t415 => (some (a0_0, a0_1, a0_2, a0_3, t412, t415, a0_6, a0_7)))
def impl_sockCopy.T1 : Bool × List (List Nat × List Nat) := (true, [([], []), ([0], [0]), ([1], [1]), ([], []), ([3], [3]), ([4, 2], [4]), ([0, 1, 2, 3, 4], []), ([6, 2, 5, 0, 1, 2, 3, 4], [2, 6]), ([0, 1, 2, 3, 4, 5, 6, 7], []), ([8, 5, 7, 0, 1, 2, 3, 4, 5, 6, 7], [5, 8])])
def impl_sockCopy.B1 : List Nat := [0, 1, 3, 0, 8, 31, 31, 127, 255, 511]
theorem impl_sockCopy.tab1 : rtab .any (opsOf Try.f92 1) = impl_sockCopy.T1 := by kernel_rfl
theorem impl_sockCopy.bits1 : waitsOk impl_sockCopy.T1.2 impl_sockCopy.B1 = true := by kernel_rfl
set_option maxHeartbeats 8000000 in
set_option maxRecDepth 100000 in
theorem impl_sockCopy.calls (a0_0 : Int) (a0_1 : Int) (a0_2 : Int) (a0_3 : Bool) (A0_4 : Option Addr) (c0_4 : Nat) (l0_4 : List Int) (A0_5 : Option Addr) (c0_5 : Nat) (l0_5 : List Int) (a0_6 : Int) (a0_7 : Int) (r1 : Int) (r2 : Int) (r3 : Int) (r4 : Bool) (r5 : List Int) (r6 : List Int) (r7 : Int) (r8 : Int) (w : World) (hr0_4 : Kd.C (Kd.int .u8) w A0_4 l0_4.length l0_4) (hc0_4 : l0_4.length ≤ c0_4) (hr0_5 : Kd.C (Kd.int .u8) w A0_5 l0_5.length l0_5) (hc0_5 : l0_5.length ≤ c0_5) (h : impl_sockCopy.f a0_0 a0_1 a0_2 a0_3 l0_4 l0_5 a0_6 a0_7 = some (r1, r2, r3, r4, r5, r6, r7, r8)) :
  Calls Try.prog 92 #[.agg #[.int .i64 a0_0, .int .i64 a0_1, .int .i64 a0_2, .bool a0_3, .slice A0_4 l0_4.length c0_4, .slice A0_5 l0_5.length c0_5, .int .i64 a0_6, .int .i64 a0_7]] w fun e w' => ∃ v4_ v5_ : Value, e = .returned (.agg #[.int .i64 r1, .int .i64 r2, .int .i64 r3, .bool r4, v4_, v5_, .int .i64 r7, .int .i64 r8]) ∧ Kd.R (Kd.int .u8) 5 w' w.heap.size (fun k_ => nv v5_ k_) v4_ r5 ∧ Kd.R (Kd.int .u8) 5 w' w.heap.size (fun k_ => nv v4_ k_) v5_ r6 ∧ Below w.heap.size w w' := by
 have hu41 := Try.underlying41
 have HR0_4 := Aside0.mk hr0_4
 have HC0_4 := Aside0.mk hc0_4
 clear hr0_4 hc0_4
 have HR0_5 := Aside0.mk hr0_5
 have HC0_5 := Aside0.mk hc0_5
 clear hr0_5 hc0_5
 have HB := Aside0.mk (Below.refl w.heap.size w)
 have H := h
 unfold impl_sockCopy.f at H
 clear h
 replace H := bd_ H
 obtain ⟨t412, A2, H⟩ := H
 replace H := bd_ H
 obtain ⟨t415, A3, H⟩ := H
 simp only [Option.some.injEq, Prod.mk.injEq] at H
 obtain ⟨rfl, rfl, rfl, rfl, rfl, rfl, rfl, rfl⟩ := H
 go_enter Try.func92, Try.ntmps92
 try go_wp2_with (first | ((with_reducible refine gate_dst (N := 1) rfl ?_); refine bx_ (N := 1) (cs := #[.int .i64 a0_0, .int .i64 a0_1, .int .i64 a0_2, .bool a0_3, .slice A0_4 l0_4.length c0_4, .slice A0_5 l0_5.length c0_5, .int .i64 a0_6, .int .i64 a0_7]) (t := 41) ?_; intro gb410 hg w4 hbox hb; have BK410 := am_ (hbox); have GW410 := gA_ hg HB; have GE410 := GW410; have IGE410 := gI_ GE410; replace HB := bS_ HB hb; clear hb hbox hg) | ((with_reducible refine gate_dst (N := 2) rfl ?_); refine bx_ (N := 2) (cs := #[.int .i64 0, .int .i64 0, .int .i64 0, .bool false, .slice none 0 0, .slice none 0 0, .int .i64 0, .int .i64 0]) (t := 41) ?_; intro gb411 hg w5 hbox hb; have BK411 := am_ (hbox); have GW411 := gA_ hg HB; have GE411 := GW411; have IGE411 := gI_ GE411; replace HB := bS_ HB hb; have NB410_411 := am_ ((gN_ hg (qK BK410))); have NB411_410 := am_ ((gM_ hg (qK BK410))); replace BK410 := bK_ BK410 hb; clear hb hbox hg))
 replace BK410 := am_ (blk_drew BK410.out)
 replace BK411 := am_ (blk_drew BK411.out)
 replace HB := am_ (below_drew1 HB.out)
 refine start_ (n := 10) (S := fun w' => w'.cell? ⟨gb410, 0, none⟩ = some (.int .i64 a0_0) ∧ w'.cell? ⟨gb410, 1, none⟩ = some (.int .i64 a0_1) ∧ w'.cell? ⟨gb410, 2, none⟩ = some (.int .i64 a0_2) ∧ w'.cell? ⟨gb410, 3, none⟩ = some (.bool a0_3) ∧ w'.cell? ⟨gb410, 4, none⟩ = some (.slice A0_4 l0_4.length c0_4) ∧ w'.cell? ⟨gb410, 5, none⟩ = some (.slice A0_5 l0_5.length c0_5) ∧ w'.cell? ⟨gb410, 6, none⟩ = some (.int .i64 a0_6) ∧ w'.cell? ⟨gb410, 7, none⟩ = some (.int .i64 a0_7)) (ds := [7, 9]) #[oo,oo,oo,oo,oo,oo,oo,oo,oo,oo] (by kernel_rfl) rfl rfl (cz8 BK410.out) (fun hHeld => ?_); refine with_tabW impl_sockCopy.tab1 impl_sockCopy.bits1 (fun HT_ HW_ => ?_)
 generalize w5.drew = w6 at BK410 BK411 HB hHeld ⊢
 refine pq_ 0 3 HT_ #[ii,oo,oo,oo,oo,oo,oo,oo,oo,oo] ?_
 refine pq_ 3 6 HT_ #[ii,oo,oo,ii,oo,oo,oo,oo,oo,oo] ?_
 refine tz_ (i := 1) (N := some 4) HT_ HW_ #[ii,ii,oo,ii,oo,oo,oo,oo,oo,oo] rfl rfl hHeld ?_
 refine tz_ (i := 4) (N := some 7) HT_ HW_ #[ii,ii,oo,ii,ii,oo,oo,oo,oo,oo] rfl rfl hHeld ?_
 refine on_ HT_ (i := 2) (N := some 5) #[ii,ii,ii,ii,ii,oo,oo,oo,oo,oo] (fun K hK => ?_)
 refine goes_ Try.func118 (by kernel_rfl) rfl #[.slice A0_4 l0_4.length c0_4] (by rfl) rfl rfl la_ ?_
 with_reducible refine (slices_Clone_byte.calls _ _ l0_4 t412 _ ?side1 ?side2 A2.out).mono ?_
 (case side1 => exact qC (Kd.C_below HR0_4.out HB.out))
 (case side2 => exact HC0_4.out)
 rintro e w7 ⟨v413, rfl, ho0, hb⟩
 refine ⟨_, rfl, ?_⟩
 have HO414 := am_ (Kd.R_lower ho0 (below_size (qB HB)))
 replace BK410 := bK_ BK410 hb
 replace BK411 := bK_ BK411 hb
 replace HB := bS_ HB hb
 (try clear hb ho0)
 refine hK.out _ _ (cz8 BK410.out) (fun hHeld => ?_)
 clear hK K
 refine nm_ (some 5) ?_
 refine pq_ 6 9 HT_ #[ii,ii,ii,ii,ii,oo,ii,oo,oo,oo] ?_
 refine on_ HT_ (i := 5) (N := some 8) #[ii,ii,ii,ii,ii,ii,ii,oo,oo,oo] (fun K hK => ?_)
 refine goes_ Try.func118 (by kernel_rfl) rfl #[.slice A0_5 l0_5.length c0_5] (by rfl) rfl rfl la_ ?_
 with_reducible refine (slices_Clone_byte.calls _ _ l0_5 t415 _ ?side1 ?side2 A3.out).mono ?_
 (case side1 => exact qC (Kd.C_below HR0_5.out HB.out))
 (case side2 => exact HC0_5.out)
 rintro e w8 ⟨v416, rfl, ho0, hb⟩
 refine ⟨_, rfl, ?_⟩
 have HO417 := am_ (Kd.R_lower (Kd.R_new' ho0 (Kd.R_lt (qR HO414))) (below_size (qB HB)))
 replace HO414 := eA_ HO414 ho0 hb
 replace BK410 := bK_ BK410 hb
 replace BK411 := bK_ BK411 hb
 replace HB := bS_ HB hb
 (try clear hb ho0)
 obtain ⟨Ao9, co9, eo9⟩ := Kd.R_slice HO414.out
 (first | subst eo9 | (injection eo9 with f1_ f2_ f3_; have f4_ := f1_.symm; have f5_ := f3_.symm; clear f1_ f2_ f3_; subst f4_; subst f5_))
 obtain ⟨Ao11, co11, eo11⟩ := Kd.R_slice HO417.out
 (first | subst eo11 | (injection eo11 with f1_ f2_ f3_; have f4_ := f1_.symm; have f5_ := f3_.symm; clear f1_ f2_ f3_; subst f4_; subst f5_))
 refine hK.out _ _ (cz8 BK410.out) (fun hHeld => ?_)
 clear hK K
 refine nm_ (some 8) ?_
 refine last_ (i := 7) (N := none) #[ii,ii,ii,ii,ii,ii,ii,ii,oo,oo] rfl rfl (one_of HT_.out (by kernel_rfl)) (by decide) (fun K hK => ?_)
 have hs10 : w8.cell? ⟨gb410, 4, none⟩ = some (.slice A0_4 l0_4.length c0_4) := (blk_cell BK410.out 4).trans rfl
 have hfs10 := blk_frozen BK410.out 4
 have hns10_1 := NB411_410.out
 have hms10_1 := NB410_411.out
 refine skip_ (w1 := ?_) (by rfl) rfl ?_ ?_
 rotate_left
 ·
  go_simp
  rfl
 refine hK.out _ _ ?_
 clear hK K
 refine pq_ 8 10 HT_ #[ii,ii,ii,ii,ii,ii,ii,ii,ii,oo] ?_
 refine last_ (i := 9) (N := none) #[ii,ii,ii,ii,ii,ii,ii,ii,ii,ii] rfl rfl (one_of HT_.out (by kernel_rfl)) (by decide) (fun K hK => ?_)
 have hs12 : w8.cell? ⟨gb410, 5, none⟩ = some (.slice A0_5 l0_5.length c0_5) := (blk_cell BK410.out 5).trans rfl
 have hfs12 := blk_frozen BK410.out 5
 have hns12_1 := NB411_410.out
 have hms12_1 := NB410_411.out
 refine skip_ (w1 := ?_) (by rfl) rfl ?_ ?_
 rotate_left
 ·
  go_simp
  rfl
 refine hK.out _ _ ?_
 clear hK K
 refine done_ (done_of HT_.out (by kernel_rfl)) ?_
 have hnb13 := NB410_411.out
 have hnc13 := NB411_410.out
 (try clear zK410)
 have zK410 := cz8 BK410.out
 (try clear fK410)
 have fK410 := fz8 BK410.out
 (try clear zK411)
 have zK411 := cz8 BK411.out
 (try clear fK411)
 have fK411 := fz8 BK411.out
 try go_wp2
 refine bodyPost_ret (results_cell_row rfl _ _ gb411 41 #[.int .i64 a0_0, .int .i64 a0_1, .int .i64 a0_2, .bool a0_3, .slice Ao9 t412.length co9, .slice Ao11 t415.length co11, .int .i64 a0_6, .int .i64 a0_7] (0, 0) _ rfl (by exact blk_all8 (blk_far1 (blk_far1 (qK BK411) NB411_410.out) NB411_410.out)) Try.underlying41 rfl (by kernel_rfl)) rfl ?_
 exact ⟨_, _, er_, by (with_reducible repeat (first | apply Kd.R_alloc | apply Kd.R_drewN | apply Kd.R_drew)); exact Kd.R_mono (R_far8 (g := gb411) (R_far2 (g := gb410) (Kd.R_types (Kd.R_types HO414.out BK410.out (by decide)) BK411.out (by decide)) (fun _ hk => hk.1.2)) (fun _ hk => hk.2)) (fun _ hk => hk.1.1.2), by (with_reducible repeat (first | apply Kd.R_alloc | apply Kd.R_drewN | apply Kd.R_drew)); exact Kd.R_mono (R_far8 (g := gb411) (R_far2 (g := gb410) (Kd.R_types (Kd.R_types HO417.out BK410.out (by decide)) BK411.out (by decide)) (fun _ hk => hk.1.2)) (fun _ hk => hk.2)) (fun _ hk => hk.1.1.2), qB HB⟩

/-! ### impl_Hear: function 22 -/
def impl_Hear.f (k : Nat) (a0_0 : Int) (a0_1 : Int) (a0_2 : Int) (a0_3 : Bool) (l0_4 : List Int) (l0_5 : List Int) (a0_6 : Int) (a0_7 : Int) (l1 : List Int) : Option (Int × Int × Int × Bool × List Int × List Int × Int × Int × Bool) := (impl_sockCopy.f a0_0 a0_1 a0_2 a0_3 l0_4 l0_5 a0_6 a0_7).bind fun bt420 => ((impl_SockOk.f k a0_0 a0_1 a0_2 a0_3 l0_4 l0_5 a0_6 a0_7).bind fun t433 => (if t433 = true then (if a0_3 = true then (some (bt420.1, bt420.2.1, bt420.2.2.1, bt420.2.2.2.1, bt420.2.2.2.2.1, bt420.2.2.2.2.2.1, bt420.2.2.2.2.2.2.1, bt420.2.2.2.2.2.2.2, false)) else (if (wrap64 ((l0_4.length : Int) + (l1.length : Int))) > 240 then (some (bt420.1, bt420.2.1, bt420.2.2.1, bt420.2.2.2.1, bt420.2.2.2.2.1, bt420.2.2.2.2.2.1, bt420.2.2.2.2.2.2.1, bt420.2.2.2.2.2.2.2, false)) else (if bt420.2.2.2.2.1.length + l1.length < 140737488355328 then (some (bt420.1, bt420.2.1, bt420.2.2.1, bt420.2.2.2.1, (bt420.2.2.2.2.1 ++ l1), bt420.2.2.2.2.2.1, bt420.2.2.2.2.2.2.1, bt420.2.2.2.2.2.2.2, true)) else (none)))) else (some (bt420.1, bt420.2.1, bt420.2.2.1, bt420.2.2.2.1, bt420.2.2.2.2.1, bt420.2.2.2.2.2.1, bt420.2.2.2.2.2.2.1, bt420.2.2.2.2.2.2.2, false))))
theorem impl_Hear.mono : ∀ a0 a1 a2 a3 a4 a5 a6 a7 a8 k, LeO (impl_Hear.f k a0 a1 a2 a3 a4 a5 a6 a7 a8) (impl_Hear.f (k + 1) a0 a1 a2 a3 a4 a5 a6 a7 a8) := by
 intro a0 a1 a2 a3 a4 a5 a6 a7 a8 k
 unfold impl_Hear.f
 have m0 := @impl_SockOk.mono; exact mo_
set_option maxHeartbeats 8000000 in
set_option maxRecDepth 100000 in
theorem impl_Hear.calls (k : Nat) (a0_0 : Int) (a0_1 : Int) (a0_2 : Int) (a0_3 : Bool) (A0_4 : Option Addr) (c0_4 : Nat) (l0_4 : List Int) (A0_5 : Option Addr) (c0_5 : Nat) (l0_5 : List Int) (a0_6 : Int) (a0_7 : Int) (A1 : Option Addr) (c1 : Nat) (l1 : List Int) (r1 : Int) (r2 : Int) (r3 : Int) (r4 : Bool) (r5 : List Int) (r6 : List Int) (r7 : Int) (r8 : Int) (r9 : Bool) (w : World) (hr0_4 : Kd.C (Kd.int .u8) w A0_4 l0_4.length l0_4) (hc0_4 : l0_4.length ≤ c0_4) (hr0_5 : Kd.C (Kd.int .u8) w A0_5 l0_5.length l0_5) (hc0_5 : l0_5.length ≤ c0_5) (hr1 : Kd.C (Kd.int .u8) w A1 l1.length l1) (hc1 : l1.length ≤ c1) (h : impl_Hear.f k a0_0 a0_1 a0_2 a0_3 l0_4 l0_5 a0_6 a0_7 l1 = some (r1, r2, r3, r4, r5, r6, r7, r8, r9)) :
  Calls Try.prog 22 #[.agg #[.int .i64 a0_0, .int .i64 a0_1, .int .i64 a0_2, .bool a0_3, .slice A0_4 l0_4.length c0_4, .slice A0_5 l0_5.length c0_5, .int .i64 a0_6, .int .i64 a0_7], .slice A1 l1.length c1] w fun e w' => ∃ v4_ v5_ : Value, e = .returned (.tuple #[.agg #[.int .i64 r1, .int .i64 r2, .int .i64 r3, .bool r4, v4_, v5_, .int .i64 r7, .int .i64 r8], .bool r9]) ∧ Kd.R (Kd.int .u8) 5 w' w.heap.size (fun k_ => nv v5_ k_) v4_ r5 ∧ Kd.R (Kd.int .u8) 5 w' w.heap.size (fun k_ => nv v4_ k_) v5_ r6 ∧ Below w.heap.size w w' := by
 have hu41 := Try.underlying41
 have HR0_4 := Aside0.mk hr0_4
 have HC0_4 := Aside0.mk hc0_4
 clear hr0_4 hc0_4
 have HR0_5 := Aside0.mk hr0_5
 have HC0_5 := Aside0.mk hc0_5
 clear hr0_5 hc0_5
 have HR1 := Aside0.mk hr1
 have HC1 := Aside0.mk hc1
 clear hr1 hc1
 have HB := Aside0.mk (Below.refl w.heap.size w)
 have H := h
 unfold impl_Hear.f at H
 clear h
 replace H := bf_ H
 obtain ⟨f_, hf_, ⟨t420, t421, t422, t423, t424, t427, t430, t431⟩, A3, H⟩ := H
 subst hf_
 (try dsimp only at H)
 have HC4 := Aside0.mk H
 clear H
 go_enter Try.func22, Try.ntmps22
 go_upto_region 2 with (first | ((with_reducible refine gate_dst (N := 2) rfl ?_); (try (refine gate_guard (by rfl) ?_; dsimp only)); refine bx_ (N := 2) (cs := #[.int .i64 a0_0, .int .i64 a0_1, .int .i64 a0_2, .bool a0_3, .slice A0_4 l0_4.length c0_4, .slice A0_5 l0_5.length c0_5, .int .i64 a0_6, .int .i64 a0_7]) (t := 41) ?_; intro gb418 hg w5 hbox hb; have BK418 := am_ (hbox); have GW418 := gA_ hg HB; have GE418 := GW418; have IGE418 := gI_ GE418; replace HB := bS_ HB hb; clear hb hbox hg) | ((with_reducible refine gate_dst (N := 4) rfl ?_); (try (refine gate_guard (by rfl) ?_; dsimp only)); refine bx_ (N := 4) (cs := #[.int .i64 0, .int .i64 0, .int .i64 0, .bool false, .slice none 0 0, .slice none 0 0, .int .i64 0, .int .i64 0]) (t := 41) ?_; intro gb419 hg w6 hbox hb; have BK419 := am_ (hbox); have GW419 := gA_ hg HB; have GE419 := GW419; have IGE419 := gI_ GE419; replace HB := bS_ HB hb; have NB418_419 := am_ ((gN_ hg (qK BK418))); have NB419_418 := am_ ((gM_ hg (qK BK418))); replace BK418 := bK_ BK418 hb; clear hb hbox hg; have hnb7 := NB418_419.out; have hnc7 := NB419_418.out; (try clear zK418); have zK418 := cz8 BK418.out; (try clear fK418); have fK418 := fz8 BK418.out) | ((with_reducible refine gate_callee (f := 92) rfl ?_); refine gl_ (some 8) Try.func92 #[.agg #[.int .i64 a0_0, .int .i64 a0_1, .int .i64 a0_2, .bool a0_3, .slice A0_4 l0_4.length c0_4, .slice A0_5 l0_5.length c0_5, .int .i64 a0_6, .int .i64 a0_7]] ?_; (with_reducible refine (impl_sockCopy.calls a0_0 a0_1 a0_2 a0_3 _ _ l0_4 _ _ l0_5 a0_6 a0_7 t420 t421 t422 t423 t424 t427 t430 t431 _ ?side1 ?side2 ?side3 ?side4 A3.out).mono ?_); (case side1 => exact qC (Kd.C_below HR0_4.out HB.out)); (case side2 => exact HC0_4.out); (case side3 => exact qC (Kd.C_below HR0_5.out HB.out)); (case side4 => exact HC0_5.out); rintro e w9 ⟨v425, v428, rfl, ho0, ho1, hb⟩; refine ⟨_, rfl, ?_⟩; have HO426 := am_ (Kd.R_lower ho0 (below_size (qB HB))); have HO429 := am_ (Kd.R_lower ho1 (below_size (qB HB))); replace BK418 := bK_ BK418 hb; replace BK419 := bK_ BK419 hb; replace HB := bS_ HB hb; (try clear hb); (try clear ho0); (try clear ho1)) | ((with_reducible refine gate_dst (N := 6) rfl ?_); (try (refine gate_guard (by rfl) ?_; dsimp only)); refine bx_ (N := 6) (cs := #[.int .i64 0, .int .i64 0, .int .i64 0, .bool false, .slice none 0 0, .slice none 0 0, .int .i64 0, .int .i64 0]) (t := 41) ?_; intro gb432 hg w10 hbox hb; replace HO426 := rB_ HO426 hb; replace HO429 := rB_ HO429 hb; have BK432 := am_ (hbox); have GW432 := gA_ hg HB; have GE432 := GW432; have IGE432 := gI_ GE432; replace HB := bS_ HB hb; have NB418_432 := am_ ((gN_ hg (qK BK418))); have NB432_418 := am_ ((gM_ hg (qK BK418))); replace BK418 := bK_ BK418 hb; have NB419_432 := am_ ((gN_ hg (qK BK419))); have NB432_419 := am_ ((gM_ hg (qK BK419))); replace BK419 := bK_ BK419 hb; clear hb hbox hg; have hnb11 := NB432_418.out; have hnc11 := NB418_432.out; have hnb12 := NB432_419.out; have hnc12 := NB419_432.out; (try clear zK432); have zK432 := cz8 BK432.out; (try clear fK432); have fK432 := fz8 BK432.out; obtain ⟨Ao14, co14, eo14⟩ := Kd.R_slice HO426.out; subst eo14; obtain ⟨Ao15, co15, eo15⟩ := Kd.R_slice HO429.out; subst eo15))
 (try simp only [Act.put, List.setIfInBounds_toArray, List.set_cons_zero, List.set_cons_succ])
 have n0_ : Aside0 (Kd.R (Kd.int .u8) 5 ((((((((w10.setCell ⟨gb432, 0, none⟩ (.int .i64 t420)).setCell ⟨gb432, 1, none⟩ (.int .i64 t421)).setCell ⟨gb432, 2, none⟩ (.int .i64 t422)).setCell ⟨gb432, 3, none⟩ (.bool t423)).setCell ⟨gb432, 4, none⟩ (.slice Ao14 t424.length co14)).setCell ⟨gb432, 5, none⟩ (.slice Ao15 t427.length co15)).setCell ⟨gb432, 6, none⟩ (.int .i64 t430)).setCell ⟨gb432, 7, none⟩ (.int .i64 t431)) w.heap.size (fun k_ => nb Ao15 t427.length co15 k_) (.slice Ao14 t424.length co14) t424) := fR3_ HO426 BK432
 have n1_ : Aside0 (Kd.R (Kd.int .u8) 5 ((((((((w10.setCell ⟨gb432, 0, none⟩ (.int .i64 t420)).setCell ⟨gb432, 1, none⟩ (.int .i64 t421)).setCell ⟨gb432, 2, none⟩ (.int .i64 t422)).setCell ⟨gb432, 3, none⟩ (.bool t423)).setCell ⟨gb432, 4, none⟩ (.slice Ao14 t424.length co14)).setCell ⟨gb432, 5, none⟩ (.slice Ao15 t427.length co15)).setCell ⟨gb432, 6, none⟩ (.int .i64 t430)).setCell ⟨gb432, 7, none⟩ (.int .i64 t431)) w.heap.size (fun k_ => nb Ao14 t424.length co14 k_) (.slice Ao15 t427.length co15) t427) := fR3_ HO429 BK432
 have n2_ : Aside0 (((((((((w10.setCell ⟨gb432, 0, none⟩ (.int .i64 t420)).setCell ⟨gb432, 1, none⟩ (.int .i64 t421)).setCell ⟨gb432, 2, none⟩ (.int .i64 t422)).setCell ⟨gb432, 3, none⟩ (.bool t423)).setCell ⟨gb432, 4, none⟩ (.slice Ao14 t424.length co14)).setCell ⟨gb432, 5, none⟩ (.slice Ao15 t427.length co15)).setCell ⟨gb432, 6, none⟩ (.int .i64 t430)).setCell ⟨gb432, 7, none⟩ (.int .i64 t431)).heap[gb418]? = some (.cells #[.int .i64 a0_0, .int .i64 a0_1, .int .i64 a0_2, .bool a0_3, .slice A0_4 l0_4.length c0_4, .slice A0_5 l0_5.length c0_5, .int .i64 a0_6, .int .i64 a0_7] 41 (0, 0))) := ⟨by (with_reducible repeat (first | refine blk_drewN ?_ _ | refine blk_drew ?_ | refine blk_alloc ?_ _)); refine blk_far8 ?_ NB418_432.out; exact qK BK418⟩
 have n3_ : Aside0 (((((((((w10.setCell ⟨gb432, 0, none⟩ (.int .i64 t420)).setCell ⟨gb432, 1, none⟩ (.int .i64 t421)).setCell ⟨gb432, 2, none⟩ (.int .i64 t422)).setCell ⟨gb432, 3, none⟩ (.bool t423)).setCell ⟨gb432, 4, none⟩ (.slice Ao14 t424.length co14)).setCell ⟨gb432, 5, none⟩ (.slice Ao15 t427.length co15)).setCell ⟨gb432, 6, none⟩ (.int .i64 t430)).setCell ⟨gb432, 7, none⟩ (.int .i64 t431)).heap[gb419]? = some (.cells #[.int .i64 0, .int .i64 0, .int .i64 0, .bool false, .slice none 0 0, .slice none 0 0, .int .i64 0, .int .i64 0] 41 (0, 0))) := ⟨by (with_reducible repeat (first | refine blk_drewN ?_ _ | refine blk_drew ?_ | refine blk_alloc ?_ _)); refine blk_far8 ?_ NB419_432.out; exact qK BK419⟩
 have n4_ : Aside0 (((((((((w10.setCell ⟨gb432, 0, none⟩ (.int .i64 t420)).setCell ⟨gb432, 1, none⟩ (.int .i64 t421)).setCell ⟨gb432, 2, none⟩ (.int .i64 t422)).setCell ⟨gb432, 3, none⟩ (.bool t423)).setCell ⟨gb432, 4, none⟩ (.slice Ao14 t424.length co14)).setCell ⟨gb432, 5, none⟩ (.slice Ao15 t427.length co15)).setCell ⟨gb432, 6, none⟩ (.int .i64 t430)).setCell ⟨gb432, 7, none⟩ (.int .i64 t431)).heap[gb432]? = some (.cells #[.int .i64 t420, .int .i64 t421, .int .i64 t422, .bool t423, .slice Ao14 t424.length co14, .slice Ao15 t427.length co15, .int .i64 t430, .int .i64 t431] 41 (0, 0))) := ⟨by (with_reducible repeat (first | refine blk_drewN ?_ _ | refine blk_drew ?_ | refine blk_alloc ?_ _)); refine blk_all8 (show _ = some (Go.Obj.cells #[.int .i64 0, .int .i64 0, .int .i64 0, .bool false, .slice none 0 0, .slice none 0 0, .int .i64 0, .int .i64 0] _ (0, 0)) from ?_); exact qK BK432⟩
 have n5_ : Aside0 (Below w.heap.size w ((((((((w10.setCell ⟨gb432, 0, none⟩ (.int .i64 t420)).setCell ⟨gb432, 1, none⟩ (.int .i64 t421)).setCell ⟨gb432, 2, none⟩ (.int .i64 t422)).setCell ⟨gb432, 3, none⟩ (.bool t423)).setCell ⟨gb432, 4, none⟩ (.slice Ao14 t424.length co14)).setCell ⟨gb432, 5, none⟩ (.slice Ao15 t427.length co15)).setCell ⟨gb432, 6, none⟩ (.int .i64 t430)).setCell ⟨gb432, 7, none⟩ (.int .i64 t431))) := ⟨qB HB⟩
 (try clear HO426)
 (try clear HO429)
 (try clear BK418)
 (try clear BK419)
 (try clear BK432)
 (try clear HB)
 generalize ((((((((w10.setCell ⟨gb432, 0, none⟩ (.int .i64 t420)).setCell ⟨gb432, 1, none⟩ (.int .i64 t421)).setCell ⟨gb432, 2, none⟩ (.int .i64 t422)).setCell ⟨gb432, 3, none⟩ (.bool t423)).setCell ⟨gb432, 4, none⟩ (.slice Ao14 t424.length co14)).setCell ⟨gb432, 5, none⟩ (.slice Ao15 t427.length co15)).setCell ⟨gb432, 6, none⟩ (.int .i64 t430)).setCell ⟨gb432, 7, none⟩ (.int .i64 t431)) = w16 at n0_ n1_ n2_ n3_ n4_ n5_ ⊢
 have HO426 := n0_
 have HO429 := n1_
 have BK418 := n2_
 have BK419 := n3_
 have BK432 := n4_
 have HB := n5_
 clear n0_ n1_ n2_ n3_ n4_ n5_
 have H := HC4.out
 clear HC4
 replace H := bd_ H
 obtain ⟨t433, A17, H⟩ := H
 by_cases c18 : t433 = true
 rotate_left
 ·
  replace c18 := Bool.eq_false_iff.mpr c18
  subst c18
  rw [if_neg (show ¬ (false = true) by decide)] at H
  simp only [Option.some.injEq, Prod.mk.injEq] at H
  obtain ⟨rfl, rfl, rfl, rfl, rfl, rfl, rfl, rfl, rfl⟩ := H
  have hnb49 := NB418_419.out
  have hnc49 := NB419_418.out
  have hnb50 := NB418_432.out
  have hnc50 := NB432_418.out
  (try clear zK418)
  have zK418 := cz8 BK418.out
  go_wp2_with (first | ((with_reducible refine gate_callee (f := 30) rfl ?_); refine gl_ (some 10) Try.func30 #[.agg #[.int .i64 a0_0, .int .i64 a0_1, .int .i64 a0_2, .bool a0_3, .slice A0_4 l0_4.length c0_4, .slice A0_5 l0_5.length c0_5, .int .i64 a0_6, .int .i64 a0_7]] ?_; (with_reducible refine (impl_SockOk.calls k a0_0 a0_1 a0_2 a0_3 _ _ l0_4 _ _ l0_5 a0_6 a0_7 false _ ?side1 ?side2 ?side3 ?side4 A17.out).mono ?_); (case side1 => exact qC (Kd.C_below HR0_4.out HB.out)); (case side2 => exact HC0_4.out); (case side3 => exact qC (Kd.C_below HR0_5.out HB.out)); (case side4 => exact HC0_5.out); rintro e w52 ⟨rfl, hb⟩; refine ⟨_, rfl, ?_⟩; replace HO426 := rB_ HO426 hb; replace HO429 := rB_ HO429 hb; replace BK418 := bK_ BK418 hb; replace BK419 := bK_ BK419 hb; replace BK432 := bK_ BK432 hb; replace HB := bS_ HB hb; (try clear hb); have hnb53 := NB432_419.out; have hnc53 := NB419_432.out; (try clear zK432); have zK432 := cz8 BK432.out; (try clear fK432); have fK432 := fz8 BK432.out; (try clear zK419); have zK419 := cz8 BK419.out; (try clear fK419); have fK419 := fz8 BK419.out))
  refine bodyPost_ret (results_ct rfl _ _ gb419 41 #[.int .i64 t420, .int .i64 t421, .int .i64 t422, .bool t423, .slice Ao14 t424.length co14, .slice Ao15 t427.length co15, .int .i64 t430, .int .i64 t431] (0, 0) _ rfl (by exact blk_all8 (qK BK419)) Try.underlying41 rfl (by kernel_rfl)) rfl ?_
  exact ⟨_, _, er_, (fR2_ HO426 BK419), (fR2_ HO429 BK419), qB HB⟩
 subst c18
 rw [if_pos rfl] at H
 by_cases c19 : a0_3 = true
 ·
  subst c19
  rw [if_pos rfl] at H
  simp only [Option.some.injEq, Prod.mk.injEq] at H
  obtain ⟨rfl, rfl, rfl, rfl, rfl, rfl, rfl, rfl, rfl⟩ := H
  have hnb20 := NB418_419.out
  have hnc20 := NB419_418.out
  have hnb21 := NB418_432.out
  have hnc21 := NB432_418.out
  (try clear zK418)
  have zK418 := cz8 BK418.out
  go_wp2_with (first | ((with_reducible refine gate_callee (f := 30) rfl ?_); refine gl_ (some 10) Try.func30 #[.agg #[.int .i64 a0_0, .int .i64 a0_1, .int .i64 a0_2, .bool true, .slice A0_4 l0_4.length c0_4, .slice A0_5 l0_5.length c0_5, .int .i64 a0_6, .int .i64 a0_7]] ?_; (with_reducible refine (impl_SockOk.calls k a0_0 a0_1 a0_2 true _ _ l0_4 _ _ l0_5 a0_6 a0_7 true _ ?side1 ?side2 ?side3 ?side4 A17.out).mono ?_); (case side1 => exact qC (Kd.C_below HR0_4.out HB.out)); (case side2 => exact HC0_4.out); (case side3 => exact qC (Kd.C_below HR0_5.out HB.out)); (case side4 => exact HC0_5.out); rintro e w23 ⟨rfl, hb⟩; refine ⟨_, rfl, ?_⟩; replace HO426 := rB_ HO426 hb; replace HO429 := rB_ HO429 hb; replace BK418 := bK_ BK418 hb; replace BK419 := bK_ BK419 hb; replace BK432 := bK_ BK432 hb; replace HB := bS_ HB hb; (try clear hb); (try clear zK418); have zK418 := cz8 BK418.out; have hnb25 := NB432_419.out; have hnc25 := NB419_432.out; (try clear zK432); have zK432 := cz8 BK432.out; (try clear fK432); have fK432 := fz8 BK432.out; (try clear zK419); have zK419 := cz8 BK419.out; (try clear fK419); have fK419 := fz8 BK419.out))
  refine bodyPost_ret (results_ct rfl _ _ gb419 41 #[.int .i64 t420, .int .i64 t421, .int .i64 t422, .bool t423, .slice Ao14 t424.length co14, .slice Ao15 t427.length co15, .int .i64 t430, .int .i64 t431] (0, 0) _ rfl (by exact blk_all8 (qK BK419)) Try.underlying41 rfl (by kernel_rfl)) rfl ?_
  exact ⟨_, _, er_, (fR2_ HO426 BK419), (fR2_ HO429 BK419), qB HB⟩
 replace c19 := Bool.eq_false_iff.mpr c19
 subst c19
 rw [if_neg (show ¬ (false = true) by decide)] at H
 have HC28 := Aside0.mk H
 clear H
 have hnb29 := NB418_419.out
 have hnc29 := NB419_418.out
 have hnb30 := NB418_432.out
 have hnc30 := NB432_418.out
 (try clear zK418)
 have zK418 := cz8 BK418.out
 go_upto_if 24 with (first | ((with_reducible refine gate_callee (f := 30) rfl ?_); refine gl_ (some 10) Try.func30 #[.agg #[.int .i64 a0_0, .int .i64 a0_1, .int .i64 a0_2, .bool false, .slice A0_4 l0_4.length c0_4, .slice A0_5 l0_5.length c0_5, .int .i64 a0_6, .int .i64 a0_7]] ?_; (with_reducible refine (impl_SockOk.calls k a0_0 a0_1 a0_2 false _ _ l0_4 _ _ l0_5 a0_6 a0_7 true _ ?side1 ?side2 ?side3 ?side4 A17.out).mono ?_); (case side1 => exact qC (Kd.C_below HR0_4.out HB.out)); (case side2 => exact HC0_4.out); (case side3 => exact qC (Kd.C_below HR0_5.out HB.out)); (case side4 => exact HC0_5.out); rintro e w32 ⟨rfl, hb⟩; refine ⟨_, rfl, ?_⟩; replace HO426 := rB_ HO426 hb; replace HO429 := rB_ HO429 hb; replace BK418 := bK_ BK418 hb; replace BK419 := bK_ BK419 hb; replace BK432 := bK_ BK432 hb; replace HB := bS_ HB hb; (try clear hb); (try clear zK418); have zK418 := cz8 BK418.out))
 (try simp only [Act.put, List.setIfInBounds_toArray, List.set_cons_zero, List.set_cons_succ])
 have H := HC28.out
 clear HC28
 by_cases c34 : (wrap64 ((l0_4.length : Int) + (l1.length : Int))) > 240
 ·
  rw [if_pos c34] at H
  have c34b0 : decide (240 < (wrap64 ((l0_4.length : Int) + (l1.length : Int)))) = true := decide_eq_true c34
  clear c34
  (first | rw [c34b0] | (simp only [i64_w, i32_w]; rw [c34b0]) | skip)
  simp only [Option.some.injEq, Prod.mk.injEq] at H
  obtain ⟨rfl, rfl, rfl, rfl, rfl, rfl, rfl, rfl, rfl⟩ := H
  have hnb35 := NB432_418.out
  have hnc35 := NB418_432.out
  have hnb36 := NB432_419.out
  have hnc36 := NB419_432.out
  (try clear zK432)
  have zK432 := cz8 BK432.out
  (try clear fK432)
  have fK432 := fz8 BK432.out
  have hnb38 := NB419_418.out
  have hnc38 := NB418_419.out
  (try clear zK419)
  have zK419 := cz8 BK419.out
  (try clear fK419)
  have fK419 := fz8 BK419.out
  go_wp2
  refine bodyPost_ret (results_ct rfl _ _ gb419 41 #[.int .i64 t420, .int .i64 t421, .int .i64 t422, .bool t423, .slice Ao14 t424.length co14, .slice Ao15 t427.length co15, .int .i64 t430, .int .i64 t431] (0, 0) _ rfl (by exact blk_all8 (qK BK419)) Try.underlying41 rfl (by kernel_rfl)) rfl ?_
  exact ⟨_, _, er_, (fR2_ HO426 BK419), (fR2_ HO429 BK419), qB HB⟩
 rw [if_neg c34] at H
 have c34b0 : decide (240 < (wrap64 ((l0_4.length : Int) + (l1.length : Int)))) = false := decide_eq_false c34
 clear c34
 (first | rw [c34b0] | (simp only [i64_w, i32_w]; rw [c34b0]) | skip)
 by_cases c40 : t424.length + l1.length < 140737488355328
 case neg => exact nn_ c40 H
 rw [if_pos c40] at H
 have LMc40 := Aside0.mk c40
 clear c40
 obtain ⟨y434, hy434⟩ : ∃ y_ : List Int, y_ = (t424 ++ l1) := ⟨_, rfl⟩
 replace H : (some (t420, t421, t422, t423, y434, t427, t430, t431, true)) = some (r1, r2, r3, r4, r5, r6, r7, r8, r9) := by first | (rw [hy434]; with_reducible exact H) | (have H2_ := (Option.bind_some _ _).symm.trans H; rw [hy434]; with_reducible exact H2_) | (have H2_ := (Option.bind_some _ _).symm.trans H; with_reducible exact H2_) | with_reducible exact H | (rw [hy434]; exact H) | exact H
 have Ny434 := Aside0.mk hy434
 clear hy434
 simp only [Option.some.injEq, Prod.mk.injEq] at H
 obtain ⟨rfl, rfl, rfl, rfl, rfl, rfl, rfl, rfl, rfl⟩ := H
 have hnb41 := NB432_418.out
 have hnc41 := NB418_432.out
 have hnb42 := NB432_419.out
 have hnc42 := NB419_432.out
 (try clear zK432)
 have zK432 := cz8 BK432.out
 (try clear fK432)
 have fK432 := fz8 BK432.out
 go_wp2_with (first | ((with_reducible refine gate_builtin (b := .append) (xs := #[.tmp 27, .tmp 28]) rfl ?_); (try (refine gate_guard (by rfl) ?_; dsimp only)); at_builtin; refine Kd.R_append_rows (Kd.int .u8) (w0 := w) w.heap.size rfl (.tmp 27) (.tmp 28) 22 5 (.int .u8 0) 1 rfl Try.underlying22 info5 rfl (by decide) (by omega) (.slice Ao14 t424.length co14) t424 l1 _ _ _ (fun k_ => nb Ao15 t427.length co15 k_) (fun _ => False) rfl rfl ?aO ?aR (fun _ _ h => h) (fun _ h => h.elim) ?aF ?aB ?aS ?aL ?_; (case aR => exact qC (Kd.C_below HR1.out HB.out)); (case aB => exact (qB HB)); (case aF => exact (fun k_ hk => Kd.fresh' (Kd.R_lt (qR HO429)) k_ hk)); (case aO => exact (qR HO426)); (case aS => exact (below_size (qB HB))); (case aL => have := LMc40.out; omega); intro v435 w44 ho hb hg hat; rw [← Ny434.out] at ho; replace BK418 := kG_ BK418 HO426 hg; replace BK419 := kG_ BK419 HO426 hg; replace HO429 := am_ (Kd.R_after (ok := (fun _ => True)) (tR (Kd.R_mono HO429.out (fun _ hk => ⟨trivial, hk⟩))) hg hat); replace BK432 := kG_ BK432 HO426 hg; replace HB := am_ (hb); have HO436 := am_ (ho); clear HO426; clear ho hb hg hat; obtain ⟨Ao45, co45, eo45⟩ := Kd.R_slice HO436.out; subst eo45; (try clear zK432); have zK432 := cz8 BK432.out; (try clear fK432); have fK432 := fz8 BK432.out; have hnb47 := NB419_418.out; have hnc47 := NB418_419.out; (try clear zK419); have zK419 := cz8 BK419.out; (try clear fK419); have fK419 := fz8 BK419.out))
 refine bodyPost_ret (results_ct rfl _ _ gb419 41 #[.int .i64 t420, .int .i64 t421, .int .i64 t422, .bool t423, .slice Ao45 y434.length co45, .slice Ao15 t427.length co15, .int .i64 t430, .int .i64 t431] (0, 0) _ rfl (by exact blk_all8 (blk_far1 (qK BK419) NB419_432.out)) Try.underlying41 rfl (by kernel_rfl)) rfl ?_
 exact ⟨_, _, er_, by (with_reducible repeat (first | apply Kd.R_alloc | apply Kd.R_drewN | apply Kd.R_drew)); exact Kd.R_mono (R_far8 (g := gb419) (Kd.R_far (p := ⟨gb432, 4, none⟩) (Kd.R_types (Kd.R_types HO436.out BK432.out (by decide)) BK419.out (by decide)) (fun _ hk => hk.1.2) (.slice Ao45 y434.length co45)) (fun _ hk => hk.2)) (fun _ hk => hk.1.1), by (with_reducible repeat (first | apply Kd.R_alloc | apply Kd.R_drewN | apply Kd.R_drew)); exact Kd.R_mono (R_far8 (g := gb419) (Kd.R_far (p := ⟨gb432, 4, none⟩) (Kd.R_types (Kd.R_types HO429.out BK432.out (by decide)) BK419.out (by decide)) (fun _ hk => hk.1.2) (.slice Ao45 y434.length co45)) (fun _ hk => hk.2)) (fun _ hk => hk.1.1.2), qB HB⟩

/-! ### spec_SockOk: function 31 -/
def spec_SockOk.j0 : Nat → Bool → Int → Int → Int → Bool → List Int → List Int → Int → Int → Option (Bool)
 | 0, _, _, _, _, _, _, _, _, _ => none
 | k + 1, x24, x438000, x438001, x438002, x438003, x438004, x438005, x438006, x438007 => if x24 = true then (some false) else (if x438001 = 1 then (if x438006 = 0 then (some (x438007 == 0)) else (some false)) else ((spec_l1In.f x438006 0 2).bind fun t441 => (if t441 = true then ((spec_l1In.f x438007 0 (x438005.length : Int)).bind fun t442 => (some t442)) else (some false))))
def spec_SockOk.f (k : Nat) (a0_0 : Int) (a0_1 : Int) (a0_2 : Int) (a0_3 : Bool) (l0_4 : List Int) (l0_5 : List Int) (a0_6 : Int) (a0_7 : Int) : Option (Bool) := (spec_l1In.f a0_0 1 9999).bind fun t438 => (if t438 = true then ((spec_l1In.f a0_1 1 2).bind fun t439 => (if t439 = true then ((spec_l1In.f a0_2 1 3).bind fun t440 => (if t440 = true then (spec_SockOk.j0 k (decide ((l0_4.length : Int) > 240)) a0_0 a0_1 a0_2 a0_3 l0_4 l0_5 a0_6 a0_7) else (spec_SockOk.j0 k true a0_0 a0_1 a0_2 a0_3 l0_4 l0_5 a0_6 a0_7))) else (spec_SockOk.j0 k true a0_0 a0_1 a0_2 a0_3 l0_4 l0_5 a0_6 a0_7))) else (spec_SockOk.j0 k true a0_0 a0_1 a0_2 a0_3 l0_4 l0_5 a0_6 a0_7))
theorem spec_SockOk.mono_l : ∀ k, (∀ y0 y1 y2 y3 y4 y5 y6 y7 y8, LeO (spec_SockOk.j0 k y0 y1 y2 y3 y4 y5 y6 y7 y8) (spec_SockOk.j0 (k + 1) y0 y1 y2 y3 y4 y5 y6 y7 y8))
 | 0 => fun _ _ _ _ _ _ _ _ _ r h => by simp [spec_SockOk.j0] at h
 | k + 1 => by
  have ih0 := spec_SockOk.mono_l k
  ·
   intro y0 y1 y2 y3 y4 y5 y6 y7 y8
   unfold spec_SockOk.j0
   exact mo_
theorem spec_SockOk.mono : ∀ a0 a1 a2 a3 a4 a5 a6 a7 k, LeO (spec_SockOk.f k a0 a1 a2 a3 a4 a5 a6 a7) (spec_SockOk.f (k + 1) a0 a1 a2 a3 a4 a5 a6 a7) := by
 intro a0 a1 a2 a3 a4 a5 a6 a7 k
 have ih0 := spec_SockOk.mono_l k
 unfold spec_SockOk.f
 exact mo_
set_option maxHeartbeats 8000000 in
set_option maxRecDepth 100000 in
theorem spec_SockOk.calls (k : Nat) (a0_0 : Int) (a0_1 : Int) (a0_2 : Int) (a0_3 : Bool) (A0_4 : Option Addr) (c0_4 : Nat) (l0_4 : List Int) (A0_5 : Option Addr) (c0_5 : Nat) (l0_5 : List Int) (a0_6 : Int) (a0_7 : Int) (r : Bool) (w : World) (hr0_4 : Kd.C (Kd.int .u8) w A0_4 l0_4.length l0_4) (hc0_4 : l0_4.length ≤ c0_4) (hr0_5 : Kd.C (Kd.int .u8) w A0_5 l0_5.length l0_5) (hc0_5 : l0_5.length ≤ c0_5) (h : spec_SockOk.f k a0_0 a0_1 a0_2 a0_3 l0_4 l0_5 a0_6 a0_7 = some r) :
  Calls Try.prog 31 #[.agg #[.int .i64 a0_0, .int .i64 a0_1, .int .i64 a0_2, .bool a0_3, .slice A0_4 l0_4.length c0_4, .slice A0_5 l0_5.length c0_5, .int .i64 a0_6, .int .i64 a0_7]] w fun e w' => e = .returned (.bool r) ∧ Below w.heap.size w w' := by
 have hu41 := Try.underlying41
 have HR0_4 := Aside0.mk hr0_4
 have HC0_4 := Aside0.mk hc0_4
 clear hr0_4 hc0_4
 have HR0_5 := Aside0.mk hr0_5
 have HC0_5 := Aside0.mk hc0_5
 clear hr0_5 hc0_5
 have HB := Aside0.mk (Below.refl w.heap.size w)
 have H := h
 unfold spec_SockOk.f at H
 clear h
 have HC2 := Aside0.mk H
 clear H
 go_enter Try.func31, Try.ntmps31
 go_upto_region 1 with (first | ((with_reducible refine gate_dst (N := 1) rfl ?_); (try (refine gate_guard (by rfl) ?_; dsimp only)); refine bx_ (N := 1) (cs := #[.int .i64 a0_0, .int .i64 a0_1, .int .i64 a0_2, .bool a0_3, .slice A0_4 l0_4.length c0_4, .slice A0_5 l0_5.length c0_5, .int .i64 a0_6, .int .i64 a0_7]) (t := 41) ?_; intro gb437 hg w3 hbox hb; have BK437 := am_ (hbox); have GW437 := gA_ hg HB; have GE437 := GW437; have IGE437 := gI_ GE437; replace HB := bS_ HB hb; clear hb hbox hg))
 (try simp only [Act.put, List.setIfInBounds_toArray, List.set_cons_zero, List.set_cons_succ])
 go_cut [24] (fun v24 wc => ∃ (kq : Nat) (x24_1 : Bool), v24 = .bool x24_1 ∧ Aside0 (spec_SockOk.j0 kq x24_1 a0_0 a0_1 a0_2 a0_3 l0_4 l0_5 a0_6 a0_7 = some r) ∧ Aside0 (kq ≤ k) ∧ Aside0 (wc.heap[gb437]? = some (.cells #[.int .i64 a0_0, .int .i64 a0_1, .int .i64 a0_2, .bool a0_3, (.slice A0_4 l0_4.length c0_4), (.slice A0_5 l0_5.length c0_5), .int .i64 a0_6, .int .i64 a0_7] 41 (0, 0))) ∧ Aside0 (Below w.heap.size w wc))
 case first =>
  have H := HC2.out
  clear HC2
  replace H := bd_ H
  obtain ⟨t438, A4, H⟩ := H
  by_cases c5 : t438 = true
  rotate_left
  ·
   replace c5 := Bool.eq_false_iff.mpr c5
   subst c5
   rw [if_neg (show ¬ (false = true) by decide)] at H
   have H' := Aside0.mk H
   clear H
   (try clear zK437)
   have zK437 := cz8 BK437.out
   go_wp2_with (first | ((with_reducible refine gate_callee (f := 83) rfl ?_); refine gl_ (some 5) Try.func83 #[.int .i64 a0_0, .int .i64 1, .int .i64 9999] ?_; (with_reducible refine (spec_l1In.calls a0_0 1 9999 false _ A4.out).mono ?_); rintro e w' ⟨rfl, ⟨nd, rfl⟩⟩; refine ⟨_, rfl, ?_⟩))
   go_meet
   case rel => exact ⟨_, (true), eqq_, H', ⟨by first | omega | exact Nat.le_refl _⟩, ⟨qK BK437⟩, ⟨qB HB⟩⟩
  subst c5
  rw [if_pos rfl] at H
  replace H := bd_ H
  obtain ⟨t439, A6, H⟩ := H
  by_cases c7 : t439 = true
  rotate_left
  ·
   replace c7 := Bool.eq_false_iff.mpr c7
   subst c7
   rw [if_neg (show ¬ (false = true) by decide)] at H
   have H' := Aside0.mk H
   clear H
   (try clear zK437)
   have zK437 := cz8 BK437.out
   go_wp2_with (first | ((with_reducible refine gate_callee (f := 83) rfl ?_); refine gl_ (some 5) Try.func83 #[.int .i64 a0_0, .int .i64 1, .int .i64 9999] ?_; (with_reducible refine (spec_l1In.calls a0_0 1 9999 true _ A4.out).mono ?_); rintro e w' ⟨rfl, ⟨nd, rfl⟩⟩; refine ⟨_, rfl, ?_⟩) | (go_at_call 83; (with_reducible refine (spec_l1In.calls a0_1 1 2 false _ A6.out).mono ?_); rintro e w' ⟨rfl, ⟨nd, rfl⟩⟩))
   go_meet
   case rel => exact ⟨_, (true), eqq_, H', ⟨by first | omega | exact Nat.le_refl _⟩, ⟨qK BK437⟩, ⟨qB HB⟩⟩
  subst c7
  rw [if_pos rfl] at H
  replace H := bd_ H
  obtain ⟨t440, A8, H⟩ := H
  by_cases c9 : t440 = true
  ·
   subst c9
   rw [if_pos rfl] at H
   have H' := Aside0.mk H
   clear H
   (try clear zK437)
   have zK437 := cz8 BK437.out
   go_wp2_with (first | ((with_reducible refine gate_callee (f := 83) rfl ?_); refine gl_ (some 5) Try.func83 #[.int .i64 a0_0, .int .i64 1, .int .i64 9999] ?_; (with_reducible refine (spec_l1In.calls a0_0 1 9999 true _ A4.out).mono ?_); rintro e w' ⟨rfl, ⟨nd, rfl⟩⟩; refine ⟨_, rfl, ?_⟩) | (go_at_call 83; (with_reducible refine (spec_l1In.calls a0_1 1 2 true _ A6.out).mono ?_); rintro e w' ⟨rfl, ⟨nd, rfl⟩⟩) | (go_at_call 83; (with_reducible refine (spec_l1In.calls a0_2 1 3 true _ A8.out).mono ?_); rintro e w' ⟨rfl, ⟨nd, rfl⟩⟩))
   go_meet
   case rel => exact ⟨_, (decide ((l0_4.length : Int) > 240)), eqq_, H', ⟨by first | omega | exact Nat.le_refl _⟩, ⟨qK BK437⟩, ⟨qB HB⟩⟩
  replace c9 := Bool.eq_false_iff.mpr c9
  subst c9
  rw [if_neg (show ¬ (false = true) by decide)] at H
  have H' := Aside0.mk H
  clear H
  (try clear zK437)
  have zK437 := cz8 BK437.out
  go_wp2_with (first | ((with_reducible refine gate_callee (f := 83) rfl ?_); refine gl_ (some 5) Try.func83 #[.int .i64 a0_0, .int .i64 1, .int .i64 9999] ?_; (with_reducible refine (spec_l1In.calls a0_0 1 9999 true _ A4.out).mono ?_); rintro e w' ⟨rfl, ⟨nd, rfl⟩⟩; refine ⟨_, rfl, ?_⟩) | (go_at_call 83; (with_reducible refine (spec_l1In.calls a0_1 1 2 true _ A6.out).mono ?_); rintro e w' ⟨rfl, ⟨nd, rfl⟩⟩) | (go_at_call 83; (with_reducible refine (spec_l1In.calls a0_2 1 3 false _ A8.out).mono ?_); rintro e w' ⟨rfl, ⟨nd, rfl⟩⟩))
  go_meet
  case rel => exact ⟨_, (true), eqq_, H', ⟨by first | omega | exact Nat.le_refl _⟩, ⟨qK BK437⟩, ⟨qB HB⟩⟩
 case rest =>
  clear HC2
  try clear p2
  try clear c3
  try clear c5
  try clear c7
  try clear c8
  try clear c9
  (try clear zK437)
  (try clear zK437)
  (try clear zK437)
  (try clear zK437)
  (try clear f10)
  (try clear f11)
  (try clear f12)
  (try clear f13)
  obtain ⟨kq, x24_1, rfl, HA, HJ1, BK437, HB⟩ := hcut
  cases kq with
  | zero => exact absurd HA.out (by simp [spec_SockOk.j0])
  | succ kj1 =>
   have H := HA.out
   clear HA
   simp only [spec_SockOk.j0] at H
   by_cases c14 : x24_1 = true
   ·
    subst c14
    rw [if_pos rfl] at H
    obtain rfl := Option.some.inj H
    go_wp2
    go_ret
    exact ⟨er_, qB HB⟩
   replace c14 := Bool.eq_false_iff.mpr c14
   subst c14
   rw [if_neg (show ¬ (false = true) by decide)] at H
   by_cases c15 : a0_1 = 1
   ·
    rw [if_pos c15] at H
    have c15b0 : (a0_1 == 1) = true := beq_iff_eq.mpr c15
    have c15b1 : (a0_1 != 1) = false := bne_eq_false_iff_eq.mpr c15
    clear c15
    by_cases c16 : a0_6 = 0
    rotate_left
    ·
     rw [if_neg c16] at H
     have c16b0 : (a0_6 == 0) = false := beq_eq_false_iff_ne.mpr c16
     have c16b1 : (a0_6 != 0) = true := bne_iff_ne.mpr c16
     obtain rfl := Option.some.inj H
     (try clear zK437)
     have zK437 := cz8 BK437.out
     go_wp2
     go_ret
     exact ⟨er_, qB HB⟩
    rw [if_pos c16] at H
    have c16b0 : (a0_6 == 0) = true := beq_iff_eq.mpr c16
    have c16b1 : (a0_6 != 0) = false := bne_eq_false_iff_eq.mpr c16
    clear c16
    obtain rfl := Option.some.inj H
    (try clear zK437)
    have zK437 := cz8 BK437.out
    go_wp2
    go_ret
    exact ⟨er_, qB HB⟩
   rw [if_neg c15] at H
   have c15b0 : (a0_1 == 1) = false := beq_eq_false_iff_ne.mpr c15
   have c15b1 : (a0_1 != 1) = true := bne_iff_ne.mpr c15
   replace H := bd_ H
   obtain ⟨t441, A19, H⟩ := H
   by_cases c20 : t441 = true
   rotate_left
   ·
    replace c20 := Bool.eq_false_iff.mpr c20
    subst c20
    rw [if_neg (show ¬ (false = true) by decide)] at H
    obtain rfl := Option.some.inj H
    (try clear zK437)
    have zK437 := cz8 BK437.out
    go_wp2_with (first | ((with_reducible refine gate_callee (f := 83) rfl ?_); refine gl_ (some 38) Try.func83 #[.int .i64 a0_6, .int .i64 0, .int .i64 2] ?_; (with_reducible refine (spec_l1In.calls a0_6 0 2 false _ A19.out).mono ?_); rintro e w' ⟨rfl, ⟨nd, rfl⟩⟩; refine ⟨_, rfl, ?_⟩))
    go_ret
    exact ⟨er_, qB HB⟩
   subst c20
   rw [if_pos rfl] at H
   replace H := bd_ H
   obtain ⟨t442, A21, H⟩ := H
   obtain rfl := Option.some.inj H
   (try clear zK437)
   have zK437 := cz8 BK437.out
   go_wp2_with (first | ((with_reducible refine gate_callee (f := 83) rfl ?_); refine gl_ (some 38) Try.func83 #[.int .i64 a0_6, .int .i64 0, .int .i64 2] ?_; (with_reducible refine (spec_l1In.calls a0_6 0 2 true _ A19.out).mono ?_); rintro e w' ⟨rfl, ⟨nd, rfl⟩⟩; refine ⟨_, rfl, ?_⟩) | (go_at_call 83; (with_reducible refine (spec_l1In.calls a0_7 0 (l0_5.length : Int) t442 _ A21.out).mono ?_); rintro e w' ⟨rfl, ⟨nd, rfl⟩⟩))
   go_ret
   exact ⟨er_, qB HB⟩

end Go.Proofs.Ytiffahfpfgnjnaa.PFnSocks
