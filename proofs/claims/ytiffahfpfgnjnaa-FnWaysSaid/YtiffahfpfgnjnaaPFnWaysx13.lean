-- Written by a program of this session (myprint.py, over the kit's print): contracts of FnWays
import Derived.Test.YtiffahfpfgnjnaaPFnWaysx0
import Derived.Test.YtiffahfpfgnjnaaPFnWaysx3
import Derived.Test.YtiffahfpfgnjnaaPFnWaysx12
import Derived.StillTailTactics
namespace Go.Proofs.Ytiffahfpfgnjnaa.PFnWays
open Go.RowKit Go.Proofs.YtiffahfpfgnjnaaW.PrintWords Go.Proofs.YtiffahfpfgnjnaaW.PrintLast Go.Proofs.YtiffahfpfgnjnaaW.PrintMore Go.Proofs.YtiffahfpfgnjnaaV
attribute [local go_sem] max2_int min2_int max_two min_two max_three min_three max_four min_four   -- for this text's walks alone
set_option linter.unusedVariables false
set_option linter.unusedSimpArgs false

/-! ### impl_packCopy: function 102 -/
def impl_packCopy.f (a0_0 : Int) (l0_1 : List Int) : Option (Int × List Int) := (slices_Clone_byte.f l0_1).bind fun t565 => (some (a0_0, t565))
set_option maxHeartbeats 8000000 in
set_option maxRecDepth 100000 in
theorem impl_packCopy.calls (a0_0 : Int) (A0_1 : Option Addr) (c0_1 : Nat) (l0_1 : List Int) (r1 : Int) (r2 : List Int) (w : World) (hr0_1 : Kd.C (Kd.int .u8) w A0_1 l0_1.length l0_1) (hc0_1 : l0_1.length ≤ c0_1) (h : impl_packCopy.f a0_0 l0_1 = some (r1, r2)) :
  Calls Try.prog 102 #[.agg #[.int .i64 a0_0, .slice A0_1 l0_1.length c0_1]] w fun e w' => ∃ v1_ : Value, e = .returned (.agg #[.int .i64 r1, v1_]) ∧ Kd.R (Kd.int .u8) 5 w' w.heap.size (fun _ => True) v1_ r2 ∧ Below w.heap.size w w' := by
 have hu68 := Try.underlying68
 have HR0_1 := Aside0.mk hr0_1
 have HC0_1 := Aside0.mk hc0_1
 clear hr0_1 hc0_1
 have HB := Aside0.mk (Below.refl w.heap.size w)
 have H := h
 unfold impl_packCopy.f at H
 clear h
 replace H := bd_ H
 obtain ⟨t565, A2, H⟩ := H
 simp only [Option.some.injEq, Prod.mk.injEq] at H
 obtain ⟨rfl, rfl⟩ := H
 go_enter Try.func102, Try.ntmps102
 try go_wp2_with (first | ((with_reducible refine gate_dst (N := 1) rfl ?_); refine bx_ (N := 1) (cs := #[.int .i64 a0_0, .slice A0_1 l0_1.length c0_1]) (t := 68) ?_; intro gb563 hg w3 hbox hb; have BK563 := am_ (hbox); have GW563 := gA_ hg HB; have GE563 := GW563; have IGE563 := gI_ GE563; replace HB := bS_ HB hb; clear hb hbox hg) | ((with_reducible refine gate_dst (N := 2) rfl ?_); refine bx_ (N := 2) (cs := #[.int .i64 0, .slice none 0 0]) (t := 68) ?_; intro gb564 hg w4 hbox hb; have BK564 := am_ (hbox); have GW564 := gA_ hg HB; have GE564 := GW564; have IGE564 := gI_ GE564; replace HB := bS_ HB hb; have NB563_564 := am_ ((gN_ hg (qK BK563))); have NB564_563 := am_ ((gM_ hg (qK BK563))); replace BK563 := bK_ BK563 hb; clear hb hbox hg))
 replace BK563 := am_ (blk_drew BK563.out)
 replace BK564 := am_ (blk_drew BK564.out)
 replace HB := am_ (below_drew1 HB.out)
 refine start_ (n := 7) (S := fun w' => w'.cell? ⟨gb563, 0, none⟩ = some (.int .i64 a0_0) ∧ w'.cell? ⟨gb563, 1, none⟩ = some (.slice A0_1 l0_1.length c0_1)) (ds := []) #[oo,oo,oo,oo,oo,oo,oo] (by kernel_rfl) rfl rfl (cz2 BK563.out) (fun hHeld => ?_)
 generalize w4.drew = w5 at BK563 BK564 HB hHeld ⊢
 refine pure_ (i := 0) (N := some 3) (v := ?_) (a' := ?_) #[ii,oo,oo,oo,oo,oo,oo] rfl rfl (by kernel_rfl) (fun _ _ _ h => h) (Or.inl ⟨by rfl, ?_⟩) ?_ ?_
 rotate_left
 ·
  intro w'
  go_simp
  with_reducible rfl
 rotate_left
 ·
  exact ap_
 refine pure_ (i := 2) (N := some 5) (v := ?_) (a' := ?_) #[ii,oo,ii,oo,oo,oo,oo] rfl rfl (by kernel_rfl) (fun _ _ _ h => h) (Or.inl ⟨by rfl, ?_⟩) ?_ ?_
 rotate_left
 ·
  intro w'
  go_simp
  with_reducible rfl
 rotate_left
 ·
  exact ap_
 refine take_ (i := 1) (N := some 4) (v := ?_) (a' := ?_) #[ii,ii,ii,oo,oo,oo,oo] rfl rfl (by kernel_rfl) (fun _ _ _ h => h) (Or.inl ⟨by rfl, ?_⟩) hHeld ?_ ?_
 rotate_left
 ·
  rintro w' ⟨s0, s1⟩
  go_simp
  with_reducible rfl
 rotate_left
 ·
  exact ap_
 refine take_ (i := 3) (N := some 6) (v := ?_) (a' := ?_) #[ii,ii,ii,ii,oo,oo,oo] rfl rfl (by kernel_rfl) (fun _ _ _ h => h) (Or.inl ⟨by rfl, ?_⟩) hHeld ?_ ?_
 rotate_left
 ·
  rintro w' ⟨s0, s1⟩
  go_simp
  with_reducible rfl
 rotate_left
 ·
  exact ap_
 refine one_ (i := 4) (N := some 7) #[ii,ii,ii,ii,ii,oo,oo] rfl rfl (by kernel_rfl) (by decide) (fun K hK => ?_)
 refine goes_ Try.func118 (by kernel_rfl) rfl #[.slice A0_1 l0_1.length c0_1] (by rfl) rfl rfl la_ ?_
 with_reducible refine (slices_Clone_byte.calls _ _ l0_1 t565 _ ?side1 ?side2 A2.out).mono ?_
 (case side1 => exact qC (Kd.C_below HR0_1.out HB.out))
 (case side2 => exact HC0_1.out)
 rintro e w6 ⟨v566, rfl, ho0, hb⟩
 refine ⟨_, rfl, ?_⟩
 have HO567 := am_ (Kd.R_lower ho0 (below_size (qB HB)))
 replace BK563 := bK_ BK563 hb
 replace BK564 := bK_ BK564 hb
 replace HB := bS_ HB hb
 (try clear hb ho0)
 obtain ⟨Ao7, co7, eo7⟩ := Kd.R_slice HO567.out
 (first | subst eo7 | (injection eo7 with f1_ f2_ f3_; have f4_ := f1_.symm; have f5_ := f3_.symm; clear f1_ f2_ f3_; subst f4_; subst f5_))
 refine hK.out _ _ (cz2 BK563.out) (fun hHeld => ?_)
 clear hK K
 refine norm_ (a' := ?_) ?_ ?_
 rotate_left
 ·
  show Act.put _ (some 7) _ = _
  exact ap_
 refine pure_ (i := 5) (N := some 8) (v := ?_) (a' := ?_) #[ii,ii,ii,ii,ii,ii,oo] rfl rfl (by kernel_rfl) (fun _ _ _ h => h) (Or.inl ⟨by rfl, ?_⟩) ?_ ?_
 rotate_left
 ·
  intro w'
  go_simp
  with_reducible rfl
 rotate_left
 ·
  exact ap_
 refine one_ (i := 6) (N := none) #[ii,ii,ii,ii,ii,ii,ii] rfl rfl (by kernel_rfl) (by decide) (fun K hK => ?_)
 have hs8 : w6.cell? ⟨gb564, 0, none⟩ = some (.int .i64 0) := (blk_cell BK564.out 0).trans rfl
 have hfs8 := blk_frozen BK564.out 0
 have hns8_0 := NB563_564.out
 have hms8_0 := NB564_563.out
 have hs9 : w6.cell? ⟨gb564, 1, none⟩ = some (.slice none 0 0) := (blk_cell BK564.out 1).trans rfl
 have hfs9 := blk_frozen BK564.out 1
 have hns9_0 := NB563_564.out
 have hms9_0 := NB564_563.out
 refine skip_ (w1 := ?_) (by rfl) rfl ?_ ?_
 rotate_left
 ·
  go_simp
  rfl
 refine hK.out _ _ ⟨((cell_far (p := ⟨gb564, _, none⟩) NB563_564.out _).trans (((cell_far (p := ⟨gb564, _, none⟩) NB563_564.out _).trans (hHeld.1)))), ((cell_far (p := ⟨gb564, _, none⟩) NB563_564.out _).trans (((cell_far (p := ⟨gb564, _, none⟩) NB563_564.out _).trans (hHeld.2))))⟩ (fun hHeld => ?_)
 clear hK K
 refine done_ (by kernel_rfl) ?_
 try go_wp2
 refine bodyPost_ret (results_cell_row rfl _ _ gb564 68 #[.int .i64 a0_0, .slice Ao7 t565.length co7] (0, 0) _ rfl (by exact blk_all2 (qK BK564)) Try.underlying68 rfl (by kernel_rfl)) rfl ?_
 exact ⟨_, er_, by (with_reducible repeat (first | apply Kd.R_alloc | apply Kd.R_drewN | apply Kd.R_drew)); exact Kd.R_mono (R_far2 (g := gb564) (Kd.R_types HO567.out BK564.out (by decide)) (fun _ hk => hk.2)) (fun _ hk => trivial), qB HB⟩

/-! ### impl_wayCopy: function 101 -/
def impl_wayCopy.l0 : Nat → List (S68) → List (S68) → Int → Int → Option ((List (S68)))
 | 0, _, _, _, _ => none
 | k + 1, x3, x7, x8, x9 => if x9 < x8 then (if 0 ≤ x9 then (if x9 < (x7.length : Int) then ((impl_packCopy.f ((rd_T68 x7 x9).f0) ((rd_T68 x7 x9).f1)).bind fun bt573 => (if x3.length < 4398046511104 then (impl_wayCopy.l0 k (x3 ++ [(⟨bt573.1, bt573.2⟩ : S68)]) x7 x8 (wrap64 (x9 + 1))) else (none))) else (none)) else (none)) else (some x3)
def impl_wayCopy.f (k : Nat) (l0 : List (S68)) : Option ((List (S68))) := impl_wayCopy.l0 k (([] : List (S68))) l0 (l0.length : Int) 0
theorem impl_wayCopy.mono_l : ∀ k, (∀ y0 y1 y2 y3, LeO (impl_wayCopy.l0 k y0 y1 y2 y3) (impl_wayCopy.l0 (k + 1) y0 y1 y2 y3))
 | 0 => fun _ _ _ _ r h => by simp [impl_wayCopy.l0] at h
 | k + 1 => by
  have ih0 := impl_wayCopy.mono_l k
  ·
   intro y0 y1 y2 y3
   unfold impl_wayCopy.l0
   exact mo_
theorem impl_wayCopy.mono : ∀ a0 k, LeO (impl_wayCopy.f k a0) (impl_wayCopy.f (k + 1) a0) := by
 intro a0 k
 have ih0 := impl_wayCopy.mono_l k
 unfold impl_wayCopy.f
 exact mo_
set_option maxHeartbeats 8000000 in
set_option maxRecDepth 100000 in
theorem impl_wayCopy.calls (k : Nat) (A0 : Option Addr) (c0 : Nat) (l0 : List (S68)) (r : List (S68)) (w : World) (hr0 : Kd.C k68 w A0 l0.length l0) (hc0 : l0.length ≤ c0) (h : impl_wayCopy.f k l0 = some r) :
  Calls Try.prog 101 #[.slice A0 l0.length c0] w fun e w' => ∃ v0_ : Value, e = .returned (v0_) ∧ Kd.S k68 68 w' w.heap.size (fun _ => True) v0_ r ∧ Below w.heap.size w w' := by
 have hu68 := Try.underlying68
 have HR0 := Aside0.mk hr0
 have HC0 := Aside0.mk hc0
 clear hr0 hc0
 have HB := Aside0.mk (Below.refl w.heap.size w)
 have H := h
 unfold impl_wayCopy.f at H
 clear h
 obtain ⟨y568, hy568⟩ : ∃ y_ : List (S68), y_ = (([] : List (S68))) := ⟨_, rfl⟩
 rw [← hy568] at H
 have Ny568 := Aside0.mk hy568
 clear hy568
 have H' := Aside0.mk H
 clear H
 go_enter Try.func101, Try.ntmps101
 go_wp2_with (first | ((with_reducible refine gate_dst (N := 6) rfl ?_); refine Kd.S_lit k68 _ 68 ?hg (N := 6) ?hd (xs := ([] : List (S68))) (inner := []) (ok := fun _ => True) (okp := fun _ => True) ?hr ?hp (fun _ hk => hk) trivial (Below.refl _ _) (Nat.le_refl _) (by simp) ?_; (case hd => rfl); (case hg => rfl); (case hr => first | (go_simp; done) | (go_simp; rfl)); (case hp => exact (Reps.none _ _)); intro v569 w2 ho3 hb hg_ hnew_; clear hg_ hnew_; (first | rw [← Ny568.out] at ho3 | (simp only [Int.reduceToNat] at ho3; rw [← Ny568.out] at ho3)); have HO570 := am_ (Kd.S_lower ho3 (below_size (qB HB))); replace HB := bS_ HB hb; clear hb ho3))
 go_loopg [3, 9] k (fun kq v3 v9 w' => ∃ (x3_1 : List (S68)) (x9_1 : Int), v9 = .int .i64 x9_1 ∧ Aside0 (impl_wayCopy.l0 kq x3_1 l0 (l0.length : Int) x9_1 = some r) ∧ Aside0 (kq ≤ k) ∧ Aside0 (Kd.S k68 68 w' w.heap.size (fun _ => True) v3 x3_1) ∧ Aside0 (Below w.heap.size w w'))
 case atStart => exact ⟨(y568), (0), eqq_, H', ⟨Nat.le_refl _⟩, ⟨qS HO570⟩, ⟨qB HB⟩⟩
 case round =>
  clear H'
  try clear c1
  try clear p2
  obtain ⟨x3_1, x9_1, rfl, HA, HK1, HO_3, HB⟩ := hrel
  cases gk with
  | zero => exact absurd HA.out (by simp [impl_wayCopy.l0])
  | succ k1 =>
   have H := HA.out
   clear HA
   simp only [impl_wayCopy.l0] at H
   by_cases c4 : x9_1 < (l0.length : Int)
   rotate_left
   ·
    rw [if_neg c4] at H
    have c4b0 : decide (x9_1 < (l0.length : Int)) = false := decide_eq_false c4
    clear c4
    obtain rfl := Option.some.inj H
    go_wp2
    go_ret
    exact ⟨_, er_, qS HO_3, qB HB⟩
   rw [if_pos c4] at H
   have c4b0 : decide (x9_1 < (l0.length : Int)) = true := decide_eq_true c4
   clear c4
   by_cases c5 : 0 ≤ x9_1
   case neg => exact nn_ c5 H
   rw [if_pos c5] at H
   have c5b0 : decide (0 ≤ x9_1) = true := decide_eq_true c5
   clear c5
   by_cases c6 : x9_1 < (l0.length : Int)
   case neg => exact nn_ c6 H
   rw [if_pos c6] at H
   have c6b0 : decide (x9_1 < (l0.length : Int)) = true := decide_eq_true c6
   clear c6
   replace H := bd_ H
   obtain ⟨⟨t573, t574⟩, A7, H⟩ := H
   (try dsimp only at H)
   by_cases c8 : x3_1.length < 4398046511104
   case neg => exact nn_ c8 H
   rw [if_pos c8] at H
   have LMc8 := Aside0.mk c8
   clear c8
   obtain ⟨y577, hy577⟩ : ∃ y_ : List (S68), y_ = (x3_1 ++ [(⟨t573, t574⟩ : S68)]) := ⟨_, rfl⟩
   rw [← hy577] at H
   have Ny577 := Aside0.mk hy577
   clear hy577
   have H' := Aside0.mk H
   clear H
   have p571 : 0 ≤ (x9_1 : Int) := od_
   have q571 : x9_1 < (l0.length : Int) := od_
   obtain ⟨ad571, A571_1, c571_1, e571, hx571_0, hx571_1, hl571_1, hi571_1⟩ := at_T68 HR0.out x9_1 p571 q571
   cases e571
   replace hx571_0 := lb_ HB hx571_0
   replace hx571_1 := lb_ HB hx571_1
   have HR571_1 := Aside0.mk hi571_1
   have HC571_1 := Aside0.mk hl571_1
   clear hi571_1 hl571_1
   replace p571 := eq_true p571
   replace q571 := eq_true q571
   go_wp2_with (first | ((with_reducible refine gate_dst (N := 5) rfl ?_); refine bx_ (N := 5) (cs := #[.int .i64 0, .slice none 0 0]) (t := 68) ?_; intro gb572 hg w9 hbox hb; replace HO_3 := am_ (Kd.S_below (Kd.S_elderB (qS HO_3) gb572 (Nat.le_of_eq hg.symm)) hb); have BK572 := am_ (hbox); have GW572 := gA_ hg HB; have GE572 := GW572; have IGE572 := gI_ GE572; replace HB := bS_ HB hb; clear hb hbox hg; (try clear zK572); have zK572 := cz2 BK572.out; (try clear fK572); have fK572 := fz2 BK572.out) | ((with_reducible refine gate_callee (f := 102) rfl ?_); refine gl_ (some 15) Try.func102 #[.agg #[.int .i64 ((rd_T68 l0 x9_1).f0), .slice A571_1 ((rd_T68 l0 x9_1).f1).length c571_1]] ?_; (with_reducible refine (impl_packCopy.calls ((rd_T68 l0 x9_1).f0) _ _ ((rd_T68 l0 x9_1).f1) t573 t574 _ ?side1 ?side2 A7.out).mono ?_); (case side1 => exact Kd.C_below HR571_1.out (qB HB)); (case side2 => exact HC571_1.out); rintro e w11 ⟨v575, rfl, ho0, hb⟩; refine ⟨_, rfl, ?_⟩; replace HO_3 := am_ (Kd.S_elder' (by (with_reducible repeat (first | apply Kd.S_alloc | apply Kd.S_drewN | apply Kd.S_drew)); exact (Kd.S_mono (Kd.S_far (p := ⟨gb572, 1, none⟩) (Kd.S_far (p := ⟨gb572, 0, none⟩) (Kd.S_mono HO_3.out (fun k_ hk => (⟨hk, hk.2⟩ : _ ∧ k_ ≠ gb572))) (fun _ hk => hk.2) (.int .i64 ((rd_T68 l0 x9_1).f0))) (fun _ hk => hk.2) (.slice A571_1 ((rd_T68 l0 x9_1).f1).length c571_1)) (fun _ h_ => h_.1))) (Kd.R_base ho0) hb); have HO576 := am_ (Kd.R_lower ho0 (below_size (qB HB))); replace BK572 := am_ (blk_below (g := gb572) (o := .cells #[.int .i64 ((rd_T68 l0 x9_1).f0), .slice A571_1 ((rd_T68 l0 x9_1).f1).length c571_1] 68 (0, 0)) (by exact blk_all2 (qK BK572)) hb); replace HB := bS_ HB hb; (try clear hb); (try clear hk); (try clear ho0); obtain ⟨Ao13, co13, eo13⟩ := Kd.R_slice HO576.out; subst eo13) | ((with_reducible refine gate_builtin (b := .append) (xs := #[.tmp 13, .tmp 16]) rfl ?_); at_builtin; refine Kd.S_append k68 (w0 := w) w.heap.size rfl (.tmp 13) (.tmp 16) 64 68 (.agg #[(.int .i64 0), (.slice none 0 0)]) 32 rfl Try.underlying64 info68 rfl (by decide) (by omega) u3 x3_1 (⟨t573, t574⟩ : S68) [.int .i64 t573, .slice Ao13 t574.length co13] (fun k_ => k_ ≠ gb572) (fun k_ => some k_ = (.slice Ao13 t574.length co13 : Value).ownBlock) rfl rfl ?aP (fun k_ hk_ => ((Kd.R_mono (ok' := fun k_ => ((fun k_ => k_ ≠ gb572)) k_ ∧ some k_ ≠ (u3 : Value).ownBlock) (Kd.R_types (Kd.R_apart' (HO576.out) (Kd.S_typed HO_3.out) (by decide)) BK572.out (by decide)) (fun k_ hk => ⟨hk.2, hk.1.2⟩))).1 k_ hk_.symm) ?aF ?aO ?aB ?aS ?aL ?_; (case aP => exact k68_mkM _ _ _ (⟨t573, t574⟩ : S68) (Kd.R_mono (Kd.R_tight rfl (Kd.R_mono (ok' := fun k_ => ((fun k_ => k_ ≠ gb572)) k_ ∧ some k_ ≠ (u3 : Value).ownBlock) (Kd.R_types (Kd.R_apart' (HO576.out) (Kd.S_typed HO_3.out) (by decide)) BK572.out (by decide)) (fun k_ hk => ⟨hk.2, hk.1.2⟩))) (fun _ h_ => h_))); (case aB => exact (qB HB)); (case aF => exact (fun k_ hk => Kd.freshB (qK BK572) k_ hk)); (case aO => exact (tS (Kd.S_mono HO_3.out (fun k_ hk => ⟨hk.1.2, fun e_ => hk.2 e_⟩)))); (case aS => exact (below_size (qB HB))); (case aL => have := LMc8.out; omega); intro v578 w12 ho hb hg hat; rw [← Ny577.out] at ho; replace BK572 := am_ (blk_grown (qK BK572) hg (Kd.S_away HO_3.out (fun _ hk => hk.1.2))); replace HB := am_ (hb); have HO579 := am_ (ho); clear HO_3 HO576; clear ho hb hg hat))
   go_roundg k1
   case measure => have := HK1.out; omega
   case rel => exact ⟨(y577), (wrap64 (x9_1 + 1)), eqq_, H', ⟨by have := HK1.out; omega⟩, ⟨by (with_reducible repeat (first | apply Kd.S_alloc | apply Kd.S_drewN | apply Kd.S_drew)); exact Kd.S_mono HO579.out (fun _ hk => trivial)⟩, ⟨qB HB⟩⟩

/-! ### slices_Delete_Pack: function 103, by hand -/
def slices_Delete_Pack.f (l0 : List (S68)) (a1 : Int) (a2 : Int) : Option (List (S68)) := if 0 ≤ a1 ∧ a1 < (l0.length : Int) ∧ a2 = a1 + 1 then some (l0.eraseIdx a1.toNat) else none
theorem slices_Delete_Pack.R_tail {α : Type} {P : Program} (d : Kd α) {W : World} {base e g n c : Nat} {xs : List α} {ok : Nat → Prop} (HO : d.R e W base ok (.slice (some ⟨g, 0, none⟩) n c) xs) (q : Nat) (news : List Value) (hq : n * d.sz ≤ q) (hfit : q + news.length ≤ c * d.sz) (h1 : ∀ u ∈ news, u.oneCell' = true) :
  ∃ w1, Sem.run P (storeCells ⟨g, q, none⟩ news) W = .ok () w1 ∧ d.R e w1 base ok (.slice (some ⟨g, 0, none⟩) n c) xs ∧ W.grownBy w1 (some g) := by
 obtain ⟨hn, hnc, _⟩ := Kd.R_reads' HO
 obtain ⟨hok, inner, hown, hr⟩ := HO
 rcases hown.2 with ⟨hv, _⟩ | ⟨g', cap', cur, hv, hb, hh, h9, hcm, hcs, htake⟩
 ·
  cases hv
 injection hv with ha _ hc
 injection ha with ha
 injection ha with hg
 subst hg; subst hc
 have hst := run_storeCells_cells (P := P) g q news 0 W (fun j hj => by rw [cell_of_row W g _ cur e (0, 0) hh]; simp; omega) (fun j _ => blk_frozen hh _) h1
 simp only [Nat.add_zero] at hst
 obtain ⟨cur', h3, h4, h5⟩ := setCells_row news q W cur hh (by omega)
 obtain ⟨s1, s2, s3, s4⟩ := setCells_same g news q W
 have hfar : ∀ k', k' ≠ g → (W.setCells g q news).heap[k']? = W.heap[k']? := fun k' hk' => setCells_far news _ k' hk'
 have hgo : some g = (Value.slice (some ⟨g, 0, none⟩) n c).ownBlock := by simp [Value.ownBlock]
 refine ⟨_, hst, ⟨hok, inner, ⟨hown.1, .inr ⟨g, c, cur', by rw [hn], hb, h3, by omega, hcm, by rw [h4, hcs], ?_⟩⟩, ?_⟩, ⟨s1, s2, s3, by rw [s4]; exact Nat.le_refl _, fun k' _ hk' => hfar k' (fun he => hk' (by rw [he]))⟩⟩
 ·
  rw [h5, ← hn]
  rw [← hn] at htake
  rw [List.append_assoc, List.take_append_of_le_length (by rw [List.length_take, Array.length_toList]; omega), List.take_take, Nat.min_eq_left hq]
  exact htake
 ·
  exact hr.imp_ (fun p q' hp => d.M_move (fun k' hk' => hfar k' (fun he => hk'.2 (by rw [← hgo, he]))) hp)
theorem slices_Delete_Pack.clear_ {W : World} {base g n c : Nat} {xs : List S68} {ok : Nat → Prop} (HO : Kd.S k68 68 W base ok (.slice (some ⟨g, 0, none⟩) (n - 1) c) xs) (hn : 0 < n) (hc : n ≤ c) :
  ∃ w1, Sem.run Try.prog (Builtin.clear_ #[64] 0 #[.slice (some ⟨g, (n - 1) * 2, none⟩) (n - (n - 1)) (c - (n - 1))]) W = .ok (.tuple #[]) w1 ∧ Kd.S k68 68 w1 base ok (.slice (some ⟨g, 0, none⟩) (n - 1) c) xs ∧ W.grownBy w1 (some g) := by
 obtain ⟨f, HR⟩ := HO
 obtain ⟨w1, h1, h2, h3⟩ := slices_Delete_Pack.R_tail (P := Try.prog) _ HR ((n - 1) * 2) [.int .i64 0, .slice none 0 0] (Nat.le_refl _) (by show (n - 1) * 2 + 2 ≤ c * 2; omega) (by intro u hu; simp at hu; rcases hu with rfl | rfl <;> rfl)
 refine ⟨w1, ?_, ⟨f, h2⟩, h3⟩
 obtain ⟨i0, hi0, hz, _⟩ := info_parts info68
 rw [show n - (n - 1) = 1 by omega]
 have hz' : (Builtin.zeroCells (Value.agg #[.int .i64 0, .slice none 0 0]).cells 1).toList = [.int .i64 0, .slice none 0 0] := by kernel_rfl
 simp [Builtin.clear_, run_underlying Try.underlying64, zeroValue, typeInfo, hi0, hz, hz', h1]
set_option maxHeartbeats 1000000 in
set_option maxRecDepth 100000 in
theorem slices_Delete_Pack.del (u : Value) (xs : List S68) (k : Nat) (base : Nat) (ok : Nat → Prop) (w0 w : World) (HO : Kd.S k68 68 w base ok u xs) (hk : k < xs.length) (HB : Below base w0 w) (hbase : base ≤ w.heap.size) :
  Calls Try.prog 103 #[u, .int .i64 (k : Int), .int .i64 ((k : Int) + 1)] w fun e w' => ∃ v, e = .returned v ∧ Kd.S k68 68 w' base ok v (xs.eraseIdx k) ∧ Below base w0 w' ∧ w.grownBy w' u.ownBlock := by
 have hu_t := Try.underlying64
 have hu_e := Try.underlying68
 obtain ⟨g, cap, rfl, hgb, hgl, _⟩ := Kd.S_form HO (by omega)
 obtain ⟨_, hcap, hC⟩ := Kd.S_reads' HO
 have hbig : xs.length ≤ 9223372036854775807 := hC.2.1
 have c1 : ((k : Int) == (k : Int) + 1) = false := by simp; omega
 have c2 : decide ((k : Int) = (k : Int) + 1) = false := decide_eq_false (by omega)
 have HO' := Aside0.mk HO
 have HB' := Aside0.mk HB
 have p0 : 0 ≤ (k : Int) := by omega
 have p1 : (k : Int) ≤ (k : Int) + 1 := by omega
 have p2 : (k : Int) + 1 ≤ (xs.length : Int) := by omega
 have p3 : (xs.length : Int) ≤ (cap : Int) := by omega
 obtain ⟨i0, hi0, _, hsz, _⟩ := info_parts info68
 have cA := cut_to (P := Try.prog) 64 68 .i64 hu_t hi0 (some ⟨g, 0, none⟩) xs.length cap (k : Int) p0 (by omega) hcap
 have cB := cut_from (P := Try.prog) 64 68 .i64 hu_t hi0 2 hsz (some ⟨g, 0, none⟩) xs.length cap ((k : Int) + 1) (by omega) p2
 rw [show (k : Int).toNat = k from rfl] at cA
 rw [show ((k : Int) + 1).toNat = k + 1 by omega] at cB
 obtain ⟨AB, hAB⟩ : ∃ A, A = (if cap = k + 1 then (some ⟨g, 0, none⟩ : Option Addr) else (some (⟨g, 0, none⟩ : Addr)).map (·.add ((k + 1) * 2))) := ⟨_, rfl⟩
 rw [← hAB] at cB
 have HAB := Aside0.mk hAB
 clear HO HB hC hAB hi0 hsz
 go_enter Try.func103, Try.ntmps103
 go_wp2
 go_still_tail 6, (by kernel_rfl)
 refine Kd.S_delete k68 (w0 := w0) base rfl (.tmp 22) (.tmp 25) 64 68 rfl Try.underlying64 (by have := info68; simp only [Option.map_eq_some_iff] at this ⊢; obtain ⟨i, h1, h2⟩ := this; exact ⟨i, h1, by injection h2 with h2 h3; injection h3⟩) (g := g) (n := xs.length) (c := cap) (k := k) (m := xs.length - (k + 1)) (c2 := cap - (k + 1)) (A := AB) (xs := xs) (ok := ok) rfl rfl HAB.1 rfl (Kd.S_drew HO'.1) hk (below_drew HB'.1) hbase ?_
 intro w1 S1 B1 G1
 obtain ⟨w2, hrun, S1, G2⟩ := slices_Delete_Pack.clear_ S1 (by omega) hcap
 have S1' := Aside0.mk S1
 have B1' := Aside0.mk (B1.grown G2 (by have := G1.size; have := hbase; simp only [] at *; omega) (fun q hq => by injection hq with hq; subst hq; exact hgb))
 have GG := Aside0.mk (show w.grownBy w2 (Value.slice (some ⟨g, 0, none⟩) xs.length cap).ownBlock from World.grownBy.trans (World.grownBy.trans (grown_of_below (below_drew (Below.refl _ w)) _) G1) G2)
 clear S1 B1 G1 G2
 have hrun' := Aside0.mk hrun
 clear hrun
 go_wp2
 rw [hrun'.1]
 go_wp2
 go_ret
 exact ⟨_, rfl, S1'.1, B1'.1, GG.1⟩
theorem slices_Delete_Pack.calls (u : Value) (l0 : List (S68)) (a1 a2 : Int) (r : List (S68)) (base : Nat) (ok : Nat → Prop) (w0 w : World) (HO : Kd.S k68 68 w base ok u l0) (HB : Below base w0 w) (hbase : base ≤ w.heap.size) (h : slices_Delete_Pack.f l0 a1 a2 = some r) :
  Calls Try.prog 103 #[u, .int .i64 a1, .int .i64 a2] w fun e w' => ∃ v, e = .returned v ∧ Kd.S k68 68 w' base ok v r ∧ Below base w0 w' ∧ w.grownBy w' u.ownBlock := by
 unfold slices_Delete_Pack.f at h
 split at h
 case isFalse => cases h
 case isTrue hc =>
  obtain ⟨h0, h1, rfl⟩ := hc
  injection h with h
  subst h
  obtain ⟨q, rfl⟩ := Int.eq_ofNat_of_zero_le h0
  exact slices_Delete_Pack.del u l0 q base ok w0 w HO (by omega) HB hbase


/-! ### impl_TakeOut: function 41 -/
def impl_TakeOut.j0 : Nat → List (S68) → Int → List (S68) → Bool → Option ((List (S68)) × Int × List Int × Bool)
 | 0, _, _, _, _ => none
 | k + 1, x0, x1, x7, x18 => if x18 = true then (some (x7, 0, ([] : List Int), false)) else (if (x0.length : Int) = 0 then (none) else (if 0 ≤ (Int.tmod x1 (x0.length : Int)) then (if (Int.tmod x1 (x0.length : Int)) < (x0.length : Int) then ((impl_packCopy.f ((rd_T68 x0 (Int.tmod x1 (x0.length : Int))).f0) ((rd_T68 x0 (Int.tmod x1 (x0.length : Int))).f1)).bind fun bt585 => ((slices_Delete_Pack.f x7 (Int.tmod x1 (x0.length : Int)) (wrap64 ((Int.tmod x1 (x0.length : Int)) + 1))).bind fun t590 => (some (t590, bt585.1, bt585.2, true)))) else (none)) else (none)))
def impl_TakeOut.f (k : Nat) (l0 : List (S68)) (a1 : Int) : Option ((List (S68)) × Int × List Int × Bool) := (impl_wayCopy.f k l0).bind fun t581 => (if (l0.length : Int) = 0 then (impl_TakeOut.j0 k l0 a1 t581 true) else (impl_TakeOut.j0 k l0 a1 t581 (decide (a1 < 0))))
theorem impl_TakeOut.mono_l : ∀ k, (∀ y0 y1 y2 y3, LeO (impl_TakeOut.j0 k y0 y1 y2 y3) (impl_TakeOut.j0 (k + 1) y0 y1 y2 y3))
 | 0 => fun _ _ _ _ r h => by simp [impl_TakeOut.j0] at h
 | k + 1 => by
  have ih0 := impl_TakeOut.mono_l k
  ·
   intro y0 y1 y2 y3
   unfold impl_TakeOut.j0
   have m0 := @impl_wayCopy.mono; exact mo_
theorem impl_TakeOut.mono : ∀ a0 a1 k, LeO (impl_TakeOut.f k a0 a1) (impl_TakeOut.f (k + 1) a0 a1) := by
 intro a0 a1 k
 have ih0 := impl_TakeOut.mono_l k
 unfold impl_TakeOut.f
 have m0 := @impl_wayCopy.mono; exact mo_
def impl_TakeOut.T6 : Bool × List (List Nat × List Nat) := (true, [([], []), ([], []), ([], []), ([2], [2]), ([0, 1, 3], [0, 1, 3]), ([], []), ([4, 4, 0, 1, 2, 3, 4], [4]), ([5, 6, 0, 1, 2, 3, 4, 5, 6], [5]), ([7, 0, 1, 2, 3, 4, 5, 6, 7], [])])
def impl_TakeOut.B6 : List Nat := [0, 0, 0, 4, 15, 0, 31, 127, 255]
theorem impl_TakeOut.tab6 : rtab .any (opsOf Try.f41 6) = impl_TakeOut.T6 := by kernel_rfl
theorem impl_TakeOut.bits6 : waitsOk impl_TakeOut.T6.2 impl_TakeOut.B6 = true := by kernel_rfl
set_option maxHeartbeats 8000000 in
set_option maxRecDepth 100000 in
theorem impl_TakeOut.calls (k : Nat) (A0 : Option Addr) (c0 : Nat) (l0 : List (S68)) (a1 : Int) (r1 : List (S68)) (r2 : Int) (r3 : List Int) (r4 : Bool) (w : World) (hr0 : Kd.C k68 w A0 l0.length l0) (hc0 : l0.length ≤ c0) (h : impl_TakeOut.f k l0 a1 = some (r1, r2, r3, r4)) :
  Calls Try.prog 41 #[.slice A0 l0.length c0, .int .i64 a1] w fun e w' => ∃ v0_ v2_ : Value, e = .returned (.tuple #[v0_, .agg #[.int .i64 r2, v2_], .bool r4]) ∧ Kd.S k68 68 w' w.heap.size (fun k_ => some k_ ≠ (v2_ : Value).ownBlock) v0_ r1 ∧ Kd.R (Kd.int .u8) 5 w' w.heap.size (fun _ => True) v2_ r3 ∧ Below w.heap.size w w' := by
 have hu68 := Try.underlying68
 have HR0 := Aside0.mk hr0
 have HC0 := Aside0.mk hc0
 clear hr0 hc0
 have HB := Aside0.mk (Below.refl w.heap.size w)
 have H := h
 unfold impl_TakeOut.f at H
 clear h
 replace H := bd_ H
 obtain ⟨t581, A3, H⟩ := H
 have HC4 := Aside0.mk H
 clear H
 go_enter Try.func41, Try.ntmps41
 go_upto_region 2 with (first | ((with_reducible refine gate_dst (N := 5) rfl ?_); refine bx_ (N := 5) (cs := #[.int .i64 0, .slice none 0 0]) (t := 68) ?_; intro gb580 hg w5 hbox hb; have BK580 := am_ (hbox); have GW580 := gA_ hg HB; have GE580 := GW580; have IGE580 := gI_ GE580; replace HB := bS_ HB hb; clear hb hbox hg) | ((with_reducible refine gate_callee (f := 101) rfl ?_); refine gl_ (some 11) Try.func101 #[.slice A0 l0.length c0] ?_; (with_reducible refine (impl_wayCopy.calls k _ _ l0 t581 _ ?side1 ?side2 A3.out).mono ?_); (case side1 => exact qC (Kd.C_below HR0.out HB.out)); (case side2 => exact HC0.out); rintro e w6 ⟨v582, rfl, ho0, hb⟩; refine ⟨_, rfl, ?_⟩; have HO583 := am_ (Kd.S_lower (Kd.S_newB ho0 (qK BK580)) (below_size (qB HB))); replace BK580 := bK_ BK580 hb; replace HB := bS_ HB hb; (try clear hb); (try clear ho0)))
 (try simp only [Act.put, List.setIfInBounds_toArray, List.set_cons_zero, List.set_cons_succ])
 go_cut [18] (fun v18 wc => ∃ (kq : Nat) (x18_3 : Bool), v18 = .bool x18_3 ∧ Aside0 (impl_TakeOut.j0 kq l0 a1 t581 x18_3 = some (r1, r2, r3, r4)) ∧ Aside0 (kq ≤ k) ∧ Aside0 (Kd.S k68 68 wc w.heap.size (fun k_ => k_ ≠ gb580) v582 t581) ∧ Aside0 (wc.heap[gb580]? = some (.cells #[.int .i64 0, (.slice none 0 0)] 68 (0, 0))) ∧ Aside0 (Below w.heap.size w wc))
 case first =>
  have H := HC4.out
  clear HC4
  by_cases c7 : (l0.length : Int) = 0
  ·
   rw [if_pos c7] at H
   have c7b0 : ((l0.length : Int) == 0) = true := beq_iff_eq.mpr c7
   have c7b1 : ((l0.length : Int) != 0) = false := bne_eq_false_iff_eq.mpr c7
   clear c7
   (first | rw [c7b0] | rw [c7b1] | (simp only [i64_w, i32_w]; rw [c7b0]) | skip)
   have H' := Aside0.mk H
   clear H
   go_wp2
   go_meet
   case rel => exact ⟨_, (true), eqq_, H', ⟨by first | omega | exact Nat.le_refl _⟩, ⟨by (with_reducible repeat (first | apply Kd.S_alloc | apply Kd.S_drewN | apply Kd.S_drew)); exact Kd.S_mono HO583.out (fun _ hk => hk.2)⟩, ⟨qK BK580⟩, ⟨qB HB⟩⟩
  rw [if_neg c7] at H
  have c7b0 : ((l0.length : Int) == 0) = false := beq_eq_false_iff_ne.mpr c7
  have c7b1 : ((l0.length : Int) != 0) = true := bne_iff_ne.mpr c7
  have c7b2 : ¬ (l0 = []) := fun h_ => c7 (by rw [h_]; rfl)
  (first | rw [c7b0] | rw [c7b1] | rw [c7b2] | (simp only [i64_w, i32_w]; rw [c7b0]) | skip)
  have H' := Aside0.mk H
  clear H
  go_wp2
  go_meet
  case rel => exact ⟨_, (decide (a1 < 0)), eqq_, H', ⟨by first | omega | exact Nat.le_refl _⟩, ⟨by (with_reducible repeat (first | apply Kd.S_alloc | apply Kd.S_drewN | apply Kd.S_drew)); exact Kd.S_mono HO583.out (fun _ hk => hk.2)⟩, ⟨qK BK580⟩, ⟨qB HB⟩⟩
 case rest =>
  clear HC4
  try clear c1
  try clear p2
  try clear c4
  try clear c7
  try clear c7b0
  try clear c7b1
  try clear c7b2
  obtain ⟨kq, x18_3, rfl, HA, HJ3, HO_7, BK580, HB⟩ := hcut
  cases kq with
  | zero => exact absurd HA.out (by simp [impl_TakeOut.j0])
  | succ kj3 =>
   have H := HA.out
   clear HA
   simp only [impl_TakeOut.j0] at H
   by_cases c8 : x18_3 = true
   ·
    subst c8
    rw [if_pos rfl] at H
    simp only [Option.some.injEq, Prod.mk.injEq] at H
    obtain ⟨rfl, rfl, rfl, rfl⟩ := H
    (try clear zK580)
    have zK580 := cz2 BK580.out
    (try clear fK580)
    have fK580 := fz2 BK580.out
    go_wp2
    refine bodyPost_ret (results_list (rs := [.tmp 4, .cell 5 68, .tmp 6]) rfl (by simp) (.tmp (.cell gb580 68 #[.int .i64 0, .slice none 0 0] (0, 0) _ rfl (by exact blk_all2 (qK BK580)) Try.underlying68 rfl (by kernel_rfl) (.tmp .nil)))) rfl ?_
    exact ⟨_, _, er_, by (with_reducible repeat (first | apply Kd.S_alloc | apply Kd.S_drewN | apply Kd.S_drew)); exact Kd.S_mono (Kd.S_far (p := ⟨gb580, 1, none⟩) (Kd.S_far (p := ⟨gb580, 0, none⟩) (Kd.S_mono HO_7.out (fun k_ hk => (⟨hk, hk⟩ : _ ∧ k_ ≠ gb580))) (fun _ hk => hk.2) (.int .i64 0)) (fun _ hk => hk.2) (.slice none 0 0)) (fun _ hk => (by simp [Value.ownBlock])), by first | exact Kd.R_nil _ _ _ _ _ | exact Kd.N_nil _ _ _ _ _ | exact Kd.V_nil _ _ _ _ _ | exact Kd.Q_nil _ _ _ _ _ | exact Kd.S_nil _ _ _ _ _, qB HB⟩
   replace c8 := Bool.eq_false_iff.mpr c8
   subst c8
   rw [if_neg (show ¬ (false = true) by decide)] at H
   by_cases c10 : (l0.length : Int) = 0
   ·
    rw [if_pos c10] at H
    exact absurd H (by simp)
   rw [if_neg c10] at H
   have c10b0 : ((l0.length : Int) == 0) = false := beq_eq_false_iff_ne.mpr c10
   have c10b1 : ((l0.length : Int) != 0) = true := bne_iff_ne.mpr c10
   have c10b2 : ¬ (l0 = []) := fun h_ => c10 (by rw [h_]; rfl)
   obtain ⟨ji11, hji11⟩ : ∃ j_ : Int, (Int.tmod a1 (l0.length : Int)) = j_ := ⟨_, rfl⟩
   replace H : (if 0 ≤ (ji11) then (if (ji11) < (l0.length : Int) then ((impl_packCopy.f ((rd_T68 l0 (ji11)).f0) ((rd_T68 l0 (ji11)).f1)).bind fun bt585 => ((slices_Delete_Pack.f t581 (ji11) (wrap64 ((ji11) + 1))).bind fun t590 => (some (t590, bt585.1, bt585.2, true)))) else (none)) else (none)) = some (r1, r2, r3, r4) := by first | (rw [hji11] at H; exact H) | (simp only [hji11] at H ⊢; exact H)
   by_cases c12 : 0 ≤ (ji11)
   case neg => exact nn_ c12 H
   rw [if_pos c12] at H
   have c12b0 : decide (0 ≤ (ji11)) = true := decide_eq_true c12
   clear c12
   by_cases c13 : (ji11) < (l0.length : Int)
   case neg => exact nn_ c13 H
   rw [if_pos c13] at H
   have c13b0 : decide ((ji11) < (l0.length : Int)) = true := decide_eq_true c13
   clear c13
   replace H := bd_ H
   obtain ⟨⟨t585, t586⟩, A14, H⟩ := H
   (try dsimp only at H)
   replace H := bd_ H
   obtain ⟨t590, A15, H⟩ := H
   simp only [Option.some.injEq, Prod.mk.injEq] at H
   obtain ⟨rfl, rfl, rfl, rfl⟩ := H
   have p584 : 0 ≤ ((ji11) : Int) := od_
   have q584 : (ji11) < (l0.length : Int) := od_
   obtain ⟨ad584, A584_1, c584_1, e584, hx584_0, hx584_1, hl584_1, hi584_1⟩ := at_T68 HR0.out (ji11) p584 q584
   cases e584
   replace hx584_0 := lb_ HB hx584_0
   replace hx584_1 := lb_ HB hx584_1
   have HR584_1 := Aside0.mk hi584_1
   have HC584_1 := Aside0.mk hl584_1
   clear hi584_1 hl584_1
   replace p584 := eq_true p584
   replace q584 := eq_true q584
   try go_wp2_with (first | ((with_reducible refine gate_callee (f := 102) rfl ?_); refine goesL_ (some 29) rfl rfl Try.func102 (by kernel_rfl) rfl #[.agg #[.int .i64 ((rd_T68 l0 (ji11)).f0), .slice A584_1 ((rd_T68 l0 (ji11)).f1).length c584_1]] rfl (by (try simp only [List.map_toArray, List.map_cons, List.map_nil]); first | done | (simp only [hji11]; rfl) | rfl | (simp only [List.length_drop, List.length_take]; rfl)) ?_; (with_reducible refine (impl_packCopy.calls ((rd_T68 l0 (ji11)).f0) _ _ ((rd_T68 l0 (ji11)).f1) t585 t586 _ ?side1 ?side2 A14.out).mono ?_); (case side1 => exact qC (Kd.C_below HR584_1.out HB.out)); (case side2 => exact HC584_1.out); rintro e w16 ⟨v587, rfl, ho0, hb⟩; refine ⟨_, rfl, ?_⟩; replace HO_7 := am_ (Kd.S_elder' (qS HO_7) (Kd.R_base ho0) hb); have HO588 := am_ (Kd.R_lower ho0 (below_size (qB HB))); replace BK580 := bK_ BK580 hb; replace HB := bS_ HB hb; (try clear hb); (try clear ho0)) | ((with_reducible refine gate_dst (N := 9) rfl ?_); refine bx_ (N := 9) (cs := #[.int .i64 0, .slice none 0 0]) (t := 68) ?_; intro gb589 hg w17 hbox hb; replace HO_7 := am_ (Kd.S_below (Kd.S_elderB (qS HO_7) gb589 (Nat.le_of_eq hg.symm)) hb); replace HO588 := rB_ HO588 hb; have BK589 := am_ (hbox); have GW589 := gA_ hg HB; have GE589 := GW589; have IGE589 := gI_ GE589; replace HB := bS_ HB hb; have NB580_589 := am_ ((gN_ hg (qK BK580))); have NB589_580 := am_ ((gM_ hg (qK BK580))); replace BK580 := bK_ BK580 hb; clear hb hbox hg; have hnb18 := NB589_580.out; have hnc18 := NB580_589.out; (try clear zK589); have zK589 := cz2 BK589.out; (try clear fK589); have fK589 := fz2 BK589.out; obtain ⟨Ao20, co20, eo20⟩ := Kd.R_slice HO588.out; subst eo20))
   have n0_ : Aside0 (Kd.S k68 68 ((w17.setCell ⟨gb589, 0, none⟩ (.int .i64 t585)).setCell ⟨gb589, 1, none⟩ (.slice Ao20 t586.length co20)) w.heap.size (fun k_ => some k_ ≠ (.slice Ao20 t586.length co20 : Value).ownBlock ∧ k_ ≠ gb580 ∧ k_ ≠ gb589) v582 t581) := ⟨by (with_reducible repeat (first | apply Kd.S_alloc | apply Kd.S_drewN | apply Kd.S_drew)); exact Kd.S_mono (Kd.S_far (p := ⟨gb589, 1, none⟩) (Kd.S_far (p := ⟨gb589, 0, none⟩) (Kd.S_mono HO_7.out (fun k_ hk => (⟨hk, hk.2⟩ : _ ∧ k_ ≠ gb589))) (fun _ hk => hk.2) (.int .i64 t585)) (fun _ hk => hk.2) (.slice Ao20 t586.length co20)) (fun _ hk => ⟨hk.1.1.2, ⟨hk.1.1.1, hk.1.2⟩⟩)⟩
   have n1_ : Aside0 (Kd.R (Kd.int .u8) 5 ((w17.setCell ⟨gb589, 0, none⟩ (.int .i64 t585)).setCell ⟨gb589, 1, none⟩ (.slice Ao20 t586.length co20)) w.heap.size (fun _ => True) (.slice Ao20 t586.length co20) t586) := ⟨by (with_reducible repeat (first | apply Kd.R_alloc | apply Kd.R_drewN | apply Kd.R_drew)); exact Kd.R_mono (R_far2 (g := gb589) (Kd.R_types HO588.out BK589.out (by decide)) (fun _ hk => hk.2)) (fun _ hk => trivial)⟩
   have n2_ : Aside0 (((w17.setCell ⟨gb589, 0, none⟩ (.int .i64 t585)).setCell ⟨gb589, 1, none⟩ (.slice Ao20 t586.length co20)).heap[gb580]? = some (.cells #[.int .i64 0, .slice none 0 0] 68 (0, 0))) := ⟨by (with_reducible repeat (first | refine blk_drewN ?_ _ | refine blk_drew ?_ | refine blk_alloc ?_ _)); refine blk_far2 ?_ NB580_589.out; exact qK BK580⟩
   have n3_ : Aside0 (((w17.setCell ⟨gb589, 0, none⟩ (.int .i64 t585)).setCell ⟨gb589, 1, none⟩ (.slice Ao20 t586.length co20)).heap[gb589]? = some (.cells #[.int .i64 t585, .slice Ao20 t586.length co20] 68 (0, 0))) := ⟨by (with_reducible repeat (first | refine blk_drewN ?_ _ | refine blk_drew ?_ | refine blk_alloc ?_ _)); refine blk_all2 (show _ = some (Go.Obj.cells #[.int .i64 0, .slice none 0 0] _ (0, 0)) from ?_); exact qK BK589⟩
   have n4_ : Aside0 (Below w.heap.size w ((w17.setCell ⟨gb589, 0, none⟩ (.int .i64 t585)).setCell ⟨gb589, 1, none⟩ (.slice Ao20 t586.length co20))) := ⟨qB HB⟩
   (try clear HO_7)
   (try clear HO588)
   (try clear BK580)
   (try clear BK589)
   (try clear HB)
   generalize ((w17.setCell ⟨gb589, 0, none⟩ (.int .i64 t585)).setCell ⟨gb589, 1, none⟩ (.slice Ao20 t586.length co20)) = w21 at n0_ n1_ n2_ n3_ n4_ ⊢
   have HO_7 := n0_
   have HO588 := n1_
   have BK580 := n2_
   have BK589 := n3_
   have HB := n4_
   clear n0_ n1_ n2_ n3_ n4_
   replace HO_7 := am_ (Kd.S_drew HO_7.out)
   replace HO588 := am_ (Kd.R_drew HO588.out)
   replace BK580 := am_ (blk_drew BK580.out)
   replace BK589 := am_ (blk_drew BK589.out)
   replace HB := am_ (below_drew1 HB.out)
   obtain ⟨Ao23, co23, eo23⟩ := Kd.S_slice HO_7.out
   (first | subst eo23 | (injection eo23 with f1_ f2_ f3_; have f4_ := f1_.symm; have f5_ := f3_.symm; clear f1_ f2_ f3_; subst f4_; subst f5_))
   refine start_ (n := 9) (S := fun w' => w'.cell? ⟨gb589, 0, none⟩ = some (.int .i64 t585) ∧ w'.cell? ⟨gb589, 1, none⟩ = some (.slice Ao20 t586.length co20)) (ds := []) #[oo,oo,oo,oo,oo,oo,oo,oo,oo] (by kernel_rfl) rfl rfl (cz2 BK589.out) (fun hHeld => ?_); refine with_tabW impl_TakeOut.tab6 impl_TakeOut.bits6 (fun HT_ HW_ => ?_)
   generalize w21.drew = w22 at HO_7 HO588 BK580 BK589 HB hHeld ⊢
   refine pz_ (i := 0) (N := some 30) HT_ #[ii,oo,oo,oo,oo,oo,oo,oo,oo] rfl rfl ?_
   refine pz_ (i := 1) (N := some 31) HT_ #[ii,ii,oo,oo,oo,oo,oo,oo,oo] rfl rfl ?_
   refine pz_ (i := 2) (N := some 32) HT_ #[ii,ii,ii,oo,oo,oo,oo,oo,oo] rfl rfl ?_
   refine pz_ (i := 3) (N := some 33) HT_ #[ii,ii,ii,ii,oo,oo,oo,oo,oo] rfl rfl ?_
   refine tz_ (i := 5) (N := some 35) HT_ HW_ #[ii,ii,ii,ii,oo,ii,oo,oo,oo] rfl rfl hHeld ?_
   refine one_ (i := 4) (N := some 34) #[ii,ii,ii,ii,ii,ii,oo,oo,oo] rfl rfl (one_of HT_.out (by kernel_rfl)) (by decide) (fun K hK => ?_)
   refine goes_ Try.func103 (by kernel_rfl) rfl #[.slice Ao23 t581.length co23, .int .i64 ji11, .int .i64 (wrap64 ((ji11) + 1))] (by rfl) rfl rfl (by (try simp only [List.map_toArray, List.map_cons, List.map_nil]); first | done | (simp only [hji11]; rfl) | rfl | (simp only [List.length_drop, List.length_take]; rfl)) ?_
   with_reducible refine (slices_Delete_Pack.calls _ t581 ji11 (wrap64 ((ji11) + 1)) t590 w.heap.size _ w _ HO_7.out HB.out ?side1 A15.out).mono ?_
   (case side1 => exact below_size HB.out)
   rintro e w24 ⟨v591, rfl, ho0, hb, hg⟩
   refine ⟨_, rfl, ?_⟩
   have HO592 := am_ ho0
   replace HO588 := am_ (Kd.R_mono (ok' := fun _ => True) (Kd.R_grown (Kd.R_apart' HO588.out (Kd.S_typed HO_7.out) (by decide)) hg (fun k_ hk => hk.2)) (fun _ _ => trivial))
   replace BK580 := am_ (blk_grown (qK BK580) hg (Kd.S_away HO_7.out (by intro k_ hk he; subst he; simp at hk)))
   replace BK589 := am_ (blk_grown (qK BK589) hg (Kd.S_away HO_7.out (by intro k_ hk he; subst he; simp at hk)))
   replace HB := am_ hb
   clear HO_7
   (try clear hb hg ho0)
   refine hK.out _ _ (cz2 BK589.out) (fun hHeld => ?_)
   clear hK K
   refine norm_ (a' := ?_) ?_ ?_
   rotate_left
   ·
    show Act.put _ (some 34) _ = _
    exact ap_
   refine pz_ (i := 6) (N := some 4) HT_ #[ii,ii,ii,ii,ii,ii,ii,oo,oo] rfl rfl ?_
   refine one_ (i := 7) (N := none) #[ii,ii,ii,ii,ii,ii,ii,ii,oo] rfl rfl (one_of HT_.out (by kernel_rfl)) (by decide) (fun K hK => ?_)
   have hs25 : w24.cell? ⟨gb580, 0, none⟩ = some (.int .i64 0) := (blk_cell BK580.out 0).trans rfl
   have hfs25 := blk_frozen BK580.out 0
   have hns25_1 := NB589_580.out
   have hms25_1 := NB580_589.out
   have hs26 : w24.cell? ⟨gb580, 1, none⟩ = some (.slice none 0 0) := (blk_cell BK580.out 1).trans rfl
   have hfs26 := blk_frozen BK580.out 1
   have hns26_1 := NB589_580.out
   have hms26_1 := NB580_589.out
   refine skip_ (w1 := ?_) (by rfl) rfl ?_ ?_
   rotate_left
   ·
    go_simp
    rfl
   refine hK.out _ _ ⟨((cell_far (p := ⟨gb580, _, none⟩) NB589_580.out _).trans (((cell_far (p := ⟨gb580, _, none⟩) NB589_580.out _).trans (hHeld.1)))), ((cell_far (p := ⟨gb580, _, none⟩) NB589_580.out _).trans (((cell_far (p := ⟨gb580, _, none⟩) NB589_580.out _).trans (hHeld.2))))⟩ (fun hHeld => ?_)
   clear hK K
   refine pz_ (i := 8) (N := some 6) HT_ #[ii,ii,ii,ii,ii,ii,ii,ii,ii] rfl rfl ?_
   refine done_ (done_of HT_.out (by kernel_rfl)) ?_
   try go_wp2
   refine bodyPost_ret (results_list (rs := [.tmp 4, .cell 5 68, .tmp 6]) rfl (by simp) (.tmp (.cell gb580 68 #[.int .i64 t585, .slice Ao20 t586.length co20] (0, 0) _ rfl (by exact blk_all2 (qK BK580)) Try.underlying68 rfl (by kernel_rfl) (.tmp .nil)))) rfl ?_
   exact ⟨_, _, by first | rfl | (simp [errW_none, errW_some] <;> rfl) | (simp only [← hji11]; first | rfl | (simp [errW_none, errW_some] <;> rfl)) | (simp [*, errW_none, errW_some] <;> rfl), by (with_reducible repeat (first | apply Kd.S_alloc | apply Kd.S_drewN | apply Kd.S_drew)); exact Kd.S_mono (Kd.S_far (p := ⟨gb580, 1, none⟩) (Kd.S_far (p := ⟨gb580, 0, none⟩) (Kd.S_mono HO592.out (fun k_ hk => (⟨hk, hk.2.1⟩ : _ ∧ k_ ≠ gb580))) (fun _ hk => hk.2) (.int .i64 t585)) (fun _ hk => hk.2) (.slice Ao20 t586.length co20)) (fun _ hk => hk.1.1), by (with_reducible repeat (first | apply Kd.R_alloc | apply Kd.R_drewN | apply Kd.R_drew)); exact Kd.R_mono (R_far2 (g := gb580) (Kd.R_types HO588.out BK580.out (by decide)) (fun _ hk => hk.2)) (fun _ hk => trivial), qB HB⟩

/-! ### spec_DrawTwice: function 42 -/
def spec_DrawTwice.f (k : Nat) (l0 : List Int) : Option ((List (S68)) × Int) := (spec_l1New.f k l0).bind fun bt593 => ((spec_l12Draw.f k bt593.1 bt593.2.1 bt593.2.2).bind fun bt597 => ((spec_l1Int.f bt593.1 bt597.2.1 bt597.2.2 (([0, 1, 2, 7, (-1), 9223372036854775807] : List Int))).bind fun bt605 => (some (bt597.1, bt605.1))))
theorem spec_DrawTwice.mono : ∀ a0 k, LeO (spec_DrawTwice.f k a0) (spec_DrawTwice.f (k + 1) a0) := by
 intro a0 k
 unfold spec_DrawTwice.f
 have m0 := @spec_l12Draw.mono; have m1 := @spec_l1New.mono; exact mo_
set_option maxHeartbeats 8000000 in
set_option maxRecDepth 100000 in
theorem spec_DrawTwice.calls (k : Nat) (A0 : Option Addr) (c0 : Nat) (l0 : List Int) (r1 : List (S68)) (r2 : Int) (w : World) (hr0 : Kd.C (Kd.int .u8) w A0 l0.length l0) (hc0 : l0.length ≤ c0) (h : spec_DrawTwice.f k l0 = some (r1, r2)) :
  Calls Try.prog 42 #[.slice A0 l0.length c0] w fun e w' => ∃ v0_ : Value, e = .returned (.tuple #[v0_, .int .i64 r2]) ∧ Kd.S k68 68 w' w.heap.size (fun _ => True) v0_ r1 ∧ Below w.heap.size w w' := by
 have HR0 := Aside0.mk hr0
 have HC0 := Aside0.mk hc0
 clear hr0 hc0
 have HB := Aside0.mk (Below.refl w.heap.size w)
 have H := h
 unfold spec_DrawTwice.f at H
 clear h
 replace H := bf_ H
 obtain ⟨f_, hf_, ⟨t593, t594, t595⟩, A2, H⟩ := H
 subst hf_
 (try dsimp only at H)
 replace H := bf_ H
 obtain ⟨f_, hf_, ⟨t597, t600, t601⟩, A3, H⟩ := H
 subst hf_
 (try dsimp only at H)
 obtain ⟨y602, hy602⟩ : ∃ y_ : List Int, y_ = (([0, 1, 2, 7, (-1), 9223372036854775807] : List Int)) := ⟨_, rfl⟩
 rw [← hy602] at H
 have Ny602 := Aside0.mk hy602
 clear hy602
 replace H := bf_ H
 obtain ⟨f_, hf_, ⟨t605, t606, t607⟩, A4, H⟩ := H
 subst hf_
 (try dsimp only at H)
 simp only [Option.some.injEq, Prod.mk.injEq] at H
 obtain ⟨rfl, rfl⟩ := H
 go_enter Try.func42, Try.ntmps42
 go_wp2_with (first | ((with_reducible refine gate_callee (f := 59) rfl ?_); refine gl_ (some 6) Try.func59 #[.slice A0 l0.length c0] ?_; (with_reducible refine (spec_l1New.calls k _ _ l0 t593 t594 t595 w _ ?side1 ?side2 ?side3 A2.out).mono ?_); (case side1 => exact qB HB); (case side2 => exact HR0.out); (case side3 => exact HC0.out); rintro e w5 ⟨g596, rfl, hi, hb, hb2⟩; refine ⟨_, rfl, ?_⟩; replace HB := am_ (hb); have HI596 := am_ (hi); have IGHI596 := iG_ HI596.out.ge; (try clear hb); (try clear hb2); (try clear hi)) | ((with_reducible refine gate_callee (f := 100) rfl ?_); refine gl_ (some 8) Try.func100 #[.pointer (some ⟨g596, 0, none⟩)] ?_; (with_reducible refine (spec_l12Draw.calls k g596 t593 t594 t595 t597 t600 t601 w _ ?side1 ?side2 A3.out).mono ?_); (case side1 => exact IsS128.q HI596); (case side2 => exact qB HB); rintro e w6 ⟨v598, rfl, ho0, hi, hb, hk⟩; refine ⟨_, rfl, ?_⟩; have HO599 := am_ (Kd.S_lower ho0 (below_size (qB HB))); replace HB := am_ (hb); replace HI596 := am_ (hi); (try clear hb); (try clear hk); (try clear hi); (try clear ho0)) | ((with_reducible refine gate_dst (N := 10) rfl ?_); refine Kd.R_lit (Kd.int .i64) _ 3 ?hg (N := 10) ?hd (xs := ([0, 1, 2, 7, (-1), 9223372036854775807] : List Int)) (inner := [.int .i64 0, .int .i64 1, .int .i64 2, .int .i64 7, .int .i64 (-1), .int .i64 9223372036854775807]) (ok := fun _ => True) (okp := fun _ => True) ?hr ?hp (fun _ hk => hk) trivial (Below.refl _ _) (Nat.le_refl _) (by simp) ?_; (case hd => rfl); (case hg => rfl); (case hr => first | (go_simp; done) | (go_simp; rfl)); (case hp => exact (Reps.one (show Kd.M (Kd.int .i64) _ _ _ 0 [.int .i64 0] from rfl) (Reps.one (show Kd.M (Kd.int .i64) _ _ _ 1 [.int .i64 1] from rfl) (Reps.one (show Kd.M (Kd.int .i64) _ _ _ 2 [.int .i64 2] from rfl) (Reps.one (show Kd.M (Kd.int .i64) _ _ _ 7 [.int .i64 7] from rfl) (Reps.one (show Kd.M (Kd.int .i64) _ _ _ (-1) [.int .i64 (-1)] from rfl) (Reps.one (show Kd.M (Kd.int .i64) _ _ _ 9223372036854775807 [.int .i64 9223372036854775807] from rfl) (Reps.none _ _)))))))); intro v603 w7 ho8 hb hg_ hnew_; clear hg_ hnew_; (first | rw [← Ny602.out] at ho8 | (simp only [Int.reduceToNat] at ho8; rw [← Ny602.out] at ho8)); replace HO599 := am_ (Kd.S_below (qS HO599) hb); have HO604 := am_ (Kd.R_lower ho8 (below_size (qB HB))); replace HB := bS_ HB hb; replace HI596 := am_ (IsS128.below (IsS128.q HI596) hb); clear hb ho8; obtain ⟨Ao9, co9, eo9⟩ := Kd.R_slice HO604.out; subst eo9) | ((with_reducible refine gate_callee (f := 62) rfl ?_); refine gl_ (some 11) Try.func62 #[.pointer (some ⟨g596, 0, none⟩), .slice Ao9 y602.length co9] ?_; (with_reducible refine (spec_l1Int.calls g596 t593 t600 t601 _ _ y602 t605 t606 t607 w _ ?side1 ?side2 ?side3 ?side4 ?side5 A4.out).mono ?_); (case side1 => exact IsS128.q HI596); (case side2 => exact qB HB); (case side3 => exact qC ((Kd.R_reads' HO604.out).2.2)); (case side4 => exact (Kd.R_reads' HO604.out).2.1); (case side5 => exact far_slice (IsS128.own_ne HI596.out HO604.out (by decide))); rintro e w10 ⟨rfl, hi, hb, hk⟩; refine ⟨_, rfl, ?_⟩; replace HO599 := am_ (Kd.S_mono (Kd.S_keep (IsS128.apartS (show IsS128 w _ g596 t593 t600 t601 from IsS128.q HI596) (qS HO599) (by decide)) hk (fun _ h => h.2)) (fun _ h => h.1)); replace HO604 := am_ (Kd.R_mono (Kd.R_keep (IsS128.apart (show IsS128 w _ g596 t593 t600 t601 from IsS128.q HI596) (qR HO604) (by decide)) hk (fun _ h => h.2)) (fun _ h => h.1)); replace HB := am_ (hb); replace HI596 := am_ (hi); (try clear hb); (try clear hk); (try clear hi)))
 go_ret2
 exact ⟨_, er_, qS HO599, qB HB⟩

/-! ### impl_isIn: function 87 -/
def impl_isIn.f (a0 : Int) (a1 : Int) (a2 : Int) : Option (Bool) := if a1 ≤ a0 then (some (decide (a0 ≤ a2))) else (some false)
set_option maxHeartbeats 8000000 in
set_option maxRecDepth 100000 in
theorem impl_isIn.calls (a0 : Int) (a1 : Int) (a2 : Int) (r : Bool) (w : World) (h : impl_isIn.f a0 a1 a2 = some r) :
  Calls Try.prog 87 #[.int .i64 a0, .int .i64 a1, .int .i64 a2] w fun e w' => e = .returned (.bool r) ∧ Drawn0 w w' := by
 have H := h
 unfold impl_isIn.f at H
 clear h
 by_cases c4 : a1 ≤ a0
 ·
  rw [if_pos c4] at H
  have c4b0 : decide (a1 ≤ a0) = true := decide_eq_true c4
  clear c4
  obtain rfl := Option.some.inj H
  go_enter Try.func87, Try.ntmps87
  go_wp2
  go_ret
  exact ⟨by first | rfl | (simp; done) | (simp [*]; done), by repeat (first | exact Drawn0.refl _ | apply Drawn0.step)⟩
 rw [if_neg c4] at H
 have c4b0 : decide (a1 ≤ a0) = false := decide_eq_false c4
 clear c4
 obtain rfl := Option.some.inj H
 go_enter Try.func87, Try.ntmps87
 go_wp2
 go_ret
 exact ⟨by first | rfl | (simp; done) | (simp [*]; done), by repeat (first | exact Drawn0.refl _ | apply Drawn0.step)⟩

/-! ### impl_WayOk: function 47 -/
def impl_WayOk.l0 : Nat → List (S68) → List (S68) → Int → Int → Option (Bool)
 | 0, _, _, _, _ => none
 | k + 1, x0, x5, x6, x7 => if x7 < x6 then (if 0 ≤ x7 then (if x7 < (x5.length : Int) then ((impl_isIn.f ((rd_T68 x5 x7).f0) 0 1).bind fun t610 => (if t610 = true then (if (((rd_T68 x5 x7).f1).length : Int) > 400 then (some false) else (impl_WayOk.l0 k x0 x5 x6 (wrap64 (x7 + 1)))) else (some false))) else (none)) else (none)) else (some (decide ((x0.length : Int) ≤ 12)))
def impl_WayOk.f (k : Nat) (l0 : List (S68)) : Option (Bool) := impl_WayOk.l0 k l0 l0 (l0.length : Int) 0
theorem impl_WayOk.mono_l : ∀ k, (∀ y0 y1 y2 y3, LeO (impl_WayOk.l0 k y0 y1 y2 y3) (impl_WayOk.l0 (k + 1) y0 y1 y2 y3))
 | 0 => fun _ _ _ _ r h => by simp [impl_WayOk.l0] at h
 | k + 1 => by
  have ih0 := impl_WayOk.mono_l k
  ·
   intro y0 y1 y2 y3
   unfold impl_WayOk.l0
   exact mo_
theorem impl_WayOk.mono : ∀ a0 k, LeO (impl_WayOk.f k a0) (impl_WayOk.f (k + 1) a0) := by
 intro a0 k
 have ih0 := impl_WayOk.mono_l k
 unfold impl_WayOk.f
 exact mo_
set_option maxHeartbeats 8000000 in
set_option maxRecDepth 100000 in
theorem impl_WayOk.calls (k : Nat) (A0 : Option Addr) (c0 : Nat) (l0 : List (S68)) (r : Bool) (w : World) (hr0 : Kd.C k68 w A0 l0.length l0) (hc0 : l0.length ≤ c0) (h : impl_WayOk.f k l0 = some r) :
  Calls Try.prog 47 #[.slice A0 l0.length c0] w fun e w' => e = .returned (.bool r) ∧ Below w.heap.size w w' := by
 have hu68 := Try.underlying68
 have HR0 := Aside0.mk hr0
 have HC0 := Aside0.mk hc0
 clear hr0 hc0
 have HB := Aside0.mk (Below.refl w.heap.size w)
 have H : (impl_WayOk.l0 k l0 l0 (l0.length : Int) 0) = some r := h
 clear h
 have H' := Aside0.mk H
 clear H
 go_enter Try.func47, Try.ntmps47
 go_wp2
 go_loopg [7] k (fun kq v7 w' => ∃ (x7_1 : Int), v7 = .int .i64 x7_1 ∧ Aside0 (impl_WayOk.l0 kq l0 l0 (l0.length : Int) x7_1 = some r) ∧ Aside0 (kq ≤ k) ∧ Aside0 (Below w.heap.size w w'))
 case atStart => exact ⟨(0), eqq_, H', ⟨Nat.le_refl _⟩, ⟨qB HB⟩⟩
 case round =>
  clear H'
  obtain ⟨x7_1, rfl, HA, HK1, HB⟩ := hrel
  cases gk with
  | zero => exact absurd HA.out (by simp [impl_WayOk.l0])
  | succ k1 =>
   have H := HA.out
   clear HA
   simp only [impl_WayOk.l0] at H
   by_cases c2 : x7_1 < (l0.length : Int)
   rotate_left
   ·
    rw [if_neg c2] at H
    have c2b0 : decide (x7_1 < (l0.length : Int)) = false := decide_eq_false c2
    clear c2
    obtain rfl := Option.some.inj H
    go_wp2
    go_ret
    exact ⟨er_, qB HB⟩
   rw [if_pos c2] at H
   have c2b0 : decide (x7_1 < (l0.length : Int)) = true := decide_eq_true c2
   clear c2
   by_cases c3 : 0 ≤ x7_1
   case neg => exact nn_ c3 H
   rw [if_pos c3] at H
   have c3b0 : decide (0 ≤ x7_1) = true := decide_eq_true c3
   clear c3
   by_cases c4 : x7_1 < (l0.length : Int)
   case neg => exact nn_ c4 H
   rw [if_pos c4] at H
   have c4b0 : decide (x7_1 < (l0.length : Int)) = true := decide_eq_true c4
   clear c4
   have HC5 := Aside0.mk H
   clear H
   have p608 : 0 ≤ (x7_1 : Int) := od_
   have q608 : x7_1 < (l0.length : Int) := od_
   obtain ⟨ad608, A608_1, c608_1, e608, hx608_0, hx608_1, hl608_1, hi608_1⟩ := at_T68 HR0.out x7_1 p608 q608
   cases e608
   replace hx608_0 := lb_ HB hx608_0
   replace hx608_1 := lb_ HB hx608_1
   have HR608_1 := Aside0.mk hi608_1
   have HC608_1 := Aside0.mk hl608_1
   clear hi608_1 hl608_1
   replace p608 := eq_true p608
   replace q608 := eq_true q608
   go_upto_region 4 with (first | ((with_reducible refine gate_dst (N := 4) rfl ?_); (try (refine gate_guard (by rfl) ?_; dsimp only)); refine bx_ (N := 4) (cs := #[.int .i64 0, .slice none 0 0]) (t := 68) ?_; intro gb609 hg w6 hbox hb; have BK609 := am_ (hbox); have GW609 := gA_ hg HB; have GE609 := GW609; have IGE609 := gI_ GE609; replace HB := bS_ HB hb; clear hb hbox hg; (try clear zK609); have zK609 := cz2 BK609.out; (try clear fK609); have fK609 := fz2 BK609.out))
   (try simp only [Act.put, List.setIfInBounds_toArray, List.set_cons_zero, List.set_cons_succ])
   have H := HC5.out
   clear HC5
   replace H := bd_ H
   obtain ⟨t610, A8, H⟩ := H
   by_cases c9 : t610 = true
   rotate_left
   ·
    replace c9 := Bool.eq_false_iff.mpr c9
    subst c9
    rw [if_neg (show ¬ (false = true) by decide)] at H
    obtain rfl := Option.some.inj H
    (try clear zK609)
    have zK609 := cz2 BK609.out
    (try clear fK609)
    have fK609 := fz2 BK609.out
    go_wp2_with (first | ((with_reducible refine gate_callee (f := 87) rfl ?_); refine gl_ (some 13) Try.func87 #[.int .i64 ((rd_T68 l0 x7_1).f0), .int .i64 0, .int .i64 1] ?_; (with_reducible refine (impl_isIn.calls ((rd_T68 l0 x7_1).f0) 0 1 false _ A8.out).mono ?_); rintro e w' ⟨rfl, ⟨nd, rfl⟩⟩; refine ⟨_, rfl, ?_⟩))
    go_ret
    exact ⟨er_, qB HB⟩
   subst c9
   rw [if_pos rfl] at H
   have HC10 := Aside0.mk H
   clear H
   (try clear zK609)
   have zK609 := cz2 BK609.out
   (try clear fK609)
   have fK609 := fz2 BK609.out
   go_upto_if 20 with (first | ((with_reducible refine gate_callee (f := 87) rfl ?_); refine gl_ (some 13) Try.func87 #[.int .i64 ((rd_T68 l0 x7_1).f0), .int .i64 0, .int .i64 1] ?_; (with_reducible refine (impl_isIn.calls ((rd_T68 l0 x7_1).f0) 0 1 true _ A8.out).mono ?_); rintro e w' ⟨rfl, ⟨nd, rfl⟩⟩; refine ⟨_, rfl, ?_⟩))
   (try simp only [Act.put, List.setIfInBounds_toArray, List.set_cons_zero, List.set_cons_succ])
   have n0_ : Aside0 (((w6.setCell ⟨gb609, 0, none⟩ (.int .i64 ((rd_T68 l0 x7_1).f0))).setCell ⟨gb609, 1, none⟩ (.slice A608_1 ((rd_T68 l0 x7_1).f1).length c608_1)).heap[gb609]? = some (.cells #[.int .i64 ((rd_T68 l0 x7_1).f0), .slice A608_1 ((rd_T68 l0 x7_1).f1).length c608_1] 68 (0, 0))) := ⟨by (with_reducible repeat (first | refine blk_drewN ?_ _ | refine blk_drew ?_ | refine blk_alloc ?_ _)); refine blk_all2 (show _ = some (Go.Obj.cells #[.int .i64 0, .slice none 0 0] _ (0, 0)) from ?_); exact qK BK609⟩
   have n1_ : Aside0 (Below w.heap.size w ((w6.setCell ⟨gb609, 0, none⟩ (.int .i64 ((rd_T68 l0 x7_1).f0))).setCell ⟨gb609, 1, none⟩ (.slice A608_1 ((rd_T68 l0 x7_1).f1).length c608_1))) := ⟨qB HB⟩
   (try clear BK609)
   (try clear HB)
   generalize ((w6.setCell ⟨gb609, 0, none⟩ (.int .i64 ((rd_T68 l0 x7_1).f0))).setCell ⟨gb609, 1, none⟩ (.slice A608_1 ((rd_T68 l0 x7_1).f1).length c608_1)) = w12 at n0_ n1_ ⊢
   have BK609 := n0_
   have HB := n1_
   clear n0_ n1_
   (try (rw [drewN_self w12]; generalize hq_ : World.drewN w12 _ = w12; have n0_ : Aside0 (w12.heap[gb609]? = some (.cells #[.int .i64 ((rd_T68 l0 x7_1).f0), .slice A608_1 ((rd_T68 l0 x7_1).f1).length c608_1] 68 (0, 0))) := ⟨by rw [← hq_]; exact (qK BK609)⟩; have n1_ : Aside0 (Below w.heap.size w w12) := ⟨by rw [← hq_]; exact (qB HB)⟩; clear BK609 HB hq_; have BK609 := n0_; have HB := n1_; clear n0_ n1_))
   have H := HC10.out
   clear HC10
   by_cases c13 : (((rd_T68 l0 x7_1).f1).length : Int) > 400
   ·
    rw [if_pos c13] at H
    have c13b0 : decide (400 < (((rd_T68 l0 x7_1).f1).length : Int)) = true := decide_eq_true c13
    have c13b1 : decide (400 < ((rd_T68 l0 x7_1).f1).length) = true := decide_eq_true (by omega)
    clear c13
    (first | rw [c13b0] | rw [c13b1] | (simp only [i64_w, i32_w]; rw [c13b0]) | skip)
    obtain rfl := Option.some.inj H
    go_wp2
    go_ret
    exact ⟨er_, qB HB⟩
   rw [if_neg c13] at H
   have c13b0 : decide (400 < (((rd_T68 l0 x7_1).f1).length : Int)) = false := decide_eq_false c13
   have c13b1 : decide (400 < ((rd_T68 l0 x7_1).f1).length) = false := decide_eq_false (by omega)
   clear c13
   (first | rw [c13b0] | rw [c13b1] | (simp only [i64_w, i32_w]; rw [c13b0]) | skip)
   have H' := Aside0.mk H
   clear H
   go_wp2
   go_roundg k1
   case measure => have := HK1.out; omega
   case rel => exact ⟨(wrap64 (x7_1 + 1)), eqq_, H', ⟨by have := HK1.out; omega⟩, ⟨qB HB⟩⟩

end Go.Proofs.Ytiffahfpfgnjnaa.PFnWays
