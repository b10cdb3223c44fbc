-- Written by a program of this session (myprint.py, over the kit's print): contracts of FnExactTakeOut
import Derived.Test.YthmfmpmljndjhaaPFnExactTakeOutx0
import Derived.Test.YthmfmpmljndjhaaPFnExactTakeOutx2
import Derived.Test.YthmfmpmljndjhaaPFnExactTakeOutx3
import Derived.StillTailTactics
namespace Go.Proofs.Ythmfmpmljndjhaa.PFnExactTakeOut
open Go.RowKit Go.Proofs.YthmfmpmljndjhaaW.PrintWords Go.Proofs.YthmfmpmljndjhaaW.PrintLast Go.Proofs.YthmfmpmljndjhaaW.PrintMore Go.Proofs.YthmfmpmljndjhaaV
attribute [local go_sem] max2_int min2_int max_two min_two max_three min_three max_four min_four   -- for this text's walks alone
set_option linter.unusedVariables false
set_option linter.unusedSimpArgs false

/-! ### slices_Delete_Pack: function 110, by hand -/
def slices_Delete_Pack.f (l0 : List (S74)) (a1 : Int) (a2 : Int) : Option (List (S74)) := if 0 ≤ a1 ∧ a1 < (l0.length : Int) ∧ a2 = a1 + 1 then some (l0.eraseIdx a1.toNat) else none
theorem slices_Delete_Pack.R_tail {α : Type} {P : Program} (d : Kd α) {W : World} {base e g n c : Nat} {xs : List α} {ok : Nat → Prop} (HO : d.R e W base ok (.slice (some ⟨g, 0, none⟩) n c) xs) (q : Nat) (news : List Value) (hq : n * d.sz ≤ q) (hfit : q + news.length ≤ c * d.sz) (h1 : ∀ u ∈ news, u.oneCell' = true) :
  ∃ w1, Sem.run P (storeCells ⟨g, q, none⟩ news) W = .ok () w1 ∧ d.R e w1 base ok (.slice (some ⟨g, 0, none⟩) n c) xs ∧ W.grownBy w1 (some g) := by
 obtain ⟨hn, hnc, _⟩ := Kd.R_reads' HO
 obtain ⟨hok, inner, hown, hr⟩ := HO
 rcases hown.2 with ⟨hv, _⟩ | ⟨g', cap', cur, hv, hb, hh, h9, hcm, hcs, htake⟩
 ·
  cases hv
 injection hv with ha _ hc
 injection ha with ha
 injection ha with hg
 subst hg; subst hc
 have hst := run_storeCells_cells (P := P) g q news 0 W (fun j hj => by rw [cell_of_row W g _ cur e (0, 0) hh]; simp; omega) (fun j _ => blk_frozen hh _) h1
 simp only [Nat.add_zero] at hst
 obtain ⟨cur', h3, h4, h5⟩ := setCells_row news q W cur hh (by omega)
 obtain ⟨s1, s2, s3, s4⟩ := setCells_same g news q W
 have hfar : ∀ k', k' ≠ g → (W.setCells g q news).heap[k']? = W.heap[k']? := fun k' hk' => setCells_far news _ k' hk'
 have hgo : some g = (Value.slice (some ⟨g, 0, none⟩) n c).ownBlock := by simp [Value.ownBlock]
 refine ⟨_, hst, ⟨hok, inner, ⟨hown.1, .inr ⟨g, c, cur', by rw [hn], hb, h3, by omega, hcm, by rw [h4, hcs], ?_⟩⟩, ?_⟩, ⟨s1, s2, s3, by rw [s4]; exact Nat.le_refl _, fun k' _ hk' => hfar k' (fun he => hk' (by rw [he]))⟩⟩
 ·
  rw [h5, ← hn]
  rw [← hn] at htake
  rw [List.append_assoc, List.take_append_of_le_length (by rw [List.length_take, Array.length_toList]; omega), List.take_take, Nat.min_eq_left hq]
  exact htake
 ·
  exact hr.imp_ (fun p q' hp => d.M_move (fun k' hk' => hfar k' (fun he => hk'.2 (by rw [← hgo, he]))) hp)
theorem slices_Delete_Pack.clear_ {W : World} {base g n c : Nat} {xs : List S74} {ok : Nat → Prop} (HO : Kd.S k74 74 W base ok (.slice (some ⟨g, 0, none⟩) (n - 1) c) xs) (hn : 0 < n) (hc : n ≤ c) :
  ∃ w1, Sem.run Try.prog (Builtin.clear_ #[66] 0 #[.slice (some ⟨g, (n - 1) * 2, none⟩) (n - (n - 1)) (c - (n - 1))]) W = .ok (.tuple #[]) w1 ∧ Kd.S k74 74 w1 base ok (.slice (some ⟨g, 0, none⟩) (n - 1) c) xs ∧ W.grownBy w1 (some g) := by
 obtain ⟨f, HR⟩ := HO
 obtain ⟨w1, h1, h2, h3⟩ := slices_Delete_Pack.R_tail (P := Try.prog) _ HR ((n - 1) * 2) [.int .i64 0, .slice none 0 0] (Nat.le_refl _) (by show (n - 1) * 2 + 2 ≤ c * 2; omega) (by intro u hu; simp at hu; rcases hu with rfl | rfl <;> rfl)
 refine ⟨w1, ?_, ⟨f, h2⟩, h3⟩
 obtain ⟨i0, hi0, hz, _⟩ := info_parts info74
 rw [show n - (n - 1) = 1 by omega]
 have hz' : (Builtin.zeroCells (Value.agg #[.int .i64 0, .slice none 0 0]).cells 1).toList = [.int .i64 0, .slice none 0 0] := by kernel_rfl
 simp [Builtin.clear_, run_underlying Try.underlying66, zeroValue, typeInfo, hi0, hz, hz', h1]
set_option maxHeartbeats 1000000 in
set_option maxRecDepth 100000 in
theorem slices_Delete_Pack.del (u : Value) (xs : List S74) (k : Nat) (base : Nat) (ok : Nat → Prop) (w0 w : World) (HO : Kd.S k74 74 w base ok u xs) (hk : k < xs.length) (HB : Below base w0 w) (hbase : base ≤ w.heap.size) :
  Calls Try.prog 110 #[u, .int .i64 (k : Int), .int .i64 ((k : Int) + 1)] w fun e w' => ∃ v, e = .returned v ∧ Kd.S k74 74 w' base ok v (xs.eraseIdx k) ∧ Below base w0 w' ∧ w.grownBy w' u.ownBlock := by
 have hu_t := Try.underlying66
 have hu_e := Try.underlying74
 obtain ⟨g, cap, rfl, hgb, hgl, _⟩ := Kd.S_form HO (by omega)
 obtain ⟨_, hcap, hC⟩ := Kd.S_reads' HO
 have hbig : xs.length ≤ 9223372036854775807 := hC.2.1
 have c1 : ((k : Int) == (k : Int) + 1) = false := by simp; omega
 have c2 : decide ((k : Int) = (k : Int) + 1) = false := decide_eq_false (by omega)
 have HO' := Aside0.mk HO
 have HB' := Aside0.mk HB
 have p0 : 0 ≤ (k : Int) := by omega
 have p1 : (k : Int) ≤ (k : Int) + 1 := by omega
 have p2 : (k : Int) + 1 ≤ (xs.length : Int) := by omega
 have p3 : (xs.length : Int) ≤ (cap : Int) := by omega
 obtain ⟨i0, hi0, _, hsz, _⟩ := info_parts info74
 have cA := cut_to (P := Try.prog) 66 74 .i64 hu_t hi0 (some ⟨g, 0, none⟩) xs.length cap (k : Int) p0 (by omega) hcap
 have cB := cut_from (P := Try.prog) 66 74 .i64 hu_t hi0 2 hsz (some ⟨g, 0, none⟩) xs.length cap ((k : Int) + 1) (by omega) p2
 rw [show (k : Int).toNat = k from rfl] at cA
 rw [show ((k : Int) + 1).toNat = k + 1 by omega] at cB
 obtain ⟨AB, hAB⟩ : ∃ A, A = (if cap = k + 1 then (some ⟨g, 0, none⟩ : Option Addr) else (some (⟨g, 0, none⟩ : Addr)).map (·.add ((k + 1) * 2))) := ⟨_, rfl⟩
 rw [← hAB] at cB
 have HAB := Aside0.mk hAB
 clear HO HB hC hAB hi0 hsz
 go_enter Try.func110, Try.ntmps110
 go_wp2
 go_still_tail 6, (by kernel_rfl)
 refine Kd.S_delete k74 (w0 := w0) base rfl (.tmp 22) (.tmp 25) 66 74 rfl Try.underlying66 (by have := info74; simp only [Option.map_eq_some_iff] at this ⊢; obtain ⟨i, h1, h2⟩ := this; exact ⟨i, h1, by injection h2 with h2 h3; injection h3⟩) (g := g) (n := xs.length) (c := cap) (k := k) (m := xs.length - (k + 1)) (c2 := cap - (k + 1)) (A := AB) (xs := xs) (ok := ok) rfl rfl HAB.1 rfl (Kd.S_drew HO'.1) hk (below_drew HB'.1) hbase ?_
 intro w1 S1 B1 G1
 obtain ⟨w2, hrun, S1, G2⟩ := slices_Delete_Pack.clear_ S1 (by omega) hcap
 have S1' := Aside0.mk S1
 have B1' := Aside0.mk (B1.grown G2 (by have := G1.size; have := hbase; simp only [] at *; omega) (fun q hq => by injection hq with hq; subst hq; exact hgb))
 have GG := Aside0.mk (show w.grownBy w2 (Value.slice (some ⟨g, 0, none⟩) xs.length cap).ownBlock from World.grownBy.trans (World.grownBy.trans (grown_of_below (below_drew (Below.refl _ w)) _) G1) G2)
 clear S1 B1 G1 G2
 have hrun' := Aside0.mk hrun
 clear hrun
 go_wp2
 rw [hrun'.1]
 go_wp2
 go_ret
 exact ⟨_, rfl, S1'.1, B1'.1, GG.1⟩
theorem slices_Delete_Pack.calls (u : Value) (l0 : List (S74)) (a1 a2 : Int) (r : List (S74)) (base : Nat) (ok : Nat → Prop) (w0 w : World) (HO : Kd.S k74 74 w base ok u l0) (HB : Below base w0 w) (hbase : base ≤ w.heap.size) (h : slices_Delete_Pack.f l0 a1 a2 = some r) :
  Calls Try.prog 110 #[u, .int .i64 a1, .int .i64 a2] w fun e w' => ∃ v, e = .returned v ∧ Kd.S k74 74 w' base ok v r ∧ Below base w0 w' ∧ w.grownBy w' u.ownBlock := by
 unfold slices_Delete_Pack.f at h
 split at h
 case isFalse => cases h
 case isTrue hc =>
  obtain ⟨h0, h1, rfl⟩ := hc
  injection h with h
  subst h
  obtain ⟨q, rfl⟩ := Int.eq_ofNat_of_zero_le h0
  exact slices_Delete_Pack.del u l0 q base ok w0 w HO (by omega) HB hbase


/-! ### impl_TakeOut: function 62 -/
def impl_TakeOut.j0 : Nat → List (S74) → Int → List (S74) → Bool → Option ((List (S74)) × Int × List Int × Bool)
 | 0, _, _, _, _ => none
 | k + 1, x0, x1, x7, x18 => if x18 = true then (some (x7, 0, ([] : List Int), false)) else (if (x0.length : Int) = 0 then (none) else (if 0 ≤ (Int.tmod x1 (x0.length : Int)) then (if (Int.tmod x1 (x0.length : Int)) < (x0.length : Int) then ((impl_packCopy.f ((rd_T74 x0 (Int.tmod x1 (x0.length : Int))).f0) ((rd_T74 x0 (Int.tmod x1 (x0.length : Int))).f1)).bind fun bt211 => ((slices_Delete_Pack.f x7 (Int.tmod x1 (x0.length : Int)) (wrap64 ((Int.tmod x1 (x0.length : Int)) + 1))).bind fun t216 => (some (t216, bt211.1, bt211.2, true)))) else (none)) else (none)))
def impl_TakeOut.f (k : Nat) (l0 : List (S74)) (a1 : Int) : Option ((List (S74)) × Int × List Int × Bool) := (impl_wayCopy.f k l0).bind fun t207 => (if (l0.length : Int) = 0 then (impl_TakeOut.j0 k l0 a1 t207 true) else (impl_TakeOut.j0 k l0 a1 t207 (decide (a1 < 0))))
theorem impl_TakeOut.mono_l : ∀ k, (∀ y0 y1 y2 y3, LeO (impl_TakeOut.j0 k y0 y1 y2 y3) (impl_TakeOut.j0 (k + 1) y0 y1 y2 y3))
 | 0 => fun _ _ _ _ r h => by simp [impl_TakeOut.j0] at h
 | k + 1 => by
  have ih0 := impl_TakeOut.mono_l k
  ·
   intro y0 y1 y2 y3
   unfold impl_TakeOut.j0
   repeat' first
   | (with_reducible exact ih0 _ _ _ _)
   | (with_reducible exact impl_wayCopy.mono _ _)
   | (with_reducible exact LeO.refl _)
   | (with_reducible exact LeO.none _)
   | (with_reducible refine LeO.ite ?_ ?_)
   | (with_reducible refine LeO.bind ?_ (fun _ => ?_))
   | exact ih0 _ _ _ _
   | exact impl_wayCopy.mono _ _
   | exact LeO.none _
   | refine LeO.ite ?_ ?_
   | refine LeO.bind ?_ (fun _ => ?_)
theorem impl_TakeOut.mono : ∀ a0 a1 k, LeO (impl_TakeOut.f k a0 a1) (impl_TakeOut.f (k + 1) a0 a1) := by
 intro a0 a1 k
 have ih0 := impl_TakeOut.mono_l k
 unfold impl_TakeOut.f
 repeat' first
   | (with_reducible exact ih0 _ _ _ _)
   | (with_reducible exact impl_wayCopy.mono _ _)
   | (with_reducible exact LeO.refl _)
   | (with_reducible exact LeO.none _)
   | (with_reducible refine LeO.ite ?_ ?_)
   | (with_reducible refine LeO.bind ?_ (fun _ => ?_))
   | exact ih0 _ _ _ _
   | exact impl_wayCopy.mono _ _
   | exact LeO.none _
   | refine LeO.ite ?_ ?_
   | refine LeO.bind ?_ (fun _ => ?_)
def impl_TakeOut.T6 : Bool × List (List Nat × List Nat) := (true, [([], []), ([], []), ([], []), ([2], [2]), ([0, 1, 3], [0, 1, 3]), ([], []), ([4, 4, 0, 1, 2, 3, 4], [4]), ([5, 6, 0, 1, 2, 3, 4, 5, 6], [5]), ([7, 0, 1, 2, 3, 4, 5, 6, 7], [])])
def impl_TakeOut.B6 : List Nat := [0, 0, 0, 4, 15, 0, 31, 127, 255]
theorem impl_TakeOut.tab6 : rtab .any (opsOf Try.f62 6) = impl_TakeOut.T6 := by kernel_rfl
theorem impl_TakeOut.bits6 : waitsOk impl_TakeOut.T6.2 impl_TakeOut.B6 = true := by kernel_rfl
set_option maxHeartbeats 8000000 in
set_option maxRecDepth 100000 in
theorem impl_TakeOut.calls (k : Nat) (A0 : Option Addr) (c0 : Nat) (l0 : List (S74)) (a1 : Int) (r1 : List (S74)) (r2 : Int) (r3 : List Int) (r4 : Bool) (w : World) (hr0 : Kd.C k74 w A0 l0.length l0) (hc0 : l0.length ≤ c0) (h : impl_TakeOut.f k l0 a1 = some (r1, r2, r3, r4)) :
  Calls Try.prog 62 #[.slice A0 l0.length c0, .int .i64 a1] w fun e w' => ∃ v0_ v2_ : Value, e = .returned (.tuple #[v0_, .agg #[.int .i64 r2, v2_], .bool r4]) ∧ Kd.S k74 74 w' w.heap.size (fun k_ => some k_ ≠ (v2_ : Value).ownBlock) v0_ r1 ∧ Kd.R (Kd.int .u8) 5 w' w.heap.size (fun _ => True) v2_ r3 ∧ Below w.heap.size w w' := by
 have hu74 := Try.underlying74
 have HR0 := Aside0.mk hr0
 have HC0 := Aside0.mk hc0
 clear hr0 hc0
 have HB := Aside0.mk (Below.refl w.heap.size w)
 have H : ((impl_wayCopy.f k l0).bind fun t207 => (if (l0.length : Int) = 0 then (impl_TakeOut.j0 k l0 a1 t207 true) else (impl_TakeOut.j0 k l0 a1 t207 (decide (a1 < 0))))) = some (r1, r2, r3, r4) := h
 clear h
 obtain ⟨t207, A3, H⟩ := bd_ H
 have HC4 := Aside0.mk H
 clear H
 go_enter Try.func62, Try.ntmps62
 go_upto_region 2 with (first | ((with_reducible refine gate_dst (N := 5) rfl ?_); refine box_event ?hg (N := 5) ?hd (cs := #[.int .i64 0, .slice none 0 0]) (t := 74) ?hr ?_; (case hd => rfl); (case hg => rfl); (case hr => first | (go_simp; done) | (go_simp; rfl)); intro gb206 hg w5 hbox hb; have BK206 := am_ (hbox); have GW206 := am_ ((gG_ hg (qB HB))); have IGW206 := gI_ GW206; have GE206 := am_ ((gG_ hg (qB HB))); have IGE206 := gI_ GE206; replace HB := am_ (below_step (qB HB) hb); clear hb hbox hg) | ((with_reducible refine gate_callee (f := 107) rfl ?_); refine goesL_ (some 11) rfl rfl Try.func107 (by kernel_rfl) rfl #[.slice A0 l0.length c0] rfl la_ ?_; (with_reducible refine (impl_wayCopy.calls k _ _ l0 t207 _ ?side1 ?side2 A3.out).mono ?_); (case side1 => exact qC (Kd.C_below HR0.out HB.out)); (case side2 => exact HC0.out); rintro e w6 ⟨v208, rfl, ho0, hb⟩; refine ⟨_, rfl, ?_⟩; have HO209 := am_ (Kd.S_lower (Kd.S_newB ho0 (qK BK206)) (below_size (qB HB))); replace BK206 := am_ (blk_below (qK BK206) hb); replace HB := am_ (below_step (qB HB) hb); (try clear hb); (try clear hb2); (try clear hk); (try clear hi); (try clear ho0)))
 (try simp only [Act.put, List.setIfInBounds_toArray, List.set_cons_zero, List.set_cons_succ])
 go_cut [18] (fun v18 wc => ∃ (kq : Nat) (x18_3 : Bool), v18 = .bool x18_3 ∧ Aside0 (impl_TakeOut.j0 kq l0 a1 t207 x18_3 = some (r1, r2, r3, r4)) ∧ Aside0 (kq ≤ k) ∧ Aside0 (Kd.S k74 74 wc w.heap.size (fun k_ => k_ ≠ gb206) v208 t207) ∧ Aside0 (wc.heap[gb206]? = some (.cells #[.int .i64 0, (.slice none 0 0)] 74 (0, 0))) ∧ Aside0 (Below w.heap.size w wc))
 case first =>
  have H := HC4.out
  clear HC4
  by_cases c7 : (l0.length : Int) = 0
  ·
   rw [if_pos c7] at H
   have c7b0 : ((l0.length : Int) == 0) = true := beq_iff_eq.mpr c7
   have c7b1 : ((l0.length : Int) != 0) = false := bne_eq_false_iff_eq.mpr c7
   clear c7
   (first | rw [c7b0] | rw [c7b1] | (simp only [i64_w, i32_w]; rw [c7b0]) | skip)
   have H' := Aside0.mk H
   clear H
   go_wp2
   go_meet
   case rel => exact ⟨_, (true), eqq_, H', ⟨by first | omega | exact Nat.le_refl _⟩, ⟨by (with_reducible repeat (first | apply Kd.S_alloc | apply Kd.S_drewN | apply Kd.S_drew)); exact Kd.S_mono HO209.out (fun _ hk => hk.2)⟩, ⟨qK BK206⟩, ⟨qB HB⟩⟩
  ·
   rw [if_neg c7] at H
   have c7b0 : ((l0.length : Int) == 0) = false := beq_eq_false_iff_ne.mpr c7
   have c7b1 : ((l0.length : Int) != 0) = true := bne_iff_ne.mpr c7
   have c7b2 : ¬ (l0 = []) := fun h_ => c7 (by rw [h_]; rfl)
   (first | rw [c7b0] | rw [c7b1] | rw [c7b2] | (simp only [i64_w, i32_w]; rw [c7b0]) | skip)
   have H' := Aside0.mk H
   clear H
   go_wp2
   go_meet
   case rel => exact ⟨_, (decide (a1 < 0)), eqq_, H', ⟨by first | omega | exact Nat.le_refl _⟩, ⟨by (with_reducible repeat (first | apply Kd.S_alloc | apply Kd.S_drewN | apply Kd.S_drew)); exact Kd.S_mono HO209.out (fun _ hk => hk.2)⟩, ⟨qK BK206⟩, ⟨qB HB⟩⟩
 case rest =>
  clear HC4
  try clear c1
  try clear p2
  try clear c6
  try clear c7
  try clear c7b0
  try clear c7b1
  try clear c7b2
  obtain ⟨kq, x18_3, rfl, HA, HJ3, HO_7, BK206, HB⟩ := hcut
  cases kq with
  | zero => exact absurd HA.out (by simp [impl_TakeOut.j0])
  | succ kj3 =>
   have H := HA.out
   clear HA
   simp only [impl_TakeOut.j0] at H
   by_cases c8 : x18_3 = true
   ·
    subst c8
    rw [if_pos rfl] at H
    simp only [Option.some.injEq, Prod.mk.injEq] at H
    obtain ⟨rfl, rfl, rfl, rfl⟩ := H
    obtain ⟨z9_0, z9_1⟩ := cz2 BK206.out
    obtain ⟨f9_0, f9_1⟩ := fz2 BK206.out
    go_wp2
    refine bodyPost_ret (results_list (rs := [.tmp 4, .cell 5 74, .tmp 6]) rfl (by simp) (.tmp (.cell gb206 74 #[.int .i64 0, .slice none 0 0] (0, 0) _ rfl (by (with_reducible repeat (first | refine blk_drewN ?_ _ | refine blk_drew ?_ | refine blk_alloc ?_ _)); refine blk_put (cs := #[.int .i64 0, .slice none 0 0]) ?_ 1 _ rfl; (with_reducible repeat (first | refine blk_drewN ?_ _ | refine blk_drew ?_ | refine blk_alloc ?_ _)); refine blk_put (cs := #[.int .i64 0, .slice none 0 0]) ?_ 0 _ rfl; (with_reducible repeat (first | refine blk_drewN ?_ _ | refine blk_drew ?_ | refine blk_alloc ?_ _)); exact BK206.out) Try.underlying74 rfl (by kernel_rfl) (.tmp .nil)))) rfl ?_
    exact ⟨_, _, by first | rfl | (simp [errW_none, errW_some] <;> rfl) | (simp [*, errW_none, errW_some] <;> rfl), by (with_reducible repeat (first | apply Kd.S_alloc | apply Kd.S_drewN | apply Kd.S_drew)); exact Kd.S_mono (Kd.S_far (p := ⟨gb206, 1, none⟩) (Kd.S_far (p := ⟨gb206, 0, none⟩) (Kd.S_mono HO_7.out (fun k_ hk => (⟨hk, hk⟩ : _ ∧ k_ ≠ gb206))) (fun _ hk => hk.2) (.int .i64 0)) (fun _ hk => hk.2) (.slice none 0 0)) (fun _ hk => (by simp [Value.ownBlock])), by first | exact Kd.R_nil _ _ _ _ _ | exact Kd.N_nil _ _ _ _ _ | exact Kd.V_nil _ _ _ _ _ | exact Kd.Q_nil _ _ _ _ _ | exact Kd.S_nil _ _ _ _ _, qB HB⟩
   ·
    replace c8 := Bool.eq_false_iff.mpr c8
    subst c8
    rw [if_neg (show ¬ (false = true) by decide)] at H
    by_cases c10 : (l0.length : Int) = 0
    ·
     rw [if_pos c10] at H
     exact absurd H (by simp)
    ·
     rw [if_neg c10] at H
     have c10b0 : ((l0.length : Int) == 0) = false := beq_eq_false_iff_ne.mpr c10
     have c10b1 : ((l0.length : Int) != 0) = true := bne_iff_ne.mpr c10
     have c10b2 : ¬ (l0 = []) := fun h_ => c10 (by rw [h_]; rfl)
     obtain ⟨ji11, hji11⟩ : ∃ j_ : Int, (Int.tmod a1 (l0.length : Int)) = j_ := ⟨_, rfl⟩
     replace H : (if 0 ≤ (ji11) then (if (ji11) < (l0.length : Int) then ((impl_packCopy.f ((rd_T74 l0 (ji11)).f0) ((rd_T74 l0 (ji11)).f1)).bind fun bt211 => ((slices_Delete_Pack.f t207 (ji11) (wrap64 ((ji11) + 1))).bind fun t216 => (some (t216, bt211.1, bt211.2, true)))) else (none)) else (none)) = some (r1, r2, r3, r4) := by first | (rw [hji11] at H; exact H) | (simp only [hji11] at H ⊢; exact H)
     by_cases c12 : 0 ≤ (ji11)
     ·
      rw [if_pos c12] at H
      have c12b0 : decide (0 ≤ (ji11)) = true := decide_eq_true c12
      clear c12
      by_cases c13 : (ji11) < (l0.length : Int)
      ·
       rw [if_pos c13] at H
       have c13b0 : decide ((ji11) < (l0.length : Int)) = true := decide_eq_true c13
       clear c13
       obtain ⟨⟨t211, t212⟩, A14, H⟩ := bd_ H
       (try dsimp only at H)
       obtain ⟨t216, A15, H⟩ := bd_ H
       simp only [Option.some.injEq, Prod.mk.injEq] at H
       obtain ⟨rfl, rfl, rfl, rfl⟩ := H
       have p210 : 0 ≤ ((ji11) : Int) := od_
       have q210 : (ji11) < (l0.length : Int) := od_
       obtain ⟨ad210, A210_1, c210_1, e210, hx210_0, hx210_1, hl210_1, hi210_1⟩ := at_T74 HR0.out (ji11) p210 q210
       cases e210
       replace hx210_0 := lb_ HB hx210_0
       replace hx210_1 := lb_ HB hx210_1
       have HR210_1 := Aside0.mk hi210_1
       have HC210_1 := Aside0.mk hl210_1
       clear hi210_1 hl210_1
       replace p210 := eq_true p210
       replace q210 := eq_true q210
       try go_wp2_with (first | ((with_reducible refine gate_callee (f := 109) rfl ?_); refine goesL_ (some 29) rfl rfl Try.func109 (by kernel_rfl) rfl #[.agg #[.int .i64 ((rd_T74 l0 (ji11)).f0), .slice A210_1 ((rd_T74 l0 (ji11)).f1).length c210_1]] rfl (by (try simp only [List.map_toArray, List.map_cons, List.map_nil]); first | done | (simp only [hji11]; rfl) | rfl | (simp only [List.length_drop, List.length_take]; rfl)) ?_; (with_reducible refine (impl_packCopy.calls ((rd_T74 l0 (ji11)).f0) _ _ ((rd_T74 l0 (ji11)).f1) t211 t212 _ ?side1 ?side2 A14.out).mono ?_); (case side1 => exact qC (Kd.C_below HR210_1.out HB.out)); (case side2 => exact HC210_1.out); rintro e w16 ⟨v213, rfl, ho0, hb⟩; refine ⟨_, rfl, ?_⟩; replace HO_7 := am_ (Kd.S_elder' (qS HO_7) (Kd.R_base ho0) hb); have HO214 := am_ (Kd.R_lower ho0 (below_size (qB HB))); replace BK206 := am_ (blk_below (qK BK206) hb); replace HB := am_ (below_step (qB HB) hb); (try clear hb); (try clear hb2); (try clear hk); (try clear hi); (try clear ho0)) | ((with_reducible refine gate_dst (N := 9) rfl ?_); refine box_event ?hg (N := 9) ?hd (cs := #[.int .i64 0, .slice none 0 0]) (t := 74) ?hr ?_; (case hd => rfl); (case hg => rfl); (case hr => first | (go_simp; done) | (go_simp; rfl)); intro gb215 hg w17 hbox hb; replace HO_7 := am_ (Kd.S_below (Kd.S_elderB (qS HO_7) gb215 (Nat.le_of_eq hg.symm)) hb); replace HO214 := am_ (Kd.R_below (qR HO214) hb); have BK215 := am_ (hbox); have GW215 := am_ ((gG_ hg (qB HB))); have IGW215 := gI_ GW215; have GE215 := am_ ((gG_ hg (qB HB))); have IGE215 := gI_ GE215; replace HB := am_ (below_step (qB HB) hb); have NB206_215 := am_ ((gN_ hg (qK BK206))); have NB215_206 := am_ ((gM_ hg (qK BK206))); replace BK206 := am_ (blk_below (qK BK206) hb); clear hb hbox hg; have hnb18 := NB215_206.out; have hnc18 := NB206_215.out; obtain ⟨z19_0, z19_1⟩ := cz2 BK215.out; obtain ⟨f19_0, f19_1⟩ := fz2 BK215.out; obtain ⟨Ao20, co20, eo20⟩ := Kd.R_slice HO214.out; subst eo20))
       have n0_ : Aside0 (Kd.S k74 74 ((w17.setCell ⟨gb215, 0, none⟩ (.int .i64 t211)).setCell ⟨gb215, 1, none⟩ (.slice Ao20 t212.length co20)) w.heap.size (fun k_ => some k_ ≠ (.slice Ao20 t212.length co20 : Value).ownBlock ∧ k_ ≠ gb206 ∧ k_ ≠ gb215) v208 t207) := ⟨by (with_reducible repeat (first | apply Kd.S_alloc | apply Kd.S_drewN | apply Kd.S_drew)); exact Kd.S_mono (Kd.S_far (p := ⟨gb215, 1, none⟩) (Kd.S_far (p := ⟨gb215, 0, none⟩) (Kd.S_mono HO_7.out (fun k_ hk => (⟨hk, hk.2⟩ : _ ∧ k_ ≠ gb215))) (fun _ hk => hk.2) (.int .i64 t211)) (fun _ hk => hk.2) (.slice Ao20 t212.length co20)) (fun _ hk => ⟨hk.1.1.2, ⟨hk.1.1.1, hk.1.2⟩⟩)⟩
       have n1_ : Aside0 (Kd.R (Kd.int .u8) 5 ((w17.setCell ⟨gb215, 0, none⟩ (.int .i64 t211)).setCell ⟨gb215, 1, none⟩ (.slice Ao20 t212.length co20)) w.heap.size (fun _ => True) (.slice Ao20 t212.length co20) t212) := ⟨by (with_reducible repeat (first | apply Kd.R_alloc | apply Kd.R_drewN | apply Kd.R_drew)); exact Kd.R_mono (Go.Proofs.YthmfmpmljndjhaaV.R_far2 (g := gb215) (Kd.R_types HO214.out BK215.out (by decide)) (fun _ hk => hk.2)) (fun _ hk => trivial)⟩
       have n2_ : Aside0 (((w17.setCell ⟨gb215, 0, none⟩ (.int .i64 t211)).setCell ⟨gb215, 1, none⟩ (.slice Ao20 t212.length co20)).heap[gb206]? = some (.cells #[.int .i64 0, .slice none 0 0] 74 (0, 0))) := ⟨by (with_reducible repeat (first | refine blk_drewN ?_ _ | refine blk_drew ?_ | refine blk_alloc ?_ _)); refine Go.Proofs.YthmfmpmljndjhaaV.blk_far2 ?_ NB206_215.out; (with_reducible repeat (first | refine blk_drewN ?_ _ | refine blk_drew ?_ | refine blk_alloc ?_ _)); exact BK206.out⟩
       have n3_ : Aside0 (((w17.setCell ⟨gb215, 0, none⟩ (.int .i64 t211)).setCell ⟨gb215, 1, none⟩ (.slice Ao20 t212.length co20)).heap[gb215]? = some (.cells #[.int .i64 t211, .slice Ao20 t212.length co20] 74 (0, 0))) := ⟨by (with_reducible repeat (first | refine blk_drewN ?_ _ | refine blk_drew ?_ | refine blk_alloc ?_ _)); refine Go.Proofs.YthmfmpmljndjhaaV.blk_all2 (show _ = some (Go.Obj.cells #[.int .i64 0, .slice none 0 0] _ (0, 0)) from ?_); (with_reducible repeat (first | refine blk_drewN ?_ _ | refine blk_drew ?_ | refine blk_alloc ?_ _)); exact BK215.out⟩
       have n4_ : Aside0 (Below w.heap.size w ((w17.setCell ⟨gb215, 0, none⟩ (.int .i64 t211)).setCell ⟨gb215, 1, none⟩ (.slice Ao20 t212.length co20))) := ⟨qB HB⟩
       (try clear HO_7)
       (try clear HO214)
       (try clear BK206)
       (try clear BK215)
       (try clear HB)
       generalize ((w17.setCell ⟨gb215, 0, none⟩ (.int .i64 t211)).setCell ⟨gb215, 1, none⟩ (.slice Ao20 t212.length co20)) = w21 at n0_ n1_ n2_ n3_ n4_ ⊢
       have HO_7 := n0_
       have HO214 := n1_
       have BK206 := n2_
       have BK215 := n3_
       have HB := n4_
       clear n0_ n1_ n2_ n3_ n4_
       replace HO_7 := am_ (Kd.S_drew HO_7.out)
       replace HO214 := am_ (Kd.R_drew HO214.out)
       replace BK206 := am_ (blk_drew BK206.out)
       replace BK215 := am_ (blk_drew BK215.out)
       replace HB := am_ (below_drew1 HB.out)
       obtain ⟨Ao23, co23, eo23⟩ := Kd.S_slice HO_7.out
       (first | subst eo23 | (injection eo23 with f1_ f2_ f3_; have f4_ := f1_.symm; have f5_ := f3_.symm; clear f1_ f2_ f3_; subst f4_; subst f5_))
       refine start_ (n := 9) (S := fun w' => w'.cell? ⟨gb215, 0, none⟩ = some (.int .i64 t211) ∧ w'.cell? ⟨gb215, 1, none⟩ = some (.slice Ao20 t212.length co20)) (ds := []) #[oo,oo,oo,oo,oo,oo,oo,oo,oo] (by kernel_rfl) rfl rfl (cz2 BK215.out) (fun hHeld => ?_); refine with_tabW impl_TakeOut.tab6 impl_TakeOut.bits6 (fun HT_ HW_ => ?_)
       generalize w21.drew = w22 at HO_7 HO214 BK206 BK215 HB hHeld ⊢
       refine pz_ (i := 0) (N := some 30) HT_ #[ii,oo,oo,oo,oo,oo,oo,oo,oo] rfl rfl ?_
       refine pz_ (i := 1) (N := some 31) HT_ #[ii,ii,oo,oo,oo,oo,oo,oo,oo] rfl rfl ?_
       refine pz_ (i := 2) (N := some 32) HT_ #[ii,ii,ii,oo,oo,oo,oo,oo,oo] rfl rfl ?_
       refine pz_ (i := 3) (N := some 33) HT_ #[ii,ii,ii,ii,oo,oo,oo,oo,oo] rfl rfl ?_
       refine take_ (i := 5) (N := some 35) (v := ?_) (a' := ?_) #[ii,ii,ii,ii,oo,ii,oo,oo,oo] rfl rfl (take_ofW HT_.out HW_.out (by kernel_rfl)) (fun _ _ _ h => h) (Or.inl ⟨by rfl, ?_⟩) hHeld ?_ ?_
       rotate_left
       ·
        rintro w' ⟨s0, s1⟩
        go_simp
        with_reducible rfl
       rotate_left
       ·
        exact ap_
       refine one_ (i := 4) (N := some 34) #[ii,ii,ii,ii,ii,ii,oo,oo,oo] rfl rfl (one_of HT_.out (by kernel_rfl)) (by decide) (fun K hK => ?_)
       refine goes_ Try.func110 (by kernel_rfl) rfl #[.slice Ao23 t207.length co23, .int .i64 ji11, .int .i64 (wrap64 ((ji11) + 1))] (by rfl) rfl rfl (by (try simp only [List.map_toArray, List.map_cons, List.map_nil]); first | done | (simp only [hji11]; rfl) | rfl | (simp only [List.length_drop, List.length_take]; rfl)) ?_
       with_reducible refine (slices_Delete_Pack.calls _ t207 ji11 (wrap64 ((ji11) + 1)) t216 w.heap.size _ w _ HO_7.out HB.out ?side1 A15.out).mono ?_
       (case side1 => exact below_size HB.out)
       rintro e w24 ⟨v217, rfl, ho0, hb, hg⟩
       refine ⟨_, rfl, ?_⟩
       have HO218 := am_ ho0
       replace HO214 := am_ (Kd.R_mono (ok' := fun _ => True) (Kd.R_grown (Kd.R_apart' HO214.out (Kd.S_typed HO_7.out) (by decide)) hg (fun k_ hk => hk.2)) (fun _ _ => trivial))
       replace BK206 := am_ (blk_grown (qK BK206) hg (Kd.S_away HO_7.out (by intro k_ hk he; subst he; simp at hk)))
       replace BK215 := am_ (blk_grown (qK BK215) hg (Kd.S_away HO_7.out (by intro k_ hk he; subst he; simp at hk)))
       replace HB := am_ hb
       clear HO_7
       (try clear hb hg ho0)
       refine hK.out _ _ (cz2 BK215.out) (fun hHeld => ?_)
       clear hK K
       refine norm_ (a' := ?_) ?_ ?_
       rotate_left
       ·
        show Act.put _ (some 34) _ = _
        exact ap_
       refine pz_ (i := 6) (N := some 4) HT_ #[ii,ii,ii,ii,ii,ii,ii,oo,oo] rfl rfl ?_
       refine one_ (i := 7) (N := none) #[ii,ii,ii,ii,ii,ii,ii,ii,oo] rfl rfl (one_of HT_.out (by kernel_rfl)) (by decide) (fun K hK => ?_)
       have hs25 : w24.cell? ⟨gb206, 0, none⟩ = some (.int .i64 0) := (blk_cell BK206.out 0).trans rfl
       have hfs25 := blk_frozen BK206.out 0
       have hns25_1 := NB215_206.out
       have hms25_1 := NB206_215.out
       have hs26 : w24.cell? ⟨gb206, 1, none⟩ = some (.slice none 0 0) := (blk_cell BK206.out 1).trans rfl
       have hfs26 := blk_frozen BK206.out 1
       have hns26_1 := NB215_206.out
       have hms26_1 := NB206_215.out
       refine skip_ (w1 := ?_) (by rfl) rfl ?_ ?_
       rotate_left
       ·
        go_simp
        rfl
       refine hK.out _ _ ⟨((cell_far (p := ⟨gb206, _, none⟩) NB215_206.out _).trans (((cell_far (p := ⟨gb206, _, none⟩) NB215_206.out _).trans (hHeld.1)))), ((cell_far (p := ⟨gb206, _, none⟩) NB215_206.out _).trans (((cell_far (p := ⟨gb206, _, none⟩) NB215_206.out _).trans (hHeld.2))))⟩ (fun hHeld => ?_)
       clear hK K
       refine pz_ (i := 8) (N := some 6) HT_ #[ii,ii,ii,ii,ii,ii,ii,ii,ii] rfl rfl ?_
       refine done_ (done_of HT_.out (by kernel_rfl)) ?_
       try go_wp2
       refine bodyPost_ret (results_list (rs := [.tmp 4, .cell 5 74, .tmp 6]) rfl (by simp) (.tmp (.cell gb206 74 #[.int .i64 t211, .slice Ao20 t212.length co20] (0, 0) _ rfl (by (with_reducible repeat (first | refine blk_drewN ?_ _ | refine blk_drew ?_ | refine blk_alloc ?_ _)); refine blk_put (cs := #[.int .i64 t211, .slice none 0 0]) ?_ 1 _ rfl; (with_reducible repeat (first | refine blk_drewN ?_ _ | refine blk_drew ?_ | refine blk_alloc ?_ _)); refine blk_put (cs := #[.int .i64 0, .slice none 0 0]) ?_ 0 _ rfl; (with_reducible repeat (first | refine blk_drewN ?_ _ | refine blk_drew ?_ | refine blk_alloc ?_ _)); exact BK206.out) Try.underlying74 rfl (by kernel_rfl) (.tmp .nil)))) rfl ?_
       exact ⟨_, _, by first | rfl | (simp [errW_none, errW_some] <;> rfl) | (simp only [← hji11]; first | rfl | (simp [errW_none, errW_some] <;> rfl)) | (simp [*, errW_none, errW_some] <;> rfl), by (with_reducible repeat (first | apply Kd.S_alloc | apply Kd.S_drewN | apply Kd.S_drew)); exact Kd.S_mono (Kd.S_far (p := ⟨gb206, 1, none⟩) (Kd.S_far (p := ⟨gb206, 0, none⟩) (Kd.S_mono HO218.out (fun k_ hk => (⟨hk, hk.2.1⟩ : _ ∧ k_ ≠ gb206))) (fun _ hk => hk.2) (.int .i64 t211)) (fun _ hk => hk.2) (.slice Ao20 t212.length co20)) (fun _ hk => hk.1.1), by (with_reducible repeat (first | apply Kd.R_alloc | apply Kd.R_drewN | apply Kd.R_drew)); exact Kd.R_mono (Go.Proofs.YthmfmpmljndjhaaV.R_far2 (g := gb206) (Kd.R_types HO214.out BK206.out (by decide)) (fun _ hk => hk.2)) (fun _ hk => trivial), qB HB⟩
      ·
       rw [if_neg c13] at H
       exact absurd H (by simp)
     ·
      rw [if_neg c12] at H
      exact absurd H (by simp)

/-! ### laws_markPack: function 64 -/
def laws_markPack.f (k : Nat) (a0_0 : Int) (l0_1 : List Int) (a1 : Int) : Option (Int × List Int) := (laws_markByteS.f k l0_1 a1).bind fun bt220 => (some (bt220.1, bt220.2))
theorem laws_markPack.mono : ∀ a0 a1 a2 k, LeO (laws_markPack.f k a0 a1 a2) (laws_markPack.f (k + 1) a0 a1 a2) := by
 intro a0 a1 a2 k
 unfold laws_markPack.f
 repeat' first
   | (with_reducible exact laws_markByteS.mono _ _ _)
   | (with_reducible exact LeO.refl _)
   | (with_reducible exact LeO.none _)
   | (with_reducible refine LeO.ite ?_ ?_)
   | (with_reducible refine LeO.bind ?_ (fun _ => ?_))
   | exact laws_markByteS.mono _ _ _
   | exact LeO.none _
   | refine LeO.ite ?_ ?_
   | refine LeO.bind ?_ (fun _ => ?_)
set_option maxHeartbeats 8000000 in
set_option maxRecDepth 100000 in
theorem laws_markPack.calls (k : Nat) (a0_0 : Int) (P0_1_ : Nat → Prop) (u9000_ : Value) (l0_1 : List Int) (a1 : Int) (r1 : Int) (r2 : List Int) (w0 w : World) (hB : Below w0.heap.size w0 w) (ho0_1 : Kd.R (Kd.int .u8) 5 w w0.heap.size P0_1_ u9000_ l0_1) (h : laws_markPack.f k a0_0 l0_1 a1 = some (r1, r2)) :
  Calls Try.prog 64 #[.agg #[.int .i64 a0_0, u9000_], .int .i64 a1] w fun e w' => e = .returned (.int .i64 r1) ∧ Kd.R (Kd.int .u8) 5 w' w0.heap.size (fun k_ => (P0_1_ k_ ∨ w.heap.size ≤ k_)) u9000_ r2 ∧ Below w0.heap.size w0 w' ∧ Kept w w' (fun k_ => P0_1_ k_) := by
 have hu74 := Try.underlying74
 have HO0_1 := Aside0.mk (show Kd.R (Kd.int .u8) 5 w w0.heap.size (fun k_ => (P0_1_ k_ ∨ w.heap.size ≤ k_)) u9000_ l0_1 from Kd.R_mono ho0_1 (fun k_ hk => (.inl hk)))
 have HK := Aside0.mk (Kept.refl w (fun k_ => P0_1_ k_))
 have HW0 := Aside0.mk hB.size
 have HB := Aside0.mk hB
 clear hB
 have H : ((laws_markByteS.f k l0_1 a1).bind fun bt220 => (some (bt220.1, bt220.2))) = some (r1, r2) := h
 clear h
 obtain ⟨⟨t220, t221⟩, A3, H⟩ := bd_ H
 (try dsimp only at H)
 simp only [Option.some.injEq, Prod.mk.injEq] at H
 obtain ⟨rfl, rfl⟩ := H
 obtain ⟨Ao4, co4, eo4⟩ := Kd.R_slice HO0_1.out
 subst eo4
 go_enter Try.func64, Try.ntmps64
 go_wp2_with (first | ((with_reducible refine gate_dst (N := 2) rfl ?_); refine box_event ?hg (N := 2) ?hd (cs := #[.int .i64 a0_0, .slice Ao4 l0_1.length co4]) (t := 74) ?hr ?_; (case hd => rfl); (case hg => rfl); (case hr => first | (go_simp; done) | (go_simp; rfl)); intro gb219 hg w5 hbox hb; replace HO0_1 := am_ (Kd.R_below (qR HO0_1) hb); have BK219 := am_ (hbox); have GW219 := am_ ((by rw [hg]; exact (by first | exact HK.out.1 | exact (show Kept w _ (fun k_ => P0_1_ k_) from by repeat (first | (with_reducible first | exact HK.out | apply Kept.alloc | apply Kept.drewN | apply Kept.drew) | exact HK.out)).1) : w.heap.size ≤ gb219)); have IGW219 := gI_ GW219; replace HK := am_ (Kept.below (S := (fun k_ => P0_1_ k_)) (by repeat (first | (with_reducible first | exact HK.out | apply Kept.alloc | apply Kept.drewN | apply Kept.drew) | exact HK.out)) hb); have GE219 := am_ ((gG_ hg (qB HB))); have IGE219 := gI_ GE219; replace HB := am_ (below_step (qB HB) hb); clear hb hbox hg; obtain ⟨z6_0, z6_1⟩ := cz2 BK219.out; obtain ⟨f6_0, f6_1⟩ := fz2 BK219.out) | ((with_reducible refine gate_callee (f := 47) rfl ?_); refine goesL_ (some 8) rfl rfl Try.func47 (by kernel_rfl) rfl #[.slice Ao4 l0_1.length co4, .int .i64 a1] rfl la_ ?_; (with_reducible refine (laws_markByteS.calls k (fun k_ => some k_ = (.slice Ao4 l0_1.length co4 : Value).ownBlock) (.slice Ao4 l0_1.length co4) l0_1 a1 t220 t221 w0 _ ?side1 ?side2 A3.out).mono ?_); (case side1 => repeat (first | (with_reducible first | exact HB.out | apply below_alloc | apply pw_below_drewN | apply below_drew1 | refine below_set ?_ GE219.out) | exact HB.out)); (case side2 => exact Kd.R_tight rfl HO0_1.out); rintro e w7 ⟨rfl, hy0, hb, hkp⟩; refine ⟨_, rfl, ?_⟩; replace BK219 := am_ (blk_kept (qK BK219) hkp (fun hs_ => (fun e_ => (Kd.R_ne HO0_1.out BK219.out (by decide)) e_) hs_)); replace HK := am_ (Kept.then_ (S := (fun k_ => P0_1_ k_)) (by repeat (first | (with_reducible first | exact HK.out | apply Kept.alloc | apply Kept.drewN | apply Kept.drew | refine Kept.setCell ?_ (.inr GW219.out) _) | exact HK.out)) hkp (fun k_ hs_ => (fun e_ => (HO0_1.out.1 k_ e_.symm)) hs_)); replace HO0_1 := am_ (Kd.R_reok rfl hy0 (fun k_ e_ => HO0_1.out.1 k_ e_)); replace HB := am_ (hb); (try clear hb); (try clear hkp); (try clear hy0)))
 go_ret
 exact ⟨by first | rfl | (simp [errW_none, errW_some] <;> rfl) | (simp [*, errW_none, errW_some] <;> rfl), qR HO0_1, qB HB, by repeat (first | (with_reducible first | exact HK.out | apply Kept.alloc | apply Kept.drewN | apply Kept.drew | refine Kept.setCell ?_ (.inr GW219.out) _) | exact HK.out)⟩

/-! ### laws_heldPack: function 65 -/
def laws_heldPack.f (k : Nat) (a0_0 : Int) (l0_1 : List Int) (a1 : Int) : Option (Int) := (laws_heldByteS.f k l0_1 a1).bind fun t223 => (if t223 < 0 then (some (-1)) else (some t223))
theorem laws_heldPack.mono : ∀ a0 a1 a2 k, LeO (laws_heldPack.f k a0 a1 a2) (laws_heldPack.f (k + 1) a0 a1 a2) := by
 intro a0 a1 a2 k
 unfold laws_heldPack.f
 repeat' first
   | (with_reducible exact laws_heldByteS.mono _ _ _)
   | (with_reducible exact LeO.refl _)
   | (with_reducible exact LeO.none _)
   | (with_reducible refine LeO.ite ?_ ?_)
   | (with_reducible refine LeO.bind ?_ (fun _ => ?_))
   | exact laws_heldByteS.mono _ _ _
   | exact LeO.none _
   | refine LeO.ite ?_ ?_
   | refine LeO.bind ?_ (fun _ => ?_)
set_option maxHeartbeats 8000000 in
set_option maxRecDepth 100000 in
theorem laws_heldPack.calls (k : Nat) (a0_0 : Int) (A0_1 : Option Addr) (c0_1 : Nat) (l0_1 : List Int) (a1 : Int) (r : Int) (w : World) (hr0_1 : Kd.C (Kd.int .u8) w A0_1 l0_1.length l0_1) (hc0_1 : l0_1.length ≤ c0_1) (h : laws_heldPack.f k a0_0 l0_1 a1 = some r) :
  Calls Try.prog 65 #[.agg #[.int .i64 a0_0, .slice A0_1 l0_1.length c0_1], .int .i64 a1] w fun e w' => e = .returned (.int .i64 r) ∧ Below w.heap.size w w' := by
 have hu74 := Try.underlying74
 have HR0_1 := Aside0.mk hr0_1
 have HC0_1 := Aside0.mk hc0_1
 clear hr0_1 hc0_1
 have HB := Aside0.mk (Below.refl w.heap.size w)
 have H : ((laws_heldByteS.f k l0_1 a1).bind fun t223 => (if t223 < 0 then (some (-1)) else (some t223))) = some r := h
 clear h
 obtain ⟨t223, A3, H⟩ := bd_ H
 have HC4 := Aside0.mk H
 clear H
 go_enter Try.func65, Try.ntmps65
 go_upto_if 10 with (first | ((with_reducible refine gate_dst (N := 2) rfl ?_); refine box_event ?hg (N := 2) ?hd (cs := #[.int .i64 a0_0, .slice A0_1 l0_1.length c0_1]) (t := 74) ?hr ?_; (case hd => rfl); (case hg => rfl); (case hr => first | (go_simp; done) | (go_simp; rfl)); intro gb222 hg w5 hbox hb; have BK222 := am_ (hbox); have GW222 := am_ ((gG_ hg (qB HB))); have IGW222 := gI_ GW222; have GE222 := am_ ((gG_ hg (qB HB))); have IGE222 := gI_ GE222; replace HB := am_ (below_step (qB HB) hb); clear hb hbox hg; obtain ⟨z6_0, z6_1⟩ := cz2 BK222.out; obtain ⟨f6_0, f6_1⟩ := fz2 BK222.out) | ((with_reducible refine gate_callee (f := 99) rfl ?_); refine goesL_ (some 8) rfl rfl Try.func99 (by kernel_rfl) rfl #[.slice A0_1 l0_1.length c0_1, .int .i64 a1] rfl la_ ?_; (with_reducible refine (laws_heldByteS.calls k _ _ l0_1 a1 t223 _ ?side1 ?side2 A3.out).mono ?_); (case side1 => exact qC (Kd.C_below HR0_1.out HB.out)); (case side2 => exact HC0_1.out); rintro e w' ⟨rfl, ⟨nd, rfl⟩⟩; refine ⟨_, rfl, ?_⟩))
 (try simp only [Act.put, List.setIfInBounds_toArray, List.set_cons_zero, List.set_cons_succ])
 (try (rw [drewN_self w5]; generalize hq_ : World.drewN w5 _ = w5; have n0_ : Aside0 (w5.heap[gb222]? = some (.cells #[.int .i64 a0_0, .slice A0_1 l0_1.length c0_1] 74 (0, 0))) := ⟨by rw [← hq_]; exact (qK BK222)⟩; have n1_ : Aside0 (Below w.heap.size w w5) := ⟨by rw [← hq_]; exact (qB HB)⟩; clear BK222 HB hq_; have BK222 := n0_; have HB := n1_; clear n0_ n1_))
 have H := HC4.out
 clear HC4
 by_cases c7 : t223 < 0
 ·
  rw [if_pos c7] at H
  have c7b0 : decide (t223 < 0) = true := decide_eq_true c7
  clear c7
  (first | rw [c7b0] | (simp only [i64_w, i32_w]; rw [c7b0]) | skip)
  obtain rfl := Option.some.inj H
  go_wp2
  go_ret
  exact ⟨by first | rfl | (simp [errW_none, errW_some] <;> rfl) | (simp [*, errW_none, errW_some] <;> rfl), qB HB⟩
 ·
  rw [if_neg c7] at H
  have c7b0 : decide (t223 < 0) = false := decide_eq_false c7
  clear c7
  (first | rw [c7b0] | (simp only [i64_w, i32_w]; rw [c7b0]) | skip)
  obtain rfl := Option.some.inj H
  go_wp2
  go_ret
  exact ⟨by first | rfl | (simp [errW_none, errW_some] <;> rfl) | (simp [*, errW_none, errW_some] <;> rfl), qB HB⟩

end Go.Proofs.Ythmfmpmljndjhaa.PFnExactTakeOut
