-- Written by a program of this session (myprint.py, over the kit's print): contracts of FnExactTakeOut
import Derived.Test.YthmfmpmljndjhaaPFnExactTakeOutx0
import Derived.Test.YthmfmpmljndjhaaPFnExactTakeOutx1
import Derived.Test.YthmfmpmljndjhaaPFnExactTakeOutx2
import Derived.Test.YthmfmpmljndjhaaPFnExactTakeOutx3
import Derived.Test.YthmfmpmljndjhaaPFnExactTakeOutx4
namespace Go.Proofs.Ythmfmpmljndjhaa.PFnExactTakeOut
open Go.RowKit Go.Proofs.YthmfmpmljndjhaaW.PrintWords Go.Proofs.YthmfmpmljndjhaaW.PrintLast Go.Proofs.YthmfmpmljndjhaaW.PrintMore Go.Proofs.YthmfmpmljndjhaaV
attribute [local go_sem] max2_int min2_int max_two min_two max_three min_three max_four min_four   -- for this text's walks alone
set_option linter.unusedVariables false
set_option linter.unusedSimpArgs false

/-! ### laws_FnExactTakeOut: function 10, by hand -/
def laws_FnExactTakeOut.f (k : Nat) (l0 : List (S112)) (a1 : Int) : Option Bool :=
 (laws_szPackS.f k l0 1048576).bind fun left => if left < 0 then some true else
 (laws_toPackS.f k l0).bind fun xs => (spec_TakeOut.f k xs a1).bind fun ws => (impl_TakeOut.f k xs a1).bind fun gs =>
 (laws_eqPackS.f k gs.1 ws.1).bind fun e1 => (laws_eqPack.f k gs.2.1 gs.2.2.1 ws.2.1 ws.2.2.1).bind fun e3 => (laws_eqPackS.f k xs xs).bind fun e2 =>
 (laws_markPackS.f k xs 1).bind fun m1 => (laws_markPackS.f k gs.1 1).bind fun m2 => (laws_markPack.f k gs.2.1 gs.2.2.1 m2.1).bind fun m3 =>
 (laws_heldPackS.f k m2.2 1).bind fun q1 => (laws_heldPack.f k gs.2.1 m3.2 q1).bind fun q2 =>
 if e1 = true ∧ e2 = true ∧ e3 = true ∧ gs.2.2.2 = ws.2.2.2 ∧ 0 ≤ m1.1 ∧ 0 ≤ q1 ∧ 0 ≤ q2 ∧ q2 = m3.1 then some true else none
set_option maxHeartbeats 8000000 in
set_option maxRecDepth 100000 in
theorem laws_FnExactTakeOut.calls (k : Nat) (A0 : Option Addr) (c0 : Nat) (l0 : List (S112)) (a1 : Int) (r : Bool) (w : World) (hr0 : Kd.C k112 w A0 l0.length l0) (hc0 : l0.length ≤ c0) (hr_ : Aside0 (r = true)) (h : laws_FnExactTakeOut.f k l0 a1 = some r) :
  Calls Try.prog 10 #[.slice A0 l0.length c0, .int .i64 a1] w fun e w' => e = .returned (.bool r) ∧ Below w.heap.size w w' := by
 obtain rfl := hr_.out
 obtain ⟨left, h1, h⟩ := Option.bind_eq_some_iff.mp h
 have HB := Below.refl w.heap.size w
 by_cases c1 : left < 0
 ·
  have d1 : decide (left < 0) = true := decide_eq_true c1
  go_enter Try.func10, Try.ntmps10
  have t_ := trivial
  go_wp2_with (clear t_; go_at_call 54; refine (laws_szPackS.calls k A0 c0 l0 1048576 left _ hr0 hc0 h1).mono ?_; rintro e w1 ⟨rfl, b1⟩)
  go_ret
  exact ⟨rfl, b1⟩
 ·
  have d1 : decide (left < 0) = false := decide_eq_false c1
  rw [if_neg c1] at h
  obtain ⟨xs, h2, h⟩ := Option.bind_eq_some_iff.mp h
  obtain ⟨⟨wl, wi, wr, wb⟩, h3, h⟩ := Option.bind_eq_some_iff.mp h
  obtain ⟨⟨gl, gi, gr, gb⟩, h4, h⟩ := Option.bind_eq_some_iff.mp h
  obtain ⟨e1, h5, h⟩ := Option.bind_eq_some_iff.mp h
  obtain ⟨e3, h12, h⟩ := Option.bind_eq_some_iff.mp h
  obtain ⟨e2, h6, h⟩ := Option.bind_eq_some_iff.mp h
  obtain ⟨⟨m1, m1l⟩, h7, h⟩ := Option.bind_eq_some_iff.mp h
  obtain ⟨⟨m2, m2l⟩, h8, h⟩ := Option.bind_eq_some_iff.mp h
  obtain ⟨⟨m3, m3l⟩, h10, h⟩ := Option.bind_eq_some_iff.mp h
  obtain ⟨q1, h9, h⟩ := Option.bind_eq_some_iff.mp h
  obtain ⟨q2, h11, h⟩ := Option.bind_eq_some_iff.mp h
  split at h
  case isFalse => cases h
  case isTrue hc =>
  clear h
  obtain ⟨rfl, rfl, rfl, hgw, hm1, hq1, hq2, hqm⟩ := hc
  simp only at hgw hm1 hqm h3 h4 h5 h6 h7 h8 h9 h10 h11 h12
  subst hgw
  subst hqm
  have d2 : decide (m1 < 0) = false := decide_eq_false (by omega)
  have d3 : decide (q1 < 0) = false := decide_eq_false (by omega)
  have d5 : decide (q2 < 0) = false := decide_eq_false (by omega)
  have d4 : (gb != gb) = false := bne_self_eq_false gb
  have n0_ := Aside0.mk hr0
  have n1_ := Aside0.mk hc0
  clear hm1 hq1 hq2 hr0 hc0 c1
  have hr0 := n0_
  have hc0 := n1_
  clear n0_ n1_
  replace HB := Aside0.mk HB
  replace h1 := Aside0.mk h1
  replace h2 := Aside0.mk h2
  replace h3 := Aside0.mk h3
  replace h4 := Aside0.mk h4
  replace h5 := Aside0.mk h5
  replace h6 := Aside0.mk h6
  replace h7 := Aside0.mk h7
  replace h8 := Aside0.mk h8
  replace h9 := Aside0.mk h9
  replace h10 := Aside0.mk h10
  replace h11 := Aside0.mk h11
  replace h12 := Aside0.mk h12
  go_enter Try.func10, Try.ntmps10
  have t_ := trivial
  go_wp2_with (clear t_; go_at_call 54; refine (laws_szPackS.calls k A0 c0 l0 1048576 left _ (Kd.C_below hr0.out HB.out) hc0.out h1.out).mono ?_; rintro e w1 ⟨rfl, b1⟩)
  replace HB := Aside0.mk (HB.out.trans (Below.mono b1 HB.out.size))
  have z1 := Aside0.mk (Below.size b1)
  clear b1
  have t_ := trivial
  go_wp2_with (clear t_; go_at_call 56; refine (laws_toPackS.calls k A0 c0 l0 xs _ (Kd.C_below hr0.out HB.out) hc0.out h2.out).mono ?_; rintro e w2 ⟨vy, rfl, hy, b2⟩; obtain ⟨Ay, cy, rfl⟩ := Kd.S_slice hy; replace hy := Aside0.mk (S_iv hy))
  replace HB := Aside0.mk (HB.out.trans (Below.mono b2 HB.out.size))
  have z2 := Aside0.mk (Below.size b2)
  clear b2
  have t_ := trivial
  go_wp2_with (clear t_; go_at_call 61; refine (spec_TakeOut.calls k _ _ xs a1 wl wi wr gb _ (Kd.S_reads' hy.out).2.2 (Kd.S_reads' hy.out).2.1 h3.out).mono ?_; rintro e w3 ⟨vw, vwp, rfl, hw, hwp, b3⟩; obtain ⟨Aw, cw, rfl⟩ := Kd.N_slice hw; obtain ⟨Awp, cwp, rfl⟩ := Kd.R_slice hwp)
  obtain ⟨OBwp, hOBwp⟩ : ∃ o_, o_ = (Value.slice Awp wr.length cwp).ownBlock := ⟨_, rfl⟩
  replace hOBwp := Aside0.mk hOBwp
  replace hw := Aside0.mk (Kd.N_mono (ok' := fun k => w2.heap.size ≤ k ∧ k < w3.heap.size) (Kd.N_bound hw) (fun k hk => ⟨hk.1.1, hk.2⟩))
  replace hwp := Aside0.mk (Kd.R_mono (ok' := fun k => (w2.heap.size ≤ k ∧ k < w3.heap.size) ∧ some k = OBwp) (Kd.R_tight2 rfl (R_iv hwp)) (fun k hk => ⟨hk.2, hk.1.trans hOBwp.out.symm⟩))
  replace hy := Aside0.mk (Kd.S_below hy.out b3)
  replace HB := Aside0.mk (HB.out.trans (Below.mono b3 HB.out.size))
  have z3 := Aside0.mk (Below.size b3)
  clear b3
  replace hy := Aside0.mk (Kd.S_alloc hy.out (.cells #[.int .i64 wi, .slice Awp wr.length cwp] 74))
  replace hw := Aside0.mk (Kd.N_alloc hw.out (.cells #[.int .i64 wi, .slice Awp wr.length cwp] 74))
  replace hwp := Aside0.mk (Kd.R_alloc hwp.out (.cells #[.int .i64 wi, .slice Awp wr.length cwp] 74))
  have bkw : Aside0 ((w3.alloc (.cells #[.int .i64 wi, .slice Awp wr.length cwp] 74)).heap[w3.heap.size]? = some (.cells #[.int .i64 wi, .slice Awp wr.length cwp] 74 (0, 0))) := ⟨heap_alloc_new w3 _⟩
  replace HB := Aside0.mk (below_alloc HB.out (.cells #[.int .i64 wi, .slice Awp wr.length cwp] 74))
  have z4 : Aside0 (w3.heap.size + 1 = (w3.alloc (.cells #[.int .i64 wi, .slice Awp wr.length cwp] 74)).heap.size) := ⟨by simp⟩
  skip
  generalize (w3.alloc (.cells #[.int .i64 wi, .slice Awp wr.length cwp] 74)) = w4 at hy hw hwp bkw HB z4 ⊢
  obtain ⟨bxw, hbxw⟩ : ∃ g_, g_ = w3.heap.size := ⟨_, rfl⟩
  rw [← hbxw] at bkw ⊢
  replace hbxw := Aside0.mk hbxw
  obtain ⟨zzw_0, zzw_1⟩ := cz2 bkw.out
  have t_ := trivial
  go_wp2_with (clear t_; go_at_call 56; refine (laws_toPackS.calls k A0 c0 l0 xs _ (Kd.C_below hr0.out HB.out) hc0.out h2.out).mono ?_; rintro e w5 ⟨vx, rfl, hx, b5⟩; obtain ⟨Ax, cx, rfl⟩ := Kd.S_slice hx; replace hx := Aside0.mk (S_iv hx); (try clear zzw_0 zzw_1); obtain ⟨zzw_0, zzw_1⟩ := cz2 (blk_below bkw.out b5))
  replace hy := Aside0.mk (Kd.S_below hy.out b5)
  replace hw := Aside0.mk (Kd.N_below hw.out b5)
  replace hwp := Aside0.mk (Kd.R_below hwp.out b5)
  replace bkw := Aside0.mk (blk_below bkw.out b5)
  replace HB := Aside0.mk (HB.out.trans (Below.mono b5 HB.out.size))
  have z5 := Aside0.mk (Below.size b5)
  clear b5
  have t_ := trivial
  go_wp2_with (clear t_; go_at_call 62; refine (impl_TakeOut.calls k _ _ xs a1 gl gi gr gb _ (Kd.S_reads' hx.out).2.2 (Kd.S_reads' hx.out).2.1 h4.out).mono ?_; rintro e w6 ⟨vg, vgp, rfl, hg, hgp, b6⟩; obtain ⟨Ag, cg, rfl⟩ := Kd.S_slice hg; obtain ⟨Agp, cgp, rfl⟩ := Kd.R_slice hgp; (try clear zzw_0 zzw_1); obtain ⟨zzw_0, zzw_1⟩ := cz2 (blk_below bkw.out b6))
  obtain ⟨OBgp, hOBgp⟩ : ∃ o_, o_ = (Value.slice Agp gr.length cgp).ownBlock := ⟨_, rfl⟩
  replace hOBgp := Aside0.mk hOBgp
  replace hg := Aside0.mk (Kd.S_mono (ok' := fun k => (w5.heap.size ≤ k ∧ k < w6.heap.size) ∧ some k ≠ OBgp) (Kd.S_bound hg) (fun k hk => ⟨⟨hk.2.1, hk.2.2.1⟩, fun e_ => hk.1 (e_.trans hOBgp.out)⟩))
  replace hgp := Aside0.mk (Kd.R_mono (ok' := fun k => (w5.heap.size ≤ k ∧ k < w6.heap.size) ∧ some k = OBgp) (Kd.R_tight2 rfl (R_iv hgp)) (fun k hk => ⟨hk.2, hk.1.trans hOBgp.out.symm⟩))
  replace hy := Aside0.mk (Kd.S_below hy.out b6)
  replace hw := Aside0.mk (Kd.N_below hw.out b6)
  replace hwp := Aside0.mk (Kd.R_below hwp.out b6)
  replace hx := Aside0.mk (Kd.S_below hx.out b6)
  replace bkw := Aside0.mk (blk_below bkw.out b6)
  replace HB := Aside0.mk (HB.out.trans (Below.mono b6 HB.out.size))
  have z6 := Aside0.mk (Below.size b6)
  clear b6
  replace hy := Aside0.mk (Kd.S_alloc hy.out (.cells #[.int .i64 gi, .slice Agp gr.length cgp] 74))
  replace hw := Aside0.mk (Kd.N_alloc hw.out (.cells #[.int .i64 gi, .slice Agp gr.length cgp] 74))
  replace hwp := Aside0.mk (Kd.R_alloc hwp.out (.cells #[.int .i64 gi, .slice Agp gr.length cgp] 74))
  replace hx := Aside0.mk (Kd.S_alloc hx.out (.cells #[.int .i64 gi, .slice Agp gr.length cgp] 74))
  replace hg := Aside0.mk (Kd.S_alloc hg.out (.cells #[.int .i64 gi, .slice Agp gr.length cgp] 74))
  replace hgp := Aside0.mk (Kd.R_alloc hgp.out (.cells #[.int .i64 gi, .slice Agp gr.length cgp] 74))
  replace bkw := Aside0.mk (blk_alloc bkw.out (.cells #[.int .i64 gi, .slice Agp gr.length cgp] 74))
  have bkg : Aside0 ((w6.alloc (.cells #[.int .i64 gi, .slice Agp gr.length cgp] 74)).heap[w6.heap.size]? = some (.cells #[.int .i64 gi, .slice Agp gr.length cgp] 74 (0, 0))) := ⟨heap_alloc_new w6 _⟩
  replace HB := Aside0.mk (below_alloc HB.out (.cells #[.int .i64 gi, .slice Agp gr.length cgp] 74))
  have z7 : Aside0 (w6.heap.size + 1 = (w6.alloc (.cells #[.int .i64 gi, .slice Agp gr.length cgp] 74)).heap.size) := ⟨by simp⟩
  (try clear zzw_0 zzw_1)
  generalize (w6.alloc (.cells #[.int .i64 gi, .slice Agp gr.length cgp] 74)) = w7 at hy hw hwp hx hg hgp bkw bkg HB z7 ⊢
  obtain ⟨bxg, hbxg⟩ : ∃ g_, g_ = w6.heap.size := ⟨_, rfl⟩
  rw [← hbxg] at bkg ⊢
  replace hbxg := Aside0.mk hbxg
  obtain ⟨zzw_0, zzw_1⟩ := cz2 bkw.out
  obtain ⟨zzg_0, zzg_1⟩ := cz2 bkg.out
  have t_ := trivial
  go_wp2_with (clear t_; go_at_call 58; refine (laws_eqPackS.calls k _ _ gl _ _ wl true _ (Kd.S_reads' hg.out).2.2 (Kd.S_reads' hg.out).2.1 (Kd.N_reads' hw.out).2.2 (Kd.N_reads' hw.out).2.1 ⟨rfl⟩ h5.out).mono ?_; rintro e w8 ⟨rfl, b8⟩; (try clear zzw_0 zzw_1); obtain ⟨zzw_0, zzw_1⟩ := cz2 (blk_below bkw.out b8); (try clear zzg_0 zzg_1); obtain ⟨zzg_0, zzg_1⟩ := cz2 (blk_below bkg.out b8))
  replace hy := Aside0.mk (Kd.S_below hy.out b8)
  replace hw := Aside0.mk (Kd.N_below hw.out b8)
  replace hwp := Aside0.mk (Kd.R_below hwp.out b8)
  replace hx := Aside0.mk (Kd.S_below hx.out b8)
  replace hg := Aside0.mk (Kd.S_below hg.out b8)
  replace hgp := Aside0.mk (Kd.R_below hgp.out b8)
  replace bkw := Aside0.mk (blk_below bkw.out b8)
  replace bkg := Aside0.mk (blk_below bkg.out b8)
  replace HB := Aside0.mk (HB.out.trans (Below.mono b8 HB.out.size))
  have z8 := Aside0.mk (Below.size b8)
  clear b8
  have t_ := trivial
  go_wp2_with (clear t_; go_at_call 63; refine (laws_eqPack.calls k gi _ _ gr wi _ _ wr true _ (Kd.R_reads' hgp.out).2.2 (Kd.R_reads' hgp.out).2.1 (Kd.R_reads' hwp.out).2.2 (Kd.R_reads' hwp.out).2.1 ⟨rfl⟩ h12.out).mono ?_; rintro e w9 ⟨rfl, b9⟩; (try clear zzw_0 zzw_1); obtain ⟨zzw_0, zzw_1⟩ := cz2 (blk_below bkw.out b9); (try clear zzg_0 zzg_1); obtain ⟨zzg_0, zzg_1⟩ := cz2 (blk_below bkg.out b9))
  replace hy := Aside0.mk (Kd.S_below hy.out b9)
  replace hw := Aside0.mk (Kd.N_below hw.out b9)
  replace hwp := Aside0.mk (Kd.R_below hwp.out b9)
  replace hx := Aside0.mk (Kd.S_below hx.out b9)
  replace hg := Aside0.mk (Kd.S_below hg.out b9)
  replace hgp := Aside0.mk (Kd.R_below hgp.out b9)
  replace bkw := Aside0.mk (blk_below bkw.out b9)
  replace bkg := Aside0.mk (blk_below bkg.out b9)
  replace HB := Aside0.mk (HB.out.trans (Below.mono b9 HB.out.size))
  have z9 := Aside0.mk (Below.size b9)
  clear b9
  have t_ := trivial
  go_wp2_with (clear t_; go_at_call 56; refine (laws_toPackS.calls k A0 c0 l0 xs _ (Kd.C_below hr0.out HB.out) hc0.out h2.out).mono ?_; rintro e w10 ⟨vu, rfl, hu, b10⟩; obtain ⟨Au, cu, rfl⟩ := Kd.S_slice hu; replace hu := Aside0.mk (S_iv hu); (try clear zzw_0 zzw_1); obtain ⟨zzw_0, zzw_1⟩ := cz2 (blk_below bkw.out b10); (try clear zzg_0 zzg_1); obtain ⟨zzg_0, zzg_1⟩ := cz2 (blk_below bkg.out b10))
  replace hy := Aside0.mk (Kd.S_below hy.out b10)
  replace hw := Aside0.mk (Kd.N_below hw.out b10)
  replace hwp := Aside0.mk (Kd.R_below hwp.out b10)
  replace hx := Aside0.mk (Kd.S_below hx.out b10)
  replace hg := Aside0.mk (Kd.S_below hg.out b10)
  replace hgp := Aside0.mk (Kd.R_below hgp.out b10)
  replace bkw := Aside0.mk (blk_below bkw.out b10)
  replace bkg := Aside0.mk (blk_below bkg.out b10)
  replace HB := Aside0.mk (HB.out.trans (Below.mono b10 HB.out.size))
  have z10 := Aside0.mk (Below.size b10)
  clear b10
  have t_ := trivial
  go_wp2_with (clear t_; go_at_call 58; refine (laws_eqPackS.calls k _ _ xs _ _ xs true _ (Kd.S_reads' hx.out).2.2 (Kd.S_reads' hx.out).2.1 (Kd.S_reads' hu.out).2.2 (Kd.S_reads' hu.out).2.1 ⟨rfl⟩ h6.out).mono ?_; rintro e w11 ⟨rfl, b11⟩; (try clear zzw_0 zzw_1); obtain ⟨zzw_0, zzw_1⟩ := cz2 (blk_below bkw.out b11); (try clear zzg_0 zzg_1); obtain ⟨zzg_0, zzg_1⟩ := cz2 (blk_below bkg.out b11))
  replace hy := Aside0.mk (Kd.S_below hy.out b11)
  replace hw := Aside0.mk (Kd.N_below hw.out b11)
  replace hwp := Aside0.mk (Kd.R_below hwp.out b11)
  replace hx := Aside0.mk (Kd.S_below hx.out b11)
  replace hg := Aside0.mk (Kd.S_below hg.out b11)
  replace hgp := Aside0.mk (Kd.R_below hgp.out b11)
  replace hu := Aside0.mk (Kd.S_below hu.out b11)
  replace bkw := Aside0.mk (blk_below bkw.out b11)
  replace bkg := Aside0.mk (blk_below bkg.out b11)
  replace HB := Aside0.mk (HB.out.trans (Below.mono b11 HB.out.size))
  have z11 := Aside0.mk (Below.size b11)
  clear b11
  have t_ := trivial
  go_wp2_with (clear t_; go_at_call 59; refine (laws_markPackS.calls k _ _ xs 1 m1 m1l w _ HB.out (Kd.S_lower hx.out (by have y1_ := z1.out; have y2_ := z2.out; have y3_ := z3.out; have y4_ := z4.out; have y5_ := z5.out; have y6_ := z6.out; have y7_ := z7.out; have y8_ := z8.out; have y9_ := z9.out; have y10_ := z10.out; have y11_ := z11.out; have yhbxw_ := hbxw.out; have yhbxg_ := hbxg.out; first | omega | (exfalso; omega))) h7.out).mono ?_; rintro e w12 ⟨rfl, hx, b12, k12⟩; (try clear zzw_0 zzw_1); obtain ⟨zzw_0, zzw_1⟩ := cz2 (blk_kept bkw.out k12 (fun q_ => (by have y1_ := z1.out; have y2_ := z2.out; have y3_ := z3.out; have y4_ := z4.out; have y5_ := z5.out; have y6_ := z6.out; have y7_ := z7.out; have y8_ := z8.out; have y9_ := z9.out; have y10_ := z10.out; have y11_ := z11.out; have yhbxw_ := hbxw.out; have yhbxg_ := hbxg.out; first | omega | (exfalso; omega)))); (try clear zzg_0 zzg_1); obtain ⟨zzg_0, zzg_1⟩ := cz2 (blk_kept bkg.out k12 (fun q_ => (by have y1_ := z1.out; have y2_ := z2.out; have y3_ := z3.out; have y4_ := z4.out; have y5_ := z5.out; have y6_ := z6.out; have y7_ := z7.out; have y8_ := z8.out; have y9_ := z9.out; have y10_ := z10.out; have y11_ := z11.out; have yhbxw_ := hbxw.out; have yhbxg_ := hbxg.out; first | omega | (exfalso; omega)))))
  replace hy := Aside0.mk (Kd.S_kept hy.out k12 (fun k_ p_ q_ => by first | exact q_.2 p_.2 | exact p_.2 q_.2 | exact (by have y1_ := z1.out; have y2_ := z2.out; have y3_ := z3.out; have y4_ := z4.out; have y5_ := z5.out; have y6_ := z6.out; have y7_ := z7.out; have y8_ := z8.out; have y9_ := z9.out; have y10_ := z10.out; have y11_ := z11.out; have yhbxw_ := hbxw.out; have yhbxg_ := hbxg.out; first | omega | (exfalso; omega))))
  replace hw := Aside0.mk (Kd.N_kept hw.out k12 (fun k_ p_ q_ => by first | exact q_.2 p_.2 | exact p_.2 q_.2 | exact (by have y1_ := z1.out; have y2_ := z2.out; have y3_ := z3.out; have y4_ := z4.out; have y5_ := z5.out; have y6_ := z6.out; have y7_ := z7.out; have y8_ := z8.out; have y9_ := z9.out; have y10_ := z10.out; have y11_ := z11.out; have yhbxw_ := hbxw.out; have yhbxg_ := hbxg.out; first | omega | (exfalso; omega))))
  replace hwp := Aside0.mk (Kd.R_kept hwp.out k12 (fun k_ p_ q_ => by first | exact q_.2 p_.2 | exact p_.2 q_.2 | exact (by have y1_ := z1.out; have y2_ := z2.out; have y3_ := z3.out; have y4_ := z4.out; have y5_ := z5.out; have y6_ := z6.out; have y7_ := z7.out; have y8_ := z8.out; have y9_ := z9.out; have y10_ := z10.out; have y11_ := z11.out; have yhbxw_ := hbxw.out; have yhbxg_ := hbxg.out; first | omega | (exfalso; omega))))
  replace hg := Aside0.mk (Kd.S_kept hg.out k12 (fun k_ p_ q_ => by first | exact q_.2 p_.2 | exact p_.2 q_.2 | exact (by have y1_ := z1.out; have y2_ := z2.out; have y3_ := z3.out; have y4_ := z4.out; have y5_ := z5.out; have y6_ := z6.out; have y7_ := z7.out; have y8_ := z8.out; have y9_ := z9.out; have y10_ := z10.out; have y11_ := z11.out; have yhbxw_ := hbxw.out; have yhbxg_ := hbxg.out; first | omega | (exfalso; omega))))
  replace hgp := Aside0.mk (Kd.R_kept hgp.out k12 (fun k_ p_ q_ => by first | exact q_.2 p_.2 | exact p_.2 q_.2 | exact (by have y1_ := z1.out; have y2_ := z2.out; have y3_ := z3.out; have y4_ := z4.out; have y5_ := z5.out; have y6_ := z6.out; have y7_ := z7.out; have y8_ := z8.out; have y9_ := z9.out; have y10_ := z10.out; have y11_ := z11.out; have yhbxw_ := hbxw.out; have yhbxg_ := hbxg.out; first | omega | (exfalso; omega))))
  replace hu := Aside0.mk (Kd.S_kept hu.out k12 (fun k_ p_ q_ => by first | exact q_.2 p_.2 | exact p_.2 q_.2 | exact (by have y1_ := z1.out; have y2_ := z2.out; have y3_ := z3.out; have y4_ := z4.out; have y5_ := z5.out; have y6_ := z6.out; have y7_ := z7.out; have y8_ := z8.out; have y9_ := z9.out; have y10_ := z10.out; have y11_ := z11.out; have yhbxw_ := hbxw.out; have yhbxg_ := hbxg.out; first | omega | (exfalso; omega))))
  replace bkw := Aside0.mk (blk_kept bkw.out k12 (fun q_ => (by have y1_ := z1.out; have y2_ := z2.out; have y3_ := z3.out; have y4_ := z4.out; have y5_ := z5.out; have y6_ := z6.out; have y7_ := z7.out; have y8_ := z8.out; have y9_ := z9.out; have y10_ := z10.out; have y11_ := z11.out; have yhbxw_ := hbxw.out; have yhbxg_ := hbxg.out; first | omega | (exfalso; omega))))
  replace bkg := Aside0.mk (blk_kept bkg.out k12 (fun q_ => (by have y1_ := z1.out; have y2_ := z2.out; have y3_ := z3.out; have y4_ := z4.out; have y5_ := z5.out; have y6_ := z6.out; have y7_ := z7.out; have y8_ := z8.out; have y9_ := z9.out; have y10_ := z10.out; have y11_ := z11.out; have yhbxw_ := hbxw.out; have yhbxg_ := hbxg.out; first | omega | (exfalso; omega))))
  replace HB := Aside0.mk b12
  have z12 := Aside0.mk (k12).1
  have qx_ := Aside0.mk (Kd.S_reads' hx).1
  rw [qx_.out] at hx
  have n_ := Aside0.mk hx; clear hx; have hx := n_; clear n_
  clear b12 k12
  have t_ := trivial
  go_wp2_with (clear t_; go_at_call 58; refine (laws_eqPackS.calls k _ _ gl _ _ wl true _ (Kd.S_reads' hg.out).2.2 (Kd.S_reads' hg.out).2.1 (Kd.N_reads' hw.out).2.2 (Kd.N_reads' hw.out).2.1 ⟨rfl⟩ h5.out).mono ?_; rintro e w13 ⟨rfl, b13⟩; (try clear zzw_0 zzw_1); obtain ⟨zzw_0, zzw_1⟩ := cz2 (blk_below bkw.out b13); (try clear zzg_0 zzg_1); obtain ⟨zzg_0, zzg_1⟩ := cz2 (blk_below bkg.out b13))
  replace hy := Aside0.mk (Kd.S_below hy.out b13)
  replace hw := Aside0.mk (Kd.N_below hw.out b13)
  replace hwp := Aside0.mk (Kd.R_below hwp.out b13)
  replace hx := Aside0.mk (Kd.S_below hx.out b13)
  replace hg := Aside0.mk (Kd.S_below hg.out b13)
  replace hgp := Aside0.mk (Kd.R_below hgp.out b13)
  replace hu := Aside0.mk (Kd.S_below hu.out b13)
  replace bkw := Aside0.mk (blk_below bkw.out b13)
  replace bkg := Aside0.mk (blk_below bkg.out b13)
  replace HB := Aside0.mk (HB.out.trans (Below.mono b13 HB.out.size))
  have z13 := Aside0.mk (Below.size b13)
  clear b13
  have t_ := trivial
  go_wp2_with (clear t_; go_at_call 63; refine (laws_eqPack.calls k gi _ _ gr wi _ _ wr true _ (Kd.R_reads' hgp.out).2.2 (Kd.R_reads' hgp.out).2.1 (Kd.R_reads' hwp.out).2.2 (Kd.R_reads' hwp.out).2.1 ⟨rfl⟩ h12.out).mono ?_; rintro e w14 ⟨rfl, b14⟩; (try clear zzw_0 zzw_1); obtain ⟨zzw_0, zzw_1⟩ := cz2 (blk_below bkw.out b14); (try clear zzg_0 zzg_1); obtain ⟨zzg_0, zzg_1⟩ := cz2 (blk_below bkg.out b14))
  replace hy := Aside0.mk (Kd.S_below hy.out b14)
  replace hw := Aside0.mk (Kd.N_below hw.out b14)
  replace hwp := Aside0.mk (Kd.R_below hwp.out b14)
  replace hx := Aside0.mk (Kd.S_below hx.out b14)
  replace hg := Aside0.mk (Kd.S_below hg.out b14)
  replace hgp := Aside0.mk (Kd.R_below hgp.out b14)
  replace hu := Aside0.mk (Kd.S_below hu.out b14)
  replace bkw := Aside0.mk (blk_below bkw.out b14)
  replace bkg := Aside0.mk (blk_below bkg.out b14)
  replace HB := Aside0.mk (HB.out.trans (Below.mono b14 HB.out.size))
  have z14 := Aside0.mk (Below.size b14)
  clear b14
  have t_ := trivial
  go_wp2_with (clear t_; go_at_call 59; refine (laws_markPackS.calls k _ _ gl 1 m2 m2l w _ HB.out (Kd.S_lower hg.out (by have y1_ := z1.out; have y2_ := z2.out; have y3_ := z3.out; have y4_ := z4.out; have y5_ := z5.out; have y6_ := z6.out; have y7_ := z7.out; have y8_ := z8.out; have y9_ := z9.out; have y10_ := z10.out; have y11_ := z11.out; have y12_ := z12.out; have y13_ := z13.out; have y14_ := z14.out; have yhbxw_ := hbxw.out; have yhbxg_ := hbxg.out; first | omega | (exfalso; omega))) h8.out).mono ?_; rintro e w15 ⟨rfl, hg, b15, k15⟩; (try clear zzw_0 zzw_1); obtain ⟨zzw_0, zzw_1⟩ := cz2 (blk_kept bkw.out k15 (fun q_ => (by have y1_ := z1.out; have y2_ := z2.out; have y3_ := z3.out; have y4_ := z4.out; have y5_ := z5.out; have y6_ := z6.out; have y7_ := z7.out; have y8_ := z8.out; have y9_ := z9.out; have y10_ := z10.out; have y11_ := z11.out; have y12_ := z12.out; have y13_ := z13.out; have y14_ := z14.out; have yhbxw_ := hbxw.out; have yhbxg_ := hbxg.out; first | omega | (exfalso; omega)))); (try clear zzg_0 zzg_1); obtain ⟨zzg_0, zzg_1⟩ := cz2 (blk_kept bkg.out k15 (fun q_ => (by have y1_ := z1.out; have y2_ := z2.out; have y3_ := z3.out; have y4_ := z4.out; have y5_ := z5.out; have y6_ := z6.out; have y7_ := z7.out; have y8_ := z8.out; have y9_ := z9.out; have y10_ := z10.out; have y11_ := z11.out; have y12_ := z12.out; have y13_ := z13.out; have y14_ := z14.out; have yhbxw_ := hbxw.out; have yhbxg_ := hbxg.out; first | omega | (exfalso; omega)))))
  replace hy := Aside0.mk (Kd.S_kept hy.out k15 (fun k_ p_ q_ => by first | exact q_.2 p_.2 | exact p_.2 q_.2 | exact (by have y1_ := z1.out; have y2_ := z2.out; have y3_ := z3.out; have y4_ := z4.out; have y5_ := z5.out; have y6_ := z6.out; have y7_ := z7.out; have y8_ := z8.out; have y9_ := z9.out; have y10_ := z10.out; have y11_ := z11.out; have y12_ := z12.out; have y13_ := z13.out; have y14_ := z14.out; have yhbxw_ := hbxw.out; have yhbxg_ := hbxg.out; first | omega | (exfalso; omega))))
  replace hw := Aside0.mk (Kd.N_kept hw.out k15 (fun k_ p_ q_ => by first | exact q_.2 p_.2 | exact p_.2 q_.2 | exact (by have y1_ := z1.out; have y2_ := z2.out; have y3_ := z3.out; have y4_ := z4.out; have y5_ := z5.out; have y6_ := z6.out; have y7_ := z7.out; have y8_ := z8.out; have y9_ := z9.out; have y10_ := z10.out; have y11_ := z11.out; have y12_ := z12.out; have y13_ := z13.out; have y14_ := z14.out; have yhbxw_ := hbxw.out; have yhbxg_ := hbxg.out; first | omega | (exfalso; omega))))
  replace hwp := Aside0.mk (Kd.R_kept hwp.out k15 (fun k_ p_ q_ => by first | exact q_.2 p_.2 | exact p_.2 q_.2 | exact (by have y1_ := z1.out; have y2_ := z2.out; have y3_ := z3.out; have y4_ := z4.out; have y5_ := z5.out; have y6_ := z6.out; have y7_ := z7.out; have y8_ := z8.out; have y9_ := z9.out; have y10_ := z10.out; have y11_ := z11.out; have y12_ := z12.out; have y13_ := z13.out; have y14_ := z14.out; have yhbxw_ := hbxw.out; have yhbxg_ := hbxg.out; first | omega | (exfalso; omega))))
  replace hx := Aside0.mk (Kd.S_kept hx.out k15 (fun k_ p_ q_ => by first | exact q_.2 p_.2 | exact p_.2 q_.2 | exact (by have y1_ := z1.out; have y2_ := z2.out; have y3_ := z3.out; have y4_ := z4.out; have y5_ := z5.out; have y6_ := z6.out; have y7_ := z7.out; have y8_ := z8.out; have y9_ := z9.out; have y10_ := z10.out; have y11_ := z11.out; have y12_ := z12.out; have y13_ := z13.out; have y14_ := z14.out; have yhbxw_ := hbxw.out; have yhbxg_ := hbxg.out; first | omega | (exfalso; omega))))
  replace hgp := Aside0.mk (Kd.R_kept hgp.out k15 (fun k_ p_ q_ => by first | exact q_.2 p_.2 | exact p_.2 q_.2 | exact (by have y1_ := z1.out; have y2_ := z2.out; have y3_ := z3.out; have y4_ := z4.out; have y5_ := z5.out; have y6_ := z6.out; have y7_ := z7.out; have y8_ := z8.out; have y9_ := z9.out; have y10_ := z10.out; have y11_ := z11.out; have y12_ := z12.out; have y13_ := z13.out; have y14_ := z14.out; have yhbxw_ := hbxw.out; have yhbxg_ := hbxg.out; first | omega | (exfalso; omega))))
  replace hu := Aside0.mk (Kd.S_kept hu.out k15 (fun k_ p_ q_ => by first | exact q_.2 p_.2 | exact p_.2 q_.2 | exact (by have y1_ := z1.out; have y2_ := z2.out; have y3_ := z3.out; have y4_ := z4.out; have y5_ := z5.out; have y6_ := z6.out; have y7_ := z7.out; have y8_ := z8.out; have y9_ := z9.out; have y10_ := z10.out; have y11_ := z11.out; have y12_ := z12.out; have y13_ := z13.out; have y14_ := z14.out; have yhbxw_ := hbxw.out; have yhbxg_ := hbxg.out; first | omega | (exfalso; omega))))
  replace bkw := Aside0.mk (blk_kept bkw.out k15 (fun q_ => (by have y1_ := z1.out; have y2_ := z2.out; have y3_ := z3.out; have y4_ := z4.out; have y5_ := z5.out; have y6_ := z6.out; have y7_ := z7.out; have y8_ := z8.out; have y9_ := z9.out; have y10_ := z10.out; have y11_ := z11.out; have y12_ := z12.out; have y13_ := z13.out; have y14_ := z14.out; have yhbxw_ := hbxw.out; have yhbxg_ := hbxg.out; first | omega | (exfalso; omega))))
  replace bkg := Aside0.mk (blk_kept bkg.out k15 (fun q_ => (by have y1_ := z1.out; have y2_ := z2.out; have y3_ := z3.out; have y4_ := z4.out; have y5_ := z5.out; have y6_ := z6.out; have y7_ := z7.out; have y8_ := z8.out; have y9_ := z9.out; have y10_ := z10.out; have y11_ := z11.out; have y12_ := z12.out; have y13_ := z13.out; have y14_ := z14.out; have yhbxw_ := hbxw.out; have yhbxg_ := hbxg.out; first | omega | (exfalso; omega))))
  replace HB := Aside0.mk b15
  have z15 := Aside0.mk (k15).1
  have qg_ := Aside0.mk (Kd.S_reads' hg).1
  rw [qg_.out] at hg
  have n_ := Aside0.mk hg; clear hg; have hg := n_; clear n_
  clear b15 k15
  have okgp_ := Aside0.mk hgp.out.1
  have t_ := trivial
  go_wp2_with (clear t_; go_at_call 64; refine (laws_markPack.calls k gi _ _ gr m2 q2 m3l w _ HB.out (Kd.R_lower hgp.out (by have y1_ := z1.out; have y2_ := z2.out; have y3_ := z3.out; have y4_ := z4.out; have y5_ := z5.out; have y6_ := z6.out; have y7_ := z7.out; have y8_ := z8.out; have y9_ := z9.out; have y10_ := z10.out; have y11_ := z11.out; have y12_ := z12.out; have y13_ := z13.out; have y14_ := z14.out; have y15_ := z15.out; have yhbxw_ := hbxw.out; have yhbxg_ := hbxg.out; first | omega | (exfalso; omega))) h10.out).mono ?_; rintro e w16 ⟨rfl, hgp, b16, k16⟩; (try clear zzw_0 zzw_1); obtain ⟨zzw_0, zzw_1⟩ := cz2 (blk_kept bkw.out k16 (fun q_ => (by have y1_ := z1.out; have y2_ := z2.out; have y3_ := z3.out; have y4_ := z4.out; have y5_ := z5.out; have y6_ := z6.out; have y7_ := z7.out; have y8_ := z8.out; have y9_ := z9.out; have y10_ := z10.out; have y11_ := z11.out; have y12_ := z12.out; have y13_ := z13.out; have y14_ := z14.out; have y15_ := z15.out; have yhbxw_ := hbxw.out; have yhbxg_ := hbxg.out; first | omega | (exfalso; omega)))); (try clear zzg_0 zzg_1); obtain ⟨zzg_0, zzg_1⟩ := cz2 (blk_kept bkg.out k16 (fun q_ => (by have y1_ := z1.out; have y2_ := z2.out; have y3_ := z3.out; have y4_ := z4.out; have y5_ := z5.out; have y6_ := z6.out; have y7_ := z7.out; have y8_ := z8.out; have y9_ := z9.out; have y10_ := z10.out; have y11_ := z11.out; have y12_ := z12.out; have y13_ := z13.out; have y14_ := z14.out; have y15_ := z15.out; have yhbxw_ := hbxw.out; have yhbxg_ := hbxg.out; first | omega | (exfalso; omega)))))
  replace hy := Aside0.mk (Kd.S_kept hy.out k16 (fun k_ p_ q_ => by first | exact q_.2 p_.2 | exact p_.2 q_.2 | exact (by have y1_ := z1.out; have y2_ := z2.out; have y3_ := z3.out; have y4_ := z4.out; have y5_ := z5.out; have y6_ := z6.out; have y7_ := z7.out; have y8_ := z8.out; have y9_ := z9.out; have y10_ := z10.out; have y11_ := z11.out; have y12_ := z12.out; have y13_ := z13.out; have y14_ := z14.out; have y15_ := z15.out; have yhbxw_ := hbxw.out; have yhbxg_ := hbxg.out; first | omega | (exfalso; omega))))
  replace hw := Aside0.mk (Kd.N_kept hw.out k16 (fun k_ p_ q_ => by first | exact q_.2 p_.2 | exact p_.2 q_.2 | exact (by have y1_ := z1.out; have y2_ := z2.out; have y3_ := z3.out; have y4_ := z4.out; have y5_ := z5.out; have y6_ := z6.out; have y7_ := z7.out; have y8_ := z8.out; have y9_ := z9.out; have y10_ := z10.out; have y11_ := z11.out; have y12_ := z12.out; have y13_ := z13.out; have y14_ := z14.out; have y15_ := z15.out; have yhbxw_ := hbxw.out; have yhbxg_ := hbxg.out; first | omega | (exfalso; omega))))
  replace hwp := Aside0.mk (Kd.R_kept hwp.out k16 (fun k_ p_ q_ => by first | exact q_.2 p_.2 | exact p_.2 q_.2 | exact (by have y1_ := z1.out; have y2_ := z2.out; have y3_ := z3.out; have y4_ := z4.out; have y5_ := z5.out; have y6_ := z6.out; have y7_ := z7.out; have y8_ := z8.out; have y9_ := z9.out; have y10_ := z10.out; have y11_ := z11.out; have y12_ := z12.out; have y13_ := z13.out; have y14_ := z14.out; have y15_ := z15.out; have yhbxw_ := hbxw.out; have yhbxg_ := hbxg.out; first | omega | (exfalso; omega))))
  replace hx := Aside0.mk (Kd.S_kept hx.out k16 (fun k_ p_ q_ => by first | exact q_.2 p_.2 | exact p_.2 q_.2 | exact (by have y1_ := z1.out; have y2_ := z2.out; have y3_ := z3.out; have y4_ := z4.out; have y5_ := z5.out; have y6_ := z6.out; have y7_ := z7.out; have y8_ := z8.out; have y9_ := z9.out; have y10_ := z10.out; have y11_ := z11.out; have y12_ := z12.out; have y13_ := z13.out; have y14_ := z14.out; have y15_ := z15.out; have yhbxw_ := hbxw.out; have yhbxg_ := hbxg.out; first | omega | (exfalso; omega))))
  replace hg := Aside0.mk (Kd.S_kept hg.out k16 (fun k_ p_ q_ => by first | exact q_.2 p_.2 | exact p_.2 q_.2 | exact (by have y1_ := z1.out; have y2_ := z2.out; have y3_ := z3.out; have y4_ := z4.out; have y5_ := z5.out; have y6_ := z6.out; have y7_ := z7.out; have y8_ := z8.out; have y9_ := z9.out; have y10_ := z10.out; have y11_ := z11.out; have y12_ := z12.out; have y13_ := z13.out; have y14_ := z14.out; have y15_ := z15.out; have yhbxw_ := hbxw.out; have yhbxg_ := hbxg.out; first | omega | (exfalso; omega))))
  replace hu := Aside0.mk (Kd.S_kept hu.out k16 (fun k_ p_ q_ => by first | exact q_.2 p_.2 | exact p_.2 q_.2 | exact (by have y1_ := z1.out; have y2_ := z2.out; have y3_ := z3.out; have y4_ := z4.out; have y5_ := z5.out; have y6_ := z6.out; have y7_ := z7.out; have y8_ := z8.out; have y9_ := z9.out; have y10_ := z10.out; have y11_ := z11.out; have y12_ := z12.out; have y13_ := z13.out; have y14_ := z14.out; have y15_ := z15.out; have yhbxw_ := hbxw.out; have yhbxg_ := hbxg.out; first | omega | (exfalso; omega))))
  replace bkw := Aside0.mk (blk_kept bkw.out k16 (fun q_ => (by have y1_ := z1.out; have y2_ := z2.out; have y3_ := z3.out; have y4_ := z4.out; have y5_ := z5.out; have y6_ := z6.out; have y7_ := z7.out; have y8_ := z8.out; have y9_ := z9.out; have y10_ := z10.out; have y11_ := z11.out; have y12_ := z12.out; have y13_ := z13.out; have y14_ := z14.out; have y15_ := z15.out; have yhbxw_ := hbxw.out; have yhbxg_ := hbxg.out; first | omega | (exfalso; omega))))
  replace bkg := Aside0.mk (blk_kept bkg.out k16 (fun q_ => (by have y1_ := z1.out; have y2_ := z2.out; have y3_ := z3.out; have y4_ := z4.out; have y5_ := z5.out; have y6_ := z6.out; have y7_ := z7.out; have y8_ := z8.out; have y9_ := z9.out; have y10_ := z10.out; have y11_ := z11.out; have y12_ := z12.out; have y13_ := z13.out; have y14_ := z14.out; have y15_ := z15.out; have yhbxw_ := hbxw.out; have yhbxg_ := hbxg.out; first | omega | (exfalso; omega))))
  replace HB := Aside0.mk b16
  have z16 := Aside0.mk (k16).1
  have qgp_ := Aside0.mk (Kd.R_reads' hgp).1
  rw [qgp_.out] at hgp
  have n_ := Aside0.mk hgp; clear hgp; have hgp := n_; clear n_
  clear b16 k16
  replace hgp := Aside0.mk (Kd.R_reok rfl hgp.out (fun k_ e_ => okgp_.out k_ ((show (Value.slice Agp gr.length cgp).ownBlock = (Value.slice Agp m3l.length cgp).ownBlock from by cases Agp <;> rfl).trans e_)))
  have t_ := trivial
  go_wp2_with (clear t_; go_at_call 60; refine (calls_of_args (by rw [qg_.out]) (laws_heldPackS.calls k _ _ m2l 1 q1 _ (Kd.S_reads' hg.out).2.2 (Kd.S_reads' hg.out).2.1 h9.out)).mono ?_; rintro e w17 ⟨rfl, b17⟩; replace b17 := Drawn0.below b17; (try clear zzw_0 zzw_1); obtain ⟨zzw_0, zzw_1⟩ := cz2 (blk_below bkw.out b17); (try clear zzg_0 zzg_1); obtain ⟨zzg_0, zzg_1⟩ := cz2 (blk_below bkg.out b17))
  replace hy := Aside0.mk (Kd.S_below hy.out b17)
  replace hw := Aside0.mk (Kd.N_below hw.out b17)
  replace hwp := Aside0.mk (Kd.R_below hwp.out b17)
  replace hx := Aside0.mk (Kd.S_below hx.out b17)
  replace hg := Aside0.mk (Kd.S_below hg.out b17)
  replace hgp := Aside0.mk (Kd.R_below hgp.out b17)
  replace hu := Aside0.mk (Kd.S_below hu.out b17)
  replace bkw := Aside0.mk (blk_below bkw.out b17)
  replace bkg := Aside0.mk (blk_below bkg.out b17)
  replace HB := Aside0.mk (HB.out.trans (Below.mono b17 HB.out.size))
  have z17 := Aside0.mk (Below.size b17)
  clear b17
  have t_ := trivial
  go_wp2_with (clear t_; go_at_call 65; refine (calls_of_args (by rw [qgp_.out]) (laws_heldPack.calls k gi _ _ m3l q1 q2 _ (Kd.R_reads' hgp.out).2.2 (Kd.R_reads' hgp.out).2.1 h11.out)).mono ?_; rintro e w18 ⟨rfl, b18⟩; (try clear zzw_0 zzw_1); obtain ⟨zzw_0, zzw_1⟩ := cz2 (blk_below bkw.out b18); (try clear zzg_0 zzg_1); obtain ⟨zzg_0, zzg_1⟩ := cz2 (blk_below bkg.out b18))
  replace hy := Aside0.mk (Kd.S_below hy.out b18)
  replace hw := Aside0.mk (Kd.N_below hw.out b18)
  replace hwp := Aside0.mk (Kd.R_below hwp.out b18)
  replace hx := Aside0.mk (Kd.S_below hx.out b18)
  replace hg := Aside0.mk (Kd.S_below hg.out b18)
  replace hgp := Aside0.mk (Kd.R_below hgp.out b18)
  replace hu := Aside0.mk (Kd.S_below hu.out b18)
  replace bkw := Aside0.mk (blk_below bkw.out b18)
  replace bkg := Aside0.mk (blk_below bkg.out b18)
  replace HB := Aside0.mk (HB.out.trans (Below.mono b18 HB.out.size))
  have z18 := Aside0.mk (Below.size b18)
  clear b18
  have t_ := trivial
  go_wp2_with (clear t_; go_at_call 56; refine (laws_toPackS.calls k A0 c0 l0 xs _ (Kd.C_below hr0.out HB.out) hc0.out h2.out).mono ?_; rintro e w19 ⟨vt, rfl, ht, b19⟩; obtain ⟨At, ct, rfl⟩ := Kd.S_slice ht; replace ht := Aside0.mk (S_iv ht); (try clear zzw_0 zzw_1); obtain ⟨zzw_0, zzw_1⟩ := cz2 (blk_below bkw.out b19); (try clear zzg_0 zzg_1); obtain ⟨zzg_0, zzg_1⟩ := cz2 (blk_below bkg.out b19))
  replace hy := Aside0.mk (Kd.S_below hy.out b19)
  replace hw := Aside0.mk (Kd.N_below hw.out b19)
  replace hwp := Aside0.mk (Kd.R_below hwp.out b19)
  replace hx := Aside0.mk (Kd.S_below hx.out b19)
  replace hg := Aside0.mk (Kd.S_below hg.out b19)
  replace hgp := Aside0.mk (Kd.R_below hgp.out b19)
  replace hu := Aside0.mk (Kd.S_below hu.out b19)
  replace bkw := Aside0.mk (blk_below bkw.out b19)
  replace bkg := Aside0.mk (blk_below bkg.out b19)
  replace HB := Aside0.mk (HB.out.trans (Below.mono b19 HB.out.size))
  have z19 := Aside0.mk (Below.size b19)
  clear b19
  have t_ := trivial
  go_wp2_with (clear t_; go_at_call 62; refine (impl_TakeOut.calls k _ _ xs a1 gl gi gr gb _ (Kd.S_reads' ht.out).2.2 (Kd.S_reads' ht.out).2.1 h4.out).mono ?_; rintro e w20 ⟨vp, vpp, rfl, hp, hpp, b20⟩; obtain ⟨Ap, cp, rfl⟩ := Kd.S_slice hp; obtain ⟨App, cpp, rfl⟩ := Kd.R_slice hpp; (try clear zzw_0 zzw_1); obtain ⟨zzw_0, zzw_1⟩ := cz2 (blk_below bkw.out b20); (try clear zzg_0 zzg_1); obtain ⟨zzg_0, zzg_1⟩ := cz2 (blk_below bkg.out b20))
  obtain ⟨OBpp, hOBpp⟩ : ∃ o_, o_ = (Value.slice App gr.length cpp).ownBlock := ⟨_, rfl⟩
  replace hOBpp := Aside0.mk hOBpp
  replace hp := Aside0.mk (Kd.S_mono (ok' := fun k => (w19.heap.size ≤ k ∧ k < w20.heap.size) ∧ some k ≠ OBpp) (Kd.S_bound hp) (fun k hk => ⟨⟨hk.2.1, hk.2.2.1⟩, fun e_ => hk.1 (e_.trans hOBpp.out)⟩))
  replace hpp := Aside0.mk (Kd.R_mono (ok' := fun k => (w19.heap.size ≤ k ∧ k < w20.heap.size) ∧ some k = OBpp) (Kd.R_tight2 rfl (R_iv hpp)) (fun k hk => ⟨hk.2, hk.1.trans hOBpp.out.symm⟩))
  replace hy := Aside0.mk (Kd.S_below hy.out b20)
  replace hw := Aside0.mk (Kd.N_below hw.out b20)
  replace hwp := Aside0.mk (Kd.R_below hwp.out b20)
  replace hx := Aside0.mk (Kd.S_below hx.out b20)
  replace hg := Aside0.mk (Kd.S_below hg.out b20)
  replace hgp := Aside0.mk (Kd.R_below hgp.out b20)
  replace hu := Aside0.mk (Kd.S_below hu.out b20)
  replace ht := Aside0.mk (Kd.S_below ht.out b20)
  replace bkw := Aside0.mk (blk_below bkw.out b20)
  replace bkg := Aside0.mk (blk_below bkg.out b20)
  replace HB := Aside0.mk (HB.out.trans (Below.mono b20 HB.out.size))
  have z20 := Aside0.mk (Below.size b20)
  clear b20
  replace hy := Aside0.mk (Kd.S_alloc hy.out (.cells #[.int .i64 gi, .slice App gr.length cpp] 74))
  replace hw := Aside0.mk (Kd.N_alloc hw.out (.cells #[.int .i64 gi, .slice App gr.length cpp] 74))
  replace hwp := Aside0.mk (Kd.R_alloc hwp.out (.cells #[.int .i64 gi, .slice App gr.length cpp] 74))
  replace hx := Aside0.mk (Kd.S_alloc hx.out (.cells #[.int .i64 gi, .slice App gr.length cpp] 74))
  replace hg := Aside0.mk (Kd.S_alloc hg.out (.cells #[.int .i64 gi, .slice App gr.length cpp] 74))
  replace hgp := Aside0.mk (Kd.R_alloc hgp.out (.cells #[.int .i64 gi, .slice App gr.length cpp] 74))
  replace hu := Aside0.mk (Kd.S_alloc hu.out (.cells #[.int .i64 gi, .slice App gr.length cpp] 74))
  replace ht := Aside0.mk (Kd.S_alloc ht.out (.cells #[.int .i64 gi, .slice App gr.length cpp] 74))
  replace hp := Aside0.mk (Kd.S_alloc hp.out (.cells #[.int .i64 gi, .slice App gr.length cpp] 74))
  replace hpp := Aside0.mk (Kd.R_alloc hpp.out (.cells #[.int .i64 gi, .slice App gr.length cpp] 74))
  replace bkw := Aside0.mk (blk_alloc bkw.out (.cells #[.int .i64 gi, .slice App gr.length cpp] 74))
  replace bkg := Aside0.mk (blk_alloc bkg.out (.cells #[.int .i64 gi, .slice App gr.length cpp] 74))
  have bkp : Aside0 ((w20.alloc (.cells #[.int .i64 gi, .slice App gr.length cpp] 74)).heap[w20.heap.size]? = some (.cells #[.int .i64 gi, .slice App gr.length cpp] 74 (0, 0))) := ⟨heap_alloc_new w20 _⟩
  replace HB := Aside0.mk (below_alloc HB.out (.cells #[.int .i64 gi, .slice App gr.length cpp] 74))
  have z21 : Aside0 (w20.heap.size + 1 = (w20.alloc (.cells #[.int .i64 gi, .slice App gr.length cpp] 74)).heap.size) := ⟨by simp⟩
  (try clear zzw_0 zzw_1 zzg_0 zzg_1)
  generalize (w20.alloc (.cells #[.int .i64 gi, .slice App gr.length cpp] 74)) = w21 at hy hw hwp hx hg hgp hu ht hp hpp bkw bkg bkp HB z21 ⊢
  obtain ⟨bxp, hbxp⟩ : ∃ g_, g_ = w20.heap.size := ⟨_, rfl⟩
  rw [← hbxp] at bkp ⊢
  replace hbxp := Aside0.mk hbxp
  obtain ⟨zzw_0, zzw_1⟩ := cz2 bkw.out
  obtain ⟨zzg_0, zzg_1⟩ := cz2 bkg.out
  obtain ⟨zzp_0, zzp_1⟩ := cz2 bkp.out
  have t_ := trivial
  go_wp2_with (clear t_; go_at_call 58; refine (laws_eqPackS.calls k _ _ gl _ _ wl true _ (Kd.S_reads' hp.out).2.2 (Kd.S_reads' hp.out).2.1 (Kd.N_reads' hw.out).2.2 (Kd.N_reads' hw.out).2.1 ⟨rfl⟩ h5.out).mono ?_; rintro e w22 ⟨rfl, b22⟩; (try clear zzw_0 zzw_1); obtain ⟨zzw_0, zzw_1⟩ := cz2 (blk_below bkw.out b22); (try clear zzg_0 zzg_1); obtain ⟨zzg_0, zzg_1⟩ := cz2 (blk_below bkg.out b22); (try clear zzp_0 zzp_1); obtain ⟨zzp_0, zzp_1⟩ := cz2 (blk_below bkp.out b22))
  replace hy := Aside0.mk (Kd.S_below hy.out b22)
  replace hw := Aside0.mk (Kd.N_below hw.out b22)
  replace hwp := Aside0.mk (Kd.R_below hwp.out b22)
  replace hx := Aside0.mk (Kd.S_below hx.out b22)
  replace hg := Aside0.mk (Kd.S_below hg.out b22)
  replace hgp := Aside0.mk (Kd.R_below hgp.out b22)
  replace hu := Aside0.mk (Kd.S_below hu.out b22)
  replace ht := Aside0.mk (Kd.S_below ht.out b22)
  replace hp := Aside0.mk (Kd.S_below hp.out b22)
  replace hpp := Aside0.mk (Kd.R_below hpp.out b22)
  replace bkw := Aside0.mk (blk_below bkw.out b22)
  replace bkg := Aside0.mk (blk_below bkg.out b22)
  replace bkp := Aside0.mk (blk_below bkp.out b22)
  replace HB := Aside0.mk (HB.out.trans (Below.mono b22 HB.out.size))
  have z22 := Aside0.mk (Below.size b22)
  clear b22
  have t_ := trivial
  go_wp2_with (clear t_; go_at_call 63; refine (laws_eqPack.calls k gi _ _ gr wi _ _ wr true _ (Kd.R_reads' hpp.out).2.2 (Kd.R_reads' hpp.out).2.1 (Kd.R_reads' hwp.out).2.2 (Kd.R_reads' hwp.out).2.1 ⟨rfl⟩ h12.out).mono ?_; rintro e w23 ⟨rfl, b23⟩; (try clear zzw_0 zzw_1); obtain ⟨zzw_0, zzw_1⟩ := cz2 (blk_below bkw.out b23); (try clear zzg_0 zzg_1); obtain ⟨zzg_0, zzg_1⟩ := cz2 (blk_below bkg.out b23); (try clear zzp_0 zzp_1); obtain ⟨zzp_0, zzp_1⟩ := cz2 (blk_below bkp.out b23))
  replace hy := Aside0.mk (Kd.S_below hy.out b23)
  replace hw := Aside0.mk (Kd.N_below hw.out b23)
  replace hwp := Aside0.mk (Kd.R_below hwp.out b23)
  replace hx := Aside0.mk (Kd.S_below hx.out b23)
  replace hg := Aside0.mk (Kd.S_below hg.out b23)
  replace hgp := Aside0.mk (Kd.R_below hgp.out b23)
  replace hu := Aside0.mk (Kd.S_below hu.out b23)
  replace ht := Aside0.mk (Kd.S_below ht.out b23)
  replace hp := Aside0.mk (Kd.S_below hp.out b23)
  replace hpp := Aside0.mk (Kd.R_below hpp.out b23)
  replace bkw := Aside0.mk (blk_below bkw.out b23)
  replace bkg := Aside0.mk (blk_below bkg.out b23)
  replace bkp := Aside0.mk (blk_below bkp.out b23)
  replace HB := Aside0.mk (HB.out.trans (Below.mono b23 HB.out.size))
  have z23 := Aside0.mk (Below.size b23)
  clear b23
  have t_ := trivial
  go_wp2_with (clear t_; go_at_call 60; refine (calls_of_args (by rw [qg_.out]) (laws_heldPackS.calls k _ _ m2l 1 q1 _ (Kd.S_reads' hg.out).2.2 (Kd.S_reads' hg.out).2.1 h9.out)).mono ?_; rintro e w24 ⟨rfl, b24⟩; replace b24 := Drawn0.below b24; (try clear zzw_0 zzw_1); obtain ⟨zzw_0, zzw_1⟩ := cz2 (blk_below bkw.out b24); (try clear zzg_0 zzg_1); obtain ⟨zzg_0, zzg_1⟩ := cz2 (blk_below bkg.out b24); (try clear zzp_0 zzp_1); obtain ⟨zzp_0, zzp_1⟩ := cz2 (blk_below bkp.out b24))
  replace hy := Aside0.mk (Kd.S_below hy.out b24)
  replace hw := Aside0.mk (Kd.N_below hw.out b24)
  replace hwp := Aside0.mk (Kd.R_below hwp.out b24)
  replace hx := Aside0.mk (Kd.S_below hx.out b24)
  replace hg := Aside0.mk (Kd.S_below hg.out b24)
  replace hgp := Aside0.mk (Kd.R_below hgp.out b24)
  replace hu := Aside0.mk (Kd.S_below hu.out b24)
  replace ht := Aside0.mk (Kd.S_below ht.out b24)
  replace hp := Aside0.mk (Kd.S_below hp.out b24)
  replace hpp := Aside0.mk (Kd.R_below hpp.out b24)
  replace bkw := Aside0.mk (blk_below bkw.out b24)
  replace bkg := Aside0.mk (blk_below bkg.out b24)
  replace bkp := Aside0.mk (blk_below bkp.out b24)
  replace HB := Aside0.mk (HB.out.trans (Below.mono b24 HB.out.size))
  have z24 := Aside0.mk (Below.size b24)
  clear b24
  have t_ := trivial
  go_wp2_with (clear t_; go_at_call 65; refine (calls_of_args (by rw [qgp_.out]) (laws_heldPack.calls k gi _ _ m3l q1 q2 _ (Kd.R_reads' hgp.out).2.2 (Kd.R_reads' hgp.out).2.1 h11.out)).mono ?_; rintro e w25 ⟨rfl, b25⟩; (try clear zzw_0 zzw_1); obtain ⟨zzw_0, zzw_1⟩ := cz2 (blk_below bkw.out b25); (try clear zzg_0 zzg_1); obtain ⟨zzg_0, zzg_1⟩ := cz2 (blk_below bkg.out b25); (try clear zzp_0 zzp_1); obtain ⟨zzp_0, zzp_1⟩ := cz2 (blk_below bkp.out b25))
  replace hy := Aside0.mk (Kd.S_below hy.out b25)
  replace hw := Aside0.mk (Kd.N_below hw.out b25)
  replace hwp := Aside0.mk (Kd.R_below hwp.out b25)
  replace hx := Aside0.mk (Kd.S_below hx.out b25)
  replace hg := Aside0.mk (Kd.S_below hg.out b25)
  replace hgp := Aside0.mk (Kd.R_below hgp.out b25)
  replace hu := Aside0.mk (Kd.S_below hu.out b25)
  replace ht := Aside0.mk (Kd.S_below ht.out b25)
  replace hp := Aside0.mk (Kd.S_below hp.out b25)
  replace hpp := Aside0.mk (Kd.R_below hpp.out b25)
  replace bkw := Aside0.mk (blk_below bkw.out b25)
  replace bkg := Aside0.mk (blk_below bkg.out b25)
  replace bkp := Aside0.mk (blk_below bkp.out b25)
  replace HB := Aside0.mk (HB.out.trans (Below.mono b25 HB.out.size))
  have z25 := Aside0.mk (Below.size b25)
  clear b25
  go_ret
  exact ⟨rfl, HB.out⟩

end Go.Proofs.Ythmfmpmljndjhaa.PFnExactTakeOut
