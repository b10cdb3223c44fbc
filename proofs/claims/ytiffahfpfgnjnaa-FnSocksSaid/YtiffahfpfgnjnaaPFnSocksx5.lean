-- Written by a program of this session (myprint.py, over the kit's print): contracts of FnSocks
import Derived.Test.YtiffahfpfgnjnaaPFnSocksx0
import Derived.Test.YtiffahfpfgnjnaaPFnSocksx2
import Derived.Test.YtiffahfpfgnjnaaPFnSocksx3
import Derived.Test.YtiffahfpfgnjnaaPFnSocksx4
namespace Go.Proofs.Ytiffahfpfgnjnaa.PFnSocks
open Go.RowKit Go.Proofs.YtiffahfpfgnjnaaW.PrintWords Go.Proofs.YtiffahfpfgnjnaaW.PrintLast Go.Proofs.YtiffahfpfgnjnaaW.PrintMore Go.Proofs.YtiffahfpfgnjnaaV
attribute [local go_sem] max2_int min2_int max_two min_two max_three min_three max_four min_four   -- for this text's walks alone
set_option linter.unusedVariables false
set_option linter.unusedSimpArgs false

/-! ### spec_l8Draw: function 122 -/
mutual
def spec_l8Draw.l0 : Nat → Int → List Int → Int → Int → Int → Int → Int → Bool → List Int → Int → Int → Option (Int × Int × Int × Bool × List Int × List Int × Int × Int × Int × Int)
 | 0, _, _, _, _, _, _, _, _, _, _, _ => none
 | k + 1, x4, x1000, x1001, x1002, x262000, x262001, x262002, x262003, x262004, x262006, x262007 => if x4 > 0 then ((spec_l6Draw.f k x1000 x1001 x1002).bind fun bt265 => ((spec_PutFrame.f k bt265.1 bt265.2.1 bt265.2.2.1).bind fun t270 => (if x262004.length + t270.length < 140737488355328 then (spec_l8Draw.l0 k (wrap64 (x4 - 1)) x1000 bt265.2.2.2.1 bt265.2.2.2.2 x262000 x262001 x262002 x262003 (x262004 ++ t270) x262006 x262007) else (none)))) else ((spec_l1Once.f x1000 x1001 x1002 4).bind fun bt276 => (if bt276.1 = true then ((spec_l6Bytes.f k x1000 bt276.2.1 bt276.2.2).bind fun bt279 => (if x262004.length + bt279.1.length < 140737488355328 then (spec_l8Draw.j1 k x1000 bt279.2.1 bt279.2.2 x262000 x262001 x262002 x262003 (x262004 ++ bt279.1) x262006 x262007) else (none))) else (spec_l8Draw.j1 k x1000 bt276.2.1 bt276.2.2 x262000 x262001 x262002 x262003 x262004 x262006 x262007)))
def spec_l8Draw.j1 : Nat → List Int → Int → Int → Int → Int → Int → Bool → List Int → Int → Int → Option (Int × Int × Int × Bool × List Int × List Int × Int × Int × Int × Int)
 | 0, _, _, _, _, _, _, _, _, _, _ => none
 | k + 1, x1000, x1001, x1002, x262000, x262001, x262002, x262003, x262004, x262006, x262007 => (spec_l1Below.f x1000 x1001 x1002 4).bind fun bt287 => (spec_l8Draw.l1 k bt287.1 x1000 bt287.2.1 bt287.2.2 x262000 x262001 x262002 x262003 x262004 ([] : List Int) x262006 x262007)
def spec_l8Draw.l1 : Nat → Int → List Int → Int → Int → Int → Int → Int → Bool → List Int → List Int → Int → Int → Option (Int × Int × Int × Bool × List Int × List Int × Int × Int × Int × Int)
 | 0, _, _, _, _, _, _, _, _, _, _, _, _ => none
 | k + 1, x5, x1000, x1001, x1002, x262000, x262001, x262002, x262003, x262004, x262005, x262006, x262007 => if x5 > 0 then ((spec_l6Draw.f k x1000 x1001 x1002).bind fun bt293 => ((spec_PutFrame.f k bt293.1 bt293.2.1 bt293.2.2.1).bind fun t298 => (if x262005.length + t298.length < 140737488355328 then ((some (x262005 ++ t298 : List Int)).bind fun y301 => (if x262001 = 2 then ((spec_l1Once.f x1000 bt293.2.2.2.1 bt293.2.2.2.2 3).bind fun bt304 => (if bt304.1 = true then (spec_l8Draw.l1 k (wrap64 (x5 - 1)) x1000 bt304.2.1 bt304.2.2 x262000 x262001 x262002 x262003 x262004 y301 x262006 (y301.length : Int)) else (spec_l8Draw.l1 k (wrap64 (x5 - 1)) x1000 bt304.2.1 bt304.2.2 x262000 x262001 x262002 x262003 x262004 y301 x262006 x262007))) else (spec_l8Draw.l1 k (wrap64 (x5 - 1)) x1000 bt293.2.2.2.1 bt293.2.2.2.2 x262000 x262001 x262002 x262003 x262004 y301 x262006 x262007))) else (none)))) else (if x262001 = 2 then ((spec_l1Below.f x1000 x1001 x1002 3).bind fun bt290 => (some (x262000, x262001, x262002, x262003, x262004, x262005, bt290.1, x262007, bt290.2.1, bt290.2.2))) else (some (x262000, x262001, x262002, x262003, x262004, x262005, x262006, x262007, x1001, x1002)))
end
def spec_l8Draw.f (k : Nat) (s0_0 : List Int) (s0_1 : Int) (s0_2 : Int) : Option (Int × Int × Int × Bool × List Int × List Int × Int × Int × Int × Int) := (spec_l1Below.f s0_0 s0_1 s0_2 9).bind fun bt249 => ((spec_l1Below.f s0_0 bt249.2.1 bt249.2.2 2).bind fun bt252 => ((spec_l1Below.f s0_0 bt252.2.1 bt252.2.2 3).bind fun bt255 => ((spec_l1Once.f s0_0 bt255.2.1 bt255.2.2 6).bind fun bt258 => ((spec_l1Below.f s0_0 bt258.2.1 bt258.2.2 4).bind fun bt262 => (spec_l8Draw.l0 k bt262.1 s0_0 bt262.2.1 bt262.2.2 (wrap64 (1 + bt249.1)) (wrap64 (1 + bt252.1)) (wrap64 (1 + bt255.1)) bt258.1 ([] : List Int) 0 0)))))
theorem spec_l8Draw.mono_l : ∀ k, (∀ y0 y1 y2 y3 y4 y5 y6 y7 y8 y9 y10, LeO (spec_l8Draw.l0 k y0 y1 y2 y3 y4 y5 y6 y7 y8 y9 y10) (spec_l8Draw.l0 (k + 1) y0 y1 y2 y3 y4 y5 y6 y7 y8 y9 y10)) ∧ (∀ y0 y1 y2 y3 y4 y5 y6 y7 y8 y9, LeO (spec_l8Draw.j1 k y0 y1 y2 y3 y4 y5 y6 y7 y8 y9) (spec_l8Draw.j1 (k + 1) y0 y1 y2 y3 y4 y5 y6 y7 y8 y9)) ∧ (∀ y0 y1 y2 y3 y4 y5 y6 y7 y8 y9 y10 y11, LeO (spec_l8Draw.l1 k y0 y1 y2 y3 y4 y5 y6 y7 y8 y9 y10 y11) (spec_l8Draw.l1 (k + 1) y0 y1 y2 y3 y4 y5 y6 y7 y8 y9 y10 y11))
 | 0 => ⟨fun _ _ _ _ _ _ _ _ _ _ _ r h => by simp [spec_l8Draw.l0] at h, fun _ _ _ _ _ _ _ _ _ _ r h => by simp [spec_l8Draw.j1] at h, fun _ _ _ _ _ _ _ _ _ _ _ _ r h => by simp [spec_l8Draw.l1] at h⟩
 | k + 1 => by
  obtain ⟨ih0, ih1, ih2⟩ := spec_l8Draw.mono_l k
  refine ⟨?_, ?_, ?_⟩
  ·
   intro y0 y1 y2 y3 y4 y5 y6 y7 y8 y9 y10
   unfold spec_l8Draw.l0
   have m0 := @spec_PutFrame.mono; have m1 := @spec_l6Bytes.mono; have m2 := @spec_l6Draw.mono; exact mo_
  ·
   intro y0 y1 y2 y3 y4 y5 y6 y7 y8 y9
   unfold spec_l8Draw.j1
   have m0 := @spec_PutFrame.mono; have m1 := @spec_l6Bytes.mono; have m2 := @spec_l6Draw.mono; exact mo_
  ·
   intro y0 y1 y2 y3 y4 y5 y6 y7 y8 y9 y10 y11
   unfold spec_l8Draw.l1
   have m0 := @spec_PutFrame.mono; have m1 := @spec_l6Bytes.mono; have m2 := @spec_l6Draw.mono; exact mo_
theorem spec_l8Draw.mono : ∀ a0 a1 a2 k, LeO (spec_l8Draw.f k a0 a1 a2) (spec_l8Draw.f (k + 1) a0 a1 a2) := by
 intro a0 a1 a2 k
 obtain ⟨ih0, ih1, ih2⟩ := spec_l8Draw.mono_l k
 unfold spec_l8Draw.f
 have m0 := @spec_PutFrame.mono; have m1 := @spec_l6Bytes.mono; have m2 := @spec_l6Draw.mono; exact mo_
def spec_l8Draw.T5 : Bool × List (List Nat × List Nat) := (true, [([], []), ([0], [0]), ([], []), ([2], [2]), ([3, 3], [3]), ([1, 4, 4], [1, 4]), ([0, 1, 2, 3, 4, 5], []), ([6, 5, 5, 0, 1, 2, 3, 4, 5], [5, 6])])
def spec_l8Draw.B5 : List Nat := [0, 1, 0, 4, 12, 31, 63, 127]
theorem spec_l8Draw.tab5 : rtab .any (opsOf Try.f122 5) = spec_l8Draw.T5 := by kernel_rfl
theorem spec_l8Draw.bits5 : waitsOk spec_l8Draw.T5.2 spec_l8Draw.B5 = true := by kernel_rfl
def spec_l8Draw.T11 : Bool × List (List Nat × List Nat) := (true, [([], []), ([0], [0]), ([], []), ([2], [2]), ([3, 3], [3]), ([1, 4, 4], [1, 4]), ([0, 1, 2, 3, 4, 5], []), ([6, 5, 5, 0, 1, 2, 3, 4, 5], [5, 6])])
def spec_l8Draw.B11 : List Nat := [0, 1, 0, 4, 12, 31, 63, 127]
theorem spec_l8Draw.tab11 : rtab .any (opsOf Try.f122 11) = spec_l8Draw.T11 := by kernel_rfl
theorem spec_l8Draw.bits11 : waitsOk spec_l8Draw.T11.2 spec_l8Draw.B11 = true := by kernel_rfl
set_option maxHeartbeats 8000000 in
set_option maxRecDepth 100000 in
theorem spec_l8Draw.calls (k : Nat) (g : Nat) (s0_0 : List Int) (s0_1 : Int) (s0_2 : Int) (r1 : Int) (r2 : Int) (r3 : Int) (r4 : Bool) (r5 : List Int) (r6 : List Int) (r7 : Int) (r8 : Int) (r9 : Int) (r10 : Int) (w0 w : World) (hI : IsS128 w0 w g s0_0 s0_1 s0_2) (hB : Below w0.heap.size w0 w) (h : spec_l8Draw.f k s0_0 s0_1 s0_2 = some (r1, r2, r3, r4, r5, r6, r7, r8, r9, r10)) :
  Calls Try.prog 122 #[.pointer (some ⟨g, 0, none⟩)] w fun e w' => ∃ v4_ v5_ : Value, e = .returned (.agg #[.int .i64 r1, .int .i64 r2, .int .i64 r3, .bool r4, v4_, v5_, .int .i64 r7, .int .i64 r8]) ∧ Kd.R (Kd.int .u8) 5 w' w.heap.size (fun k_ => nv v5_ k_) v4_ r5 ∧ Kd.R (Kd.int .u8) 5 w' w.heap.size (fun k_ => nv v4_ k_) v5_ r6 ∧ IsS128 w0 w' g s0_0 r9 r10 ∧ Below w0.heap.size w0 w' ∧ KeepBut w w' g none := by
 have hu41 := Try.underlying41
 have HI0 := Aside0.mk hI
 have IGHI0 := iG_ HI0.out.ge
 have HK := Aside0.mk (KeepBut.refl w g none)
 have HL := Aside0.mk hB.size
 clear hI
 have HW0 := Aside0.mk hB.size
 have HB := Aside0.mk hB
 clear hB
 have H := h
 unfold spec_l8Draw.f at H
 clear h
 replace H := bf_ H
 obtain ⟨f_, hf_, ⟨t249, t250, t251⟩, A2, H⟩ := H
 subst hf_
 (try dsimp only at H)
 replace H := bf_ H
 obtain ⟨f_, hf_, ⟨t252, t253, t254⟩, A3, H⟩ := H
 subst hf_
 (try dsimp only at H)
 replace H := bf_ H
 obtain ⟨f_, hf_, ⟨t255, t256, t257⟩, A4, H⟩ := H
 subst hf_
 (try dsimp only at H)
 replace H := bf_ H
 obtain ⟨f_, hf_, ⟨t258, t259, t260⟩, A5, H⟩ := H
 subst hf_
 (try dsimp only at H)
 replace H := bf_ H
 obtain ⟨f_, hf_, ⟨t262, t263, t264⟩, A6, H⟩ := H
 subst hf_
 (try dsimp only at H)
 have H' := Aside0.mk H
 clear H
 go_enter Try.func122, Try.ntmps122
 go_wp2_with (first | ((with_reducible refine gate_dst (N := 2) rfl ?_); refine bx_ (N := 2) (cs := #[.int .i64 0, .int .i64 0, .int .i64 0, .bool false, .slice none 0 0, .slice none 0 0, .int .i64 0, .int .i64 0]) (t := 41) ?_; intro gb248 hg w7 hbox hb; replace HB := bS_ HB hb; have BK248 := am_ (hbox); have GW248 := am_ ((gK_ hg (qP HK))); have IGW248 := gI_ GW248; have GE248 := am_ ((Nat.le_trans HW0.out (gK_ hg (qP HK)))); have IGE248 := gI_ GE248; replace HK := kL_ HK hb; have NB0_248 := am_ ((nG_ hg (IsS128.lt (IsS128.q HI0)))); have INB0_248 := nI_ NB0_248; have NB248_0 := am_ (((nG_ hg (IsS128.lt (IsS128.q HI0))).symm)); replace HI0 := am_ (IsS128.below (IsS128.q HI0) hb); clear hb hbox hg) | ((with_reducible refine gate_callee (f := 61) rfl ?_); refine gl_ (some 7) Try.func61 #[.pointer (some ⟨g, 0, none⟩), .int .i64 9] ?_; (with_reducible refine (spec_l1Below.calls g s0_0 s0_1 s0_2 9 t249 t250 t251 w0 _ ?side1 ?side2 A2.out).mono ?_); (case side1 => exact IsS128.q HI0); (case side2 => exact qB HB); rintro e w8 ⟨rfl, hi, hb, hk⟩; refine ⟨_, rfl, ?_⟩; replace BK248 := kB_ BK248 hk NB248_0; replace HK := kT_ HK hk; replace HB := am_ (hb); replace HI0 := am_ (hi); (try clear hb); (try clear hk); (try clear hi)) | ((with_reducible refine gate_callee (f := 61) rfl ?_); refine gl_ (some 10) Try.func61 #[.pointer (some ⟨g, 0, none⟩), .int .i64 2] ?_; (with_reducible refine (spec_l1Below.calls g s0_0 t250 t251 2 t252 t253 t254 w0 _ ?side1 ?side2 A3.out).mono ?_); (case side1 => exact IsS128.q HI0); (case side2 => exact qB HB); rintro e w9 ⟨rfl, hi, hb, hk⟩; refine ⟨_, rfl, ?_⟩; replace BK248 := kB_ BK248 hk NB248_0; replace HK := kT_ HK hk; replace HB := am_ (hb); replace HI0 := am_ (hi); (try clear hb); (try clear hk); (try clear hi)) | ((with_reducible refine gate_callee (f := 61) rfl ?_); refine gl_ (some 13) Try.func61 #[.pointer (some ⟨g, 0, none⟩), .int .i64 3] ?_; (with_reducible refine (spec_l1Below.calls g s0_0 t253 t254 3 t255 t256 t257 w0 _ ?side1 ?side2 A4.out).mono ?_); (case side1 => exact IsS128.q HI0); (case side2 => exact qB HB); rintro e w10 ⟨rfl, hi, hb, hk⟩; refine ⟨_, rfl, ?_⟩; replace BK248 := kB_ BK248 hk NB248_0; replace HK := kT_ HK hk; replace HB := am_ (hb); replace HI0 := am_ (hi); (try clear hb); (try clear hk); (try clear hi)) | ((with_reducible refine gate_callee (f := 110) rfl ?_); refine gl_ (some 16) Try.func110 #[.pointer (some ⟨g, 0, none⟩), .int .i64 6] ?_; (with_reducible refine (spec_l1Once.calls g s0_0 t256 t257 6 t258 t259 t260 w0 _ ?side1 ?side2 A5.out).mono ?_); (case side1 => exact IsS128.q HI0); (case side2 => exact qB HB); rintro e w11 ⟨rfl, hi, hb, hk⟩; refine ⟨_, rfl, ?_⟩; replace BK248 := kB_ BK248 hk NB248_0; replace HK := kT_ HK hk; replace HB := am_ (hb); replace HI0 := am_ (hi); (try clear hb); (try clear hk); (try clear hi)) | ((with_reducible refine gate_dst (N := 3) rfl ?_); refine bx_ (N := 3) (cs := #[.int .i64 0, .int .i64 0, .int .i64 0, .bool false, .slice none 0 0, .slice none 0 0, .int .i64 0, .int .i64 0]) (t := 41) ?_; intro gb261 hg w12 hbox hb; replace HB := bS_ HB hb; have BK261 := am_ (hbox); have GW261 := am_ ((gK_ hg (qP HK))); have IGW261 := gI_ GW261; have GE261 := am_ ((Nat.le_trans HW0.out (gK_ hg (qP HK)))); have IGE261 := gI_ GE261; replace HK := kL_ HK hb; have NB248_261 := am_ ((gN_ hg (qK BK248))); have NB261_248 := am_ ((gM_ hg (qK BK248))); replace BK248 := bK_ BK248 hb; have NB0_261 := am_ ((nG_ hg (IsS128.lt (IsS128.q HI0)))); have INB0_261 := nI_ NB0_261; have NB261_0 := am_ (((nG_ hg (IsS128.lt (IsS128.q HI0))).symm)); replace HI0 := am_ (IsS128.below (IsS128.q HI0) hb); clear hb hbox hg; have hnb13 := NB261_248.out; have hnc13 := NB248_261.out; have hnb14 := NB261_0.out; have hnc14 := NB0_261.out; (try clear zK261); have zK261 := cz8 BK261.out; (try clear fK261); have fK261 := fz8 BK261.out) | ((with_reducible refine gate_callee (f := 61) rfl ?_); refine gl_ (some 19) Try.func61 #[.pointer (some ⟨g, 0, none⟩), .int .i64 4] ?_; (with_reducible refine (spec_l1Below.calls g s0_0 t259 t260 4 t262 t263 t264 w0 _ ?side1 ?side2 A6.out).mono ?_); (case side1 => exact IsS128.q HI0); (case side2 => exact qB HB); rintro e w16 ⟨rfl, hi, hb, hk⟩; refine ⟨_, rfl, ?_⟩; replace BK248 := am_ (KeepBut.blk hk (g' := gb248) (o := .cells #[.int .i64 0, .int .i64 0, .int .i64 0, .bool false, .slice none 0 0, .slice none 0 0, .int .i64 0, .int .i64 0] 41 (0, 0)) (by (with_reducible repeat (first | refine blk_drewN ?_ _ | refine blk_drew ?_ | refine blk_alloc ?_ _)); refine blk_far8 ?_ NB248_261.out; exact qK BK248) NB248_0.out (by simp)); replace BK261 := am_ (KeepBut.blk hk (g' := gb261) (o := .cells #[.int .i64 (wrap64 (1 + t249)), .int .i64 (wrap64 (1 + t252)), .int .i64 (wrap64 (1 + t255)), .bool t258, .slice none 0 0, .slice none 0 0, .int .i64 0, .int .i64 0] 41 (0, 0)) (by exact blk_all8 (qK BK261)) NB261_0.out (by simp)); replace HK := kT_ HK hk; replace HB := am_ (hb); replace HI0 := am_ (hi); (try clear hb); (try clear hk); (try clear hi)))
 go_loopg [4] k (fun kq v4 w' => ∃ (x4_1 : Int) (x1001_1 : Int) (x1002_1 : Int) (x262004_1 : List Int) (u262004 : Value), v4 = .int .i64 x4_1 ∧ Aside0 (spec_l8Draw.l0 kq x4_1 s0_0 x1001_1 x1002_1 (wrap64 (1 + t249)) (wrap64 (1 + t252)) (wrap64 (1 + t255)) t258 x262004_1 0 0 = some (r1, r2, r3, r4, r5, r6, r7, r8, r9, r10)) ∧ Aside0 (kq ≤ k) ∧ Aside0 (Kd.R (Kd.int .u8) 5 w' w.heap.size (fun _ => True) u262004 x262004_1) ∧ Aside0 (w'.heap[gb248]? = some (.cells #[.int .i64 0, .int .i64 0, .int .i64 0, .bool false, (.slice none 0 0), (.slice none 0 0), .int .i64 0, .int .i64 0] 41 (0, 0))) ∧ Aside0 (w'.heap[gb261]? = some (.cells #[.int .i64 (wrap64 (1 + t249)), .int .i64 (wrap64 (1 + t252)), .int .i64 (wrap64 (1 + t255)), .bool t258, u262004, (.slice none 0 0), .int .i64 0, .int .i64 0] 41 (0, 0))) ∧ Aside0 (IsS128 w0 w' g s0_0 x1001_1 x1002_1) ∧ Aside0 (KeepBut w w' g none) ∧ Aside0 (Below w0.heap.size w0 w'))
 case atStart => exact ⟨(t262), (t263), (t264), (([] : List Int)), (.slice none 0 0), eqq_, H', ⟨Nat.le_refl _⟩, ⟨by first | exact Kd.R_nil _ _ _ _ _ | exact Kd.N_nil _ _ _ _ _ | exact Kd.V_nil _ _ _ _ _ | exact Kd.Q_nil _ _ _ _ _ | exact Kd.S_nil _ _ _ _ _⟩, ⟨qK BK248⟩, ⟨qK BK261⟩, ⟨IsS128.q HI0⟩, ⟨qP HK⟩, ⟨qB HB⟩⟩
 case round =>
  clear H'
  try clear c1
  try clear p2
  try clear c6
  try clear p6
  try clear c11
  try clear c12
  try clear c13
  try clear c14
  (try clear zK261)
  (try clear fK261)
  obtain ⟨x4_1, x1001_1, x1002_1, x262004_1, u262004, rfl, HA, HK1, HO_262004, BK248, BK261, HI0, HK, HB⟩ := hrel
  cases gk with
  | zero => exact absurd HA.out (by simp [spec_l8Draw.l0])
  | succ k1 =>
   have H := HA.out
   clear HA
   simp only [spec_l8Draw.l0] at H
   by_cases c17 : x4_1 > 0
   ·
    rw [if_pos c17] at H
    have c17b0 : decide (0 < x4_1) = true := decide_eq_true c17
    clear c17
    replace H := bf_ H
    obtain ⟨f_, hf_, ⟨t265, t266, t267, t268, t269⟩, A18, H⟩ := H
    subst hf_
    (try dsimp only at H)
    replace H := bd_ H
    obtain ⟨t270, A19, H⟩ := H
    by_cases c20 : x262004_1.length + t270.length < 140737488355328
    case neg => exact nn_ c20 H
    rw [if_pos c20] at H
    have LMc20 := Aside0.mk c20
    clear c20
    obtain ⟨y273, hy273⟩ : ∃ y_ : List Int, y_ = (x262004_1 ++ t270) := ⟨_, rfl⟩
    rw [← hy273] at H
    have Ny273 := Aside0.mk hy273
    clear hy273
    have H' := Aside0.mk H
    clear H
    try go_wp2
    replace HO_262004 := am_ (Kd.R_drew HO_262004.out)
    replace BK248 := am_ (blk_drew BK248.out)
    replace BK261 := am_ (blk_drew BK261.out)
    replace HI0 := am_ (IsS128.drew HI0.out)
    replace HK := am_ (keep_drew HK.out)
    replace HB := am_ (below_drew1 HB.out)
    refine start_ (n := 8) (S := fun w' => w'.cell? ⟨gb261, 0, none⟩ = some (.int .i64 (wrap64 (1 + t249))) ∧ w'.cell? ⟨gb261, 1, none⟩ = some (.int .i64 (wrap64 (1 + t252))) ∧ w'.cell? ⟨gb261, 2, none⟩ = some (.int .i64 (wrap64 (1 + t255))) ∧ w'.cell? ⟨gb261, 3, none⟩ = some (.bool t258) ∧ w'.cell? ⟨gb261, 4, none⟩ = some (u262004) ∧ w'.cell? ⟨gb261, 5, none⟩ = some (.slice none 0 0) ∧ w'.cell? ⟨gb261, 6, none⟩ = some (.int .i64 0) ∧ w'.cell? ⟨gb261, 7, none⟩ = some (.int .i64 0)) (ds := [7]) #[oo,oo,oo,oo,oo,oo,oo,oo] (by kernel_rfl) rfl rfl (cz8 BK261.out) (fun hHeld => ?_); refine with_tabW spec_l8Draw.tab5 spec_l8Draw.bits5 (fun HT_ HW_ => ?_)
    generalize wr.drew = w21 at HO_262004 BK248 BK261 HI0 HK HB hHeld ⊢
    refine pq_ 0 24 HT_ #[ii,oo,oo,oo,oo,oo,oo,oo] ?_
    refine pq_ 2 26 HT_ #[ii,oo,ii,oo,oo,oo,oo,oo] ?_
    refine tz_ (i := 1) (N := some 25) HT_ HW_ #[ii,ii,ii,oo,oo,oo,oo,oo] rfl rfl hHeld ?_
    refine on_ HT_ (i := 3) (N := some 27) #[ii,ii,ii,ii,oo,oo,oo,oo] (fun K hK => ?_)
    refine goes_ Try.func124 (by kernel_rfl) rfl #[.pointer (some ⟨g, 0, none⟩)] (by rfl) rfl rfl la_ ?_
    with_reducible refine (spec_l6Draw.calls k1 g s0_0 x1001_1 x1002_1 t265 t266 t267 t268 t269 w0 _ ?side1 ?side2 A18.out).mono ?_
    (case side1 => exact IsS128.q HI0)
    (case side2 => exact qB HB)
    rintro e w22 ⟨rfl, hi, hb, hk⟩
    refine ⟨_, rfl, ?_⟩
    replace HO_262004 := am_ (Kd.R_mono (Kd.R_keep (IsS128.apart (show IsS128 w0 _ g s0_0 x1001_1 x1002_1 from IsS128.q HI0) (qR HO_262004) (by decide)) hk (fun _ h => h.2)) (fun _ h => h.1))
    replace BK248 := kB_ BK248 hk NB248_0
    replace BK261 := kB_ BK261 hk NB261_0
    replace HK := kT_ HK hk
    replace HB := am_ (hb)
    replace HI0 := am_ (hi)
    (try clear hb hk hi)
    refine hK.out _ _ (cz8 BK261.out) (fun hHeld => ?_)
    clear hK K
    refine nm_ (some 27) ?_
    refine on_ HT_ (i := 4) (N := some 28) #[ii,ii,ii,ii,ii,oo,oo,oo] (fun K hK => ?_)
    refine goes_ Try.func126 (by kernel_rfl) rfl #[.agg #[.int .i64 t265, .string t266, .int .i64 t267]] (by rfl) rfl rfl la_ ?_
    with_reducible refine (spec_PutFrame.calls k1 t265 t266 t267 t270 _ A19.out).mono ?_
    rintro e w23 ⟨v271, rfl, ho0, hb⟩
    refine ⟨_, rfl, ?_⟩
    have HO272 := am_ (Kd.R_lower (Kd.R_new' ho0 (Kd.R_lt (qR HO_262004))) (keep_size (w := w) (g := g) (row := none) (qP HK)))
    replace HO_262004 := eA_ HO_262004 ho0 hb
    replace BK248 := bK_ BK248 hb
    replace BK261 := bK_ BK261 hb
    replace HK := kL_ HK hb
    replace HB := bS_ HB hb
    replace HI0 := am_ (IsS128.below (IsS128.q HI0) hb)
    (try clear hb ho0)
    obtain ⟨Ao25, co25, eo25⟩ := Kd.R_slice HO272.out
    (first | subst eo25 | (injection eo25 with f1_ f2_ f3_; have f4_ := f1_.symm; have f5_ := f3_.symm; clear f1_ f2_ f3_; subst f4_; subst f5_))
    refine hK.out _ _ (cz8 BK261.out) (fun hHeld => ?_)
    clear hK K
    refine nm_ (some 28) ?_
    refine on_ HT_ (i := 5) (N := some 29) #[ii,ii,ii,ii,ii,ii,oo,oo] (fun K hK => ?_)
    refine Kd.R_append_rows_step (Kd.int .u8) w.heap.size (by rfl) (.tmp 25) (.tmp 28) 22 5 (.int .u8 0) 1 rfl Try.underlying22 info5 rfl (by decide) (by omega) u262004 x262004_1 t270 _ _ _ (fun k_ => nb Ao25 t270.length co25 k_) (fun _ => False) rfl rfl ?aO ?aR (fun _ _ h => h) (fun _ h => h.elim) ?aF (Below.refl _ _) ?aS ?aL ?_
    (case aR => exact qC ((Kd.R_reads' HO272.out).2.2))
    (case aF => exact (fun k_ hk => Kd.fresh' (Kd.R_lt (qR HO272)) k_ hk))
    (case aO => exact (xR1_ HO_262004))
    (case aS => exact (keep_size (w := w) (g := g) (row := none) (qP HK)))
    (case aL => have := LMc20.out; omega)
    intro v274 w24 ho hb hg hat
    rw [← Ny273.out] at ho
    replace BK248 := kG_ BK248 HO_262004 hg
    replace BK261 := kG_ BK261 HO_262004 hg
    replace HO272 := aR_ HO272 hg hat
    replace HB := am_ (below_weaken (qB HB) HL.out hb)
    replace HI0 := am_ (IsS128.grown (IsS128.q HI0) hg (IsS128.own_ne HI0.out HO_262004.out (by decide)))
    replace HK := am_ (KeepBut.trans (qP HK) (KeepBut.of_grown hg g) (Kd.R_base2 HO_262004.out))
    have HO275 := am_ (ho)
    clear HO_262004
    clear ho hb hg hat
    obtain ⟨Ao26, co26, eo26⟩ := Kd.R_slice HO275.out
    (first | subst eo26 | (injection eo26 with f1_ f2_ f3_; have f4_ := f1_.symm; have f5_ := f3_.symm; clear f1_ f2_ f3_; subst f4_; subst f5_))
    refine hK.out _ _ (cz8 BK261.out) (fun hHeld => ?_)
    clear hK K
    refine nm_ (some 29) ?_
    refine pq_ 6 30 HT_ #[ii,ii,ii,ii,ii,ii,ii,oo] ?_
    refine last_ (i := 7) (N := none) #[ii,ii,ii,ii,ii,ii,ii,ii] rfl rfl (one_of HT_.out (by kernel_rfl)) (by decide) (fun K hK => ?_)
    have hs27 : w24.cell? ⟨gb261, 4, none⟩ = some (u262004) := (blk_cell BK261.out 4).trans rfl
    have hfs27 := blk_frozen BK261.out 4
    have hns27_0 := NB248_261.out
    have hms27_0 := NB261_248.out
    refine skip_ (w1 := ?_) (by rfl) rfl ?_ ?_
    rotate_left
    ·
     go_simp
     rfl
    refine hK.out _ _ ?_
    clear hK K
    refine done_ (done_of HT_.out (by kernel_rfl)) ?_
    try go_wp2
    go_roundg k1
    case measure => have := HK1.out; omega
    case rel => exact ⟨(wrap64 (x4_1 - 1)), (t268), (t269), (y273), (.slice Ao26 y273.length co26), eqq_, H', ⟨by have := HK1.out; omega⟩, fR_ HO275 BK261, ⟨by (with_reducible repeat (first | refine blk_drewN ?_ _ | refine blk_drew ?_ | refine blk_alloc ?_ _)); refine blk_far ?_ NB248_261.out _; exact qK BK248⟩, ⟨by (with_reducible repeat (first | refine blk_drewN ?_ _ | refine blk_drew ?_ | refine blk_alloc ?_ _)); refine blk_put (cs := #[.int .i64 (wrap64 (1 + t249)), .int .i64 (wrap64 (1 + t252)), .int .i64 (wrap64 (1 + t255)), .bool t258, u262004, .slice none 0 0, .int .i64 0, .int .i64 0]) ?_ 4 _ rfl; exact qK BK261⟩, ⟨IsS128.q HI0⟩, ⟨qP HK⟩, ⟨qB HB⟩⟩
   rw [if_neg c17] at H
   have c17b0 : decide (0 < x4_1) = false := decide_eq_false c17
   clear c17
   replace H := bf_ H
   obtain ⟨f_, hf_, ⟨t276, t277, t278⟩, A28, H⟩ := H
   subst hf_
   (try dsimp only at H)
   have HC29 := Aside0.mk H
   clear H
   go_upto_if 32 with (first | ((with_reducible refine gate_callee (f := 110) rfl ?_); refine gl_ (some 32) Try.func110 #[.pointer (some ⟨g, 0, none⟩), .int .i64 4] ?_; (with_reducible refine (spec_l1Once.calls g s0_0 x1001_1 x1002_1 4 t276 t277 t278 w0 _ ?side1 ?side2 A28.out).mono ?_); (case side1 => exact IsS128.q HI0); (case side2 => exact qB HB); rintro e w30 ⟨rfl, hi, hb, hk⟩; refine ⟨_, rfl, ?_⟩; replace HO_262004 := am_ (Kd.R_mono (Kd.R_keep (IsS128.apart (show IsS128 w0 _ g s0_0 x1001_1 x1002_1 from IsS128.q HI0) (qR HO_262004) (by decide)) hk (fun _ h => h.2)) (fun _ h => h.1)); replace BK248 := kB_ BK248 hk NB248_0; replace BK261 := kB_ BK261 hk NB261_0; replace HK := kT_ HK hk; replace HB := am_ (hb); replace HI0 := am_ (hi); (try clear hb); (try clear hk); (try clear hi)))
   (try simp only [Act.put, List.setIfInBounds_toArray, List.set_cons_zero, List.set_cons_succ])
   go_cut [] (fun wc => ∃ (kq : Nat) (x1001_28 : Int) (x1002_28 : Int) (x262004_28 : List Int) (u262004 : Value), Aside0 (spec_l8Draw.j1 kq s0_0 x1001_28 x1002_28 (wrap64 (1 + t249)) (wrap64 (1 + t252)) (wrap64 (1 + t255)) t258 x262004_28 0 0 = some (r1, r2, r3, r4, r5, r6, r7, r8, r9, r10)) ∧ Aside0 (kq ≤ k1) ∧ Aside0 (Kd.R (Kd.int .u8) 5 wc w.heap.size (fun _ => True) u262004 x262004_28) ∧ Aside0 (wc.heap[gb248]? = some (.cells #[.int .i64 0, .int .i64 0, .int .i64 0, .bool false, (.slice none 0 0), (.slice none 0 0), .int .i64 0, .int .i64 0] 41 (0, 0))) ∧ Aside0 (wc.heap[gb261]? = some (.cells #[.int .i64 (wrap64 (1 + t249)), .int .i64 (wrap64 (1 + t252)), .int .i64 (wrap64 (1 + t255)), .bool t258, u262004, (.slice none 0 0), .int .i64 0, .int .i64 0] 41 (0, 0))) ∧ Aside0 (IsS128 w0 wc g s0_0 x1001_28 x1002_28) ∧ Aside0 (KeepBut w wc g none) ∧ Aside0 (Below w0.heap.size w0 wc))
   case first =>
    have H := HC29.out
    clear HC29
    by_cases c31 : t276 = true
    rotate_left
    ·
     replace c31 := Bool.eq_false_iff.mpr c31
     subst c31
     rw [if_neg (show ¬ (false = true) by decide)] at H
     have H' := Aside0.mk H
     clear H
     go_wp2
     go_meet
     case rel => exact ⟨_, (t277), (t278), (x262004_1), (u262004), H', ⟨by have := HK1.out; first | omega | exact Nat.le_refl _⟩, ⟨qR HO_262004⟩, ⟨qK BK248⟩, ⟨qK BK261⟩, ⟨IsS128.q HI0⟩, ⟨qP HK⟩, ⟨qB HB⟩⟩
    subst c31
    rw [if_pos rfl] at H
    replace H := bf_ H
    obtain ⟨f_, hf_, ⟨t279, t282, t283⟩, A32, H⟩ := H
    subst hf_
    (try dsimp only at H)
    by_cases c33 : x262004_1.length + t279.length < 140737488355328
    case neg => exact nn_ c33 H
    rw [if_pos c33] at H
    have LMc33 := Aside0.mk c33
    clear c33
    obtain ⟨y284, hy284⟩ : ∃ y_ : List Int, y_ = (x262004_1 ++ t279) := ⟨_, rfl⟩
    rw [← hy284] at H
    have Ny284 := Aside0.mk hy284
    clear hy284
    have H' := Aside0.mk H
    clear H
    try go_wp2
    replace HO_262004 := am_ (Kd.R_drew HO_262004.out)
    replace BK248 := am_ (blk_drew BK248.out)
    replace BK261 := am_ (blk_drew BK261.out)
    replace HI0 := am_ (IsS128.drew HI0.out)
    replace HK := am_ (keep_drew HK.out)
    replace HB := am_ (below_drew1 HB.out)
    refine start_ (n := 7) (S := fun w' => w'.cell? ⟨gb261, 0, none⟩ = some (.int .i64 (wrap64 (1 + t249))) ∧ w'.cell? ⟨gb261, 1, none⟩ = some (.int .i64 (wrap64 (1 + t252))) ∧ w'.cell? ⟨gb261, 2, none⟩ = some (.int .i64 (wrap64 (1 + t255))) ∧ w'.cell? ⟨gb261, 3, none⟩ = some (.bool t258) ∧ w'.cell? ⟨gb261, 4, none⟩ = some (u262004) ∧ w'.cell? ⟨gb261, 5, none⟩ = some (.slice none 0 0) ∧ w'.cell? ⟨gb261, 6, none⟩ = some (.int .i64 0) ∧ w'.cell? ⟨gb261, 7, none⟩ = some (.int .i64 0)) (ds := [6]) #[oo,oo,oo,oo,oo,oo,oo] (by kernel_rfl) rfl rfl (cz8 BK261.out) (fun hHeld => ?_)
    generalize w30.drew = w34 at HO_262004 BK248 BK261 HI0 HK HB hHeld ⊢
    refine pure_ (i := 0) (N := some 33) (v := ?_) (a' := ?_) #[ii,oo,oo,oo,oo,oo,oo] rfl rfl (by kernel_rfl) (fun _ _ _ h => h) (Or.inl ⟨by rfl, ?_⟩) ?_ ?_
    rotate_left
    ·
     intro w'
     go_simp
     with_reducible rfl
    rotate_left
    ·
     exact ap_
    refine pure_ (i := 2) (N := some 35) (v := ?_) (a' := ?_) #[ii,oo,ii,oo,oo,oo,oo] rfl rfl (by kernel_rfl) (fun _ _ _ h => h) (Or.inl ⟨by rfl, ?_⟩) ?_ ?_
    rotate_left
    ·
     intro w'
     go_simp
     with_reducible rfl
    rotate_left
    ·
     exact ap_
    refine take_ (i := 1) (N := some 34) (v := ?_) (a' := ?_) #[ii,ii,ii,oo,oo,oo,oo] rfl rfl (by kernel_rfl) (fun _ _ _ h => h) (Or.inl ⟨by rfl, ?_⟩) hHeld ?_ ?_
    rotate_left
    ·
     rintro w' ⟨s0, s1, s2, s3, s4, s5, s6, s7⟩
     go_simp
     with_reducible rfl
    rotate_left
    ·
     exact ap_
    refine one_ (i := 3) (N := some 36) #[ii,ii,ii,ii,oo,oo,oo] rfl rfl (by kernel_rfl) (by decide) (fun K hK => ?_)
    refine goes_ Try.func127 (by kernel_rfl) rfl #[.pointer (some ⟨g, 0, none⟩)] (by rfl) rfl rfl la_ ?_
    with_reducible refine (spec_l6Bytes.calls k1 g s0_0 t277 t278 t279 t282 t283 w0 _ ?side1 ?side2 A32.out).mono ?_
    (case side1 => exact IsS128.q HI0)
    (case side2 => exact qB HB)
    rintro e w35 ⟨v280, rfl, ho0, hi, hb, hk⟩
    refine ⟨_, rfl, ?_⟩
    replace BK248 := kB_ BK248 hk NB248_0
    replace BK261 := kB_ BK261 hk NB261_0
    have HO281 := am_ (Kd.R_lower (Kd.R_new' ho0 (Kd.R_lt (qR HO_262004))) (keep_size (w := w) (g := g) (row := none) (qP HK)))
    replace HO_262004 := am_ (Kd.R_mono (Kd.R_told (Kd.R_oldK (IsS128.apart (show IsS128 w0 _ g s0_0 t277 t278 from IsS128.q HI0) (qR HO_262004) (by decide)) hk) (Kd.R_base ho0)) (fun _ h_ => h_.1))
    replace HK := kT_ HK hk
    replace HB := am_ (hb)
    replace HI0 := am_ (hi)
    (try clear hb hk hi ho0)
    obtain ⟨Ao37, co37, eo37⟩ := Kd.R_slice HO281.out
    (first | subst eo37 | (injection eo37 with f1_ f2_ f3_; have f4_ := f1_.symm; have f5_ := f3_.symm; clear f1_ f2_ f3_; subst f4_; subst f5_))
    refine hK.out _ _ (cz8 BK261.out) (fun hHeld => ?_)
    clear hK K
    refine nm_ (some 36) ?_
    refine one_ (i := 4) (N := some 37) #[ii,ii,ii,ii,ii,oo,oo] rfl rfl (by kernel_rfl) (by decide) (fun K hK => ?_)
    refine Kd.R_append_rows_step (Kd.int .u8) w.heap.size (by rfl) (.tmp 34) (.tmp 36) 22 5 (.int .u8 0) 1 rfl Try.underlying22 info5 rfl (by decide) (by omega) u262004 x262004_1 t279 _ _ _ (fun k_ => nb Ao37 t279.length co37 k_) (fun _ => False) rfl rfl ?aO ?aR (fun _ _ h => h) (fun _ h => h.elim) ?aF (Below.refl _ _) ?aS ?aL ?_
    (case aR => exact qC ((Kd.R_reads' HO281.out).2.2))
    (case aF => exact (fun k_ hk => Kd.fresh' (Kd.R_lt (qR HO281)) k_ hk))
    (case aO => exact (xR1_ HO_262004))
    (case aS => exact (keep_size (w := w) (g := g) (row := none) (qP HK)))
    (case aL => have := LMc33.out; omega)
    intro v285 w36 ho hb hg hat
    rw [← Ny284.out] at ho
    replace BK248 := kG_ BK248 HO_262004 hg
    replace BK261 := kG_ BK261 HO_262004 hg
    replace HO281 := aR_ HO281 hg hat
    replace HB := am_ (below_weaken (qB HB) HL.out hb)
    replace HI0 := am_ (IsS128.grown (IsS128.q HI0) hg (IsS128.own_ne HI0.out HO_262004.out (by decide)))
    replace HK := am_ (KeepBut.trans (qP HK) (KeepBut.of_grown hg g) (Kd.R_base2 HO_262004.out))
    have HO286 := am_ (ho)
    clear HO_262004
    clear ho hb hg hat
    obtain ⟨Ao38, co38, eo38⟩ := Kd.R_slice HO286.out
    (first | subst eo38 | (injection eo38 with f1_ f2_ f3_; have f4_ := f1_.symm; have f5_ := f3_.symm; clear f1_ f2_ f3_; subst f4_; subst f5_))
    refine hK.out _ _ (cz8 BK261.out) (fun hHeld => ?_)
    clear hK K
    refine nm_ (some 37) ?_
    refine pure_ (i := 5) (N := some 38) (v := ?_) (a' := ?_) #[ii,ii,ii,ii,ii,ii,oo] rfl rfl (by kernel_rfl) (fun _ _ _ h => h) (Or.inl ⟨by rfl, ?_⟩) ?_ ?_
    rotate_left
    ·
     intro w'
     go_simp
     with_reducible rfl
    rotate_left
    ·
     exact ap_
    refine last_ (i := 6) (N := none) #[ii,ii,ii,ii,ii,ii,ii] rfl rfl (by kernel_rfl) (by decide) (fun K hK => ?_)
    have hs39 : w36.cell? ⟨gb261, 4, none⟩ = some (u262004) := (blk_cell BK261.out 4).trans rfl
    have hfs39 := blk_frozen BK261.out 4
    have hns39_0 := NB248_261.out
    have hms39_0 := NB261_248.out
    refine skip_ (w1 := ?_) (by rfl) rfl ?_ ?_
    rotate_left
    ·
     go_simp
     rfl
    refine hK.out _ _ ?_
    clear hK K
    refine done_ (by kernel_rfl) ?_
    try go_wp2
    go_meet
    case rel => exact ⟨_, (t282), (t283), (y284), (.slice Ao38 y284.length co38), H', ⟨by have := HK1.out; first | omega | exact Nat.le_refl _⟩, fR_ HO286 BK261, ⟨by (with_reducible repeat (first | refine blk_drewN ?_ _ | refine blk_drew ?_ | refine blk_alloc ?_ _)); refine blk_far ?_ NB248_261.out _; exact qK BK248⟩, ⟨by (with_reducible repeat (first | refine blk_drewN ?_ _ | refine blk_drew ?_ | refine blk_alloc ?_ _)); refine blk_put (cs := #[.int .i64 (wrap64 (1 + t249)), .int .i64 (wrap64 (1 + t252)), .int .i64 (wrap64 (1 + t255)), .bool t258, u262004, .slice none 0 0, .int .i64 0, .int .i64 0]) ?_ 4 _ rfl; exact qK BK261⟩, ⟨IsS128.q HI0⟩, ⟨qP HK⟩, ⟨qB HB⟩⟩
   case rest =>
    clear HC29
    try clear c1
    try clear c2
    try clear p2
    try clear c3
    try clear c6
    try clear p6
    try clear c11
    try clear c12
    try clear c13
    try clear c14
    try clear c17
    try clear c17b0
    try clear c20
    try clear c31
    try clear c33
    (try clear zK261)
    (try clear fK261)
    try clear p2
    try clear p6
    obtain ⟨kq, x1001_28, x1002_28, x262004_28, u262004, HA, HJ28, HO_262004, BK248, BK261, HI0, HK, HB⟩ := hcut
    cases kq with
    | zero => exact absurd HA.out (by simp [spec_l8Draw.j1])
    | succ kj28 =>
     have H := HA.out
     clear HA
     simp only [spec_l8Draw.j1] at H
     replace H := bf_ H
     obtain ⟨f_, hf_, ⟨t287, t288, t289⟩, A40, H⟩ := H
     subst hf_
     (try dsimp only at H)
     have H' := Aside0.mk H
     clear H
     go_wp2_with (first | ((with_reducible refine gate_callee (f := 61) rfl ?_); refine gl_ (some 40) Try.func61 #[.pointer (some ⟨g, 0, none⟩), .int .i64 4] ?_; (with_reducible refine (spec_l1Below.calls g s0_0 x1001_28 x1002_28 4 t287 t288 t289 w0 _ ?side1 ?side2 A40.out).mono ?_); (case side1 => exact IsS128.q HI0); (case side2 => exact qB HB); rintro e w41 ⟨rfl, hi, hb, hk⟩; refine ⟨_, rfl, ?_⟩; replace HO_262004 := am_ (Kd.R_mono (Kd.R_keep (IsS128.apart (show IsS128 w0 _ g s0_0 x1001_28 x1002_28 from IsS128.q HI0) (qR HO_262004) (by decide)) hk (fun _ h => h.2)) (fun _ h => h.1)); replace BK248 := kB_ BK248 hk NB248_0; replace BK261 := kB_ BK261 hk NB261_0; replace HK := kT_ HK hk; replace HB := am_ (hb); replace HI0 := am_ (hi); (try clear hb); (try clear hk); (try clear hi)))
     go_loopg [5] kj28 (fun kq v5 w' => ∃ (x5_3 : Int) (x1001_3 : Int) (x1002_3 : Int) (x262005_3 : List Int) (x262007_3 : Int) (u262005 : Value), v5 = .int .i64 x5_3 ∧ Aside0 (spec_l8Draw.l1 kq x5_3 s0_0 x1001_3 x1002_3 (wrap64 (1 + t249)) (wrap64 (1 + t252)) (wrap64 (1 + t255)) t258 x262004_28 x262005_3 0 x262007_3 = some (r1, r2, r3, r4, r5, r6, r7, r8, r9, r10)) ∧ Aside0 (kq ≤ kj28) ∧ Aside0 (Kd.R (Kd.int .u8) 5 w' w.heap.size (fun k_ => nv u262005 k_) u262004 x262004_28) ∧ Aside0 (Kd.R (Kd.int .u8) 5 w' w.heap.size (fun k_ => nv u262004 k_) u262005 x262005_3) ∧ Aside0 (w'.heap[gb248]? = some (.cells #[.int .i64 0, .int .i64 0, .int .i64 0, .bool false, (.slice none 0 0), (.slice none 0 0), .int .i64 0, .int .i64 0] 41 (0, 0))) ∧ Aside0 (w'.heap[gb261]? = some (.cells #[.int .i64 (wrap64 (1 + t249)), .int .i64 (wrap64 (1 + t252)), .int .i64 (wrap64 (1 + t255)), .bool t258, u262004, u262005, .int .i64 0, .int .i64 x262007_3] 41 (0, 0))) ∧ Aside0 (IsS128 w0 w' g s0_0 x1001_3 x1002_3) ∧ Aside0 (KeepBut w w' g none) ∧ Aside0 (Below w0.heap.size w0 w'))
     case atStart => exact ⟨(t287), (t288), (t289), (([] : List Int)), (0), (.slice none 0 0), eqq_, H', ⟨Nat.le_refl _⟩, ⟨by (with_reducible repeat (first | apply Kd.R_alloc | apply Kd.R_drewN | apply Kd.R_drew)); exact Kd.R_mono HO_262004.out (fun _ hk => (by simp [Value.ownBlock]))⟩, ⟨by first | exact Kd.R_nil _ _ _ _ _ | exact Kd.N_nil _ _ _ _ _ | exact Kd.V_nil _ _ _ _ _ | exact Kd.Q_nil _ _ _ _ _ | exact Kd.S_nil _ _ _ _ _⟩, ⟨qK BK248⟩, ⟨qK BK261⟩, ⟨IsS128.q HI0⟩, ⟨qP HK⟩, ⟨qB HB⟩⟩
     case round =>
      clear H'
      try clear c1
      try clear c2
      try clear p2
      try clear c3
      try clear c6
      try clear p6
      try clear c11
      try clear c12
      try clear c13
      try clear c14
      try clear c17
      try clear c17b0
      try clear c20
      try clear c31
      try clear c33
      (try clear zK261)
      (try clear fK261)
      try clear p2
      try clear p6
      obtain ⟨x5_3, x1001_3, x1002_3, x262005_3, x262007_3, u262005, rfl, HA, HK3, HO_262004, HO_262005, BK248, BK261, HI0, HK, HB⟩ := hrel
      cases gk with
      | zero => exact absurd HA.out (by simp [spec_l8Draw.l1])
      | succ k3 =>
       have H := HA.out
       clear HA
       simp only [spec_l8Draw.l1] at H
       by_cases c42 : x5_3 > 0
       rotate_left
       ·
        rw [if_neg c42] at H
        have c42b0 : decide (0 < x5_3) = false := decide_eq_false c42
        clear c42
        by_cases c82 : (wrap64 (1 + t252)) = 2
        ·
         rw [if_pos c82] at H
         have c82b0 : ((wrap64 (1 + t252)) == 2) = true := beq_iff_eq.mpr c82
         have c82b1 : ((wrap64 (1 + t252)) != 2) = false := bne_eq_false_iff_eq.mpr c82
         clear c82
         replace H := bf_ H
         obtain ⟨f_, hf_, ⟨t290, t291, t292⟩, A83, H⟩ := H
         subst hf_
         (try dsimp only at H)
         simp only [Option.some.injEq, Prod.mk.injEq] at H
         obtain ⟨rfl, rfl, rfl, rfl, rfl, rfl, rfl, rfl, rfl, rfl⟩ := H
         have hnb84 := NB261_248.out
         have hnc84 := NB248_261.out
         have hnb85 := NB261_0.out
         have hnc85 := NB0_261.out
         (try clear zK261)
         have zK261 := cz8 BK261.out
         (try clear fK261)
         have fK261 := fz8 BK261.out
         go_wp2_with (first | ((with_reducible refine gate_callee (f := 61) rfl ?_); refine gl_ (some 67) Try.func61 #[.pointer (some ⟨g, 0, none⟩), .int .i64 3] ?_; (with_reducible refine (spec_l1Below.calls g s0_0 x1001_3 x1002_3 3 t290 t291 t292 w0 _ ?side1 ?side2 A83.out).mono ?_); (case side1 => exact IsS128.q HI0); (case side2 => exact qB HB); rintro e w87 ⟨rfl, hi, hb, hk⟩; refine ⟨_, rfl, ?_⟩; replace HO_262004 := am_ (Kd.R_mono (Kd.R_keep (IsS128.apart (show IsS128 w0 _ g s0_0 x1001_3 x1002_3 from IsS128.q HI0) (qR HO_262004) (by decide)) hk (fun _ h => h.2)) (fun _ h => h.1)); replace HO_262005 := am_ (Kd.R_mono (Kd.R_keep (IsS128.apart (show IsS128 w0 _ g s0_0 x1001_3 x1002_3 from IsS128.q HI0) (qR HO_262005) (by decide)) hk (fun _ h => h.2)) (fun _ h => h.1)); replace BK248 := kB_ BK248 hk NB248_0; replace BK261 := kB_ BK261 hk NB261_0; replace HK := kT_ HK hk; replace HB := am_ (hb); replace HI0 := am_ (hi); (try clear hb); (try clear hk); (try clear hi); (try clear zK261); have zK261 := cz8 BK261.out; (try clear fK261); have fK261 := fz8 BK261.out; have hnb89 := NB248_0.out; have hnc89 := NB0_248.out; (try clear zK248); have zK248 := cz8 BK248.out; (try clear fK248); have fK248 := fz8 BK248.out; obtain ⟨Ao91, co91, eo91⟩ := Kd.R_slice HO_262004.out; subst eo91; obtain ⟨Ao92, co92, eo92⟩ := Kd.R_slice HO_262005.out; subst eo92))
         refine bodyPost_ret (results_cell_row rfl _ _ gb248 41 #[.int .i64 (wrap64 (1 + t249)), .int .i64 (wrap64 (1 + t252)), .int .i64 (wrap64 (1 + t255)), .bool t258, .slice Ao91 x262004_28.length co91, .slice Ao92 x262005_3.length co92, .int .i64 t290, .int .i64 x262007_3] (0, 0) _ rfl (by exact blk_all8 (blk_far1 (qK BK248) NB248_261.out)) Try.underlying41 rfl (by kernel_rfl)) rfl ?_
         exact ⟨_, _, er_, by (with_reducible repeat (first | apply Kd.R_alloc | apply Kd.R_drewN | apply Kd.R_drew)); exact Kd.R_mono (R_far8 (g := gb248) (Kd.R_far (p := ⟨gb261, 6, none⟩) (Kd.R_types (Kd.R_types HO_262004.out BK261.out (by decide)) BK248.out (by decide)) (fun _ hk => hk.1.2) (.int .i64 t290)) (fun _ hk => hk.2)) (fun _ hk => hk.1.1), by (with_reducible repeat (first | apply Kd.R_alloc | apply Kd.R_drewN | apply Kd.R_drew)); exact Kd.R_mono (R_far8 (g := gb248) (Kd.R_far (p := ⟨gb261, 6, none⟩) (Kd.R_types (Kd.R_types HO_262005.out BK261.out (by decide)) BK248.out (by decide)) (fun _ hk => hk.1.2) (.int .i64 t290)) (fun _ hk => hk.2)) (fun _ hk => hk.1.1), IsS128.q HI0, qB HB, qP HK⟩
        rw [if_neg c82] at H
        have c82b0 : ((wrap64 (1 + t252)) == 2) = false := beq_eq_false_iff_ne.mpr c82
        have c82b1 : ((wrap64 (1 + t252)) != 2) = true := bne_iff_ne.mpr c82
        simp only [Option.some.injEq, Prod.mk.injEq] at H
        obtain ⟨rfl, rfl, rfl, rfl, rfl, rfl, rfl, rfl, rfl, rfl⟩ := H
        have hnb93 := NB261_248.out
        have hnc93 := NB248_261.out
        have hnb94 := NB261_0.out
        have hnc94 := NB0_261.out
        (try clear zK261)
        have zK261 := cz8 BK261.out
        (try clear fK261)
        have fK261 := fz8 BK261.out
        have hnb96 := NB248_0.out
        have hnc96 := NB0_248.out
        (try clear zK248)
        have zK248 := cz8 BK248.out
        (try clear fK248)
        have fK248 := fz8 BK248.out
        obtain ⟨Ao98, co98, eo98⟩ := Kd.R_slice HO_262004.out
        subst eo98
        obtain ⟨Ao99, co99, eo99⟩ := Kd.R_slice HO_262005.out
        subst eo99
        go_wp2
        refine bodyPost_ret (results_cell_row rfl _ _ gb248 41 #[.int .i64 (wrap64 (1 + t249)), .int .i64 (wrap64 (1 + t252)), .int .i64 (wrap64 (1 + t255)), .bool t258, .slice Ao98 x262004_28.length co98, .slice Ao99 x262005_3.length co99, .int .i64 0, .int .i64 x262007_3] (0, 0) _ rfl (by exact blk_all8 (qK BK248)) Try.underlying41 rfl (by kernel_rfl)) rfl ?_
        exact ⟨_, _, er_, (fR2_ HO_262004 BK248), (fR2_ HO_262005 BK248), IsS128.q HI0, qB HB, qP HK⟩
       rw [if_pos c42] at H
       have c42b0 : decide (0 < x5_3) = true := decide_eq_true c42
       clear c42
       replace H := bf_ H
       obtain ⟨f_, hf_, ⟨t293, t294, t295, t296, t297⟩, A43, H⟩ := H
       subst hf_
       (try dsimp only at H)
       replace H := bd_ H
       obtain ⟨t298, A44, H⟩ := H
       by_cases c45 : x262005_3.length + t298.length < 140737488355328
       case neg => exact nn_ c45 H
       rw [if_pos c45] at H
       have LMc45 := Aside0.mk c45
       clear c45
       obtain ⟨y301, hy301⟩ : ∃ y_ : List Int, y_ = (x262005_3 ++ t298) := ⟨_, rfl⟩
       replace H := mk_ H hy301
       (try dsimp only at H)
       have Ny301 := Aside0.mk hy301
       clear hy301
       by_cases c46 : (wrap64 (1 + t252)) = 2
       rotate_left
       ·
        rw [if_neg c46] at H
        have c46b0 : ((wrap64 (1 + t252)) == 2) = false := beq_eq_false_iff_ne.mpr c46
        have c46b1 : ((wrap64 (1 + t252)) != 2) = true := bne_iff_ne.mpr c46
        have H' := Aside0.mk H
        clear H
        try go_wp2
        replace HO_262004 := am_ (Kd.R_drew HO_262004.out)
        replace HO_262005 := am_ (Kd.R_drew HO_262005.out)
        replace BK248 := am_ (blk_drew BK248.out)
        replace BK261 := am_ (blk_drew BK261.out)
        replace HI0 := am_ (IsS128.drew HI0.out)
        replace HK := am_ (keep_drew HK.out)
        replace HB := am_ (below_drew1 HB.out)
        refine start_ (n := 8) (S := fun w' => w'.cell? ⟨gb261, 0, none⟩ = some (.int .i64 (wrap64 (1 + t249))) ∧ w'.cell? ⟨gb261, 1, none⟩ = some (.int .i64 (wrap64 (1 + t252))) ∧ w'.cell? ⟨gb261, 2, none⟩ = some (.int .i64 (wrap64 (1 + t255))) ∧ w'.cell? ⟨gb261, 3, none⟩ = some (.bool t258) ∧ w'.cell? ⟨gb261, 4, none⟩ = some (u262004) ∧ w'.cell? ⟨gb261, 5, none⟩ = some (u262005) ∧ w'.cell? ⟨gb261, 6, none⟩ = some (.int .i64 0) ∧ w'.cell? ⟨gb261, 7, none⟩ = some (.int .i64 x262007_3)) (ds := [7]) #[oo,oo,oo,oo,oo,oo,oo,oo] (by kernel_rfl) rfl rfl (cz8 BK261.out) (fun hHeld => ?_); refine with_tabW spec_l8Draw.tab11 spec_l8Draw.bits11 (fun HT_ HW_ => ?_)
        generalize wr.drew = w72 at HO_262004 HO_262005 BK248 BK261 HI0 HK HB hHeld ⊢
        refine pq_ 0 45 HT_ #[ii,oo,oo,oo,oo,oo,oo,oo] ?_
        refine pq_ 2 47 HT_ #[ii,oo,ii,oo,oo,oo,oo,oo] ?_
        refine tz_ (i := 1) (N := some 46) HT_ HW_ #[ii,ii,ii,oo,oo,oo,oo,oo] rfl rfl hHeld ?_
        refine on_ HT_ (i := 3) (N := some 48) #[ii,ii,ii,ii,oo,oo,oo,oo] (fun K hK => ?_)
        refine goes_ Try.func124 (by kernel_rfl) rfl #[.pointer (some ⟨g, 0, none⟩)] (by rfl) rfl rfl la_ ?_
        with_reducible refine (spec_l6Draw.calls k3 g s0_0 x1001_3 x1002_3 t293 t294 t295 t296 t297 w0 _ ?side1 ?side2 A43.out).mono ?_
        (case side1 => exact IsS128.q HI0)
        (case side2 => exact qB HB)
        rintro e w73 ⟨rfl, hi, hb, hk⟩
        refine ⟨_, rfl, ?_⟩
        replace HO_262004 := am_ (Kd.R_mono (Kd.R_keep (IsS128.apart (show IsS128 w0 _ g s0_0 x1001_3 x1002_3 from IsS128.q HI0) (qR HO_262004) (by decide)) hk (fun _ h => h.2)) (fun _ h => h.1))
        replace HO_262005 := am_ (Kd.R_mono (Kd.R_keep (IsS128.apart (show IsS128 w0 _ g s0_0 x1001_3 x1002_3 from IsS128.q HI0) (qR HO_262005) (by decide)) hk (fun _ h => h.2)) (fun _ h => h.1))
        replace BK248 := kB_ BK248 hk NB248_0
        replace BK261 := kB_ BK261 hk NB261_0
        replace HK := kT_ HK hk
        replace HB := am_ (hb)
        replace HI0 := am_ (hi)
        (try clear hb hk hi)
        refine hK.out _ _ (cz8 BK261.out) (fun hHeld => ?_)
        clear hK K
        refine nm_ (some 48) ?_
        refine on_ HT_ (i := 4) (N := some 49) #[ii,ii,ii,ii,ii,oo,oo,oo] (fun K hK => ?_)
        refine goes_ Try.func126 (by kernel_rfl) rfl #[.agg #[.int .i64 t293, .string t294, .int .i64 t295]] (by rfl) rfl rfl la_ ?_
        with_reducible refine (spec_PutFrame.calls k3 t293 t294 t295 t298 _ A44.out).mono ?_
        rintro e w74 ⟨v299, rfl, ho0, hb⟩
        refine ⟨_, rfl, ?_⟩
        have HO300 := am_ (Kd.R_lower (Kd.R_new' (Kd.R_new' ho0 (Kd.R_lt (qR HO_262004))) (Kd.R_lt (qR HO_262005))) (keep_size (w := w) (g := g) (row := none) (qP HK)))
        replace HO_262004 := eA_ HO_262004 ho0 hb
        replace HO_262005 := eA_ HO_262005 ho0 hb
        replace BK248 := bK_ BK248 hb
        replace BK261 := bK_ BK261 hb
        replace HK := kL_ HK hb
        replace HB := bS_ HB hb
        replace HI0 := am_ (IsS128.below (IsS128.q HI0) hb)
        (try clear hb ho0)
        obtain ⟨Ao76, co76, eo76⟩ := Kd.R_slice HO300.out
        (first | subst eo76 | (injection eo76 with f1_ f2_ f3_; have f4_ := f1_.symm; have f5_ := f3_.symm; clear f1_ f2_ f3_; subst f4_; subst f5_))
        refine hK.out _ _ (cz8 BK261.out) (fun hHeld => ?_)
        clear hK K
        refine nm_ (some 49) ?_
        refine on_ HT_ (i := 5) (N := some 50) #[ii,ii,ii,ii,ii,ii,oo,oo] (fun K hK => ?_)
        refine Kd.R_append_rows_step (Kd.int .u8) w.heap.size (by rfl) (.tmp 46) (.tmp 49) 22 5 (.int .u8 0) 1 rfl Try.underlying22 info5 rfl (by decide) (by omega) u262005 x262005_3 t298 _ _ _ (fun k_ => nv u262004 k_ ∧ nb Ao76 t298.length co76 k_) (fun _ => False) rfl rfl ?aO ?aR (fun _ _ h => h) (fun _ h => h.elim) ?aF (Below.refl _ _) ?aS ?aL ?_
        (case aR => exact qC ((Kd.R_reads' HO300.out).2.2))
        (case aF => exact (fun k_ hk => ⟨Kd.fresh' (Kd.R_lt (qR HO_262004)) k_ hk, Kd.fresh' (Kd.R_lt (qR HO300)) k_ hk⟩))
        (case aO => exact (qR HO_262005))
        (case aS => exact (keep_size (w := w) (g := g) (row := none) (qP HK)))
        (case aL => have := LMc45.out; omega)
        intro v302 w75 ho hb hg hat
        rw [← Ny301.out] at ho
        replace HO_262004 := am_ (Kd.R_after (ok := (fun k_ => nb Ao76 t298.length co76 k_)) (xR1_ HO_262004) hg hat)
        replace BK248 := kG_ BK248 HO_262005 hg
        replace BK261 := kG_ BK261 HO_262005 hg
        replace HO300 := am_ (Kd.R_after (ok := (fun k_ => nv u262004 k_)) (xR1_ HO300) hg hat)
        replace HB := am_ (below_weaken (qB HB) HL.out hb)
        replace HI0 := am_ (IsS128.grown (IsS128.q HI0) hg (IsS128.own_ne HI0.out HO_262005.out (by decide)))
        replace HK := am_ (KeepBut.trans (qP HK) (KeepBut.of_grown hg g) (Kd.R_base2 HO_262005.out))
        have HO303 := am_ (ho)
        clear HO_262005
        clear ho hb hg hat
        obtain ⟨Ao77, co77, eo77⟩ := Kd.R_slice HO303.out
        (first | subst eo77 | (injection eo77 with f1_ f2_ f3_; have f4_ := f1_.symm; have f5_ := f3_.symm; clear f1_ f2_ f3_; subst f4_; subst f5_))
        refine hK.out _ _ (cz8 BK261.out) (fun hHeld => ?_)
        clear hK K
        refine nm_ (some 50) ?_
        refine pq_ 6 51 HT_ #[ii,ii,ii,ii,ii,ii,ii,oo] ?_
        refine last_ (i := 7) (N := none) #[ii,ii,ii,ii,ii,ii,ii,ii] rfl rfl (one_of HT_.out (by kernel_rfl)) (by decide) (fun K hK => ?_)
        have hs78 : w75.cell? ⟨gb261, 5, none⟩ = some (u262005) := (blk_cell BK261.out 5).trans rfl
        have hfs78 := blk_frozen BK261.out 5
        have hns78_0 := NB248_261.out
        have hms78_0 := NB261_248.out
        refine skip_ (w1 := ?_) (by rfl) rfl ?_ ?_
        rotate_left
        ·
         go_simp
         rfl
        refine hK.out _ _ ?_
        clear hK K
        refine done_ (done_of HT_.out (by kernel_rfl)) ?_
        have hnb79 := NB261_248.out
        have hnc79 := NB248_261.out
        have hnb80 := NB261_0.out
        have hnc80 := NB0_261.out
        (try clear zK261)
        have zK261 := cz8 BK261.out
        (try clear fK261)
        have fK261 := fz8 BK261.out
        try go_wp2
        go_roundg k3
        case measure => have := HK1.out; have := HJ28.out; have := HK3.out; omega
        case rel => exact ⟨(wrap64 (x5_3 - 1)), (t296), (t297), (y301), (x262007_3), (.slice Ao77 y301.length co77), eqq_, H', ⟨by have := HK1.out; have := HJ28.out; have := HK3.out; omega⟩, fR_ HO_262004 BK261, fR_ HO303 BK261, ⟨by (with_reducible repeat (first | refine blk_drewN ?_ _ | refine blk_drew ?_ | refine blk_alloc ?_ _)); refine blk_far ?_ NB248_261.out _; exact qK BK248⟩, ⟨by (with_reducible repeat (first | refine blk_drewN ?_ _ | refine blk_drew ?_ | refine blk_alloc ?_ _)); refine blk_put (cs := #[.int .i64 (wrap64 (1 + t249)), .int .i64 (wrap64 (1 + t252)), .int .i64 (wrap64 (1 + t255)), .bool t258, u262004, u262005, .int .i64 0, .int .i64 x262007_3]) ?_ 5 _ rfl; exact qK BK261⟩, ⟨IsS128.q HI0⟩, ⟨qP HK⟩, ⟨qB HB⟩⟩
       rw [if_pos c46] at H
       have c46b0 : ((wrap64 (1 + t252)) == 2) = true := beq_iff_eq.mpr c46
       have c46b1 : ((wrap64 (1 + t252)) != 2) = false := bne_eq_false_iff_eq.mpr c46
       clear c46
       replace H := bf_ H
       obtain ⟨f_, hf_, ⟨t304, t305, t306⟩, A47, H⟩ := H
       subst hf_
       (try dsimp only at H)
       by_cases c48 : t304 = true
       ·
        subst c48
        rw [if_pos rfl] at H
        have H' := Aside0.mk H
        clear H
        try go_wp2
        replace HO_262004 := am_ (Kd.R_drew HO_262004.out)
        replace HO_262005 := am_ (Kd.R_drew HO_262005.out)
        replace BK248 := am_ (blk_drew BK248.out)
        replace BK261 := am_ (blk_drew BK261.out)
        replace HI0 := am_ (IsS128.drew HI0.out)
        replace HK := am_ (keep_drew HK.out)
        replace HB := am_ (below_drew1 HB.out)
        refine start_ (n := 8) (S := fun w' => w'.cell? ⟨gb261, 0, none⟩ = some (.int .i64 (wrap64 (1 + t249))) ∧ w'.cell? ⟨gb261, 1, none⟩ = some (.int .i64 (wrap64 (1 + t252))) ∧ w'.cell? ⟨gb261, 2, none⟩ = some (.int .i64 (wrap64 (1 + t255))) ∧ w'.cell? ⟨gb261, 3, none⟩ = some (.bool t258) ∧ w'.cell? ⟨gb261, 4, none⟩ = some (u262004) ∧ w'.cell? ⟨gb261, 5, none⟩ = some (u262005) ∧ w'.cell? ⟨gb261, 6, none⟩ = some (.int .i64 0) ∧ w'.cell? ⟨gb261, 7, none⟩ = some (.int .i64 x262007_3)) (ds := [7]) #[oo,oo,oo,oo,oo,oo,oo,oo] (by kernel_rfl) rfl rfl (cz8 BK261.out) (fun hHeld => ?_); refine with_tabW spec_l8Draw.tab11 spec_l8Draw.bits11 (fun HT_ HW_ => ?_)
        generalize wr.drew = w49 at HO_262004 HO_262005 BK248 BK261 HI0 HK HB hHeld ⊢
        refine pq_ 0 45 HT_ #[ii,oo,oo,oo,oo,oo,oo,oo] ?_
        refine pq_ 2 47 HT_ #[ii,oo,ii,oo,oo,oo,oo,oo] ?_
        refine tz_ (i := 1) (N := some 46) HT_ HW_ #[ii,ii,ii,oo,oo,oo,oo,oo] rfl rfl hHeld ?_
        refine on_ HT_ (i := 3) (N := some 48) #[ii,ii,ii,ii,oo,oo,oo,oo] (fun K hK => ?_)
        refine goes_ Try.func124 (by kernel_rfl) rfl #[.pointer (some ⟨g, 0, none⟩)] (by rfl) rfl rfl la_ ?_
        with_reducible refine (spec_l6Draw.calls k3 g s0_0 x1001_3 x1002_3 t293 t294 t295 t296 t297 w0 _ ?side1 ?side2 A43.out).mono ?_
        (case side1 => exact IsS128.q HI0)
        (case side2 => exact qB HB)
        rintro e w50 ⟨rfl, hi, hb, hk⟩
        refine ⟨_, rfl, ?_⟩
        replace HO_262004 := am_ (Kd.R_mono (Kd.R_keep (IsS128.apart (show IsS128 w0 _ g s0_0 x1001_3 x1002_3 from IsS128.q HI0) (qR HO_262004) (by decide)) hk (fun _ h => h.2)) (fun _ h => h.1))
        replace HO_262005 := am_ (Kd.R_mono (Kd.R_keep (IsS128.apart (show IsS128 w0 _ g s0_0 x1001_3 x1002_3 from IsS128.q HI0) (qR HO_262005) (by decide)) hk (fun _ h => h.2)) (fun _ h => h.1))
        replace BK248 := kB_ BK248 hk NB248_0
        replace BK261 := kB_ BK261 hk NB261_0
        replace HK := kT_ HK hk
        replace HB := am_ (hb)
        replace HI0 := am_ (hi)
        (try clear hb hk hi)
        refine hK.out _ _ (cz8 BK261.out) (fun hHeld => ?_)
        clear hK K
        refine nm_ (some 48) ?_
        refine on_ HT_ (i := 4) (N := some 49) #[ii,ii,ii,ii,ii,oo,oo,oo] (fun K hK => ?_)
        refine goes_ Try.func126 (by kernel_rfl) rfl #[.agg #[.int .i64 t293, .string t294, .int .i64 t295]] (by rfl) rfl rfl la_ ?_
        with_reducible refine (spec_PutFrame.calls k3 t293 t294 t295 t298 _ A44.out).mono ?_
        rintro e w51 ⟨v299, rfl, ho0, hb⟩
        refine ⟨_, rfl, ?_⟩
        have HO300 := am_ (Kd.R_lower (Kd.R_new' (Kd.R_new' ho0 (Kd.R_lt (qR HO_262004))) (Kd.R_lt (qR HO_262005))) (keep_size (w := w) (g := g) (row := none) (qP HK)))
        replace HO_262004 := eA_ HO_262004 ho0 hb
        replace HO_262005 := eA_ HO_262005 ho0 hb
        replace BK248 := bK_ BK248 hb
        replace BK261 := bK_ BK261 hb
        replace HK := kL_ HK hb
        replace HB := bS_ HB hb
        replace HI0 := am_ (IsS128.below (IsS128.q HI0) hb)
        (try clear hb ho0)
        obtain ⟨Ao53, co53, eo53⟩ := Kd.R_slice HO300.out
        (first | subst eo53 | (injection eo53 with f1_ f2_ f3_; have f4_ := f1_.symm; have f5_ := f3_.symm; clear f1_ f2_ f3_; subst f4_; subst f5_))
        refine hK.out _ _ (cz8 BK261.out) (fun hHeld => ?_)
        clear hK K
        refine nm_ (some 49) ?_
        refine on_ HT_ (i := 5) (N := some 50) #[ii,ii,ii,ii,ii,ii,oo,oo] (fun K hK => ?_)
        refine Kd.R_append_rows_step (Kd.int .u8) w.heap.size (by rfl) (.tmp 46) (.tmp 49) 22 5 (.int .u8 0) 1 rfl Try.underlying22 info5 rfl (by decide) (by omega) u262005 x262005_3 t298 _ _ _ (fun k_ => nv u262004 k_ ∧ nb Ao53 t298.length co53 k_) (fun _ => False) rfl rfl ?aO ?aR (fun _ _ h => h) (fun _ h => h.elim) ?aF (Below.refl _ _) ?aS ?aL ?_
        (case aR => exact qC ((Kd.R_reads' HO300.out).2.2))
        (case aF => exact (fun k_ hk => ⟨Kd.fresh' (Kd.R_lt (qR HO_262004)) k_ hk, Kd.fresh' (Kd.R_lt (qR HO300)) k_ hk⟩))
        (case aO => exact (qR HO_262005))
        (case aS => exact (keep_size (w := w) (g := g) (row := none) (qP HK)))
        (case aL => have := LMc45.out; omega)
        intro v302 w52 ho hb hg hat
        rw [← Ny301.out] at ho
        replace HO_262004 := am_ (Kd.R_after (ok := (fun k_ => nb Ao53 t298.length co53 k_)) (xR1_ HO_262004) hg hat)
        replace BK248 := kG_ BK248 HO_262005 hg
        replace BK261 := kG_ BK261 HO_262005 hg
        replace HO300 := am_ (Kd.R_after (ok := (fun k_ => nv u262004 k_)) (xR1_ HO300) hg hat)
        replace HB := am_ (below_weaken (qB HB) HL.out hb)
        replace HI0 := am_ (IsS128.grown (IsS128.q HI0) hg (IsS128.own_ne HI0.out HO_262005.out (by decide)))
        replace HK := am_ (KeepBut.trans (qP HK) (KeepBut.of_grown hg g) (Kd.R_base2 HO_262005.out))
        have HO303 := am_ (ho)
        clear HO_262005
        clear ho hb hg hat
        obtain ⟨Ao54, co54, eo54⟩ := Kd.R_slice HO303.out
        (first | subst eo54 | (injection eo54 with f1_ f2_ f3_; have f4_ := f1_.symm; have f5_ := f3_.symm; clear f1_ f2_ f3_; subst f4_; subst f5_))
        refine hK.out _ _ (cz8 BK261.out) (fun hHeld => ?_)
        clear hK K
        refine nm_ (some 50) ?_
        refine pq_ 6 51 HT_ #[ii,ii,ii,ii,ii,ii,ii,oo] ?_
        refine last_ (i := 7) (N := none) #[ii,ii,ii,ii,ii,ii,ii,ii] rfl rfl (one_of HT_.out (by kernel_rfl)) (by decide) (fun K hK => ?_)
        have hs55 : w52.cell? ⟨gb261, 5, none⟩ = some (u262005) := (blk_cell BK261.out 5).trans rfl
        have hfs55 := blk_frozen BK261.out 5
        have hns55_0 := NB248_261.out
        have hms55_0 := NB261_248.out
        refine skip_ (w1 := ?_) (by rfl) rfl ?_ ?_
        rotate_left
        ·
         go_simp
         rfl
        refine hK.out _ _ ?_
        clear hK K
        refine done_ (done_of HT_.out (by kernel_rfl)) ?_
        have hnb56 := NB261_248.out
        have hnc56 := NB248_261.out
        have hnb57 := NB261_0.out
        have hnc57 := NB0_261.out
        (try clear zK261)
        have zK261 := cz8 BK261.out
        (try clear fK261)
        have fK261 := fz8 BK261.out
        try go_wp2_with (first | (go_at_call 110; (with_reducible refine (spec_l1Once.calls g s0_0 t296 t297 3 true t305 t306 w0 _ ?side1 ?side2 A47.out).mono ?_); (case side1 => exact IsS128.q HI0); (case side2 => exact qB HB); rintro e w59 ⟨rfl, hi, hb, hk⟩; replace HO_262004 := am_ (Kd.R_mono (Kd.R_keep (IsS128.apart (show IsS128 w0 _ g s0_0 t296 t297 from IsS128.q HI0) (fR2_ HO_262004 BK261) (by decide)) hk (fun _ h => h.2)) (fun _ h => h.1)); replace BK248 := am_ (KeepBut.blk hk (g' := gb248) (o := .cells #[.int .i64 0, .int .i64 0, .int .i64 0, .bool false, .slice none 0 0, .slice none 0 0, .int .i64 0, .int .i64 0] 41 (0, 0)) (by (with_reducible repeat (first | refine blk_drewN ?_ _ | refine blk_drew ?_ | refine blk_alloc ?_ _)); refine blk_far ?_ NB248_261.out _; exact qK BK248) NB248_0.out (by simp)); replace HO300 := am_ (Kd.R_mono (Kd.R_keep (IsS128.apart (show IsS128 w0 _ g s0_0 t296 t297 from IsS128.q HI0) (fR2_ HO300 BK261) (by decide)) hk (fun _ h => h.2)) (fun _ h => h.1)); replace HO303 := am_ (Kd.R_mono (Kd.R_keep (IsS128.apart (show IsS128 w0 _ g s0_0 t296 t297 from IsS128.q HI0) (fR2_ HO303 BK261) (by decide)) hk (fun _ h => h.2)) (fun _ h => h.1)); replace BK261 := am_ (KeepBut.blk hk (g' := gb261) (o := .cells #[.int .i64 (wrap64 (1 + t249)), .int .i64 (wrap64 (1 + t252)), .int .i64 (wrap64 (1 + t255)), .bool t258, u262004, .slice Ao54 y301.length co54, .int .i64 0, .int .i64 x262007_3] 41 (0, 0)) (by (with_reducible repeat (first | refine blk_drewN ?_ _ | refine blk_drew ?_ | refine blk_alloc ?_ _)); refine blk_put (cs := #[.int .i64 (wrap64 (1 + t249)), .int .i64 (wrap64 (1 + t252)), .int .i64 (wrap64 (1 + t255)), .bool t258, u262004, u262005, .int .i64 0, .int .i64 x262007_3]) ?_ 5 _ rfl; exact qK BK261) NB261_0.out (by simp)); replace HK := kT_ HK hk; replace HB := am_ (hb); replace HI0 := am_ (hi); (try clear hb); (try clear hk); (try clear hi); (try clear zK261); have zK261 := cz8 BK261.out; (try clear fK261); have fK261 := fz8 BK261.out))
        go_roundg k3
        case measure => have := HK1.out; have := HJ28.out; have := HK3.out; omega
        case rel => exact ⟨(wrap64 (x5_3 - 1)), (t305), (t306), (y301), ((y301.length : Int)), (.slice Ao54 y301.length co54), eqq_, H', ⟨by have := HK1.out; have := HJ28.out; have := HK3.out; omega⟩, fR_ HO_262004 BK261, fR_ HO303 BK261, ⟨by (with_reducible repeat (first | refine blk_drewN ?_ _ | refine blk_drew ?_ | refine blk_alloc ?_ _)); refine blk_far ?_ NB248_261.out _; exact qK BK248⟩, ⟨by (with_reducible repeat (first | refine blk_drewN ?_ _ | refine blk_drew ?_ | refine blk_alloc ?_ _)); refine blk_put (cs := #[.int .i64 (wrap64 (1 + t249)), .int .i64 (wrap64 (1 + t252)), .int .i64 (wrap64 (1 + t255)), .bool t258, u262004, .slice Ao54 y301.length co54, .int .i64 0, .int .i64 x262007_3]) ?_ 7 _ rfl; exact qK BK261⟩, ⟨IsS128.q HI0⟩, ⟨qP HK⟩, ⟨qB HB⟩⟩
       replace c48 := Bool.eq_false_iff.mpr c48
       subst c48
       rw [if_neg (show ¬ (false = true) by decide)] at H
       have H' := Aside0.mk H
       clear H
       try go_wp2
       replace HO_262004 := am_ (Kd.R_drew HO_262004.out)
       replace HO_262005 := am_ (Kd.R_drew HO_262005.out)
       replace BK248 := am_ (blk_drew BK248.out)
       replace BK261 := am_ (blk_drew BK261.out)
       replace HI0 := am_ (IsS128.drew HI0.out)
       replace HK := am_ (keep_drew HK.out)
       replace HB := am_ (below_drew1 HB.out)
       refine start_ (n := 8) (S := fun w' => w'.cell? ⟨gb261, 0, none⟩ = some (.int .i64 (wrap64 (1 + t249))) ∧ w'.cell? ⟨gb261, 1, none⟩ = some (.int .i64 (wrap64 (1 + t252))) ∧ w'.cell? ⟨gb261, 2, none⟩ = some (.int .i64 (wrap64 (1 + t255))) ∧ w'.cell? ⟨gb261, 3, none⟩ = some (.bool t258) ∧ w'.cell? ⟨gb261, 4, none⟩ = some (u262004) ∧ w'.cell? ⟨gb261, 5, none⟩ = some (u262005) ∧ w'.cell? ⟨gb261, 6, none⟩ = some (.int .i64 0) ∧ w'.cell? ⟨gb261, 7, none⟩ = some (.int .i64 x262007_3)) (ds := [7]) #[oo,oo,oo,oo,oo,oo,oo,oo] (by kernel_rfl) rfl rfl (cz8 BK261.out) (fun hHeld => ?_); refine with_tabW spec_l8Draw.tab11 spec_l8Draw.bits11 (fun HT_ HW_ => ?_)
       generalize wr.drew = w61 at HO_262004 HO_262005 BK248 BK261 HI0 HK HB hHeld ⊢
       refine pq_ 0 45 HT_ #[ii,oo,oo,oo,oo,oo,oo,oo] ?_
       refine pq_ 2 47 HT_ #[ii,oo,ii,oo,oo,oo,oo,oo] ?_
       refine tz_ (i := 1) (N := some 46) HT_ HW_ #[ii,ii,ii,oo,oo,oo,oo,oo] rfl rfl hHeld ?_
       refine on_ HT_ (i := 3) (N := some 48) #[ii,ii,ii,ii,oo,oo,oo,oo] (fun K hK => ?_)
       refine goes_ Try.func124 (by kernel_rfl) rfl #[.pointer (some ⟨g, 0, none⟩)] (by rfl) rfl rfl la_ ?_
       with_reducible refine (spec_l6Draw.calls k3 g s0_0 x1001_3 x1002_3 t293 t294 t295 t296 t297 w0 _ ?side1 ?side2 A43.out).mono ?_
       (case side1 => exact IsS128.q HI0)
       (case side2 => exact qB HB)
       rintro e w62 ⟨rfl, hi, hb, hk⟩
       refine ⟨_, rfl, ?_⟩
       replace HO_262004 := am_ (Kd.R_mono (Kd.R_keep (IsS128.apart (show IsS128 w0 _ g s0_0 x1001_3 x1002_3 from IsS128.q HI0) (qR HO_262004) (by decide)) hk (fun _ h => h.2)) (fun _ h => h.1))
       replace HO_262005 := am_ (Kd.R_mono (Kd.R_keep (IsS128.apart (show IsS128 w0 _ g s0_0 x1001_3 x1002_3 from IsS128.q HI0) (qR HO_262005) (by decide)) hk (fun _ h => h.2)) (fun _ h => h.1))
       replace BK248 := kB_ BK248 hk NB248_0
       replace BK261 := kB_ BK261 hk NB261_0
       replace HK := kT_ HK hk
       replace HB := am_ (hb)
       replace HI0 := am_ (hi)
       (try clear hb hk hi)
       refine hK.out _ _ (cz8 BK261.out) (fun hHeld => ?_)
       clear hK K
       refine nm_ (some 48) ?_
       refine on_ HT_ (i := 4) (N := some 49) #[ii,ii,ii,ii,ii,oo,oo,oo] (fun K hK => ?_)
       refine goes_ Try.func126 (by kernel_rfl) rfl #[.agg #[.int .i64 t293, .string t294, .int .i64 t295]] (by rfl) rfl rfl la_ ?_
       with_reducible refine (spec_PutFrame.calls k3 t293 t294 t295 t298 _ A44.out).mono ?_
       rintro e w63 ⟨v299, rfl, ho0, hb⟩
       refine ⟨_, rfl, ?_⟩
       have HO300 := am_ (Kd.R_lower (Kd.R_new' (Kd.R_new' ho0 (Kd.R_lt (qR HO_262004))) (Kd.R_lt (qR HO_262005))) (keep_size (w := w) (g := g) (row := none) (qP HK)))
       replace HO_262004 := eA_ HO_262004 ho0 hb
       replace HO_262005 := eA_ HO_262005 ho0 hb
       replace BK248 := bK_ BK248 hb
       replace BK261 := bK_ BK261 hb
       replace HK := kL_ HK hb
       replace HB := bS_ HB hb
       replace HI0 := am_ (IsS128.below (IsS128.q HI0) hb)
       (try clear hb ho0)
       obtain ⟨Ao65, co65, eo65⟩ := Kd.R_slice HO300.out
       (first | subst eo65 | (injection eo65 with f1_ f2_ f3_; have f4_ := f1_.symm; have f5_ := f3_.symm; clear f1_ f2_ f3_; subst f4_; subst f5_))
       refine hK.out _ _ (cz8 BK261.out) (fun hHeld => ?_)
       clear hK K
       refine nm_ (some 49) ?_
       refine on_ HT_ (i := 5) (N := some 50) #[ii,ii,ii,ii,ii,ii,oo,oo] (fun K hK => ?_)
       refine Kd.R_append_rows_step (Kd.int .u8) w.heap.size (by rfl) (.tmp 46) (.tmp 49) 22 5 (.int .u8 0) 1 rfl Try.underlying22 info5 rfl (by decide) (by omega) u262005 x262005_3 t298 _ _ _ (fun k_ => nv u262004 k_ ∧ nb Ao65 t298.length co65 k_) (fun _ => False) rfl rfl ?aO ?aR (fun _ _ h => h) (fun _ h => h.elim) ?aF (Below.refl _ _) ?aS ?aL ?_
       (case aR => exact qC ((Kd.R_reads' HO300.out).2.2))
       (case aF => exact (fun k_ hk => ⟨Kd.fresh' (Kd.R_lt (qR HO_262004)) k_ hk, Kd.fresh' (Kd.R_lt (qR HO300)) k_ hk⟩))
       (case aO => exact (qR HO_262005))
       (case aS => exact (keep_size (w := w) (g := g) (row := none) (qP HK)))
       (case aL => have := LMc45.out; omega)
       intro v302 w64 ho hb hg hat
       rw [← Ny301.out] at ho
       replace HO_262004 := am_ (Kd.R_after (ok := (fun k_ => nb Ao65 t298.length co65 k_)) (xR1_ HO_262004) hg hat)
       replace BK248 := kG_ BK248 HO_262005 hg
       replace BK261 := kG_ BK261 HO_262005 hg
       replace HO300 := am_ (Kd.R_after (ok := (fun k_ => nv u262004 k_)) (xR1_ HO300) hg hat)
       replace HB := am_ (below_weaken (qB HB) HL.out hb)
       replace HI0 := am_ (IsS128.grown (IsS128.q HI0) hg (IsS128.own_ne HI0.out HO_262005.out (by decide)))
       replace HK := am_ (KeepBut.trans (qP HK) (KeepBut.of_grown hg g) (Kd.R_base2 HO_262005.out))
       have HO303 := am_ (ho)
       clear HO_262005
       clear ho hb hg hat
       obtain ⟨Ao66, co66, eo66⟩ := Kd.R_slice HO303.out
       (first | subst eo66 | (injection eo66 with f1_ f2_ f3_; have f4_ := f1_.symm; have f5_ := f3_.symm; clear f1_ f2_ f3_; subst f4_; subst f5_))
       refine hK.out _ _ (cz8 BK261.out) (fun hHeld => ?_)
       clear hK K
       refine nm_ (some 50) ?_
       refine pq_ 6 51 HT_ #[ii,ii,ii,ii,ii,ii,ii,oo] ?_
       refine last_ (i := 7) (N := none) #[ii,ii,ii,ii,ii,ii,ii,ii] rfl rfl (one_of HT_.out (by kernel_rfl)) (by decide) (fun K hK => ?_)
       have hs67 : w64.cell? ⟨gb261, 5, none⟩ = some (u262005) := (blk_cell BK261.out 5).trans rfl
       have hfs67 := blk_frozen BK261.out 5
       have hns67_0 := NB248_261.out
       have hms67_0 := NB261_248.out
       refine skip_ (w1 := ?_) (by rfl) rfl ?_ ?_
       rotate_left
       ·
        go_simp
        rfl
       refine hK.out _ _ ?_
       clear hK K
       refine done_ (done_of HT_.out (by kernel_rfl)) ?_
       have hnb68 := NB261_248.out
       have hnc68 := NB248_261.out
       have hnb69 := NB261_0.out
       have hnc69 := NB0_261.out
       (try clear zK261)
       have zK261 := cz8 BK261.out
       (try clear fK261)
       have fK261 := fz8 BK261.out
       try go_wp2_with (first | (go_at_call 110; (with_reducible refine (spec_l1Once.calls g s0_0 t296 t297 3 false t305 t306 w0 _ ?side1 ?side2 A47.out).mono ?_); (case side1 => exact IsS128.q HI0); (case side2 => exact qB HB); rintro e w71 ⟨rfl, hi, hb, hk⟩; replace HO_262004 := am_ (Kd.R_mono (Kd.R_keep (IsS128.apart (show IsS128 w0 _ g s0_0 t296 t297 from IsS128.q HI0) (fR2_ HO_262004 BK261) (by decide)) hk (fun _ h => h.2)) (fun _ h => h.1)); replace BK248 := am_ (KeepBut.blk hk (g' := gb248) (o := .cells #[.int .i64 0, .int .i64 0, .int .i64 0, .bool false, .slice none 0 0, .slice none 0 0, .int .i64 0, .int .i64 0] 41 (0, 0)) (by (with_reducible repeat (first | refine blk_drewN ?_ _ | refine blk_drew ?_ | refine blk_alloc ?_ _)); refine blk_far ?_ NB248_261.out _; exact qK BK248) NB248_0.out (by simp)); replace HO300 := am_ (Kd.R_mono (Kd.R_keep (IsS128.apart (show IsS128 w0 _ g s0_0 t296 t297 from IsS128.q HI0) (fR2_ HO300 BK261) (by decide)) hk (fun _ h => h.2)) (fun _ h => h.1)); replace HO303 := am_ (Kd.R_mono (Kd.R_keep (IsS128.apart (show IsS128 w0 _ g s0_0 t296 t297 from IsS128.q HI0) (fR2_ HO303 BK261) (by decide)) hk (fun _ h => h.2)) (fun _ h => h.1)); replace BK261 := am_ (KeepBut.blk hk (g' := gb261) (o := .cells #[.int .i64 (wrap64 (1 + t249)), .int .i64 (wrap64 (1 + t252)), .int .i64 (wrap64 (1 + t255)), .bool t258, u262004, .slice Ao66 y301.length co66, .int .i64 0, .int .i64 x262007_3] 41 (0, 0)) (by (with_reducible repeat (first | refine blk_drewN ?_ _ | refine blk_drew ?_ | refine blk_alloc ?_ _)); refine blk_put (cs := #[.int .i64 (wrap64 (1 + t249)), .int .i64 (wrap64 (1 + t252)), .int .i64 (wrap64 (1 + t255)), .bool t258, u262004, u262005, .int .i64 0, .int .i64 x262007_3]) ?_ 5 _ rfl; exact qK BK261) NB261_0.out (by simp)); replace HK := kT_ HK hk; replace HB := am_ (hb); replace HI0 := am_ (hi); (try clear hb); (try clear hk); (try clear hi)))
       go_roundg k3
       case measure => have := HK1.out; have := HJ28.out; have := HK3.out; omega
       case rel => exact ⟨(wrap64 (x5_3 - 1)), (t305), (t306), (y301), (x262007_3), (.slice Ao66 y301.length co66), eqq_, H', ⟨by have := HK1.out; have := HJ28.out; have := HK3.out; omega⟩, xR_ HO_262004, xR_ HO303, ⟨qK BK248⟩, ⟨qK BK261⟩, ⟨IsS128.q HI0⟩, ⟨qP HK⟩, ⟨qB HB⟩⟩

end Go.Proofs.Ytiffahfpfgnjnaa.PFnSocks
