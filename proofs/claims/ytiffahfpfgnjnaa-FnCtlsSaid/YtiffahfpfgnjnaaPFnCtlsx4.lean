-- Written by a program of this session (myprint.py, over the kit's print): contracts of FnCtls
import Derived.Test.YtiffahfpfgnjnaaPFnCtlsx3
namespace Go.Proofs.Ytiffahfpfgnjnaa.PFnCtls
open Go.RowKit Go.Proofs.YtiffahfpfgnjnaaW.PrintWords Go.Proofs.YtiffahfpfgnjnaaW.PrintLast Go.Proofs.YtiffahfpfgnjnaaW.PrintMore Go.Proofs.YtiffahfpfgnjnaaV
attribute [local go_sem] max2_int min2_int max_two min_two max_three min_three max_four min_four
set_option linter.unusedVariables false
set_option linter.unusedSimpArgs false

/-! ### spec_l9Asker: function 113 -/
mutual
def spec_l9Asker.j0 : Nat → List Int → Int → Int → Int → ByteArray → Int → Int → Int → ByteArray → Int → Int → Option (Int × ByteArray × Int × Int × Int × ByteArray × Int × Int × Int × Int)
 | 0, _, _, _, _, _, _, _, _, _, _, _ => none
 | k + 1, x1000, x1001, x1002, x142000, x142001, x142002, x142003, x142004, x142005, x142006, x142007 => if x142002 = 2 then ((spec_l1Below.f x1000 x1001 x1002 9).bind fun bt148 => ((spec_l1Int.f x1000 bt148.2.1 bt148.2.2 (([0, 7, 300, 100000] : List Int))).bind fun bt154 => ((spec_l7Query.f x1000 bt154.2.1 bt154.2.2).bind fun bt157 => (some (x142000, x142001, x142002, bt148.1, bt154.1, bt157.1, x142006, x142007, bt157.2.1, bt157.2.2))))) else (if x142002 = 3 then (spec_l9Asker.j1 k (x142002 == 3) x1000 x1001 x1002 x142000 x142001 x142002 x142003 x142004 x142005 x142006 x142007) else (spec_l9Asker.j1 k (x142002 == 4) x1000 x1001 x1002 x142000 x142001 x142002 x142003 x142004 x142005 x142006 x142007))
def spec_l9Asker.j1 : Nat → Bool → List Int → Int → Int → Int → ByteArray → Int → Int → Int → ByteArray → Int → Int → Option (Int × ByteArray × Int × Int × Int × ByteArray × Int × Int × Int × Int)
 | 0, _, _, _, _, _, _, _, _, _, _, _, _ => none
 | k + 1, x31, x1000, x1001, x1002, x142000, x142001, x142002, x142003, x142004, x142005, x142006, x142007 => if x31 = true then ((spec_l1Below.f x1000 x1001 x1002 9).bind fun bt160 => ((spec_l1Below.f x1000 bt160.2.1 bt160.2.2 900).bind fun bt163 => (some (x142000, x142001, x142002, x142003, x142004, x142005, wrap64 (1 + bt160.1), wrap64 (1 + bt163.1), bt163.2.1, bt163.2.2)))) else (some (x142000, x142001, x142002, x142003, x142004, x142005, x142006, x142007, x1001, x1002))
end
def spec_l9Asker.f (k : Nat) (s0_0 : List Int) (s0_1 : Int) (s0_2 : Int) : Option (Int × ByteArray × Int × Int × Int × ByteArray × Int × Int × Int × Int) := (spec_l1Below.f s0_0 s0_1 s0_2 9).bind fun bt135 => ((spec_l1Below.f s0_0 bt135.2.1 bt135.2.2 5).bind fun bt138 => (if bt138.1 = 0 then (spec_l9Asker.j0 k s0_0 bt138.2.1 bt138.2.2 (wrap64 (1 + bt135.1)) (⟨#[]⟩ : ByteArray) bt138.1 0 0 (⟨#[]⟩ : ByteArray) 0 0) else ((spec_l1Str.f s0_0 bt138.2.1 bt138.2.2 (([(⟨#[109, 97, 105, 110]⟩ : ByteArray), (⟨#[108, 111, 103, 115]⟩ : ByteArray), (⟨#[97, 100, 109, 105, 110]⟩ : ByteArray)] : List ByteArray))).bind fun bt145 => (spec_l9Asker.j0 k s0_0 bt145.2.1 bt145.2.2 (wrap64 (1 + bt135.1)) bt145.1 bt138.1 0 0 (⟨#[]⟩ : ByteArray) 0 0))))
theorem spec_l9Asker.mono_l : ∀ k, (∀ y0 y1 y2 y3 y4 y5 y6 y7 y8 y9 y10, LeO (spec_l9Asker.j0 k y0 y1 y2 y3 y4 y5 y6 y7 y8 y9 y10) (spec_l9Asker.j0 (k + 1) y0 y1 y2 y3 y4 y5 y6 y7 y8 y9 y10)) ∧ (∀ y0 y1 y2 y3 y4 y5 y6 y7 y8 y9 y10 y11, LeO (spec_l9Asker.j1 k y0 y1 y2 y3 y4 y5 y6 y7 y8 y9 y10 y11) (spec_l9Asker.j1 (k + 1) y0 y1 y2 y3 y4 y5 y6 y7 y8 y9 y10 y11))
 | 0 => ⟨fun _ _ _ _ _ _ _ _ _ _ _ r h => by simp [spec_l9Asker.j0] at h, fun _ _ _ _ _ _ _ _ _ _ _ _ r h => by simp [spec_l9Asker.j1] at h⟩
 | k + 1 => by
  obtain ⟨ih0, ih1⟩ := spec_l9Asker.mono_l k
  refine ⟨?_, ?_⟩
  ·
   intro y0 y1 y2 y3 y4 y5 y6 y7 y8 y9 y10
   unfold spec_l9Asker.j0
   exact mo_
  ·
   intro y0 y1 y2 y3 y4 y5 y6 y7 y8 y9 y10 y11
   unfold spec_l9Asker.j1
   exact mo_
theorem spec_l9Asker.mono : ∀ a0 a1 a2 k, LeO (spec_l9Asker.f k a0 a1 a2) (spec_l9Asker.f (k + 1) a0 a1 a2) := by
 intro a0 a1 a2 k
 obtain ⟨ih0, ih1⟩ := spec_l9Asker.mono_l k
 unfold spec_l9Asker.f
 exact mo_
set_option maxHeartbeats 8000000 in
set_option maxRecDepth 100000 in
theorem spec_l9Asker.calls (k : Nat) (g : Nat) (s0_0 : List Int) (s0_1 : Int) (s0_2 : Int) (r1 : Int) (r2 : ByteArray) (r3 : Int) (r4 : Int) (r5 : Int) (r6 : ByteArray) (r7 : Int) (r8 : Int) (r9 : Int) (r10 : Int) (w0 w : World) (hI : IsS128 w0 w g s0_0 s0_1 s0_2) (hB : Below w0.heap.size w0 w) (h : spec_l9Asker.f k s0_0 s0_1 s0_2 = some (r1, r2, r3, r4, r5, r6, r7, r8, r9, r10)) :
  Calls Try.prog 113 #[.pointer (some ⟨g, 0, none⟩)] w fun e w' => e = .returned (.agg #[.int .i64 r1, .string r2, .int .i64 r3, .int .i64 r4, .int .i64 r5, .string r6, .int .i64 r7, .int .i64 r8]) ∧ IsS128 w0 w' g s0_0 r9 r10 ∧ Below w0.heap.size w0 w' ∧ KeepBut w w' g none := by
 have hu25 := Try.underlying25
 have HI0 := Aside0.mk hI
 have IGHI0 := iG_ HI0.out.ge
 have HK := Aside0.mk (KeepBut.refl w g none)
 have HL := Aside0.mk hB.size
 clear hI
 have HW0 := Aside0.mk hB.size
 have HB := Aside0.mk hB
 clear hB
 have H := h
 unfold spec_l9Asker.f at H
 clear h
 replace H := bf_ H
 obtain ⟨f_, hf_, ⟨t135, t136, t137⟩, A2, H⟩ := H
 subst hf_
 (try dsimp only at H)
 replace H := bf_ H
 obtain ⟨f_, hf_, ⟨t138, t139, t140⟩, A3, H⟩ := H
 subst hf_
 (try dsimp only at H)
 have HC4 := Aside0.mk H
 clear H
 go_enter Try.func113, Try.ntmps113
 go_upto_if 12 with (first | ((with_reducible refine gate_dst (N := 2) rfl ?_); refine bx_ (N := 2) (cs := #[.int .i64 0, .string (⟨#[]⟩ : ByteArray), .int .i64 0, .int .i64 0, .int .i64 0, .string (⟨#[]⟩ : ByteArray), .int .i64 0, .int .i64 0]) (t := 25) ?_; intro gb134 hg w5 hbox hb; replace HB := bS_ HB hb; have BK134 := am_ (hbox); have GW134 := am_ ((gK_ hg (qP HK))); have IGW134 := gI_ GW134; have GE134 := am_ ((Nat.le_trans HW0.out (gK_ hg (qP HK)))); have IGE134 := gI_ GE134; replace HK := kL_ HK hb; have NB0_134 := am_ ((nG_ hg (IsS128.lt (IsS128.q HI0)))); have INB0_134 := nI_ NB0_134; have NB134_0 := am_ (((nG_ hg (IsS128.lt (IsS128.q HI0))).symm)); replace HI0 := am_ (IsS128.below (IsS128.q HI0) hb); clear hb hbox hg) | ((with_reducible refine gate_callee (f := 61) rfl ?_); refine gl_ (some 5) Try.func61 #[.pointer (some ⟨g, 0, none⟩), .int .i64 9] ?_; (with_reducible refine (spec_l1Below.calls g s0_0 s0_1 s0_2 9 t135 t136 t137 w0 _ (IsS128.q HI0) (qB HB) A2.out).mono ?_); rintro e w6 ⟨rfl, hi, hb, hk⟩; refine ⟨_, rfl, ?_⟩; replace BK134 := kB_ BK134 hk NB134_0; replace HK := kT_ HK hk; replace HB := am_ (hb); replace HI0 := am_ (hi); (try clear hb); (try clear hk); (try clear hi)) | ((with_reducible refine gate_callee (f := 61) rfl ?_); refine gl_ (some 8) Try.func61 #[.pointer (some ⟨g, 0, none⟩), .int .i64 5] ?_; (with_reducible refine (spec_l1Below.calls g s0_0 t136 t137 5 t138 t139 t140 w0 _ (IsS128.q HI0) (qB HB) A3.out).mono ?_); rintro e w7 ⟨rfl, hi, hb, hk⟩; refine ⟨_, rfl, ?_⟩; replace BK134 := kB_ BK134 hk NB134_0; replace HK := kT_ HK hk; replace HB := am_ (hb); replace HI0 := am_ (hi); (try clear hb); (try clear hk); (try clear hi)) | ((with_reducible refine gate_dst (N := 3) rfl ?_); refine bx_ (N := 3) (cs := #[.int .i64 0, .string (⟨#[]⟩ : ByteArray), .int .i64 0, .int .i64 0, .int .i64 0, .string (⟨#[]⟩ : ByteArray), .int .i64 0, .int .i64 0]) (t := 25) ?_; intro gb141 hg w8 hbox hb; replace HB := bS_ HB hb; have BK141 := am_ (hbox); have GW141 := am_ ((gK_ hg (qP HK))); have IGW141 := gI_ GW141; have GE141 := am_ ((Nat.le_trans HW0.out (gK_ hg (qP HK)))); have IGE141 := gI_ GE141; replace HK := kL_ HK hb; have NB134_141 := am_ ((gN_ hg (qK BK134))); have NB141_134 := am_ ((gM_ hg (qK BK134))); replace BK134 := bK_ BK134 hb; have NB0_141 := am_ ((nG_ hg (IsS128.lt (IsS128.q HI0)))); have INB0_141 := nI_ NB0_141; have NB141_0 := am_ (((nG_ hg (IsS128.lt (IsS128.q HI0))).symm)); replace HI0 := am_ (IsS128.below (IsS128.q HI0) hb); clear hb hbox hg; have hnb9 := nx_ NB141_134; have hnb10 := nx_ NB141_0; (try clear zK141); have zK141 := cf8 BK141.out))
 (try simp only [Act.put, List.setIfInBounds_toArray, List.set_cons_zero, List.set_cons_succ])
 go_cut [] (fun wc => ∃ (kq : Nat) (x1001_3 : Int) (x1002_3 : Int) (x142001_3 : ByteArray), Aside0 (spec_l9Asker.j0 kq s0_0 x1001_3 x1002_3 (wrap64 (1 + t135)) x142001_3 t138 0 0 (⟨#[]⟩ : ByteArray) 0 0 = some (r1, r2, r3, r4, r5, r6, r7, r8, r9, r10)) ∧ Aside0 (kq ≤ k) ∧ Aside0 (wc.heap[gb134]? = some (.cells #[.int .i64 0, .string (⟨#[]⟩ : ByteArray), .int .i64 0, .int .i64 0, .int .i64 0, .string (⟨#[]⟩ : ByteArray), .int .i64 0, .int .i64 0] 25 (0, 0))) ∧ Aside0 (wc.heap[gb141]? = some (.cells #[.int .i64 (wrap64 (1 + t135)), .string x142001_3, .int .i64 t138, .int .i64 0, .int .i64 0, .string (⟨#[]⟩ : ByteArray), .int .i64 0, .int .i64 0] 25 (0, 0))) ∧ Aside0 (IsS128 w0 wc g s0_0 x1001_3 x1002_3) ∧ Aside0 (KeepBut w wc g none) ∧ Aside0 (Below w0.heap.size w0 wc))
 case first =>
  have H := HC4.out
  clear HC4
  replace H := ie_ H
  obtain ⟨-, H, c12b0, c12b1⟩ | ⟨c12, H, c12b0, c12b1⟩ := H
  ·
   (first | rw [c12b0] | rw [c12b1] | (simp only [i64_w, i32_w]; rw [c12b0]) | skip)
   have H' := Aside0.mk H
   clear H
   go_wp2
   go_meet
   case rel => exact ⟨_, (t139), (t140), ((⟨#[]⟩ : ByteArray)), H', ⟨by first | omega | exact Nat.le_refl _⟩, ⟨by (with_reducible repeat (first | refine blk_drewN ?_ _ | refine blk_drew ?_ | refine blk_alloc ?_ _)); refine blk_far8 ?_ NB134_141.out; exact qK BK134⟩, ⟨by (with_reducible repeat (first | refine blk_drewN ?_ _ | refine blk_drew ?_ | refine blk_alloc ?_ _)); refine blk_all8 (show _ = some (Go.Obj.cells #[.int .i64 0, .string (⟨#[]⟩ : ByteArray), .int .i64 0, .int .i64 0, .int .i64 0, .string (⟨#[]⟩ : ByteArray), .int .i64 0, .int .i64 0] _ (0, 0)) from ?_); exact qK BK141⟩, ⟨IsS128.q HI0⟩, ⟨qP HK⟩, ⟨qB HB⟩⟩
  (first | rw [c12b0] | rw [c12b1] | (simp only [i64_w, i32_w]; rw [c12b0]) | skip)
  obtain ⟨y142, hy142⟩ : ∃ y_ : List ByteArray, y_ = (([(⟨#[109, 97, 105, 110]⟩ : ByteArray), (⟨#[108, 111, 103, 115]⟩ : ByteArray), (⟨#[97, 100, 109, 105, 110]⟩ : ByteArray)] : List ByteArray)) := ⟨_, rfl⟩
  rw [← hy142] at H
  have Ny142 := Aside0.mk hy142
  clear hy142
  replace H := bf_ H
  obtain ⟨f_, hf_, ⟨t145, t146, t147⟩, A13, H⟩ := H
  subst hf_
  (try dsimp only at H)
  have H' := Aside0.mk H
  clear H
  go_wp2_with (first | ((with_reducible refine gate_dst (N := 14) rfl ?_); refine Kd.R_lit Kd.string _ 9 ?hg (N := 14) ?hd (xs := ([(⟨#[109, 97, 105, 110]⟩ : ByteArray), (⟨#[108, 111, 103, 115]⟩ : ByteArray), (⟨#[97, 100, 109, 105, 110]⟩ : ByteArray)] : List ByteArray)) (inner := [.string (⟨#[109, 97, 105, 110]⟩ : ByteArray), .string (⟨#[108, 111, 103, 115]⟩ : ByteArray), .string (⟨#[97, 100, 109, 105, 110]⟩ : ByteArray)]) (ok := fun _ => True) (okp := fun _ => True) ?hr ?hp (fun _ hk => hk) trivial (Below.refl _ _) (Nat.le_refl _) (by simp) ?_; (case hd => rfl); (case hg => rfl); (case hr => first | (go_simp; done) | (go_simp; rfl)); (case hp => exact (Reps.one (show Kd.M Kd.string _ _ _ (⟨#[109, 97, 105, 110]⟩ : ByteArray) [.string (⟨#[109, 97, 105, 110]⟩ : ByteArray)] from rfl) (Reps.one (show Kd.M Kd.string _ _ _ (⟨#[108, 111, 103, 115]⟩ : ByteArray) [.string (⟨#[108, 111, 103, 115]⟩ : ByteArray)] from rfl) (Reps.one (show Kd.M Kd.string _ _ _ (⟨#[97, 100, 109, 105, 110]⟩ : ByteArray) [.string (⟨#[97, 100, 109, 105, 110]⟩ : ByteArray)] from rfl) (Reps.none _ _))))); intro v143 w14 ho15 hb hg_ hnew_; clear hg_ hnew_; (first | rw [← Ny142.out] at ho15 | (simp only [Int.reduceToNat] at ho15; rw [← Ny142.out] at ho15)); have HO144 := am_ (Kd.R_lower ho15 (keep_size (w := w) (g := g) (row := none) (qP HK))); replace BK134 := fb_ BK134 hb; replace BK141 := am_ (blk_below (blk_all8 (qK BK141)) hb); replace HK := kL_ HK hb; replace HB := bS_ HB hb; replace HI0 := am_ (IsS128.below (show IsS128 w0 ((((((((w8.setCell ⟨gb141, 0, none⟩ (.int .i64 (wrap64 (1 + t135)))).setCell ⟨gb141, 1, none⟩ (.string (⟨#[]⟩ : ByteArray))).setCell ⟨gb141, 2, none⟩ (.int .i64 t138)).setCell ⟨gb141, 3, none⟩ (.int .i64 0)).setCell ⟨gb141, 4, none⟩ (.int .i64 0)).setCell ⟨gb141, 5, none⟩ (.string (⟨#[]⟩ : ByteArray))).setCell ⟨gb141, 6, none⟩ (.int .i64 0)).setCell ⟨gb141, 7, none⟩ (.int .i64 0)) g s0_0 t139 t140 from IsS128.q HI0) hb); clear hb ho15; obtain ⟨Ao16, co16, eo16⟩ := Kd.R_slice HO144.out; subst eo16) | ((with_reducible refine gate_callee (f := 116) rfl ?_); refine gl_ (some 15) Try.func116 #[.pointer (some ⟨g, 0, none⟩), .slice Ao16 y142.length co16] ?_; (with_reducible refine (spec_l1Str.calls g s0_0 t139 t140 _ _ y142 t145 t146 t147 w0 _ (IsS128.q HI0) (qB HB) (qC ((Kd.R_reads' HO144.out).2.2)) ?side4 ?side5 A13.out).mono ?_); (case side4 => exact (Kd.R_reads' HO144.out).2.1); (case side5 => exact far_slice (IsS128.own_ne HI0.out HO144.out (by decide))); rintro e w17 ⟨rfl, hi, hb, hk⟩; refine ⟨_, rfl, ?_⟩; replace BK134 := kB_ BK134 hk NB134_0; replace BK141 := kB_ BK141 hk NB141_0; replace HO144 := IsS128.rk HI0 (qR HO144) hk; replace HK := kT_ HK hk; replace HB := am_ (hb); replace HI0 := am_ (hi); (try clear hb); (try clear hk); (try clear hi); have hnb18 := nx_ NB141_134; have hnb19 := nx_ NB141_0; (try clear zK141); have zK141 := cf8 BK141.out))
  go_meet
  case rel => exact ⟨_, (t146), (t147), (t145), H', ⟨by first | omega | exact Nat.le_refl _⟩, ⟨by (with_reducible repeat (first | refine blk_drewN ?_ _ | refine blk_drew ?_ | refine blk_alloc ?_ _)); refine blk_far ?_ NB134_141.out _; exact qK BK134⟩, ⟨by (with_reducible repeat (first | refine blk_drewN ?_ _ | refine blk_drew ?_ | refine blk_alloc ?_ _)); refine blk_put (cs := #[.int .i64 (wrap64 (1 + t135)), .string (⟨#[]⟩ : ByteArray), .int .i64 t138, .int .i64 0, .int .i64 0, .string (⟨#[]⟩ : ByteArray), .int .i64 0, .int .i64 0]) ?_ 1 _ rfl; exact qK BK141⟩, ⟨IsS128.q HI0⟩, ⟨qP HK⟩, ⟨qB HB⟩⟩
 case rest =>
  clear HC4
  try clear c1
  try clear p2
  try clear c6
  try clear p6
  try clear c9
  try clear c10
  try clear c11
  try clear c12
  try clear c12b0
  try clear c12b1
  try clear c18
  try clear c19
  (try clear zK141)
  (try clear zK141)
  (try clear fK141)
  (try clear fK141)
  obtain ⟨kq, x1001_3, x1002_3, x142001_3, HA, HJ3, BK134, BK141, HI0, HK, HB⟩ := hcut
  cases kq with
  | zero => exact absurd HA.out (by simp [spec_l9Asker.j0])
  | succ kj3 =>
   have H := HA.out
   clear HA
   simp only [spec_l9Asker.j0] at H
   replace H := ie_ H
   obtain ⟨-, H, c21b0, c21b1⟩ | ⟨c21, H, c21b0, c21b1⟩ := H
   ·
    replace H := bf_ H
    obtain ⟨f_, hf_, ⟨t148, t149, t150⟩, A22, H⟩ := H
    subst hf_
    (try dsimp only at H)
    obtain ⟨y151, hy151⟩ : ∃ y_ : List Int, y_ = (([0, 7, 300, 100000] : List Int)) := ⟨_, rfl⟩
    rw [← hy151] at H
    have Ny151 := Aside0.mk hy151
    clear hy151
    replace H := bf_ H
    obtain ⟨f_, hf_, ⟨t154, t155, t156⟩, A23, H⟩ := H
    subst hf_
    (try dsimp only at H)
    replace H := bf_ H
    obtain ⟨f_, hf_, ⟨t157, t158, t159⟩, A24, H⟩ := H
    subst hf_
    (try dsimp only at H)
    simp only [Option.some.injEq, Prod.mk.injEq] at H
    obtain ⟨rfl, rfl, rfl, rfl, rfl, rfl, rfl, rfl, rfl, rfl⟩ := H
    have hnb25 := nx_ NB141_134
    have hnb26 := nx_ NB141_0
    (try clear zK141)
    have zK141 := cf8 BK141.out
    go_wp2_with (first | ((with_reducible refine gate_callee (f := 61) rfl ?_); refine gl_ (some 22) Try.func61 #[.pointer (some ⟨g, 0, none⟩), .int .i64 9] ?_; (with_reducible refine (spec_l1Below.calls g s0_0 x1001_3 x1002_3 9 t148 t149 t150 w0 _ (IsS128.q HI0) (qB HB) A22.out).mono ?_); rintro e w28 ⟨rfl, hi, hb, hk⟩; refine ⟨_, rfl, ?_⟩; replace BK134 := kB_ BK134 hk NB134_0; replace BK141 := kB_ BK141 hk NB141_0; replace HK := kT_ HK hk; replace HB := am_ (hb); replace HI0 := am_ (hi); (try clear hb); (try clear hk); (try clear hi); (try clear zK141); have zK141 := cf8 BK141.out) | ((with_reducible refine gate_dst (N := 25) rfl ?_); refine Kd.R_lit (Kd.int .i64) _ 3 ?hg (N := 25) ?hd (xs := ([0, 7, 300, 100000] : List Int)) (inner := [.int .i64 0, .int .i64 7, .int .i64 300, .int .i64 100000]) (ok := fun _ => True) (okp := fun _ => True) ?hr ?hp (fun _ hk => hk) trivial (Below.refl _ _) (Nat.le_refl _) (by simp) ?_; (case hd => rfl); (case hg => rfl); (case hr => first | (go_simp; done) | (go_simp; rfl)); (case hp => exact (Reps.one (show Kd.M (Kd.int .i64) _ _ _ 0 [.int .i64 0] from rfl) (Reps.one (show Kd.M (Kd.int .i64) _ _ _ 7 [.int .i64 7] from rfl) (Reps.one (show Kd.M (Kd.int .i64) _ _ _ 300 [.int .i64 300] from rfl) (Reps.one (show Kd.M (Kd.int .i64) _ _ _ 100000 [.int .i64 100000] from rfl) (Reps.none _ _)))))); intro v152 w30 ho31 hb hg_ hnew_; clear hg_ hnew_; (first | rw [← Ny151.out] at ho31 | (simp only [Int.reduceToNat] at ho31; rw [← Ny151.out] at ho31)); have HO153 := am_ (Kd.R_lower ho31 (keep_size (w := w) (g := g) (row := none) (qP HK))); replace BK134 := fb_ BK134 hb; replace BK141 := am_ (blk_below (g := gb141) (o := .cells #[.int .i64 (wrap64 (1 + t135)), .string x142001_3, .int .i64 t138, .int .i64 t148, .int .i64 0, .string (⟨#[]⟩ : ByteArray), .int .i64 0, .int .i64 0] 25 (0, 0)) (by (with_reducible repeat (first | refine blk_drewN ?_ _ | refine blk_drew ?_ | refine blk_alloc ?_ _)); refine blk_put (cs := #[.int .i64 (wrap64 (1 + t135)), .string x142001_3, .int .i64 t138, .int .i64 0, .int .i64 0, .string (⟨#[]⟩ : ByteArray), .int .i64 0, .int .i64 0]) ?_ 3 _ rfl; exact qK BK141) hb); replace HK := kL_ HK hb; replace HB := bS_ HB hb; replace HI0 := am_ (IsS128.below (show IsS128 w0 (w28.setCell ⟨gb141, 3, none⟩ (.int .i64 t148)) g s0_0 t149 t150 from IsS128.q HI0) hb); clear hb ho31; obtain ⟨Ao32, co32, eo32⟩ := Kd.R_slice HO153.out; subst eo32) | ((with_reducible refine gate_callee (f := 62) rfl ?_); refine gl_ (some 26) Try.func62 #[.pointer (some ⟨g, 0, none⟩), .slice Ao32 y151.length co32] ?_; (with_reducible refine (spec_l1Int.calls g s0_0 t149 t150 _ _ y151 t154 t155 t156 w0 _ (IsS128.q HI0) (qB HB) (qC ((Kd.R_reads' HO153.out).2.2)) ?side4 ?side5 A23.out).mono ?_); (case side4 => exact (Kd.R_reads' HO153.out).2.1); (case side5 => exact far_slice (IsS128.own_ne HI0.out HO153.out (by decide))); rintro e w33 ⟨rfl, hi, hb, hk⟩; refine ⟨_, rfl, ?_⟩; replace BK134 := kB_ BK134 hk NB134_0; replace BK141 := kB_ BK141 hk NB141_0; replace HO153 := IsS128.rk HI0 (qR HO153) hk; replace HK := kT_ HK hk; replace HB := am_ (hb); replace HI0 := am_ (hi); (try clear hb); (try clear hk); (try clear hi); (try clear zK141); have zK141 := cf8 BK141.out) | ((with_reducible refine gate_callee (f := 125) rfl ?_); refine gl_ (some 29) Try.func125 #[.pointer (some ⟨g, 0, none⟩)] ?_; (with_reducible refine (spec_l7Query.calls g s0_0 t155 t156 t157 t158 t159 w0 _ (IsS128.q HI0) (qB HB) A24.out).mono ?_); rintro e w35 ⟨rfl, hi, hb, hk⟩; refine ⟨_, rfl, ?_⟩; replace BK134 := fk_ BK134 hk NB134_0; replace HO153 := am_ (Kd.R_mono (Kd.R_keep (IsS128.apart (show IsS128 w0 _ g s0_0 t155 t156 from IsS128.q HI0) (fR2_ HO153 BK141) (by decide)) hk (fun _ h => h.2)) (fun _ h => h.1)); replace BK141 := am_ (KeepBut.blk hk (g' := gb141) (o := .cells #[.int .i64 (wrap64 (1 + t135)), .string x142001_3, .int .i64 t138, .int .i64 t148, .int .i64 t154, .string (⟨#[]⟩ : ByteArray), .int .i64 0, .int .i64 0] 25 (0, 0)) (by (with_reducible repeat (first | refine blk_drewN ?_ _ | refine blk_drew ?_ | refine blk_alloc ?_ _)); refine blk_put (cs := #[.int .i64 (wrap64 (1 + t135)), .string x142001_3, .int .i64 t138, .int .i64 t148, .int .i64 0, .string (⟨#[]⟩ : ByteArray), .int .i64 0, .int .i64 0]) ?_ 4 _ rfl; exact qK BK141) NB141_0.out (by simp)); replace HK := kT_ HK hk; replace HB := am_ (hb); replace HI0 := am_ (hi); (try clear hb); (try clear hk); (try clear hi); (try clear zK141); have zK141 := cf8 BK141.out; have hnb37 := nx_ NB134_0; (try clear zK134); have zK134 := cf8 BK134.out))
    refine bodyPost_ret (results_cell_row rfl _ _ gb134 25 #[.int .i64 (wrap64 (1 + t135)), .string x142001_3, .int .i64 t138, .int .i64 t148, .int .i64 t154, .string t157, .int .i64 0, .int .i64 0] (0, 0) _ rfl (by exact blk_all8 (blk_far1 (qK BK134) NB134_141.out)) Try.underlying25 rfl (by kernel_rfl)) rfl ?_
    exact ⟨er_, IsS128.q HI0, qB HB, qP HK⟩
   have HC39 := Aside0.mk H
   clear H
   have hnb40 := nx_ NB141_134
   have hnb41 := nx_ NB141_0
   (try clear zK141)
   have zK141 := cf8 BK141.out
   go_upto_if 31 with (fail)
   go_cut [31] (fun v31 wc => ∃ (kq : Nat) (x31_38 : Bool), v31 = .bool x31_38 ∧ Aside0 (spec_l9Asker.j1 kq x31_38 s0_0 x1001_3 x1002_3 (wrap64 (1 + t135)) x142001_3 t138 0 0 (⟨#[]⟩ : ByteArray) 0 0 = some (r1, r2, r3, r4, r5, r6, r7, r8, r9, r10)) ∧ Aside0 (kq ≤ kj3) ∧ Aside0 (wc.heap[gb134]? = some (.cells #[.int .i64 0, .string (⟨#[]⟩ : ByteArray), .int .i64 0, .int .i64 0, .int .i64 0, .string (⟨#[]⟩ : ByteArray), .int .i64 0, .int .i64 0] 25 (0, 0))) ∧ Aside0 (wc.heap[gb141]? = some (.cells #[.int .i64 (wrap64 (1 + t135)), .string x142001_3, .int .i64 t138, .int .i64 0, .int .i64 0, .string (⟨#[]⟩ : ByteArray), .int .i64 0, .int .i64 0] 25 (0, 0))) ∧ Aside0 (IsS128 w0 wc g s0_0 x1001_3 x1002_3) ∧ Aside0 (KeepBut w wc g none) ∧ Aside0 (Below w0.heap.size w0 wc))
   case first =>
    have H := HC39.out
    clear HC39
    replace H := ie_ H
    obtain ⟨-, H, c43b0, c43b1⟩ | ⟨c43, H, c43b0, c43b1⟩ := H
    rotate_left
    ·
     (first | rw [c43b0] | rw [c43b1] | (simp only [i64_w, i32_w]; rw [c43b0]) | skip)
     have H' := Aside0.mk H
     clear H
     go_wp2
     go_meet
     case rel => exact ⟨_, ((t138 == 4)), eqq_, H', ⟨by have := HJ3.out; first | omega | exact Nat.le_refl _⟩, ⟨qK BK134⟩, ⟨qK BK141⟩, ⟨IsS128.q HI0⟩, ⟨qP HK⟩, ⟨qB HB⟩⟩
    (first | rw [c43b0] | rw [c43b1] | (simp only [i64_w, i32_w]; rw [c43b0]) | skip)
    have H' := Aside0.mk H
    clear H
    go_wp2
    go_meet
    case rel => exact ⟨_, ((t138 == 3)), eqq_, H', ⟨by have := HJ3.out; first | omega | exact Nat.le_refl _⟩, ⟨qK BK134⟩, ⟨qK BK141⟩, ⟨IsS128.q HI0⟩, ⟨qP HK⟩, ⟨qB HB⟩⟩
   case rest =>
    clear HC39
    try clear c1
    try clear c2
    try clear p2
    try clear c3
    try clear c4
    try clear c6
    try clear p6
    try clear c9
    try clear c10
    try clear c11
    try clear c12
    try clear c12b0
    try clear c12b1
    try clear c18
    try clear c19
    try clear c21
    try clear c21b0
    try clear c21b1
    try clear c25
    try clear c26
    try clear c37
    try clear c40
    try clear c41
    try clear c43
    try clear c43b0
    try clear c43b1
    (try clear zK141)
    (try clear zK141)
    (try clear zK141)
    (try clear zK141)
    (try clear zK141)
    (try clear zK141)
    (try clear zK134)
    (try clear zK141)
    (try clear fK141)
    (try clear fK141)
    (try clear fK141)
    (try clear fK141)
    (try clear fK141)
    (try clear fK141)
    (try clear fK134)
    (try clear fK141)
    try clear p2
    try clear p6
    obtain ⟨kq, x31_38, rfl, HA, HJ38, BK134, BK141, HI0, HK, HB⟩ := hcut
    cases kq with
    | zero => exact absurd HA.out (by simp [spec_l9Asker.j1])
    | succ kj38 =>
     have H := HA.out
     clear HA
     simp only [spec_l9Asker.j1] at H
     by_cases c44 : x31_38 = true
     ·
      subst c44
      rw [if_pos rfl] at H
      replace H := bf_ H
      obtain ⟨f_, hf_, ⟨t160, t161, t162⟩, A45, H⟩ := H
      subst hf_
      (try dsimp only at H)
      replace H := bf_ H
      obtain ⟨f_, hf_, ⟨t163, t164, t165⟩, A46, H⟩ := H
      subst hf_
      (try dsimp only at H)
      simp only [Option.some.injEq, Prod.mk.injEq] at H
      obtain ⟨rfl, rfl, rfl, rfl, rfl, rfl, rfl, rfl, rfl, rfl⟩ := H
      go_wp2_with (first | ((with_reducible refine gate_callee (f := 61) rfl ?_); refine gl_ (some 35) Try.func61 #[.pointer (some ⟨g, 0, none⟩), .int .i64 9] ?_; (with_reducible refine (spec_l1Below.calls g s0_0 x1001_3 x1002_3 9 t160 t161 t162 w0 _ (IsS128.q HI0) (qB HB) A45.out).mono ?_); rintro e w47 ⟨rfl, hi, hb, hk⟩; refine ⟨_, rfl, ?_⟩; replace BK134 := kB_ BK134 hk NB134_0; replace BK141 := kB_ BK141 hk NB141_0; replace HK := kT_ HK hk; replace HB := am_ (hb); replace HI0 := am_ (hi); (try clear hb); (try clear hk); (try clear hi); have hnb48 := nx_ NB141_134; have hnb49 := nx_ NB141_0; (try clear zK141); have zK141 := cf8 BK141.out) | ((with_reducible refine gate_callee (f := 61) rfl ?_); refine gl_ (some 39) Try.func61 #[.pointer (some ⟨g, 0, none⟩), .int .i64 900] ?_; (with_reducible refine (spec_l1Below.calls g s0_0 t161 t162 900 t163 t164 t165 w0 _ (IsS128.q HI0) (qB HB) A46.out).mono ?_); rintro e w51 ⟨rfl, hi, hb, hk⟩; refine ⟨_, rfl, ?_⟩; replace BK134 := fk_ BK134 hk NB134_0; replace BK141 := am_ (KeepBut.blk hk (g' := gb141) (o := .cells #[.int .i64 (wrap64 (1 + t135)), .string x142001_3, .int .i64 t138, .int .i64 0, .int .i64 0, .string (⟨#[]⟩ : ByteArray), .int .i64 (wrap64 (1 + t160)), .int .i64 0] 25 (0, 0)) (by (with_reducible repeat (first | refine blk_drewN ?_ _ | refine blk_drew ?_ | refine blk_alloc ?_ _)); refine blk_put (cs := #[.int .i64 (wrap64 (1 + t135)), .string x142001_3, .int .i64 t138, .int .i64 0, .int .i64 0, .string (⟨#[]⟩ : ByteArray), .int .i64 0, .int .i64 0]) ?_ 6 _ rfl; exact qK BK141) NB141_0.out (by simp)); replace HK := kT_ HK hk; replace HB := am_ (hb); replace HI0 := am_ (hi); (try clear hb); (try clear hk); (try clear hi); (try clear zK141); have zK141 := cf8 BK141.out; have hnb53 := nx_ NB134_0; (try clear zK134); have zK134 := cf8 BK134.out))
      refine bodyPost_ret (results_cell_row rfl _ _ gb134 25 #[.int .i64 (wrap64 (1 + t135)), .string x142001_3, .int .i64 t138, .int .i64 0, .int .i64 0, .string (⟨#[]⟩ : ByteArray), .int .i64 (wrap64 (1 + t160)), .int .i64 (wrap64 (1 + t163))] (0, 0) _ rfl (by exact blk_all8 (blk_far1 (qK BK134) NB134_141.out)) Try.underlying25 rfl (by kernel_rfl)) rfl ?_
      exact ⟨er_, IsS128.q HI0, qB HB, qP HK⟩
     replace c44 := Bool.eq_false_iff.mpr c44
     subst c44
     rw [if_neg (show ¬ (false = true) by decide)] at H
     simp only [Option.some.injEq, Prod.mk.injEq] at H
     obtain ⟨rfl, rfl, rfl, rfl, rfl, rfl, rfl, rfl, rfl, rfl⟩ := H
     have hnb55 := nx_ NB141_134
     have hnb56 := nx_ NB141_0
     (try clear zK141)
     have zK141 := cf8 BK141.out
     have hnb58 := nx_ NB134_0
     (try clear zK134)
     have zK134 := cf8 BK134.out
     go_wp2
     refine bodyPost_ret (results_cell_row rfl _ _ gb134 25 #[.int .i64 (wrap64 (1 + t135)), .string x142001_3, .int .i64 t138, .int .i64 0, .int .i64 0, .string (⟨#[]⟩ : ByteArray), .int .i64 0, .int .i64 0] (0, 0) _ rfl (by exact blk_all8 (qK BK134)) Try.underlying25 rfl (by kernel_rfl)) rfl ?_
     exact ⟨er_, IsS128.q HI0, qB HB, qP HK⟩

/-! ### spec_l9Line: function 114 -/
def spec_l9Line.f (s0_0 : List Int) (s0_1 : Int) (s0_2 : Int) : Option (Int × ByteArray × Int × Int × Int × Int × Int × Int × Int) := (spec_l1Below.f s0_0 s0_1 s0_2 9).bind fun bt167 => ((spec_l1Str.f s0_0 bt167.2.1 bt167.2.2 (([(⟨#[109, 97, 105, 110]⟩ : ByteArray), (⟨#[108, 111, 103, 115]⟩ : ByteArray)] : List ByteArray))).bind fun bt173 => ((spec_l1Below.f s0_0 bt173.2.1 bt173.2.2 3).bind fun bt176 => ((spec_l1Below.f s0_0 bt176.2.1 bt176.2.2 3).bind fun bt179 => (if bt179.1 = 0 then ((spec_l1Int.f s0_0 bt179.2.1 bt179.2.2 (([0, 7, 300, 100000] : List Int))).bind fun bt186 => (some (wrap64 (1 + bt167.1), bt173.1, wrap64 (1 + bt176.1), bt179.1, bt186.1, 0, 0, bt186.2.1, bt186.2.2))) else ((spec_l1Below.f s0_0 bt179.2.1 bt179.2.2 9).bind fun bt189 => ((spec_l1Below.f s0_0 bt189.2.1 bt189.2.2 900).bind fun bt192 => (some (wrap64 (1 + bt167.1), bt173.1, wrap64 (1 + bt176.1), bt179.1, 0, wrap64 (1 + bt189.1), wrap64 (1 + bt192.1), bt192.2.1, bt192.2.2))))))))
set_option maxHeartbeats 8000000 in
set_option maxRecDepth 100000 in
theorem spec_l9Line.calls (g : Nat) (s0_0 : List Int) (s0_1 : Int) (s0_2 : Int) (r1 : Int) (r2 : ByteArray) (r3 : Int) (r4 : Int) (r5 : Int) (r6 : Int) (r7 : Int) (r8 : Int) (r9 : Int) (w0 w : World) (hI : IsS128 w0 w g s0_0 s0_1 s0_2) (hB : Below w0.heap.size w0 w) (h : spec_l9Line.f s0_0 s0_1 s0_2 = some (r1, r2, r3, r4, r5, r6, r7, r8, r9)) :
  Calls Try.prog 114 #[.pointer (some ⟨g, 0, none⟩)] w fun e w' => e = .returned (.agg #[.int .i64 r1, .string r2, .int .i64 r3, .int .i64 r4, .int .i64 r5, .int .i64 r6, .int .i64 r7]) ∧ IsS128 w0 w' g s0_0 r8 r9 ∧ Below w0.heap.size w0 w' ∧ KeepBut w w' g none := by
 have hu27 := Try.underlying27
 have HI0 := am_ hI
 have IGHI0 := iG_ HI0.out.ge
 have HK := Aside0.mk (KeepBut.refl w g none)
 have HL := Aside0.mk hB.size
 clear hI
 have HW0 := Aside0.mk hB.size
 have HB := am_ hB
 clear hB
 have H := h
 unfold spec_l9Line.f at H
 clear h
 replace H := bf_ H
 obtain ⟨f_, hf_, ⟨t167, t168, t169⟩, A2, H⟩ := H
 subst hf_
 (try dsimp only at H)
 obtain ⟨y170, hy170⟩ : ∃ y_ : List ByteArray, y_ = (([(⟨#[109, 97, 105, 110]⟩ : ByteArray), (⟨#[108, 111, 103, 115]⟩ : ByteArray)] : List ByteArray)) := ⟨_, rfl⟩
 rw [← hy170] at H
 have Ny170 := am_ hy170
 clear hy170
 replace H := bf_ H
 obtain ⟨f_, hf_, ⟨t173, t174, t175⟩, A3, H⟩ := H
 subst hf_
 (try dsimp only at H)
 replace H := bf_ H
 obtain ⟨f_, hf_, ⟨t176, t177, t178⟩, A4, H⟩ := H
 subst hf_
 (try dsimp only at H)
 replace H := bf_ H
 obtain ⟨f_, hf_, ⟨t179, t180, t181⟩, A5, H⟩ := H
 subst hf_
 (try dsimp only at H)
 replace H := ie_ H
 obtain ⟨-, H, c6b0, c6b1⟩ | ⟨c6, H, c6b0, c6b1⟩ := H
 rotate_left
 ·
  replace H := bf_ H
  obtain ⟨f_, hf_, ⟨t189, t190, t191⟩, A27, H⟩ := H
  subst hf_
  (try dsimp only at H)
  replace H := bf_ H
  obtain ⟨f_, hf_, ⟨t192, t193, t194⟩, A28, H⟩ := H
  subst hf_
  (try dsimp only at H)
  simp only [Option.some.injEq, Prod.mk.injEq] at H
  obtain ⟨rfl, rfl, rfl, rfl, rfl, rfl, rfl, rfl, rfl⟩ := H
  go_enter Try.func114, Try.ntmps114
  go_wp2_with (first | (refine gd_ 2 rfl ?_; refine bx_ (N := 2) (cs := #[.int .i64 0, .string (⟨#[]⟩ : ByteArray), .int .i64 0, .int .i64 0, .int .i64 0, .int .i64 0, .int .i64 0]) (t := 27) ?_; intro gb166 hg w29 hbox hb; replace HB := bS_ HB hb; have BK166 := am_ (hbox); have GW166 := am_ ((gK_ hg (qP HK))); have IGW166 := gI_ GW166; have GE166 := am_ ((Nat.le_trans HW0.out (gK_ hg (qP HK)))); have IGE166 := gI_ GE166; replace HK := kL_ HK hb; have NB0_166 := am_ ((nG_ hg (IsS128.lt (IsS128.q HI0)))); have INB0_166 := nI_ NB0_166; have NB166_0 := am_ (((nG_ hg (IsS128.lt (IsS128.q HI0))).symm)); replace HI0 := am_ (IsS128.below (IsS128.q HI0) hb); clear hb hbox hg) | (refine gc_ 61 rfl ?_; refine gl_ (some 5) Try.func61 #[.pointer (some ⟨g, 0, none⟩), .int .i64 9] ?_; (with_reducible refine (spec_l1Below.calls g s0_0 s0_1 s0_2 9 t167 t168 t169 w0 _ (IsS128.q HI0) (qB HB) A2.out).mono ?_); rintro e w30 ⟨rfl, hi, hb, hk⟩; refine ⟨_, rfl, ?_⟩; replace BK166 := kB_ BK166 hk NB166_0; replace HK := kT_ HK hk; replace HB := am_ (hb); replace HI0 := am_ (hi); (try clear hb); (try clear hk); (try clear hi)) | (refine gd_ 8 rfl ?_; refine Kd.R_lit Kd.string _ 9 ?hg (N := 8) ?hd (xs := ([(⟨#[109, 97, 105, 110]⟩ : ByteArray), (⟨#[108, 111, 103, 115]⟩ : ByteArray)] : List ByteArray)) (inner := [.string (⟨#[109, 97, 105, 110]⟩ : ByteArray), .string (⟨#[108, 111, 103, 115]⟩ : ByteArray)]) (ok := fun _ => True) (okp := fun _ => True) ?hr ?hp (fun _ hk => hk) trivial (Below.refl _ _) (Nat.le_refl _) (by simp) ?_; (case hd => rfl); (case hg => rfl); (case hr => first | (go_simp; done) | (go_simp; rfl)); (case hp => exact (Reps.one (show Kd.M Kd.string _ _ _ (⟨#[109, 97, 105, 110]⟩ : ByteArray) [.string (⟨#[109, 97, 105, 110]⟩ : ByteArray)] from rfl) (Reps.one (show Kd.M Kd.string _ _ _ (⟨#[108, 111, 103, 115]⟩ : ByteArray) [.string (⟨#[108, 111, 103, 115]⟩ : ByteArray)] from rfl) (Reps.none _ _)))); intro v171 w31 ho32 hb hg_ hnew_; clear hg_ hnew_; (first | rw [← Ny170.out] at ho32 | (simp only [Int.reduceToNat] at ho32; rw [← Ny170.out] at ho32)); have HO172 := am_ (Kd.R_lower ho32 (keep_size (w := w) (g := g) (row := none) (qP HK))); replace BK166 := bK_ BK166 hb; replace HK := kL_ HK hb; replace HB := bS_ HB hb; replace HI0 := am_ (IsS128.below (IsS128.q HI0) hb); clear hb ho32; obtain ⟨Ao33, co33, eo33⟩ := Kd.R_slice HO172.out; subst eo33) | (refine gc_ 116 rfl ?_; refine gl_ (some 9) Try.func116 #[.pointer (some ⟨g, 0, none⟩), .slice Ao33 y170.length co33] ?_; (with_reducible refine (spec_l1Str.calls g s0_0 t168 t169 _ _ y170 t173 t174 t175 w0 _ (IsS128.q HI0) (qB HB) (rC_ HO172) ?side4 ?side5 A3.out).mono ?_); (case side4 => exact (rL_ HO172)); (case side5 => exact far_slice (IsS128.own_ne HI0.out HO172.out (by decide))); rintro e w34 ⟨rfl, hi, hb, hk⟩; refine ⟨_, rfl, ?_⟩; replace BK166 := kB_ BK166 hk NB166_0; replace HO172 := IsS128.rk HI0 (qR HO172) hk; replace HK := kT_ HK hk; replace HB := am_ (hb); replace HI0 := am_ (hi); (try clear hb); (try clear hk); (try clear hi)) | (refine gc_ 61 rfl ?_; refine gl_ (some 11) Try.func61 #[.pointer (some ⟨g, 0, none⟩), .int .i64 3] ?_; (with_reducible refine (spec_l1Below.calls g s0_0 t174 t175 3 t176 t177 t178 w0 _ (IsS128.q HI0) (qB HB) A4.out).mono ?_); rintro e w35 ⟨rfl, hi, hb, hk⟩; refine ⟨_, rfl, ?_⟩; replace BK166 := kB_ BK166 hk NB166_0; replace HO172 := IsS128.rk HI0 (qR HO172) hk; replace HK := kT_ HK hk; replace HB := am_ (hb); replace HI0 := am_ (hi); (try clear hb); (try clear hk); (try clear hi)) | (refine gc_ 61 rfl ?_; refine gl_ (some 14) Try.func61 #[.pointer (some ⟨g, 0, none⟩), .int .i64 3] ?_; (with_reducible refine (spec_l1Below.calls g s0_0 t177 t178 3 t179 t180 t181 w0 _ (IsS128.q HI0) (qB HB) A5.out).mono ?_); rintro e w36 ⟨rfl, hi, hb, hk⟩; refine ⟨_, rfl, ?_⟩; replace BK166 := kB_ BK166 hk NB166_0; replace HO172 := IsS128.rk HI0 (qR HO172) hk; replace HK := kT_ HK hk; replace HB := am_ (hb); replace HI0 := am_ (hi); (try clear hb); (try clear hk); (try clear hi)) | (refine gd_ 3 rfl ?_; refine bx_ (N := 3) (cs := #[.int .i64 0, .string (⟨#[]⟩ : ByteArray), .int .i64 0, .int .i64 0, .int .i64 0, .int .i64 0, .int .i64 0]) (t := 27) ?_; intro gb182 hg w37 hbox hb; replace HO172 := rB_ HO172 hb; replace HB := bS_ HB hb; have BK182 := am_ (hbox); have GW182 := am_ ((gK_ hg (qP HK))); have IGW182 := gI_ GW182; have GE182 := am_ ((Nat.le_trans HW0.out (gK_ hg (qP HK)))); have IGE182 := gI_ GE182; replace HK := kL_ HK hb; have NB166_182 := am_ ((gN_ hg (qK BK166))); have NB182_166 := am_ ((gM_ hg (qK BK166))); replace BK166 := bK_ BK166 hb; have NB0_182 := am_ ((nG_ hg (IsS128.lt (IsS128.q HI0)))); have INB0_182 := nI_ NB0_182; have NB182_0 := am_ (((nG_ hg (IsS128.lt (IsS128.q HI0))).symm)); replace HI0 := am_ (IsS128.below (IsS128.q HI0) hb); clear hb hbox hg; have hnb38 := nx_ NB182_166; have hnb39 := nx_ NB182_0; (try clear zK182); have zK182 := cf7 BK182.out) | (refine gc_ 61 rfl ?_; refine gl_ (some 24) Try.func61 #[.pointer (some ⟨g, 0, none⟩), .int .i64 9] ?_; (with_reducible refine (spec_l1Below.calls g s0_0 t180 t181 9 t189 t190 t191 w0 _ (IsS128.q HI0) (qB HB) A27.out).mono ?_); rintro e w41 ⟨rfl, hi, hb, hk⟩; refine ⟨_, rfl, ?_⟩; replace BK166 := fk_ BK166 hk NB166_0; replace HO172 := am_ (Kd.R_mono (Kd.R_keep (IsS128.apart (show IsS128 w0 _ g s0_0 t180 t181 from IsS128.q HI0) (fR2_ HO172 BK182) (by decide)) hk (fun _ h => h.2)) (fun _ h => h.1)); replace BK182 := am_ (KeepBut.blk hk (blk_all7 (qK BK182)) NB182_0.out (by simp)); replace HK := kT_ HK hk; replace HB := am_ (hb); replace HI0 := am_ (hi); (try clear hb); (try clear hk); (try clear hi); (try clear zK182); have zK182 := cf7 BK182.out) | (refine gc_ 61 rfl ?_; refine gl_ (some 28) Try.func61 #[.pointer (some ⟨g, 0, none⟩), .int .i64 900] ?_; (with_reducible refine (spec_l1Below.calls g s0_0 t190 t191 900 t192 t193 t194 w0 _ (IsS128.q HI0) (qB HB) A28.out).mono ?_); rintro e w43 ⟨rfl, hi, hb, hk⟩; refine ⟨_, rfl, ?_⟩; replace BK166 := fk_ BK166 hk NB166_0; replace HO172 := am_ (Kd.R_mono (Kd.R_keep (IsS128.apart (show IsS128 w0 _ g s0_0 t190 t191 from IsS128.q HI0) (fR2_ HO172 BK182) (by decide)) hk (fun _ h => h.2)) (fun _ h => h.1)); replace BK182 := am_ (KeepBut.blk hk (g' := gb182) (o := .cells #[.int .i64 (wrap64 (1 + t167)), .string t173, .int .i64 (wrap64 (1 + t176)), .int .i64 t179, .int .i64 0, .int .i64 (wrap64 (1 + t189)), .int .i64 0] 27 (0, 0)) (by (with_reducible repeat (first | refine blk_drewN ?_ _ | refine blk_drew ?_ | refine blk_alloc ?_ _)); refine blk_put (cs := #[.int .i64 (wrap64 (1 + t167)), .string t173, .int .i64 (wrap64 (1 + t176)), .int .i64 t179, .int .i64 0, .int .i64 0, .int .i64 0]) ?_ 5 _ rfl; exact qK BK182) NB182_0.out (by simp)); replace HK := kT_ HK hk; replace HB := am_ (hb); replace HI0 := am_ (hi); (try clear hb); (try clear hk); (try clear hi); (try clear zK182); have zK182 := cf7 BK182.out; have hnb45 := nx_ NB166_0; (try clear zK166); have zK166 := cf7 BK166.out))
  refine bodyPost_ret (results_cell_row rfl _ _ gb166 27 #[.int .i64 (wrap64 (1 + t167)), .string t173, .int .i64 (wrap64 (1 + t176)), .int .i64 t179, .int .i64 0, .int .i64 (wrap64 (1 + t189)), .int .i64 (wrap64 (1 + t192))] (0, 0) _ rfl (by exact blk_all7 (blk_far1 (qK BK166) NB166_182.out)) Try.underlying27 rfl (by kernel_rfl)) rfl ?_
  exact ⟨er_, IsS128.q HI0, qB HB, qP HK⟩
 obtain ⟨y183, hy183⟩ : ∃ y_ : List Int, y_ = (([0, 7, 300, 100000] : List Int)) := ⟨_, rfl⟩
 rw [← hy183] at H
 have Ny183 := am_ hy183
 clear hy183
 replace H := bf_ H
 obtain ⟨f_, hf_, ⟨t186, t187, t188⟩, A7, H⟩ := H
 subst hf_
 (try dsimp only at H)
 simp only [Option.some.injEq, Prod.mk.injEq] at H
 obtain ⟨rfl, rfl, rfl, rfl, rfl, rfl, rfl, rfl, rfl⟩ := H
 go_enter Try.func114, Try.ntmps114
 go_wp2_with (first | (refine gd_ 2 rfl ?_; refine bx_ (N := 2) (cs := #[.int .i64 0, .string (⟨#[]⟩ : ByteArray), .int .i64 0, .int .i64 0, .int .i64 0, .int .i64 0, .int .i64 0]) (t := 27) ?_; intro gb166 hg w8 hbox hb; replace HB := bS_ HB hb; have BK166 := am_ (hbox); have GW166 := am_ ((gK_ hg (qP HK))); have IGW166 := gI_ GW166; have GE166 := am_ ((Nat.le_trans HW0.out (gK_ hg (qP HK)))); have IGE166 := gI_ GE166; replace HK := kL_ HK hb; have NB0_166 := am_ ((nG_ hg (IsS128.lt (IsS128.q HI0)))); have INB0_166 := nI_ NB0_166; have NB166_0 := am_ (((nG_ hg (IsS128.lt (IsS128.q HI0))).symm)); replace HI0 := am_ (IsS128.below (IsS128.q HI0) hb); clear hb hbox hg) | (refine gc_ 61 rfl ?_; refine gl_ (some 5) Try.func61 #[.pointer (some ⟨g, 0, none⟩), .int .i64 9] ?_; (with_reducible refine (spec_l1Below.calls g s0_0 s0_1 s0_2 9 t167 t168 t169 w0 _ (IsS128.q HI0) (qB HB) A2.out).mono ?_); rintro e w9 ⟨rfl, hi, hb, hk⟩; refine ⟨_, rfl, ?_⟩; replace BK166 := kB_ BK166 hk NB166_0; replace HK := kT_ HK hk; replace HB := am_ (hb); replace HI0 := am_ (hi); (try clear hb); (try clear hk); (try clear hi)) | (refine gd_ 8 rfl ?_; refine Kd.R_lit Kd.string _ 9 ?hg (N := 8) ?hd (xs := ([(⟨#[109, 97, 105, 110]⟩ : ByteArray), (⟨#[108, 111, 103, 115]⟩ : ByteArray)] : List ByteArray)) (inner := [.string (⟨#[109, 97, 105, 110]⟩ : ByteArray), .string (⟨#[108, 111, 103, 115]⟩ : ByteArray)]) (ok := fun _ => True) (okp := fun _ => True) ?hr ?hp (fun _ hk => hk) trivial (Below.refl _ _) (Nat.le_refl _) (by simp) ?_; (case hd => rfl); (case hg => rfl); (case hr => first | (go_simp; done) | (go_simp; rfl)); (case hp => exact (Reps.one (show Kd.M Kd.string _ _ _ (⟨#[109, 97, 105, 110]⟩ : ByteArray) [.string (⟨#[109, 97, 105, 110]⟩ : ByteArray)] from rfl) (Reps.one (show Kd.M Kd.string _ _ _ (⟨#[108, 111, 103, 115]⟩ : ByteArray) [.string (⟨#[108, 111, 103, 115]⟩ : ByteArray)] from rfl) (Reps.none _ _)))); intro v171 w10 ho11 hb hg_ hnew_; clear hg_ hnew_; (first | rw [← Ny170.out] at ho11 | (simp only [Int.reduceToNat] at ho11; rw [← Ny170.out] at ho11)); have HO172 := am_ (Kd.R_lower ho11 (keep_size (w := w) (g := g) (row := none) (qP HK))); replace BK166 := bK_ BK166 hb; replace HK := kL_ HK hb; replace HB := bS_ HB hb; replace HI0 := am_ (IsS128.below (IsS128.q HI0) hb); clear hb ho11; obtain ⟨Ao12, co12, eo12⟩ := Kd.R_slice HO172.out; subst eo12) | (refine gc_ 116 rfl ?_; refine gl_ (some 9) Try.func116 #[.pointer (some ⟨g, 0, none⟩), .slice Ao12 y170.length co12] ?_; (with_reducible refine (spec_l1Str.calls g s0_0 t168 t169 _ _ y170 t173 t174 t175 w0 _ (IsS128.q HI0) (qB HB) (rC_ HO172) ?side4 ?side5 A3.out).mono ?_); (case side4 => exact (rL_ HO172)); (case side5 => exact far_slice (IsS128.own_ne HI0.out HO172.out (by decide))); rintro e w13 ⟨rfl, hi, hb, hk⟩; refine ⟨_, rfl, ?_⟩; replace BK166 := kB_ BK166 hk NB166_0; replace HO172 := IsS128.rk HI0 (qR HO172) hk; replace HK := kT_ HK hk; replace HB := am_ (hb); replace HI0 := am_ (hi); (try clear hb); (try clear hk); (try clear hi)) | (refine gc_ 61 rfl ?_; refine gl_ (some 11) Try.func61 #[.pointer (some ⟨g, 0, none⟩), .int .i64 3] ?_; (with_reducible refine (spec_l1Below.calls g s0_0 t174 t175 3 t176 t177 t178 w0 _ (IsS128.q HI0) (qB HB) A4.out).mono ?_); rintro e w14 ⟨rfl, hi, hb, hk⟩; refine ⟨_, rfl, ?_⟩; replace BK166 := kB_ BK166 hk NB166_0; replace HO172 := IsS128.rk HI0 (qR HO172) hk; replace HK := kT_ HK hk; replace HB := am_ (hb); replace HI0 := am_ (hi); (try clear hb); (try clear hk); (try clear hi)) | (refine gc_ 61 rfl ?_; refine gl_ (some 14) Try.func61 #[.pointer (some ⟨g, 0, none⟩), .int .i64 3] ?_; (with_reducible refine (spec_l1Below.calls g s0_0 t177 t178 3 t179 t180 t181 w0 _ (IsS128.q HI0) (qB HB) A5.out).mono ?_); rintro e w15 ⟨rfl, hi, hb, hk⟩; refine ⟨_, rfl, ?_⟩; replace BK166 := kB_ BK166 hk NB166_0; replace HO172 := IsS128.rk HI0 (qR HO172) hk; replace HK := kT_ HK hk; replace HB := am_ (hb); replace HI0 := am_ (hi); (try clear hb); (try clear hk); (try clear hi)) | (refine gd_ 3 rfl ?_; refine bx_ (N := 3) (cs := #[.int .i64 0, .string (⟨#[]⟩ : ByteArray), .int .i64 0, .int .i64 0, .int .i64 0, .int .i64 0, .int .i64 0]) (t := 27) ?_; intro gb182 hg w16 hbox hb; replace HO172 := rB_ HO172 hb; replace HB := bS_ HB hb; have BK182 := am_ (hbox); have GW182 := am_ ((gK_ hg (qP HK))); have IGW182 := gI_ GW182; have GE182 := am_ ((Nat.le_trans HW0.out (gK_ hg (qP HK)))); have IGE182 := gI_ GE182; replace HK := kL_ HK hb; have NB166_182 := am_ ((gN_ hg (qK BK166))); have NB182_166 := am_ ((gM_ hg (qK BK166))); replace BK166 := bK_ BK166 hb; have NB0_182 := am_ ((nG_ hg (IsS128.lt (IsS128.q HI0)))); have INB0_182 := nI_ NB0_182; have NB182_0 := am_ (((nG_ hg (IsS128.lt (IsS128.q HI0))).symm)); replace HI0 := am_ (IsS128.below (IsS128.q HI0) hb); clear hb hbox hg; have hnb17 := nx_ NB182_166; have hnb18 := nx_ NB182_0; (try clear zK182); have zK182 := cf7 BK182.out) | (refine gd_ 20 rfl ?_; refine Kd.R_lit (Kd.int .i64) _ 3 ?hg (N := 20) ?hd (xs := ([0, 7, 300, 100000] : List Int)) (inner := [.int .i64 0, .int .i64 7, .int .i64 300, .int .i64 100000]) (ok := fun _ => True) (okp := fun _ => True) ?hr ?hp (fun _ hk => hk) trivial (Below.refl _ _) (Nat.le_refl _) (by simp) ?_; (case hd => rfl); (case hg => rfl); (case hr => first | (go_simp; done) | (go_simp; rfl)); (case hp => exact (Reps.one (show Kd.M (Kd.int .i64) _ _ _ 0 [.int .i64 0] from rfl) (Reps.one (show Kd.M (Kd.int .i64) _ _ _ 7 [.int .i64 7] from rfl) (Reps.one (show Kd.M (Kd.int .i64) _ _ _ 300 [.int .i64 300] from rfl) (Reps.one (show Kd.M (Kd.int .i64) _ _ _ 100000 [.int .i64 100000] from rfl) (Reps.none _ _)))))); intro v184 w20 ho21 hb hg_ hnew_; clear hg_ hnew_; (first | rw [← Ny183.out] at ho21 | (simp only [Int.reduceToNat] at ho21; rw [← Ny183.out] at ho21)); replace HO172 := am_ (Kd.R_below (fR2_ HO172 BK182) hb); have HO185 := am_ (Kd.R_lower ho21 (keep_size (w := w) (g := g) (row := none) (qP HK))); replace BK166 := fb_ BK166 hb; replace BK182 := am_ (blk_below (blk_all7 (qK BK182)) hb); replace HK := kL_ HK hb; replace HB := bS_ HB hb; replace HI0 := am_ (IsS128.below (show IsS128 w0 (((((((w16.setCell ⟨gb182, 0, none⟩ (.int .i64 (wrap64 (1 + t167)))).setCell ⟨gb182, 1, none⟩ (.string t173)).setCell ⟨gb182, 2, none⟩ (.int .i64 (wrap64 (1 + t176)))).setCell ⟨gb182, 3, none⟩ (.int .i64 t179)).setCell ⟨gb182, 4, none⟩ (.int .i64 0)).setCell ⟨gb182, 5, none⟩ (.int .i64 0)).setCell ⟨gb182, 6, none⟩ (.int .i64 0)) g s0_0 t180 t181 from IsS128.q HI0) hb); clear hb ho21; obtain ⟨Ao22, co22, eo22⟩ := Kd.R_slice HO185.out; subst eo22) | (refine gc_ 62 rfl ?_; refine gl_ (some 21) Try.func62 #[.pointer (some ⟨g, 0, none⟩), .slice Ao22 y183.length co22] ?_; (with_reducible refine (spec_l1Int.calls g s0_0 t180 t181 _ _ y183 t186 t187 t188 w0 _ (IsS128.q HI0) (qB HB) (rC_ HO185) ?side4 ?side5 A7.out).mono ?_); (case side4 => exact (rL_ HO185)); (case side5 => exact far_slice (IsS128.own_ne HI0.out HO185.out (by decide))); rintro e w23 ⟨rfl, hi, hb, hk⟩; refine ⟨_, rfl, ?_⟩; replace BK166 := kB_ BK166 hk NB166_0; replace HO172 := IsS128.rk HI0 (qR HO172) hk; replace BK182 := kB_ BK182 hk NB182_0; replace HO185 := IsS128.rk HI0 (qR HO185) hk; replace HK := kT_ HK hk; replace HB := am_ (hb); replace HI0 := am_ (hi); (try clear hb); (try clear hk); (try clear hi); (try clear zK182); have zK182 := cf7 BK182.out; have hnb25 := nx_ NB166_0; (try clear zK166); have zK166 := cf7 BK166.out))
 refine bodyPost_ret (results_cell_row rfl _ _ gb166 27 #[.int .i64 (wrap64 (1 + t167)), .string t173, .int .i64 (wrap64 (1 + t176)), .int .i64 t179, .int .i64 t186, .int .i64 0, .int .i64 0] (0, 0) _ rfl (by exact blk_all7 (blk_far1 (qK BK166) NB166_182.out)) Try.underlying27 rfl (by kernel_rfl)) rfl ?_
 exact ⟨er_, IsS128.q HI0, qB HB, qP HK⟩

/-! ### spec_l9Item: function 60 -/
def spec_l9Item.f (k : Nat) (s0_0 : List Int) (s0_1 : Int) (s0_2 : Int) : Option (Int × Int × ByteArray × Int × Int × Int × ByteArray × Int × Int × Int × ByteArray × Int × Int × Int × Int × Int × Int × Int) := (spec_l1Once.f s0_0 s0_1 s0_2 2).bind fun bt196 => (if bt196.1 = true then ((spec_l9Asker.f k s0_0 bt196.2.1 bt196.2.2).bind fun bt199 => (some (1, bt199.1, bt199.2.1, bt199.2.2.1, bt199.2.2.2.1, bt199.2.2.2.2.1, bt199.2.2.2.2.2.1, bt199.2.2.2.2.2.2.1, bt199.2.2.2.2.2.2.2.1, 0, (⟨#[]⟩ : ByteArray), 0, 0, 0, 0, 0, bt199.2.2.2.2.2.2.2.2.1, bt199.2.2.2.2.2.2.2.2.2))) else ((spec_l9Line.f s0_0 bt196.2.1 bt196.2.2).bind fun bt209 => (some (2, 0, (⟨#[]⟩ : ByteArray), 0, 0, 0, (⟨#[]⟩ : ByteArray), 0, 0, bt209.1, bt209.2.1, bt209.2.2.1, bt209.2.2.2.1, bt209.2.2.2.2.1, bt209.2.2.2.2.2.1, bt209.2.2.2.2.2.2.1, bt209.2.2.2.2.2.2.2.1, bt209.2.2.2.2.2.2.2.2))))
theorem spec_l9Item.mono : ∀ a0 a1 a2 k, LeO (spec_l9Item.f k a0 a1 a2) (spec_l9Item.f (k + 1) a0 a1 a2) := by
 intro a0 a1 a2 k
 unfold spec_l9Item.f
 have m0 := @spec_l9Asker.mono; exact mo_
set_option maxHeartbeats 8000000 in
set_option maxRecDepth 100000 in
theorem spec_l9Item.calls (k : Nat) (g : Nat) (s0_0 : List Int) (s0_1 : Int) (s0_2 : Int) (r1 : Int) (r2 : Int) (r3 : ByteArray) (r4 : Int) (r5 : Int) (r6 : Int) (r7 : ByteArray) (r8 : Int) (r9 : Int) (r10 : Int) (r11 : ByteArray) (r12 : Int) (r13 : Int) (r14 : Int) (r15 : Int) (r16 : Int) (r17 : Int) (r18 : Int) (w0 w : World) (hI : IsS128 w0 w g s0_0 s0_1 s0_2) (hB : Below w0.heap.size w0 w) (h : spec_l9Item.f k s0_0 s0_1 s0_2 = some (r1, r2, r3, r4, r5, r6, r7, r8, r9, r10, r11, r12, r13, r14, r15, r16, r17, r18)) :
  Calls Try.prog 60 #[.pointer (some ⟨g, 0, none⟩)] w fun e w' => e = .returned (.agg #[.int .i64 r1, .int .i64 r2, .string r3, .int .i64 r4, .int .i64 r5, .int .i64 r6, .string r7, .int .i64 r8, .int .i64 r9, .int .i64 r10, .string r11, .int .i64 r12, .int .i64 r13, .int .i64 r14, .int .i64 r15, .int .i64 r16]) ∧ IsS128 w0 w' g s0_0 r17 r18 ∧ Below w0.heap.size w0 w' ∧ KeepBut w w' g none := by
 have hu29 := Try.underlying29
 have HI0 := am_ hI
 have IGHI0 := iG_ HI0.out.ge
 have HK := Aside0.mk (KeepBut.refl w g none)
 have HL := Aside0.mk hB.size
 clear hI
 have HW0 := Aside0.mk hB.size
 have HB := am_ hB
 clear hB
 have H := h
 unfold spec_l9Item.f at H
 clear h
 replace H := bf_ H
 obtain ⟨f_, hf_, ⟨t196, t197, t198⟩, A2, H⟩ := H
 subst hf_
 (try dsimp only at H)
 by_cases c3 : t196 = true
 ·
  subst c3
  rw [if_pos rfl] at H
  replace H := bf_ H
  obtain ⟨f_, hf_, ⟨t199, t200, t201, t202, t203, t204, t205, t206, t207, t208⟩, A4, H⟩ := H
  subst hf_
  (try dsimp only at H)
  simp only [Option.some.injEq, Prod.mk.injEq] at H
  obtain ⟨rfl, rfl, rfl, rfl, rfl, rfl, rfl, rfl, rfl, rfl, rfl, rfl, rfl, rfl, rfl, rfl, rfl, rfl⟩ := H
  go_enter Try.func60, Try.ntmps60
  go_wp2_with (first | (refine gd_ 2 rfl ?_; refine bx_ (N := 2) (cs := #[.int .i64 0, .int .i64 0, .string (⟨#[]⟩ : ByteArray), .int .i64 0, .int .i64 0, .int .i64 0, .string (⟨#[]⟩ : ByteArray), .int .i64 0, .int .i64 0, .int .i64 0, .string (⟨#[]⟩ : ByteArray), .int .i64 0, .int .i64 0, .int .i64 0, .int .i64 0, .int .i64 0]) (t := 29) ?_; intro gb195 hg w5 hbox hb; replace HB := bS_ HB hb; have BK195 := am_ (hbox); have GW195 := am_ ((gK_ hg (qP HK))); have IGW195 := gI_ GW195; have GE195 := am_ ((Nat.le_trans HW0.out (gK_ hg (qP HK)))); have IGE195 := gI_ GE195; replace HK := kL_ HK hb; have NB0_195 := am_ ((nG_ hg (IsS128.lt (IsS128.q HI0)))); have INB0_195 := nI_ NB0_195; have NB195_0 := am_ (((nG_ hg (IsS128.lt (IsS128.q HI0))).symm)); replace HI0 := am_ (IsS128.below (IsS128.q HI0) hb); clear hb hbox hg) | (refine gc_ 110 rfl ?_; refine gl_ (some 4) Try.func110 #[.pointer (some ⟨g, 0, none⟩), .int .i64 2] ?_; (with_reducible refine (spec_l1Once.calls g s0_0 s0_1 s0_2 2 true t197 t198 w0 _ (IsS128.q HI0) (qB HB) A2.out).mono ?_); rintro e w6 ⟨rfl, hi, hb, hk⟩; refine ⟨_, rfl, ?_⟩; replace BK195 := kB_ BK195 hk NB195_0; replace HK := kT_ HK hk; replace HB := am_ (hb); replace HI0 := am_ (hi); (try clear hb); (try clear hk); (try clear hi)) | (refine gc_ 113 rfl ?_; refine gl_ (some 6) Try.func113 #[.pointer (some ⟨g, 0, none⟩)] ?_; (with_reducible refine (spec_l9Asker.calls k g s0_0 t197 t198 t199 t200 t201 t202 t203 t204 t205 t206 t207 t208 w0 _ (IsS128.q HI0) (qB HB) A4.out).mono ?_); rintro e w7 ⟨rfl, hi, hb, hk⟩; refine ⟨_, rfl, ?_⟩; replace BK195 := kB_ BK195 hk NB195_0; replace HK := kT_ HK hk; replace HB := am_ (hb); replace HI0 := am_ (hi); (try clear hb); (try clear hk); (try clear hi); have hnb8 := nx_ NB195_0; (try clear zK195); have zK195 := cf16 BK195.out) | ((with_reducible refine gate_store (t := 29) (p := 2) rfl ?_); refine store_evs (t := 29) (p := 2) (j := 0) (cs := [.int .i64 1, .int .i64 t199, .string t200, .int .i64 t201, .int .i64 t202, .int .i64 t203, .string t204, .int .i64 t205, .int .i64 t206, .int .i64 0, .string (⟨#[]⟩ : ByteArray), .int .i64 0, .int .i64 0, .int .i64 0, .int .i64 0, .int .i64 0]) (qK BK195) ?_; intro w10 hw; replace HI0 := IsS128.s_ hw HI0 NB0_195; replace HK := sH_ hw HK; replace HB := sB_ hw HB; replace BK195 := sW_ hw BK195; clear hw))
  refine bodyPost_ret (results_cell_row rfl _ _ gb195 29 #[.int .i64 1, .int .i64 t199, .string t200, .int .i64 t201, .int .i64 t202, .int .i64 t203, .string t204, .int .i64 t205, .int .i64 t206, .int .i64 0, .string (⟨#[]⟩ : ByteArray), .int .i64 0, .int .i64 0, .int .i64 0, .int .i64 0, .int .i64 0] (0, 0) _ rfl (qK BK195) Try.underlying29 rfl (by kernel_rfl)) rfl ?_
  exact ⟨er_, IsS128.q HI0, qB HB, qP HK⟩
 replace c3 := nf_ c3
 subst c3
 rw [if_neg (show ¬ (false = true) by decide)] at H
 replace H := bf_ H
 obtain ⟨f_, hf_, ⟨t209, t210, t211, t212, t213, t214, t215, t216, t217⟩, A11, H⟩ := H
 subst hf_
 (try dsimp only at H)
 simp only [Option.some.injEq, Prod.mk.injEq] at H
 obtain ⟨rfl, rfl, rfl, rfl, rfl, rfl, rfl, rfl, rfl, rfl, rfl, rfl, rfl, rfl, rfl, rfl, rfl, rfl⟩ := H
 go_enter Try.func60, Try.ntmps60
 go_wp2_with (first | (refine gd_ 2 rfl ?_; refine bx_ (N := 2) (cs := #[.int .i64 0, .int .i64 0, .string (⟨#[]⟩ : ByteArray), .int .i64 0, .int .i64 0, .int .i64 0, .string (⟨#[]⟩ : ByteArray), .int .i64 0, .int .i64 0, .int .i64 0, .string (⟨#[]⟩ : ByteArray), .int .i64 0, .int .i64 0, .int .i64 0, .int .i64 0, .int .i64 0]) (t := 29) ?_; intro gb195 hg w12 hbox hb; replace HB := bS_ HB hb; have BK195 := am_ (hbox); have GW195 := am_ ((gK_ hg (qP HK))); have IGW195 := gI_ GW195; have GE195 := am_ ((Nat.le_trans HW0.out (gK_ hg (qP HK)))); have IGE195 := gI_ GE195; replace HK := kL_ HK hb; have NB0_195 := am_ ((nG_ hg (IsS128.lt (IsS128.q HI0)))); have INB0_195 := nI_ NB0_195; have NB195_0 := am_ (((nG_ hg (IsS128.lt (IsS128.q HI0))).symm)); replace HI0 := am_ (IsS128.below (IsS128.q HI0) hb); clear hb hbox hg) | (refine gc_ 110 rfl ?_; refine gl_ (some 4) Try.func110 #[.pointer (some ⟨g, 0, none⟩), .int .i64 2] ?_; (with_reducible refine (spec_l1Once.calls g s0_0 s0_1 s0_2 2 false t197 t198 w0 _ (IsS128.q HI0) (qB HB) A2.out).mono ?_); rintro e w13 ⟨rfl, hi, hb, hk⟩; refine ⟨_, rfl, ?_⟩; replace BK195 := kB_ BK195 hk NB195_0; replace HK := kT_ HK hk; replace HB := am_ (hb); replace HI0 := am_ (hi); (try clear hb); (try clear hk); (try clear hi)) | (refine gc_ 114 rfl ?_; refine gl_ (some 9) Try.func114 #[.pointer (some ⟨g, 0, none⟩)] ?_; (with_reducible refine (spec_l9Line.calls g s0_0 t197 t198 t209 t210 t211 t212 t213 t214 t215 t216 t217 w0 _ (IsS128.q HI0) (qB HB) A11.out).mono ?_); rintro e w14 ⟨rfl, hi, hb, hk⟩; refine ⟨_, rfl, ?_⟩; replace BK195 := kB_ BK195 hk NB195_0; replace HK := kT_ HK hk; replace HB := am_ (hb); replace HI0 := am_ (hi); (try clear hb); (try clear hk); (try clear hi); have hnb15 := nx_ NB195_0; (try clear zK195); have zK195 := cf16 BK195.out) | ((with_reducible refine gate_store (t := 29) (p := 2) rfl ?_); refine store_evs (t := 29) (p := 2) (j := 0) (cs := [.int .i64 2, .int .i64 0, .string (⟨#[]⟩ : ByteArray), .int .i64 0, .int .i64 0, .int .i64 0, .string (⟨#[]⟩ : ByteArray), .int .i64 0, .int .i64 0, .int .i64 t209, .string t210, .int .i64 t211, .int .i64 t212, .int .i64 t213, .int .i64 t214, .int .i64 t215]) (qK BK195) ?_; intro w17 hw; replace HI0 := IsS128.s_ hw HI0 NB0_195; replace HK := sH_ hw HK; replace HB := sB_ hw HB; replace BK195 := sW_ hw BK195; clear hw))
 refine bodyPost_ret (results_cell_row rfl _ _ gb195 29 #[.int .i64 2, .int .i64 0, .string (⟨#[]⟩ : ByteArray), .int .i64 0, .int .i64 0, .int .i64 0, .string (⟨#[]⟩ : ByteArray), .int .i64 0, .int .i64 0, .int .i64 t209, .string t210, .int .i64 t211, .int .i64 t212, .int .i64 t213, .int .i64 t214, .int .i64 t215] (0, 0) _ rfl (qK BK195) Try.underlying29 rfl (by kernel_rfl)) rfl ?_
 exact ⟨er_, IsS128.q HI0, qB HB, qP HK⟩

end Go.Proofs.Ytiffahfpfgnjnaa.PFnCtls
