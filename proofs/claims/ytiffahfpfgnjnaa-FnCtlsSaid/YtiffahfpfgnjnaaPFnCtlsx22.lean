-- Written by a program of this session (myprint.py, over the kit's print): contracts of FnCtls
import Derived.Test.YtiffahfpfgnjnaaPFnCtlsx13
import Derived.Test.YtiffahfpfgnjnaaPFnCtlsx21
namespace Go.Proofs.Ytiffahfpfgnjnaa.PFnCtls
open Go.RowKit Go.Proofs.YtiffahfpfgnjnaaW.PrintWords Go.Proofs.YtiffahfpfgnjnaaW.PrintLast Go.Proofs.YtiffahfpfgnjnaaW.PrintMore Go.Proofs.YtiffahfpfgnjnaaV
attribute [local go_sem] max2_int min2_int max_two min_two max_three min_three max_four min_four
set_option linter.unusedVariables false
set_option linter.unusedSimpArgs false

/-! ### impl_GetCtl: function 54 -/
def impl_GetCtl.l0 : Nat → List Int → Int → Int → List Int → Int → Int → Int → Int → Int → Int → Bool → Int → List (S29) → Option (Int × Int × Int × Int × Int × Bool × Int × (List (S29)) × Bool)
 | 0, _, _, _, _, _, _, _, _, _, _, _, _, _ => none
 | k + 1, x0, x30, x31, x896000, x896001, x911000, x911001, x911002, x911003, x911004, x911005, x911006, x911007 => if x31 < x30 then ((impl_reader_one.f x896000 x896001).bind fun bt913 => (if (wrap64 (bt913.2 + bt913.1)) > (x0.length : Int) then (some (0, 0, 0, 0, 0, false, 0, ([] : List (S29)), false)) else (if 0 ≤ bt913.2 then (if bt913.2 ≤ (wrap64 (bt913.2 + bt913.1)) then (if (wrap64 (bt913.2 + bt913.1)) ≤ (x0.length : Int) then ((impl_GetItem.f k ((x0.take ((wrap64 (bt913.2 + bt913.1)) : Int).toNat).drop (bt913.2 : Int).toNat)).bind fun bt916 => (if x911007.length < 925904528653 then (impl_GetCtl.l0 k x0 x30 (wrap64 (x31 + 1)) x896000 (wrap64 (bt913.2 + bt913.1)) x911000 x911001 x911002 x911003 x911004 x911005 x911006 (x911007 ++ [(⟨bt916.1, (⟨bt916.2.1, bt916.2.2.1, bt916.2.2.2.1, bt916.2.2.2.2.1, bt916.2.2.2.2.2.1, bt916.2.2.2.2.2.2.1, bt916.2.2.2.2.2.2.2.1, bt916.2.2.2.2.2.2.2.2.1⟩ : S25), (⟨bt916.2.2.2.2.2.2.2.2.2.1, bt916.2.2.2.2.2.2.2.2.2.2.1, bt916.2.2.2.2.2.2.2.2.2.2.2.1, bt916.2.2.2.2.2.2.2.2.2.2.2.2.1, bt916.2.2.2.2.2.2.2.2.2.2.2.2.2.1, bt916.2.2.2.2.2.2.2.2.2.2.2.2.2.2.1, bt916.2.2.2.2.2.2.2.2.2.2.2.2.2.2.2.1⟩ : S27)⟩ : S29)])) else (none))) else (none)) else (none)) else (none)))) else (if (x0.length : Int) = 0 then (some (0, 0, 0, 0, 0, false, 0, ([] : List (S29)), false)) else ((impl_PutCtl.f k x911000 x911001 x911002 x911003 x911004 x911005 x911006 x911007).bind fun t937 => ((bytes_Equal.f t937 x0).bind fun t940 => (if t940 = true then (some (x911000, x911001, x911002, x911003, x911004, x911005, x911006, x911007, true)) else (some (0, 0, 0, 0, 0, false, 0, ([] : List (S29)), false))))))
def impl_GetCtl.f (k : Nat) (l0 : List Int) : Option (Int × Int × Int × Int × Int × Bool × Int × (List (S29)) × Bool) := (impl_reader_one.f l0 0).bind fun bt896 => ((impl_reader_one.f l0 bt896.2).bind fun bt898 => ((impl_reader_word.f l0 bt898.2).bind fun bt900 => ((impl_reader_one.f l0 bt900.2).bind fun bt902 => ((impl_reader_one.f l0 bt902.2).bind fun bt904 => ((impl_reader_one.f l0 bt904.2).bind fun bt906 => ((impl_reader_word.f l0 bt906.2).bind fun bt908 => ((impl_reader_one.f l0 bt908.2).bind fun bt911 => (impl_GetCtl.l0 k l0 (mn bt911.1 2) 0 l0 bt911.2 bt896.1 bt898.1 bt900.1 bt902.1 bt904.1 (bt906.1 == 1) bt908.1 ([] : List (S29))))))))))
theorem impl_GetCtl.mono_l : ∀ k, (∀ y0 y1 y2 y3 y4 y5 y6 y7 y8 y9 y10 y11 y12, LeO (impl_GetCtl.l0 k y0 y1 y2 y3 y4 y5 y6 y7 y8 y9 y10 y11 y12) (impl_GetCtl.l0 (k + 1) y0 y1 y2 y3 y4 y5 y6 y7 y8 y9 y10 y11 y12))
 | 0 => fun _ _ _ _ _ _ _ _ _ _ _ _ _ r h => by simp [impl_GetCtl.l0] at h
 | k + 1 => by
  have ih0 := impl_GetCtl.mono_l k
  ·
   intro y0 y1 y2 y3 y4 y5 y6 y7 y8 y9 y10 y11 y12
   unfold impl_GetCtl.l0
   have m0 := @impl_GetItem.mono; have m1 := @impl_PutCtl.mono; exact mo_
theorem impl_GetCtl.mono : ∀ a0 k, LeO (impl_GetCtl.f k a0) (impl_GetCtl.f (k + 1) a0) := by
 intro a0 k
 have ih0 := impl_GetCtl.mono_l k
 unfold impl_GetCtl.f
 have m0 := @impl_GetItem.mono; have m1 := @impl_PutCtl.mono; exact mo_
def impl_GetCtl.T8 : Bool × List (List Nat × List Nat) := (true, [([], []), ([], []), ([1], [1]), ([2], [2]), ([3], [3]), ([], []), ([5], [5]), ([6], [6]), ([7], [7]), ([], []), ([8, 9], [8, 9]), ([0, 4, 10], [0, 4, 10]), ([11], [11]), ([12], [12]), ([13], [13]), ([13], [13]), ([], []), ([16, 14, 12, 0, 1, 2, 3, 4, 5, 6, 7, 8, 9, 10, 11, 12, 13, 14, 16], [14, 16]), ([15, 17, 0, 1, 2, 3, 4, 5, 6, 7, 8, 9, 10, 11, 12, 13, 14, 15, 16, 17], [15])])
def impl_GetCtl.B8 : List Nat := [0, 0, 2, 6, 14, 0, 32, 96, 224, 0, 992, 2047, 4095, 8191, 16383, 16383, 0, 98303, 262143]
theorem impl_GetCtl.tab8 : rtab .any (opsOf Try.f54 8) = impl_GetCtl.T8 := by kernel_rfl
theorem impl_GetCtl.bits8 : waitsOk impl_GetCtl.T8.2 impl_GetCtl.B8 = true := by kernel_rfl
set_option maxHeartbeats 8000000 in
set_option maxRecDepth 100000 in
theorem impl_GetCtl.calls (k : Nat) (A0 : Option Addr) (c0 : Nat) (l0 : List Int) (r1 : Int) (r2 : Int) (r3 : Int) (r4 : Int) (r5 : Int) (r6 : Bool) (r7 : Int) (r8 : List (S29)) (r9 : Bool) (w : World) (hr0 : Kd.C (Kd.int .u8) w A0 l0.length l0) (hc0 : l0.length ≤ c0) (h : impl_GetCtl.f k l0 = some (r1, r2, r3, r4, r5, r6, r7, r8, r9)) :
  Calls Try.prog 54 #[.slice A0 l0.length c0] w fun e w' => ∃ v7_ : Value, e = .returned (.tuple #[.agg #[.int .i64 r1, .int .i64 r2, .int .i64 r3, .int .i64 r4, .int .i64 r5, .bool r6, .int .i64 r7, v7_], .bool r9]) ∧ Kd.R k29 29 w' w.heap.size (fun _ => True) v7_ r8 ∧ Below w.heap.size w w' := by
 have hu75 := Try.underlying75
 have hu100 := Try.underlying100
 have hu29 := Try.underlying29
 have HR0 := am_ hr0
 have HC0 := am_ hc0
 clear hr0 hc0
 have HB := Aside0.mk (Below.refl w.heap.size w)
 have H := h
 unfold impl_GetCtl.f at H
 clear h
 replace H := bd_ H
 obtain ⟨⟨t896, t897⟩, A2, H⟩ := H
 (try dsimp only at H)
 replace H := bd_ H
 obtain ⟨⟨t898, t899⟩, A3, H⟩ := H
 (try dsimp only at H)
 replace H := bd_ H
 obtain ⟨⟨t900, t901⟩, A4, H⟩ := H
 (try dsimp only at H)
 replace H := bd_ H
 obtain ⟨⟨t902, t903⟩, A5, H⟩ := H
 (try dsimp only at H)
 replace H := bd_ H
 obtain ⟨⟨t904, t905⟩, A6, H⟩ := H
 (try dsimp only at H)
 replace H := bd_ H
 obtain ⟨⟨t906, t907⟩, A7, H⟩ := H
 (try dsimp only at H)
 replace H := bd_ H
 obtain ⟨⟨t908, t909⟩, A8, H⟩ := H
 (try dsimp only at H)
 replace H := bd_ H
 obtain ⟨⟨t911, t912⟩, A9, H⟩ := H
 (try dsimp only at H)
 obtain ⟨ji10, hji10⟩ : ∃ j_ : Int, (mn t911 2) = j_ := ⟨_, rfl⟩
 replace H : (impl_GetCtl.l0 k l0 ji10 0 l0 t912 t896 t898 t900 t902 t904 (t906 == 1) t908 ([] : List (S29))) = some (r1, r2, r3, r4, r5, r6, r7, r8, r9) := by first | (rw [hji10] at H; exact H) | (simp only [hji10] at H ⊢; exact H)
 (try rw [hji10] at A2)
 (try rw [hji10] at A3)
 (try rw [hji10] at A4)
 (try rw [hji10] at A5)
 (try rw [hji10] at A6)
 (try rw [hji10] at A7)
 (try rw [hji10] at A8)
 (try rw [hji10] at A9)
 (try (have hji10h : ji10 ≤ 2 := by (rw [← hji10]; unfold mn; (repeat' split) <;> omega)))
 (try (have hji10g : ji10 ≤ 64 := by omega))
 have hji10_ : (if 2 < t911 then 2 else t911) = ji10 := hji10
 have H' := Aside0.mk H
 clear H
 go_enter Try.func54, Try.ntmps54
 go_wp2_with (first | (refine gd_ 2 rfl ?_; refine bx_ (N := 2) (cs := #[.int .i64 0, .int .i64 0, .int .i64 0, .int .i64 0, .int .i64 0, .bool false, .int .i64 0, .slice none 0 0]) (t := 75) ?_; intro gb894 hg w11 hbox hb; have BK894 := am_ (hbox); have GW894 := gA_ hg HB; have GE894 := GW894; have IGE894 := gI_ GE894; replace HB := bS_ HB hb; clear hb hbox hg) | (refine gd_ 11 rfl ?_; refine bx_ (N := 11) (cs := #[.slice A0 l0.length c0, .int .i64 0]) (t := 100) ?_; intro gb895 hg w12 hbox hb; have BK895 := am_ (hbox); have GW895 := gA_ hg HB; have GE895 := GW895; have IGE895 := gI_ GE895; replace HB := bS_ HB hb; have NB894_895 := am_ ((gN_ hg (qK BK894))); have NB895_894 := am_ ((gM_ hg (qK BK894))); replace BK894 := bK_ BK894 hb; clear hb hbox hg; have HI895 := Aside0.mk (show IsS100 w _ gb895 l0 0 from ⟨_, _, BK895.out, GE895.out, ⟨HR0.out, HC0.out⟩⟩); have IGHI895 := iG_ HI895.out.ge) | (refine gc_ 69 rfl ?_; refine gl_ (some 13) Try.func69 #[.pointer (some ⟨gb895, 0, none⟩)] ?_; (with_reducible refine (impl_reader_one.calls gb895 l0 0 t896 t897 w _ (IsS100.qz HI895) (qB HB) A2.out).mono ?_); rintro e w13 ⟨rfl, hi, hb, hk⟩; refine ⟨_, rfl, ?_⟩; replace BK894 := kB_ BK894 hk NB894_895; replace HB := am_ (hb); replace HI895 := am_ (hi); (try clear hb); (try clear hk); (try clear hi)) | (refine gc_ 69 rfl ?_; refine gl_ (some 15) Try.func69 #[.pointer (some ⟨gb895, 0, none⟩)] ?_; (with_reducible refine (impl_reader_one.calls gb895 l0 t897 t898 t899 w _ (IsS100.qz HI895) (qB HB) A3.out).mono ?_); rintro e w14 ⟨rfl, hi, hb, hk⟩; refine ⟨_, rfl, ?_⟩; replace BK894 := kB_ BK894 hk NB894_895; replace HB := am_ (hb); replace HI895 := am_ (hi); (try clear hb); (try clear hk); (try clear hi)) | (refine gc_ 70 rfl ?_; refine gl_ (some 17) Try.func70 #[.pointer (some ⟨gb895, 0, none⟩)] ?_; (with_reducible refine (impl_reader_word.calls gb895 l0 t899 t900 t901 w _ (IsS100.qz HI895) (qB HB) A4.out).mono ?_); rintro e w15 ⟨rfl, hi, hb, hk⟩; refine ⟨_, rfl, ?_⟩; replace BK894 := kB_ BK894 hk NB894_895; replace HB := am_ (hb); replace HI895 := am_ (hi); (try clear hb); (try clear hk); (try clear hi)) | (refine gc_ 69 rfl ?_; refine gl_ (some 19) Try.func69 #[.pointer (some ⟨gb895, 0, none⟩)] ?_; (with_reducible refine (impl_reader_one.calls gb895 l0 t901 t902 t903 w _ (IsS100.qz HI895) (qB HB) A5.out).mono ?_); rintro e w16 ⟨rfl, hi, hb, hk⟩; refine ⟨_, rfl, ?_⟩; replace BK894 := kB_ BK894 hk NB894_895; replace HB := am_ (hb); replace HI895 := am_ (hi); (try clear hb); (try clear hk); (try clear hi)) | (refine gc_ 69 rfl ?_; refine gl_ (some 21) Try.func69 #[.pointer (some ⟨gb895, 0, none⟩)] ?_; (with_reducible refine (impl_reader_one.calls gb895 l0 t903 t904 t905 w _ (IsS100.qz HI895) (qB HB) A6.out).mono ?_); rintro e w17 ⟨rfl, hi, hb, hk⟩; refine ⟨_, rfl, ?_⟩; replace BK894 := kB_ BK894 hk NB894_895; replace HB := am_ (hb); replace HI895 := am_ (hi); (try clear hb); (try clear hk); (try clear hi)) | (refine gc_ 69 rfl ?_; refine gl_ (some 23) Try.func69 #[.pointer (some ⟨gb895, 0, none⟩)] ?_; (with_reducible refine (impl_reader_one.calls gb895 l0 t905 t906 t907 w _ (IsS100.qz HI895) (qB HB) A7.out).mono ?_); rintro e w18 ⟨rfl, hi, hb, hk⟩; refine ⟨_, rfl, ?_⟩; replace BK894 := kB_ BK894 hk NB894_895; replace HB := am_ (hb); replace HI895 := am_ (hi); (try clear hb); (try clear hk); (try clear hi)) | (refine gc_ 70 rfl ?_; refine gl_ (some 26) Try.func70 #[.pointer (some ⟨gb895, 0, none⟩)] ?_; (with_reducible refine (impl_reader_word.calls gb895 l0 t907 t908 t909 w _ (IsS100.qz HI895) (qB HB) A8.out).mono ?_); rintro e w19 ⟨rfl, hi, hb, hk⟩; refine ⟨_, rfl, ?_⟩; replace BK894 := kB_ BK894 hk NB894_895; replace HB := am_ (hb); replace HI895 := am_ (hi); (try clear hb); (try clear hk); (try clear hi)) | (refine gd_ 5 rfl ?_; refine bx_ (N := 5) (cs := #[.int .i64 0, .int .i64 0, .int .i64 0, .int .i64 0, .int .i64 0, .bool false, .int .i64 0, .slice none 0 0]) (t := 75) ?_; intro gb910 hg w20 hbox hb; have BK910 := am_ (hbox); have GW910 := am_ ((by rw [hg]; exact (below_size (qB HB)) : w.heap.size ≤ gb910)); have IGW910 := gI_ GW910; have GE910 := am_ ((by rw [hg]; exact (below_size (qB HB)) : w.heap.size ≤ gb910)); have IGE910 := gI_ GE910; replace HB := bS_ HB hb; have NB894_910 := am_ ((gN_ hg (qK BK894))); have NB910_894 := am_ ((gM_ hg (qK BK894))); replace BK894 := bK_ BK894 hb; have NB895_910 := am_ ((by rw [hg]; exact Nat.ne_of_lt (IsS100.lt (show IsS100 w _ gb895 l0 t909 from IsS100.qz HI895)) : gb895 ≠ gb910)); have NB910_895 := am_ ((by rw [hg]; exact Nat.ne_of_gt (IsS100.lt (show IsS100 w _ gb895 l0 t909 from IsS100.qz HI895)) : gb910 ≠ gb895)); replace HI895 := am_ (IsS100.below (IsS100.qz HI895) hb); clear hb hbox hg; have hnb21 := nx_ NB910_894; have hnb22 := nx_ NB910_895; (try clear zK910); have zK910 := cf8 BK910.out) | (refine gc_ 69 rfl ?_; refine gl_ (some 29) Try.func69 #[.pointer (some ⟨gb895, 0, none⟩)] ?_; (with_reducible refine (impl_reader_one.calls gb895 l0 t909 t911 t912 w _ (IsS100.qz HI895) (qB HB) A9.out).mono ?_); rintro e w24 ⟨rfl, hi, hb, hk⟩; refine ⟨_, rfl, ?_⟩; replace BK894 := fk_ BK894 hk NB894_895; replace BK910 := am_ (KeepBut.blk hk (blk_all8 (qK BK910)) NB910_895.out (by simp)); replace HB := am_ (hb); replace HI895 := am_ (hi); (try clear hb); (try clear hk); (try clear hi)))
 go_loopg [31] k (fun kq v31 w' => ∃ (x31_1 : Int) (x895000_1 : Int) (x895001_1 : Int) (x895002_1 : Int) (x895003_1 : Int) (x895004_1 : Int) (x895005_1 : Bool) (x895006_1 : Int) (x896001_1 : Int) (x911007_1 : List (S29)) (u911007 : Value), v31 = .int .i64 x31_1 ∧ Aside0 (impl_GetCtl.l0 kq l0 ji10 x31_1 l0 x896001_1 t896 t898 t900 t902 t904 (t906 == 1) t908 x911007_1 = some (r1, r2, r3, r4, r5, r6, r7, r8, r9)) ∧ Aside0 (kq ≤ k) ∧ Aside0 (Kd.R k29 29 w' w.heap.size (fun _ => True) u911007 x911007_1) ∧ Aside0 (w'.heap[gb894]? = some (.cells #[.int .i64 x895000_1, .int .i64 x895001_1, .int .i64 x895002_1, .int .i64 x895003_1, .int .i64 x895004_1, .bool x895005_1, .int .i64 x895006_1, (.slice none 0 0)] 75 (0, 0))) ∧ Aside0 (w'.heap[gb910]? = some (.cells #[.int .i64 t896, .int .i64 t898, .int .i64 t900, .int .i64 t902, .int .i64 t904, .bool (t906 == 1), .int .i64 t908, u911007] 75 (0, 0))) ∧ Aside0 (IsS100 w w' gb895 l0 x896001_1) ∧ Aside0 (Below w.heap.size w w'))
 case atStart => exact ⟨(0), (0), (0), (0), (0), (0), (false), (0), (t912), (([] : List (S29))), (.slice none 0 0), eqq_, H', ⟨Nat.le_refl _⟩, ⟨by first | exact Kd.R_nil _ _ _ _ _ | exact Kd.N_nil _ _ _ _ _ | exact Kd.V_nil _ _ _ _ _ | exact Kd.Q_nil _ _ _ _ _ | exact Kd.S_nil _ _ _ _ _⟩, ⟨qK BK894⟩, ⟨qK BK910⟩, ⟨IsS100.qz HI895⟩, ⟨qB HB⟩⟩
 case round =>
  clear H'
  try clear c2
  try clear p2
  try clear c5
  try clear c6
  try clear c7
  try clear c21
  try clear c22
  (try clear zK910)
  (try clear fK910)
  obtain ⟨x31_1, x895000_1, x895001_1, x895002_1, x895003_1, x895004_1, x895005_1, x895006_1, x896001_1, x911007_1, u911007, rfl, HA, HK1, HO_911007, BK894, BK910, HI895, HB⟩ := hrel
  cases gk with
  | zero => exact absurd HA.out (by simp [impl_GetCtl.l0])
  | succ k1 =>
   have H := HA.out
   clear HA
   simp only [impl_GetCtl.l0] at H
   replace H := id_ H
   obtain ⟨-, H, c25b0⟩ | ⟨-, H, c25b0⟩ := H
   rotate_left
   ·
    replace H := ie_ H
    obtain ⟨-, H, c71b0, c71b1⟩ | ⟨c71, H, c71b0, c71b1⟩ := H
    ·
     simp only [Option.some.injEq, Prod.mk.injEq] at H
     obtain ⟨rfl, rfl, rfl, rfl, rfl, rfl, rfl, rfl, rfl⟩ := H
     have hnb72 := nx_ NB894_910
     have hnb73 := nx_ NB894_895
     (try clear zK894)
     have zK894 := cf8 BK894.out
     go_wp2
     refine bodyPost_ret (results_ct rfl _ _ gb894 75 #[.int .i64 0, .int .i64 0, .int .i64 0, .int .i64 0, .int .i64 0, .bool false, .int .i64 0, .slice none 0 0] (0, 0) _ rfl (by exact blk_all8 (qK BK894)) Try.underlying75 rfl (by kernel_rfl)) rfl ?_
     exact ⟨_, by first | rfl | (simp [errW_none, errW_some] <;> rfl) | (simp only [← hji10]; first | rfl | (simp [errW_none, errW_some] <;> rfl)) | (simp [*, errW_none, errW_some] <;> rfl), by first | exact Kd.R_nil _ _ _ _ _ | exact Kd.N_nil _ _ _ _ _ | exact Kd.V_nil _ _ _ _ _ | exact Kd.Q_nil _ _ _ _ _ | exact Kd.S_nil _ _ _ _ _, qB HB⟩
    have c71b2 : ¬ (l0 = []) := fun h_ => c71 (by rw [h_]; rfl)
    replace H := bd_ H
    obtain ⟨t937, A75, H⟩ := H
    replace H := bd_ H
    obtain ⟨t940, A76, H⟩ := H
    have HC77 := am_ H
    clear H
    have hnb78 := nx_ NB910_894
    have hnb79 := nx_ NB910_895
    (try clear zK910)
    have zK910 := cf8 BK910.out
    obtain ⟨Ao81, co81, eo81⟩ := Kd.R_slice HO_911007.out
    subst eo81
    go_upto_if 85 with (first | (go_at_call 52; (with_reducible refine (impl_PutCtl.calls k1 t896 t898 t900 t902 t904 (t906 == 1) t908 _ _ x911007_1 t937 _ (rC_ HO_911007) ?side2 A75.out).mono ?_); (case side2 => exact (rL_ HO_911007)); rintro e w82 ⟨v938, rfl, ho0, hb⟩; replace HO_911007 := rB_ HO_911007 hb; have HO939 := am_ (Kd.R_lower ho0 (below_size (qB HB))); replace BK894 := bK_ BK894 hb; replace BK910 := bK_ BK910 hb; replace HB := bS_ HB hb; replace HI895 := am_ (IsS100.below (IsS100.qz HI895) hb); (try clear hb); (try clear ho0); obtain ⟨Ao83, co83, eo83⟩ := Kd.R_slice HO939.out; subst eo83) | (go_at_call 73; (with_reducible refine (bytes_Equal.calls _ _ t937 _ _ l0 t940 _ (rC_ HO939) ((rL_ HO939)) ?side3 ?side4 A76.out).mono ?_); (case side3 => exact qC (Kd.C_below HR0.out HB.out)); (case side4 => exact HC0.out); rintro e w' ⟨rfl, ⟨nd, rfl⟩⟩))
    (try simp only [Act.put, List.setIfInBounds_toArray, List.set_cons_zero, List.set_cons_succ])
    (try (rw [drewN_self w82]; generalize hq_ : World.drewN w82 _ = w82; have n0_ : Aside0 (Kd.R (Kd.int .u8) 5 w82 w.heap.size (fun _ => True) (.slice Ao83 t937.length co83) t937) := ⟨by rw [← hq_]; exact (qR HO939)⟩; have n1_ : Aside0 (Kd.R k29 29 w82 w.heap.size (fun _ => True) (.slice Ao81 x911007_1.length co81) x911007_1) := ⟨by rw [← hq_]; exact (qR HO_911007)⟩; have n2_ : Aside0 (w82.heap[gb894]? = some (.cells #[.int .i64 x895000_1, .int .i64 x895001_1, .int .i64 x895002_1, .int .i64 x895003_1, .int .i64 x895004_1, .bool x895005_1, .int .i64 x895006_1, .slice none 0 0] 75 (0, 0))) := ⟨by rw [← hq_]; exact (qK BK894)⟩; have n3_ : Aside0 (w82.heap[gb910]? = some (.cells #[.int .i64 t896, .int .i64 t898, .int .i64 t900, .int .i64 t902, .int .i64 t904, .bool (t906 == 1), .int .i64 t908, .slice Ao81 x911007_1.length co81] 75 (0, 0))) := ⟨by rw [← hq_]; exact (qK BK910)⟩; have n4_ : Aside0 (IsS100 w w82 gb895 l0 x896001_1) := ⟨by rw [← hq_]; exact (IsS100.qz HI895)⟩; have n5_ : Aside0 (Below w.heap.size w w82) := ⟨by rw [← hq_]; exact (qB HB)⟩; clear HO939 HO_911007 BK894 BK910 HI895 HB hq_; have HO939 := n0_; have HO_911007 := n1_; have BK894 := n2_; have BK910 := n3_; have HI895 := n4_; have HB := n5_; clear n0_ n1_ n2_ n3_ n4_ n5_))
    have H := HC77.out
    clear HC77
    by_cases c84 : t940 = true
    rotate_left
    ·
     replace c84 := nf_ c84
     subst c84
     rw [if_neg (show ¬ (false = true) by decide)] at H
     simp only [Option.some.injEq, Prod.mk.injEq] at H
     obtain ⟨rfl, rfl, rfl, rfl, rfl, rfl, rfl, rfl, rfl⟩ := H
     have hnb90 := nx_ NB894_910
     have hnb91 := nx_ NB894_895
     (try clear zK894)
     have zK894 := cf8 BK894.out
     go_wp2
     refine bodyPost_ret (results_ct rfl _ _ gb894 75 #[.int .i64 0, .int .i64 0, .int .i64 0, .int .i64 0, .int .i64 0, .bool false, .int .i64 0, .slice none 0 0] (0, 0) _ rfl (by exact blk_all8 (qK BK894)) Try.underlying75 rfl (by kernel_rfl)) rfl ?_
     exact ⟨_, by first | rfl | (simp [errW_none, errW_some] <;> rfl) | (simp only [← hji10]; first | rfl | (simp [errW_none, errW_some] <;> rfl)) | (simp [*, errW_none, errW_some] <;> rfl), by first | exact Kd.R_nil _ _ _ _ _ | exact Kd.N_nil _ _ _ _ _ | exact Kd.V_nil _ _ _ _ _ | exact Kd.Q_nil _ _ _ _ _ | exact Kd.S_nil _ _ _ _ _, qB HB⟩
    subst c84
    rw [if_pos rfl] at H
    simp only [Option.some.injEq, Prod.mk.injEq] at H
    obtain ⟨rfl, rfl, rfl, rfl, rfl, rfl, rfl, rfl, rfl⟩ := H
    have hnb85 := nx_ NB910_894
    have hnb86 := nx_ NB910_895
    (try clear zK910)
    have zK910 := cf8 BK910.out
    have hnb88 := nx_ NB894_895
    (try clear zK894)
    have zK894 := cf8 BK894.out
    go_wp2
    refine bodyPost_ret (results_ct rfl _ _ gb894 75 #[.int .i64 t896, .int .i64 t898, .int .i64 t900, .int .i64 t902, .int .i64 t904, .bool (t906 == 1), .int .i64 t908, .slice Ao81 x911007_1.length co81] (0, 0) _ rfl (by exact blk_all8 (qK BK894)) Try.underlying75 rfl (by kernel_rfl)) rfl ?_
    exact ⟨_, by first | rfl | (simp [errW_none, errW_some] <;> rfl) | (simp only [← hji10]; first | rfl | (simp [errW_none, errW_some] <;> rfl)) | (simp [*, errW_none, errW_some] <;> rfl), (fR1_ HO_911007 BK894), qB HB⟩
   replace H := bd_ H
   obtain ⟨⟨t913, t914⟩, A26, H⟩ := H
   (try dsimp only at H)
   have HC27 := am_ H
   clear H
   go_upto_if 43 with (first | (refine gc_ 69 rfl ?_; refine gl_ (some 34) Try.func69 #[.pointer (some ⟨gb895, 0, none⟩)] ?_; (with_reducible refine (impl_reader_one.calls gb895 l0 x896001_1 t913 t914 w _ (IsS100.qz HI895) (qB HB) A26.out).mono ?_); rintro e w28 ⟨rfl, hi, hb, hk⟩; refine ⟨_, rfl, ?_⟩; replace HO_911007 := am_ (Kd.R_mono (Kd.R_keep (IsS100.apart (show IsS100 w _ gb895 l0 x896001_1 from IsS100.qz HI895) (qR HO_911007) (by decide)) hk (fun _ h => h.2)) (fun _ h => h.1)); replace BK894 := kB_ BK894 hk NB894_895; replace BK910 := kB_ BK910 hk NB910_895; replace HB := am_ (hb); replace HI895 := am_ (hi); (try clear hb); (try clear hk); (try clear hi); obtain ⟨ASz29_0, cSz29_0, HGz29, hgz29, HSz29_0⟩ := HI895.out; obtain ⟨HSz29_0, HQz29_0⟩ := HSz29_0; have z29_0 := cellS100_0 HGz29; have z29_1 := cellS100_1 HGz29; have f29_1 := blk_frozen HGz29 1; clear HGz29 hgz29))
   (try simp only [Act.put, List.setIfInBounds_toArray, List.set_cons_zero, List.set_cons_succ])
   have H := HC27.out
   clear HC27
   replace H := id_ H
   obtain ⟨-, H, c30b0⟩ | ⟨-, H, c30b0⟩ := H
   ·
    (first | rw [c30b0] | (simp only [i64_w, i32_w]; rw [c30b0]) | skip)
    simp only [Option.some.injEq, Prod.mk.injEq] at H
    obtain ⟨rfl, rfl, rfl, rfl, rfl, rfl, rfl, rfl, rfl⟩ := H
    have hnb31 := nx_ NB894_910
    have hnb32 := nx_ NB894_895
    (try clear zK894)
    have zK894 := cf8 BK894.out
    go_wp2
    refine bodyPost_ret (results_ct rfl _ _ gb894 75 #[.int .i64 0, .int .i64 0, .int .i64 0, .int .i64 0, .int .i64 0, .bool false, .int .i64 0, .slice none 0 0] (0, 0) _ rfl (by exact blk_all8 (qK BK894)) Try.underlying75 rfl (by kernel_rfl)) rfl ?_
    exact ⟨_, by first | rfl | (simp [errW_none, errW_some] <;> rfl) | (simp only [← hji10]; first | rfl | (simp [errW_none, errW_some] <;> rfl)) | (simp [*, errW_none, errW_some] <;> rfl), by first | exact Kd.R_nil _ _ _ _ _ | exact Kd.N_nil _ _ _ _ _ | exact Kd.V_nil _ _ _ _ _ | exact Kd.Q_nil _ _ _ _ _ | exact Kd.S_nil _ _ _ _ _, qB HB⟩
   (first | rw [c30b0] | (simp only [i64_w, i32_w]; rw [c30b0]) | skip)
   replace H := ip_ H
   obtain ⟨c34, H, -⟩ := H
   have c34b0 := eq_true c34
   have c34b1 : decide (0 ≤ t914) = true := decide_eq_true c34
   clear c34
   replace H := ip_ H
   obtain ⟨c35, H, -⟩ := H
   have c35b0 := eq_true c35
   have c35b1 : decide (t914 ≤ (wrap64 (t914 + t913))) = true := decide_eq_true c35
   replace H := ip_ H
   obtain ⟨c36, H, -⟩ := H
   have c36b0 := eq_true c36
   have c36b1 : decide ((wrap64 (t914 + t913)) ≤ (l0.length : Int)) = true := decide_eq_true c36
   replace H := bf_ H
   obtain ⟨f_, hf_, ⟨t916, t917, t918, t919, t920, t921, t922, t923, t924, t925, t926, t927, t928, t929, t930, t931, t932⟩, A37, H⟩ := H
   subst hf_
   (try dsimp only at H)
   replace H := ip_ H
   obtain ⟨c38, H, -⟩ := H
   have LMc38 := am_ c38
   clear c38
   obtain ⟨y934, hy934⟩ : ∃ y_ : List (S29), y_ = (x911007_1 ++ [(⟨t916, (⟨t917, t918, t919, t920, t921, t922, t923, t924⟩ : S25), (⟨t925, t926, t927, t928, t929, t930, t931⟩ : S27)⟩ : S29)]) := ⟨_, rfl⟩
   rw [← hy934] at H
   have Ny934 := am_ hy934
   clear hy934
   have H' := Aside0.mk H
   clear H
   try go_wp2
   replace HO_911007 := am_ (Kd.R_drew HO_911007.out)
   replace BK894 := am_ (blk_drew BK894.out)
   replace BK910 := am_ (blk_drew BK910.out)
   replace HI895 := am_ (IsS100.drew HI895.out)
   replace HB := am_ (below_drew1 HB.out)
   obtain ⟨i040, hi040, _, hsz40, _⟩ := info_parts info5
   obtain ⟨A40, hcut40, hA40, hC40⟩ := print_mid_of (P := Try.prog) (Value.int .u8) 0 22 5 .i64 .i64 Try.underlying22 hi040 hsz40 A0 c0 l0 t914 (wrap64 (t914 + t913)) od_ (by first | omega | exact od_) od_ HC0.out
   have HR915 := Aside0.mk (Kd.C_of_reads (h1 := fun _ => rfl) (hA40 _ (Kd.reads_of_C HR0.out)))
   have HC915 := am_ hC40
   clear hA40 hC40 hi040 hsz40
   refine start_ (n := 19) (S := fun w' => w'.cell? ⟨gb895, 1, none⟩ = some (.int .i64 t914)) (ds := []) (rl [0,19]) (by kernel_rfl) rfl rfl ((by obtain ⟨_, _, h_, _⟩ := HI895.out; exact cellS100_1 h_)) (fun hHeld => ?_); refine with_tabW impl_GetCtl.tab8 impl_GetCtl.bits8 (fun HT_ HW_ => ?_)
   generalize w28.drew = w39 at HO_911007 BK894 BK910 HI895 HB HR915 hHeld ⊢
   refine pq_ 0 46 HT_ (rl [1,18]) ?_
   refine pq_ 1 47 HT_ (rl [2,17]) ?_
   refine pq_ 2 48 HT_ (rl [3,16]) ?_
   refine pq_ 3 49 HT_ (rl [4,15]) ?_
   refine pq_ 5 51 HT_ (rl [4,1,1,13]) ?_
   refine pq_ 6 52 HT_ (rl [4,1,2,12]) ?_
   refine pq_ 7 53 HT_ (rl [4,1,3,11]) ?_
   refine pq_ 9 55 HT_ (rl [4,1,3,1,1,9]) ?_
   refine tz_ (i := 4) (N := some 50) HT_ HW_ (rl [8,1,1,9]) rfl rfl hHeld ?_
   refine tz_ (i := 8) (N := some 54) HT_ HW_ (rl [10,9]) rfl rfl hHeld ?_
   refine pq_ 10 56 HT_ (rl [11,8]) ?_
   refine pq_ 11 57 HT_ (rl [12,7]) ?_
   refine join_ (σ := Nat) 2 (rl [17,2]) (fun s_ => [(58, .tuple #[.agg #[.int .i64 t916, .int .i64 t917, .string t918, .int .i64 t919, .int .i64 t920, .int .i64 t921, .string t922, .int .i64 t923, .int .i64 t924, .int .i64 t925, .string t926, .int .i64 t927, .int .i64 t928, .int .i64 t929, .int .i64 t930, .int .i64 t931], .bool t932]), (7, .pointer (some ⟨s_, 0, none⟩)), (45, .tuple #[.agg #[.int .i64 t916, .int .i64 t917, .string t918, .int .i64 t919, .int .i64 t920, .int .i64 t921, .string t922, .int .i64 t923, .int .i64 t924, .int .i64 t925, .string t926, .int .i64 t927, .int .i64 t928, .int .i64 t929, .int .i64 t930, .int .i64 t931], .bool t932]), (59, .agg #[.int .i64 t916, .int .i64 t917, .string t918, .int .i64 t919, .int .i64 t920, .int .i64 t921, .string t922, .int .i64 t923, .int .i64 t924, .int .i64 t925, .string t926, .int .i64 t927, .int .i64 t928, .int .i64 t929, .int .i64 t930, .int .i64 t931]), (60, .bool t932)]) (fun s_ w' => (w'.cell? ⟨gb895, 1, none⟩ = some (.int .i64 t914)) ∧ (Kd.R k29 29 w' w.heap.size (fun k_ => k_ ≠ s_) u911007 x911007_1) ∧ (w'.heap[gb894]? = some (.cells #[.int .i64 x895000_1, .int .i64 x895001_1, .int .i64 x895002_1, .int .i64 x895003_1, .int .i64 x895004_1, .bool x895005_1, .int .i64 x895006_1, .slice none 0 0] 75 (0, 0))) ∧ (w'.heap[gb910]? = some (.cells #[.int .i64 t896, .int .i64 t898, .int .i64 t900, .int .i64 t902, .int .i64 t904, .bool (t906 == 1), .int .i64 t908, u911007] 75 (0, 0))) ∧ (w'.heap[s_]? = some (.cells #[.int .i64 0, .int .i64 0, .string (⟨#[]⟩ : ByteArray), .int .i64 0, .int .i64 0, .int .i64 0, .string (⟨#[]⟩ : ByteArray), .int .i64 0, .int .i64 0, .int .i64 0, .string (⟨#[]⟩ : ByteArray), .int .i64 0, .int .i64 0, .int .i64 0, .int .i64 0, .int .i64 0] 29 (0, 0))) ∧ (w.heap.size ≤ s_) ∧ (w.heap.size ≤ s_) ∧ (gb895 ≠ s_) ∧ (s_ ≠ gb895) ∧ (gb894 ≠ s_) ∧ (s_ ≠ gb894) ∧ (gb910 ≠ s_) ∧ (s_ ≠ gb910) ∧ (IsS100 w w' gb895 l0 t914) ∧ (Below w.heap.size w w')) ?_ ?_
   rotate_left
   ·
    intro hCont
    refine two_ (i := 12) (j := 16) (Ni := some 58) (Nj := some 7) (rl [13,6]) (rl [12,4,1,2]) rfl rfl rfl rfl (two_of HT_.out (by kernel_rfl)) (by decide) (by decide) (fun K hK => ?_) (fun K hK => ?_)
    ·
     skip
     refine goes_ Try.func10 (by kernel_rfl) rfl #[.slice A40 ((l0.take ((wrap64 (t914 + t913)) : Int).toNat).drop (t914 : Int).toNat).length (c0 - t914.toNat)] (by rfl) rfl rfl (by (try simp only [List.map_toArray, List.map_cons, List.map_nil]); first | done | (rw [show ((l0.take ((wrap64 (t914 + t913)) : Int).toNat).drop (t914 : Int).toNat).length = ((wrap64 (t914 + t913)).toNat - t914.toNat) from (by rw [List.length_drop, List.length_take]; have h_ : ((wrap64 (t914 + t913)) : Int) ≤ (l0.length : Int) := od_; omega)] <;> rfl) | rfl | (simp only [List.length_drop, List.length_take]; rfl)) ?_
     with_reducible refine (impl_GetItem.calls k1 _ _ ((l0.take ((wrap64 (t914 + t913)) : Int).toNat).drop (t914 : Int).toNat) t916 t917 t918 t919 t920 t921 t922 t923 t924 t925 t926 t927 t928 t929 t930 t931 t932 _ ?side1 ?side2 A37.out).mono ?_
     (case side1 => exact qC (Kd.C_below HR915.out HB.out))
     (case side2 => exact HC915.out)
     rintro e w41 ⟨rfl, hb⟩
     refine ⟨_, rfl, ?_⟩
     replace HO_911007 := rB_ HO_911007 hb
     replace BK894 := bK_ BK894 hb
     replace BK910 := bK_ BK910 hb
     replace HB := bS_ HB hb
     replace HI895 := am_ (IsS100.below (IsS100.qz HI895) hb)
     (try clear hb)
     refine hK.out _ _ ((by obtain ⟨_, _, h_, _⟩ := HI895.out; exact cellS100_1 h_)) (fun hHeld => ?_)
     clear hK K
     refine nm_ (some 58) ?_
     refine pq_ 13 45 HT_ (rl [14,5]) ?_
     refine pq_ 14 59 HT_ (rl [15,4]) ?_
     refine pq_ 15 60 HT_ (rl [16,3]) ?_
     refine on_ HT_ (i := 16) (N := some 7) (rl [17,2]) (fun K hK => ?_)
     refine box_step ?hg (N := 7) ?hd (cs := #[.int .i64 0, .int .i64 0, .string (⟨#[]⟩ : ByteArray), .int .i64 0, .int .i64 0, .int .i64 0, .string (⟨#[]⟩ : ByteArray), .int .i64 0, .int .i64 0, .int .i64 0, .string (⟨#[]⟩ : ByteArray), .int .i64 0, .int .i64 0, .int .i64 0, .int .i64 0, .int .i64 0]) (t := 29) ?hr ?_; (case hd => rfl); (case hg => rfl); (case hr => first | (go_simp; done) | (go_simp; rfl))
     intro gb933 hg w42 hbox hb
     replace HO_911007 := am_ (Kd.R_below (Kd.R_elderB (qR HO_911007) gb933 (Nat.le_of_eq hg.symm)) hb)
     have BK933 := am_ (hbox)
     have GW933 := am_ ((by rw [hg]; exact (below_size (qB HB)) : w.heap.size ≤ gb933))
     have IGW933 := gI_ GW933
     have GE933 := am_ ((by rw [hg]; exact (below_size (qB HB)) : w.heap.size ≤ gb933))
     have IGE933 := gI_ GE933
     replace HB := bS_ HB hb
     have NB894_933 := am_ ((gN_ hg (qK BK894)))
     have NB933_894 := am_ ((gM_ hg (qK BK894)))
     replace BK894 := bK_ BK894 hb
     have NB910_933 := am_ ((gN_ hg (qK BK910)))
     have NB933_910 := am_ ((gM_ hg (qK BK910)))
     replace BK910 := bK_ BK910 hb
     have NB895_933 := am_ ((by rw [hg]; exact Nat.ne_of_lt (IsS100.lt (show IsS100 w _ gb895 l0 t914 from IsS100.qz HI895)) : gb895 ≠ gb933))
     have NB933_895 := am_ ((by rw [hg]; exact Nat.ne_of_gt (IsS100.lt (show IsS100 w _ gb895 l0 t914 from IsS100.qz HI895)) : gb933 ≠ gb895))
     replace HI895 := am_ (IsS100.below (IsS100.qz HI895) hb)
     clear hb hbox hg
     refine hK.out _ _ ((by obtain ⟨_, _, h_, _⟩ := HI895.out; exact cellS100_1 h_)) (fun hHeld => ?_)
     clear hK K
     refine nm_ (some 7) ?_
     exact nr_ (hCont (gb933) _ ⟨hHeld, (xR1_ HO_911007), (qK BK894), (qK BK910), (qK BK933), GW933.out, GE933.out, NB895_933.out, NB933_895.out, NB894_933.out, NB933_894.out, NB910_933.out, NB933_910.out, (IsS100.qz HI895), (qB HB)⟩)
    ·
     skip
     refine box_step ?hg (N := 7) ?hd (cs := #[.int .i64 0, .int .i64 0, .string (⟨#[]⟩ : ByteArray), .int .i64 0, .int .i64 0, .int .i64 0, .string (⟨#[]⟩ : ByteArray), .int .i64 0, .int .i64 0, .int .i64 0, .string (⟨#[]⟩ : ByteArray), .int .i64 0, .int .i64 0, .int .i64 0, .int .i64 0, .int .i64 0]) (t := 29) ?hr ?_; (case hd => rfl); (case hg => rfl); (case hr => first | (go_simp; done) | (go_simp; rfl))
     intro gb933 hg w41 hbox hb
     replace HO_911007 := am_ (Kd.R_below (Kd.R_elderB (qR HO_911007) gb933 (Nat.le_of_eq hg.symm)) hb)
     have BK933 := am_ (hbox)
     have GW933 := am_ ((by rw [hg]; exact (below_size (qB HB)) : w.heap.size ≤ gb933))
     have IGW933 := gI_ GW933
     have GE933 := am_ ((by rw [hg]; exact (below_size (qB HB)) : w.heap.size ≤ gb933))
     have IGE933 := gI_ GE933
     replace HB := bS_ HB hb
     have NB894_933 := am_ ((gN_ hg (qK BK894)))
     have NB933_894 := am_ ((gM_ hg (qK BK894)))
     replace BK894 := bK_ BK894 hb
     have NB910_933 := am_ ((gN_ hg (qK BK910)))
     have NB933_910 := am_ ((gM_ hg (qK BK910)))
     replace BK910 := bK_ BK910 hb
     have NB895_933 := am_ ((by rw [hg]; exact Nat.ne_of_lt (IsS100.lt (show IsS100 w _ gb895 l0 t914 from IsS100.qz HI895)) : gb895 ≠ gb933))
     have NB933_895 := am_ ((by rw [hg]; exact Nat.ne_of_gt (IsS100.lt (show IsS100 w _ gb895 l0 t914 from IsS100.qz HI895)) : gb933 ≠ gb895))
     replace HI895 := am_ (IsS100.below (IsS100.qz HI895) hb)
     clear hb hbox hg
     refine hK.out _ _ ((by obtain ⟨_, _, h_, _⟩ := HI895.out; exact cellS100_1 h_)) (fun hHeld => ?_)
     clear hK K
     refine nm_ (some 7) ?_
     refine on_ HT_ (i := 12) (N := some 58) (rl [13,3,1,2]) (fun K hK => ?_)
     refine goes_ Try.func10 (by kernel_rfl) rfl #[.slice A40 ((l0.take ((wrap64 (t914 + t913)) : Int).toNat).drop (t914 : Int).toNat).length (c0 - t914.toNat)] (by rfl) rfl rfl (by (try simp only [List.map_toArray, List.map_cons, List.map_nil]); first | done | (rw [show ((l0.take ((wrap64 (t914 + t913)) : Int).toNat).drop (t914 : Int).toNat).length = ((wrap64 (t914 + t913)).toNat - t914.toNat) from (by rw [List.length_drop, List.length_take]; have h_ : ((wrap64 (t914 + t913)) : Int) ≤ (l0.length : Int) := od_; omega)] <;> rfl) | rfl | (simp only [List.length_drop, List.length_take]; rfl)) ?_
     with_reducible refine (impl_GetItem.calls k1 _ _ ((l0.take ((wrap64 (t914 + t913)) : Int).toNat).drop (t914 : Int).toNat) t916 t917 t918 t919 t920 t921 t922 t923 t924 t925 t926 t927 t928 t929 t930 t931 t932 _ ?side1 ?side2 A37.out).mono ?_
     (case side1 => exact qC (Kd.C_below HR915.out HB.out))
     (case side2 => exact HC915.out)
     rintro e w42 ⟨rfl, hb⟩
     refine ⟨_, rfl, ?_⟩
     replace HO_911007 := rB_ HO_911007 hb
     replace BK894 := bK_ BK894 hb
     replace BK910 := bK_ BK910 hb
     replace BK933 := bK_ BK933 hb
     replace HB := bS_ HB hb
     replace HI895 := am_ (IsS100.below (IsS100.qz HI895) hb)
     (try clear hb)
     refine hK.out _ _ ((by obtain ⟨_, _, h_, _⟩ := HI895.out; exact cellS100_1 h_)) (fun hHeld => ?_)
     clear hK K
     refine nm_ (some 58) ?_
     refine pq_ 13 45 HT_ (rl [14,2,1,2]) ?_
     refine pq_ 14 59 HT_ (rl [15,1,1,2]) ?_
     refine pq_ 15 60 HT_ (rl [17,2]) ?_
     exact nr_ (hCont (gb933) _ ⟨hHeld, (xR1_ HO_911007), (qK BK894), (qK BK910), (qK BK933), GW933.out, GE933.out, NB895_933.out, NB933_895.out, NB894_933.out, NB933_894.out, NB910_933.out, NB933_910.out, (IsS100.qz HI895), (qB HB)⟩)
   rintro gb933 w43 ⟨hS_, h0_, h1_, h2_, h3_, h4_, h5_, h6_, h7_, h8_, h9_, h10_, h11_, h12_, h13_⟩
   (try dsimp only at h0_ h1_ h2_ h3_ h4_ h5_ h6_ h7_ h8_ h9_ h10_ h11_ h12_ h13_)
   have n0_ := am_ h0_
   have n1_ := am_ h1_
   have n2_ := am_ h2_
   have n3_ := am_ h3_
   have n4_ := am_ h4_
   have n5_ := am_ h5_
   have n6_ := am_ h6_
   have n7_ := am_ h7_
   have n8_ := am_ h8_
   have n9_ := am_ h9_
   have n10_ := am_ h10_
   have n11_ := am_ h11_
   have n12_ := am_ h12_
   have n13_ := am_ h13_
   clear HO_911007
   clear BK894
   clear BK910
   clear HI895
   clear HB
   clear h0_ h1_ h2_ h3_ h4_ h5_ h6_ h7_ h8_ h9_ h10_ h11_ h12_ h13_
   have HO_911007 := n0_
   have BK894 := n1_
   have BK910 := n2_
   have BK933 := n3_
   have GW933 := n4_
   have IGW933 := gI_ GW933
   have GE933 := n5_
   have IGE933 := gI_ GE933
   have NB895_933 := n6_
   have NB933_895 := n7_
   have NB894_933 := n8_
   have NB933_894 := n9_
   have NB910_933 := n10_
   have NB933_910 := n11_
   have HI895 := n12_
   have HB := n13_
   clear n0_ n1_ n2_ n3_ n4_ n5_ n6_ n7_ n8_ n9_ n10_ n11_ n12_ n13_
   have hHeld : w43.cell? ⟨gb895, 1, none⟩ = some (.int .i64 t914) := hS_
   refine norm_ (a' := ?_) ?_ ?_
   rotate_left
   ·
    simp only [putAll, Act.put, List.setIfInBounds_toArray, List.set_cons_zero, List.set_cons_succ]
    rfl
   refine on_ HT_ (i := 17) (N := none) (rl [18,1]) (fun K hK => ?_)
   have hs44 : w43.cell? ⟨gb933, 0, none⟩ = some (.int .i64 0) := (blk_cell BK933.out 0).trans rfl
   have hfs44 := blk_frozen BK933.out 0
   have hns44_0 := NB894_933.out
   have hns44_1 := NB910_933.out
   have hms44_0 := NB933_894.out
   have hms44_1 := NB933_910.out
   have hs45 : w43.cell? ⟨gb933, 1, none⟩ = some (.int .i64 0) := (blk_cell BK933.out 1).trans rfl
   have hfs45 := blk_frozen BK933.out 1
   have hns45_0 := NB894_933.out
   have hns45_1 := NB910_933.out
   have hms45_0 := NB933_894.out
   have hms45_1 := NB933_910.out
   have hs46 : w43.cell? ⟨gb933, 2, none⟩ = some (.string (⟨#[]⟩ : ByteArray)) := (blk_cell BK933.out 2).trans rfl
   have hfs46 := blk_frozen BK933.out 2
   have hns46_0 := NB894_933.out
   have hns46_1 := NB910_933.out
   have hms46_0 := NB933_894.out
   have hms46_1 := NB933_910.out
   have hs47 : w43.cell? ⟨gb933, 3, none⟩ = some (.int .i64 0) := (blk_cell BK933.out 3).trans rfl
   have hfs47 := blk_frozen BK933.out 3
   have hns47_0 := NB894_933.out
   have hns47_1 := NB910_933.out
   have hms47_0 := NB933_894.out
   have hms47_1 := NB933_910.out
   have hs48 : w43.cell? ⟨gb933, 4, none⟩ = some (.int .i64 0) := (blk_cell BK933.out 4).trans rfl
   have hfs48 := blk_frozen BK933.out 4
   have hns48_0 := NB894_933.out
   have hns48_1 := NB910_933.out
   have hms48_0 := NB933_894.out
   have hms48_1 := NB933_910.out
   have hs49 : w43.cell? ⟨gb933, 5, none⟩ = some (.int .i64 0) := (blk_cell BK933.out 5).trans rfl
   have hfs49 := blk_frozen BK933.out 5
   have hns49_0 := NB894_933.out
   have hns49_1 := NB910_933.out
   have hms49_0 := NB933_894.out
   have hms49_1 := NB933_910.out
   have hs50 : w43.cell? ⟨gb933, 6, none⟩ = some (.string (⟨#[]⟩ : ByteArray)) := (blk_cell BK933.out 6).trans rfl
   have hfs50 := blk_frozen BK933.out 6
   have hns50_0 := NB894_933.out
   have hns50_1 := NB910_933.out
   have hms50_0 := NB933_894.out
   have hms50_1 := NB933_910.out
   have hs51 : w43.cell? ⟨gb933, 7, none⟩ = some (.int .i64 0) := (blk_cell BK933.out 7).trans rfl
   have hfs51 := blk_frozen BK933.out 7
   have hns51_0 := NB894_933.out
   have hns51_1 := NB910_933.out
   have hms51_0 := NB933_894.out
   have hms51_1 := NB933_910.out
   have hs52 : w43.cell? ⟨gb933, 8, none⟩ = some (.int .i64 0) := (blk_cell BK933.out 8).trans rfl
   have hfs52 := blk_frozen BK933.out 8
   have hns52_0 := NB894_933.out
   have hns52_1 := NB910_933.out
   have hms52_0 := NB933_894.out
   have hms52_1 := NB933_910.out
   have hs53 : w43.cell? ⟨gb933, 9, none⟩ = some (.int .i64 0) := (blk_cell BK933.out 9).trans rfl
   have hfs53 := blk_frozen BK933.out 9
   have hns53_0 := NB894_933.out
   have hns53_1 := NB910_933.out
   have hms53_0 := NB933_894.out
   have hms53_1 := NB933_910.out
   have hs54 : w43.cell? ⟨gb933, 10, none⟩ = some (.string (⟨#[]⟩ : ByteArray)) := (blk_cell BK933.out 10).trans rfl
   have hfs54 := blk_frozen BK933.out 10
   have hns54_0 := NB894_933.out
   have hns54_1 := NB910_933.out
   have hms54_0 := NB933_894.out
   have hms54_1 := NB933_910.out
   have hs55 : w43.cell? ⟨gb933, 11, none⟩ = some (.int .i64 0) := (blk_cell BK933.out 11).trans rfl
   have hfs55 := blk_frozen BK933.out 11
   have hns55_0 := NB894_933.out
   have hns55_1 := NB910_933.out
   have hms55_0 := NB933_894.out
   have hms55_1 := NB933_910.out
   have hs56 : w43.cell? ⟨gb933, 12, none⟩ = some (.int .i64 0) := (blk_cell BK933.out 12).trans rfl
   have hfs56 := blk_frozen BK933.out 12
   have hns56_0 := NB894_933.out
   have hns56_1 := NB910_933.out
   have hms56_0 := NB933_894.out
   have hms56_1 := NB933_910.out
   have hs57 : w43.cell? ⟨gb933, 13, none⟩ = some (.int .i64 0) := (blk_cell BK933.out 13).trans rfl
   have hfs57 := blk_frozen BK933.out 13
   have hns57_0 := NB894_933.out
   have hns57_1 := NB910_933.out
   have hms57_0 := NB933_894.out
   have hms57_1 := NB933_910.out
   have hs58 : w43.cell? ⟨gb933, 14, none⟩ = some (.int .i64 0) := (blk_cell BK933.out 14).trans rfl
   have hfs58 := blk_frozen BK933.out 14
   have hns58_0 := NB894_933.out
   have hns58_1 := NB910_933.out
   have hms58_0 := NB933_894.out
   have hms58_1 := NB933_910.out
   have hs59 : w43.cell? ⟨gb933, 15, none⟩ = some (.int .i64 0) := (blk_cell BK933.out 15).trans rfl
   have hfs59 := blk_frozen BK933.out 15
   have hns59_0 := NB894_933.out
   have hns59_1 := NB910_933.out
   have hms59_0 := NB933_894.out
   have hms59_1 := NB933_910.out
   refine skip_ (w1 := ?_) (by rfl) rfl ?_ ?_
   rotate_left
   ·
    go_simp
    rfl
   refine hK.out _ _ (((cell_far (p := ⟨gb933, _, none⟩) (by first | exact NB895_933.out | (rw [add_block]; exact NB895_933.out) | (show (Addr.add _ _).block ≠ _; rw [add_block]; exact NB895_933.out) | (dsimp only; exact NB895_933.out)) _).trans (((cell_far (p := ⟨gb933, _, none⟩) (by first | exact NB895_933.out | (rw [add_block]; exact NB895_933.out) | (show (Addr.add _ _).block ≠ _; rw [add_block]; exact NB895_933.out) | (dsimp only; exact NB895_933.out)) _).trans (((cell_far (p := ⟨gb933, _, none⟩) (by first | exact NB895_933.out | (rw [add_block]; exact NB895_933.out) | (show (Addr.add _ _).block ≠ _; rw [add_block]; exact NB895_933.out) | (dsimp only; exact NB895_933.out)) _).trans (((cell_far (p := ⟨gb933, _, none⟩) (by first | exact NB895_933.out | (rw [add_block]; exact NB895_933.out) | (show (Addr.add _ _).block ≠ _; rw [add_block]; exact NB895_933.out) | (dsimp only; exact NB895_933.out)) _).trans (((cell_far (p := ⟨gb933, _, none⟩) (by first | exact NB895_933.out | (rw [add_block]; exact NB895_933.out) | (show (Addr.add _ _).block ≠ _; rw [add_block]; exact NB895_933.out) | (dsimp only; exact NB895_933.out)) _).trans (((cell_far (p := ⟨gb933, _, none⟩) (by first | exact NB895_933.out | (rw [add_block]; exact NB895_933.out) | (show (Addr.add _ _).block ≠ _; rw [add_block]; exact NB895_933.out) | (dsimp only; exact NB895_933.out)) _).trans (((cell_far (p := ⟨gb933, _, none⟩) (by first | exact NB895_933.out | (rw [add_block]; exact NB895_933.out) | (show (Addr.add _ _).block ≠ _; rw [add_block]; exact NB895_933.out) | (dsimp only; exact NB895_933.out)) _).trans (((cell_far (p := ⟨gb933, _, none⟩) (by first | exact NB895_933.out | (rw [add_block]; exact NB895_933.out) | (show (Addr.add _ _).block ≠ _; rw [add_block]; exact NB895_933.out) | (dsimp only; exact NB895_933.out)) _).trans (((cell_far (p := ⟨gb933, _, none⟩) (by first | exact NB895_933.out | (rw [add_block]; exact NB895_933.out) | (show (Addr.add _ _).block ≠ _; rw [add_block]; exact NB895_933.out) | (dsimp only; exact NB895_933.out)) _).trans (((cell_far (p := ⟨gb933, _, none⟩) (by first | exact NB895_933.out | (rw [add_block]; exact NB895_933.out) | (show (Addr.add _ _).block ≠ _; rw [add_block]; exact NB895_933.out) | (dsimp only; exact NB895_933.out)) _).trans (((cell_far (p := ⟨gb933, _, none⟩) (by first | exact NB895_933.out | (rw [add_block]; exact NB895_933.out) | (show (Addr.add _ _).block ≠ _; rw [add_block]; exact NB895_933.out) | (dsimp only; exact NB895_933.out)) _).trans (((cell_far (p := ⟨gb933, _, none⟩) (by first | exact NB895_933.out | (rw [add_block]; exact NB895_933.out) | (show (Addr.add _ _).block ≠ _; rw [add_block]; exact NB895_933.out) | (dsimp only; exact NB895_933.out)) _).trans (((cell_far (p := ⟨gb933, _, none⟩) (by first | exact NB895_933.out | (rw [add_block]; exact NB895_933.out) | (show (Addr.add _ _).block ≠ _; rw [add_block]; exact NB895_933.out) | (dsimp only; exact NB895_933.out)) _).trans (((cell_far (p := ⟨gb933, _, none⟩) (by first | exact NB895_933.out | (rw [add_block]; exact NB895_933.out) | (show (Addr.add _ _).block ≠ _; rw [add_block]; exact NB895_933.out) | (dsimp only; exact NB895_933.out)) _).trans (((cell_far (p := ⟨gb933, _, none⟩) (by first | exact NB895_933.out | (rw [add_block]; exact NB895_933.out) | (show (Addr.add _ _).block ≠ _; rw [add_block]; exact NB895_933.out) | (dsimp only; exact NB895_933.out)) _).trans (((cell_far (p := ⟨gb933, _, none⟩) (by first | exact NB895_933.out | (rw [add_block]; exact NB895_933.out) | (show (Addr.add _ _).block ≠ _; rw [add_block]; exact NB895_933.out) | (dsimp only; exact NB895_933.out)) _).trans (hHeld))))))))))))))))))))))))))))))))) (fun hHeld => ?_)
   clear hK K
   refine pq_ 18 8 HT_ (rl [19]) ?_
   refine done_ (done_of HT_.out (by kernel_rfl)) ?_
   have hnb60 := nx_ NB910_894
   have hnb61 := nx_ NB910_933
   have hnb62 := nx_ NB910_895
   (try clear zK910)
   have zK910 := cf8 BK910.out
   have hnb64 := nx_ NB933_894
   have hnb65 := nx_ NB933_895
   (try clear zK933)
   have zK933 := cf16 BK933.out
   try go_wp2_with (first | ((with_reducible refine gate_builtin (b := .append) (xs := #[.tmp 62, .tmp 64]) rfl ?_); at_builtin; refine Kd.R_append k29 (w0 := w) w.heap.size rfl (.tmp 62) (.tmp 64) 73 29 (.agg #[(.int .i64 0), (.int .i64 0), (.string ⟨#[]⟩), (.int .i64 0), (.int .i64 0), (.int .i64 0), (.string ⟨#[]⟩), (.int .i64 0), (.int .i64 0), (.int .i64 0), (.string ⟨#[]⟩), (.int .i64 0), (.int .i64 0), (.int .i64 0), (.int .i64 0), (.int .i64 0)]) 152 rfl Try.underlying73 info29 rfl (by decide) (by omega) u911007 x911007_1 (⟨t916, (⟨t917, t918, t919, t920, t921, t922, t923, t924⟩ : S25), (⟨t925, t926, t927, t928, t929, t930, t931⟩ : S27)⟩ : S29) [.int .i64 t916, .int .i64 t917, .string t918, .int .i64 t919, .int .i64 t920, .int .i64 t921, .string t922, .int .i64 t923, .int .i64 t924, .int .i64 t925, .string t926, .int .i64 t927, .int .i64 t928, .int .i64 t929, .int .i64 t930, .int .i64 t931] (fun k_ => k_ ≠ gb933) (fun _ => False) rfl (by first | (go_simp; done) | (go_simp; rfl)) ?aP (fun _ hk => hk.elim) ?aF ?aO ?aB ?aS ?aL ?_; (case aP => exact k29_mkM _ _ _ (⟨t916, (⟨t917, t918, t919, t920, t921, t922, t923, t924⟩ : S25), (⟨t925, t926, t927, t928, t929, t930, t931⟩ : S27)⟩ : S29)); (case aB => exact (qB HB)); (case aF => exact (fun k_ hk => Kd.freshB (g := gb933) (o := .cells #[.int .i64 t916, .int .i64 t917, .string t918, .int .i64 t919, .int .i64 t920, .int .i64 t921, .string t922, .int .i64 t923, .int .i64 t924, .int .i64 t925, .string t926, .int .i64 t927, .int .i64 t928, .int .i64 t929, .int .i64 t930, .int .i64 t931] 29 (0, 0)) (by exact blk_all16 (qK BK933)) k_ hk)); (case aO => exact (gR1_ (g := gb933) HO_911007)); (case aS => exact (below_size (qB HB))); (case aL => have := LMc38.out; omega); intro v935 w67 ho hb hg hat; rw [← Ny934.out] at ho; replace BK894 := fg_ BK894 hg (Kd.R_ne HO_911007.out BK894.out (by decide)); replace BK910 := fg_ BK910 hg (Kd.R_ne HO_911007.out BK910.out (by decide)); replace HI895 := am_ (IsS100.grown (IsS100.qz HI895) hg (IsS100.own_ne HI895.out HO_911007.out (by decide))); replace BK933 := am_ (blk_grown (g := gb933) (o := .cells #[.int .i64 t916, .int .i64 t917, .string t918, .int .i64 t919, .int .i64 t920, .int .i64 t921, .string t922, .int .i64 t923, .int .i64 t924, .int .i64 t925, .string t926, .int .i64 t927, .int .i64 t928, .int .i64 t929, .int .i64 t930, .int .i64 t931] 29 (0, 0)) (by exact blk_all16 (qK BK933)) hg (Kd.R_away HO_911007.out (fun _ hk => hk))); replace HB := am_ (hb); have HO936 := am_ (ho); clear HO_911007; clear ho hb hg hat; obtain ⟨Ao68, co68, eo68⟩ := Kd.R_slice HO936.out; subst eo68; (try clear zK910); have zK910 := cf8 BK910.out; obtain ⟨ASz70_0, cSz70_0, HGz70, hgz70, HSz70_0⟩ := HI895.out; obtain ⟨HSz70_0, HQz70_0⟩ := HSz70_0; have z70_0 := cellS100_0 HGz70; have z70_1 := cellS100_1 HGz70; have f70_1 := blk_frozen HGz70 1; clear HGz70 hgz70))
   go_roundg k1
   case measure => have := HK1.out; omega
   case rel => exact ⟨(wrap64 (x31_1 + 1)), (x895000_1), (x895001_1), (x895002_1), (x895003_1), (x895004_1), (x895005_1), (x895006_1), (wrap64 (t914 + t913)), (y934), (.slice Ao68 y934.length co68), eqq_, H', ⟨by have := HK1.out; omega⟩, ⟨by (with_reducible repeat (first | apply Kd.R_alloc | apply Kd.R_drewN | apply Kd.R_drew)); exact Kd.R_mono (Kd.R_far (p := ⟨gb895, 1, none⟩) (Kd.R_far (p := ⟨gb910, 7, none⟩) (IsS100.apart HI895.out (Kd.R_types HO936.out BK910.out (by decide)) (by decide)) (fun _ hk => hk.1.2) (.slice Ao68 y934.length co68)) (fun _ hk => hk.2) (.int .i64 (wrap64 (t914 + t913)))) (fun _ hk => trivial)⟩, ⟨by (with_reducible repeat (first | refine blk_drewN ?_ _ | refine blk_drew ?_ | refine blk_alloc ?_ _)); refine blk_far ?_ NB894_895.out _; (with_reducible repeat (first | refine blk_drewN ?_ _ | refine blk_drew ?_ | refine blk_alloc ?_ _)); refine blk_far ?_ NB894_910.out _; exact qK BK894⟩, ⟨by (with_reducible repeat (first | refine blk_drewN ?_ _ | refine blk_drew ?_ | refine blk_alloc ?_ _)); refine blk_far ?_ NB910_895.out _; (with_reducible repeat (first | refine blk_drewN ?_ _ | refine blk_drew ?_ | refine blk_alloc ?_ _)); refine blk_put (cs := #[.int .i64 t896, .int .i64 t898, .int .i64 t900, .int .i64 t902, .int .i64 t904, .bool (t906 == 1), .int .i64 t908, u911007]) ?_ 7 _ rfl; exact qK BK910⟩, ⟨IsS100.qz HI895⟩, ⟨qB HB⟩⟩

end Go.Proofs.Ytiffahfpfgnjnaa.PFnCtls
