-- Written by a program of this session (myprint.py, over the kit's print): contracts of FnWays
import Derived.Test.YtiffahfpfgnjnaaPFnWaysx0
import Derived.Test.YtiffahfpfgnjnaaPFnWaysx3
import Derived.Test.YtiffahfpfgnjnaaPFnWaysx10
import Derived.Test.YtiffahfpfgnjnaaPFnWaysx12
import Derived.Test.YtiffahfpfgnjnaaPFnWaysx13
import Derived.Test.YtiffahfpfgnjnaaPFnWaysx14
import Derived.Test.YtiffahfpfgnjnaaPFnWaysx15
import Derived.Test.YtiffahfpfgnjnaaPFnWaysx23
namespace Go.Proofs.Ytiffahfpfgnjnaa.PFnWays
open Go.RowKit Go.Proofs.YtiffahfpfgnjnaaW.PrintWords Go.Proofs.YtiffahfpfgnjnaaW.PrintLast Go.Proofs.YtiffahfpfgnjnaaW.PrintMore Go.Proofs.YtiffahfpfgnjnaaV
attribute [local go_sem] max2_int min2_int max_two min_two max_three min_three max_four min_four   -- for this text's walks alone
set_option linter.unusedVariables false
set_option linter.unusedSimpArgs false

/-! ### laws_FnWays: function 5 -/
mutual
def laws_FnWays.j0 : Nat → List (S68) → Int → List (S68) → Bool → List (S68) → Int → List (S68) → Bool → Bool → Int → List Int → Option (Bool)
 | 0, _, _, _, _, _, _, _, _, _, _, _ => none
 | k + 1, x3, x4, x5, x7, x8, x9, x10, x11, x85, x990000, x990001 => if x85 = true then (some false) else (if x11 = true then (if (x10.length : Int) = (wrap64 ((x8.length : Int) + 1)) then (if 0 ≤ (x8.length : Int) then (if (x8.length : Int) ≤ (x10.length : Int) then ((laws_samePacks.f k (x10.take ((x8.length : Int) : Int).toNat) x8).bind fun t1029 => (if t1029 = true then (if (x8.length : Int) < (x10.length : Int) then (if (x8.length : Int) = 0 then (none) else (if 0 ≤ (Int.tmod x9 (x8.length : Int)) then (if (Int.tmod x9 (x8.length : Int)) < (x8.length : Int) then ((laws_same.f ((rd_T68 x10 (x8.length : Int)).f1) ((rd_T68 x8 (Int.tmod x9 (x8.length : Int))).f1)).bind fun t1032 => (if t1032 = true then (laws_FnWays.j1 k x3 x4 x5 x7 false x990000 x990001) else (laws_FnWays.j1 k x3 x4 x5 x7 true x990000 x990001))) else (none)) else (none))) else (none)) else (laws_FnWays.j1 k x3 x4 x5 x7 true x990000 x990001))) else (none)) else (none)) else (laws_FnWays.j1 k x3 x4 x5 x7 true x990000 x990001)) else ((laws_samePacks.f k x10 x8).bind fun t1033 => (laws_FnWays.j1 k x3 x4 x5 x7 (!t1033) x990000 x990001)))
def laws_FnWays.j1 : Nat → List (S68) → Int → List (S68) → Bool → Bool → Int → List Int → Option (Bool)
 | 0, _, _, _, _, _, _, _ => none
 | k + 1, x3, x4, x5, x7, x131, x990000, x990001 => if x131 = true then (some false) else (if x7 = true then (if (x3.length : Int) = 0 then (none) else (if 0 ≤ (Int.tmod x4 (x3.length : Int)) then (if (Int.tmod x4 (x3.length : Int)) ≤ (x5.length : Int) then (if (Int.tmod x4 (x3.length : Int)) ≤ (x3.length : Int) then ((laws_samePacks.f k (x5.take ((Int.tmod x4 (x3.length : Int)) : Int).toNat) (x3.take ((Int.tmod x4 (x3.length : Int)) : Int).toNat)).bind fun t1042 => (if t1042 = true then (if 0 ≤ (wrap64 ((Int.tmod x4 (x3.length : Int)) + 1)) then (if (wrap64 ((Int.tmod x4 (x3.length : Int)) + 1)) ≤ (x3.length : Int) then ((laws_samePacks.f k (x5.drop ((Int.tmod x4 (x3.length : Int)) : Int).toNat) (x3.drop ((wrap64 ((Int.tmod x4 (x3.length : Int)) + 1)) : Int).toNat)).bind fun t1051 => (if t1051 = true then (if (Int.tmod x4 (x3.length : Int)) < (x3.length : Int) then (if x990000 = ((rd_T68 x3 (Int.tmod x4 (x3.length : Int))).f0) then ((laws_same.f x990001 ((rd_T68 x3 (Int.tmod x4 (x3.length : Int))).f1)).bind fun t1054 => (some t1054)) else (some false)) else (none)) else (some false))) else (none)) else (none)) else (some false))) else (none)) else (none)) else (none))) else ((laws_samePacks.f k x5 x3).bind fun t1055 => (some t1055)))
end
def laws_FnWays.f (k : Nat) (l0 : List Int) : Option (Bool) := (laws_big.f l0).bind fun t976 => (if t976 = true then (some true) else ((spec_DrawTakeOut.f k l0).bind fun bt977 => ((impl_TakeOut.f k bt977.1 bt977.2).bind fun bt981 => ((spec_DrawTwice.f k l0).bind fun bt990 => ((impl_Twice.f k bt990.1 bt990.2).bind fun bt994 => ((spec_Twice.f k bt990.1 bt990.2).bind fun bt998 => ((spec_DrawSend.f k l0).bind fun bt1002 => ((impl_Send.f k bt1002.1 bt1002.2.1 bt1002.2.2.1 bt1002.2.2.2.1 bt1002.2.2.2.2.1 bt1002.2.2.2.2.2.1 bt1002.2.2.2.2.2.2.1 bt1002.2.2.2.2.2.2.2.1 bt1002.2.2.2.2.2.2.2.2).bind fun t1016 => ((impl_WayOk.f k bt977.1).bind fun t1019 => ((spec_WayOk.f k bt977.1).bind fun t1020 => (if (t1019 != t1020) = true then (laws_FnWays.j0 k bt977.1 bt977.2 bt981.1 bt981.2.2.2 bt990.1 bt990.2 bt994.1 bt994.2 true bt981.2.1 bt981.2.2.1) else (if (bt994.2 != bt998.2) = true then (laws_FnWays.j0 k bt977.1 bt977.2 bt981.1 bt981.2.2.2 bt990.1 bt990.2 bt994.1 bt994.2 true bt981.2.1 bt981.2.2.1) else ((spec_Send.f k bt1002.1 bt1002.2.1 bt1002.2.2.1 bt1002.2.2.2.1 bt1002.2.2.2.2.1 bt1002.2.2.2.2.2.1 bt1002.2.2.2.2.2.2.1 bt1002.2.2.2.2.2.2.2.1 bt1002.2.2.2.2.2.2.2.2).bind fun t1021 => ((laws_samePacks.f k t1016 t1021).bind fun t1024 => (if t1024 = true then (if (bt977.1.length : Int) > 0 then (laws_FnWays.j0 k bt977.1 bt977.2 bt981.1 bt981.2.2.2 bt990.1 bt990.2 bt994.1 bt994.2 (bt981.2.2.2 != (decide (bt977.2 ≥ 0))) bt981.2.1 bt981.2.2.1) else (laws_FnWays.j0 k bt977.1 bt977.2 bt981.1 bt981.2.2.2 bt990.1 bt990.2 bt994.1 bt994.2 (bt981.2.2.2 != false) bt981.2.1 bt981.2.2.1)) else (laws_FnWays.j0 k bt977.1 bt977.2 bt981.1 bt981.2.2.2 bt990.1 bt990.2 bt994.1 bt994.2 true bt981.2.1 bt981.2.2.1))))))))))))))))
theorem laws_FnWays.mono_l : ∀ k, (∀ y0 y1 y2 y3 y4 y5 y6 y7 y8 y9 y10, LeO (laws_FnWays.j0 k y0 y1 y2 y3 y4 y5 y6 y7 y8 y9 y10) (laws_FnWays.j0 (k + 1) y0 y1 y2 y3 y4 y5 y6 y7 y8 y9 y10)) ∧ (∀ y0 y1 y2 y3 y4 y5 y6, LeO (laws_FnWays.j1 k y0 y1 y2 y3 y4 y5 y6) (laws_FnWays.j1 (k + 1) y0 y1 y2 y3 y4 y5 y6))
 | 0 => ⟨fun _ _ _ _ _ _ _ _ _ _ _ r h => by simp [laws_FnWays.j0] at h, fun _ _ _ _ _ _ _ r h => by simp [laws_FnWays.j1] at h⟩
 | k + 1 => by
  obtain ⟨ih0, ih1⟩ := laws_FnWays.mono_l k
  refine ⟨?_, ?_⟩
  ·
   intro y0 y1 y2 y3 y4 y5 y6 y7 y8 y9 y10
   unfold laws_FnWays.j0
   repeat' first
   | (with_reducible exact ih0 _ _ _ _ _ _ _ _ _ _ _)
   | (with_reducible exact ih1 _ _ _ _ _ _ _)
   | (with_reducible exact impl_Send.mono _ _ _ _ _ _ _ _ _ _)
   | (with_reducible exact impl_TakeOut.mono _ _ _)
   | (with_reducible exact impl_Twice.mono _ _ _)
   | (with_reducible exact impl_WayOk.mono _ _)
   | (with_reducible exact laws_samePacks.mono _ _ _)
   | (with_reducible exact spec_DrawSend.mono _ _)
   | (with_reducible exact spec_DrawTakeOut.mono _ _)
   | (with_reducible exact spec_DrawTwice.mono _ _)
   | (with_reducible exact spec_Send.mono _ _ _ _ _ _ _ _ _ _)
   | (with_reducible exact spec_Twice.mono _ _ _)
   | (with_reducible exact spec_WayOk.mono _ _)
   | (with_reducible exact LeO.refl _)
   | (with_reducible exact LeO.none _)
   | (with_reducible refine LeO.ite ?_ ?_)
   | (with_reducible refine LeO.bind ?_ (fun _ => ?_))
  ·
   intro y0 y1 y2 y3 y4 y5 y6
   unfold laws_FnWays.j1
   repeat' first
   | (with_reducible exact ih0 _ _ _ _ _ _ _ _ _ _ _)
   | (with_reducible exact ih1 _ _ _ _ _ _ _)
   | (with_reducible exact impl_Send.mono _ _ _ _ _ _ _ _ _ _)
   | (with_reducible exact impl_TakeOut.mono _ _ _)
   | (with_reducible exact impl_Twice.mono _ _ _)
   | (with_reducible exact impl_WayOk.mono _ _)
   | (with_reducible exact laws_samePacks.mono _ _ _)
   | (with_reducible exact spec_DrawSend.mono _ _)
   | (with_reducible exact spec_DrawTakeOut.mono _ _)
   | (with_reducible exact spec_DrawTwice.mono _ _)
   | (with_reducible exact spec_Send.mono _ _ _ _ _ _ _ _ _ _)
   | (with_reducible exact spec_Twice.mono _ _ _)
   | (with_reducible exact spec_WayOk.mono _ _)
   | (with_reducible exact LeO.refl _)
   | (with_reducible exact LeO.none _)
   | (with_reducible refine LeO.ite ?_ ?_)
   | (with_reducible refine LeO.bind ?_ (fun _ => ?_))
theorem laws_FnWays.mono : ∀ a0 k, LeO (laws_FnWays.f k a0) (laws_FnWays.f (k + 1) a0) := by
 intro a0 k
 obtain ⟨ih0, ih1⟩ := laws_FnWays.mono_l k
 unfold laws_FnWays.f
 repeat' first
   | (with_reducible exact ih0 _ _ _ _ _ _ _ _ _ _ _)
   | (with_reducible exact ih1 _ _ _ _ _ _ _)
   | (with_reducible exact impl_Send.mono _ _ _ _ _ _ _ _ _ _)
   | (with_reducible exact impl_TakeOut.mono _ _ _)
   | (with_reducible exact impl_Twice.mono _ _ _)
   | (with_reducible exact impl_WayOk.mono _ _)
   | (with_reducible exact laws_samePacks.mono _ _ _)
   | (with_reducible exact spec_DrawSend.mono _ _)
   | (with_reducible exact spec_DrawTakeOut.mono _ _)
   | (with_reducible exact spec_DrawTwice.mono _ _)
   | (with_reducible exact spec_Send.mono _ _ _ _ _ _ _ _ _ _)
   | (with_reducible exact spec_Twice.mono _ _ _)
   | (with_reducible exact spec_WayOk.mono _ _)
   | (with_reducible exact LeO.refl _)
   | (with_reducible exact LeO.none _)
   | (with_reducible refine LeO.ite ?_ ?_)
   | (with_reducible refine LeO.bind ?_ (fun _ => ?_))
def laws_FnWays.T12 : Bool × List (List Nat × List Nat) := (true, [([], []), ([0], [0]), ([1], [1]), ([2, 1], [1, 2]), ([1], [1]), ([4, 1], [1, 4]), ([5, 1], [1, 5]), ([3, 6, 1], [1, 3, 6]), ([7, 1, 1], [1, 7]), ([8], [8]), ([8], [8]), ([10, 8], [8, 10]), ([9, 11, 8], [8, 9, 11]), ([8], [8]), ([12, 13, 8, 8], [8, 12, 13]), ([14, 8], [8, 14]), ([8, 15, 1], [1, 8, 15]), ([16, 14, 1], [1, 16]), ([17], [17]), ([17], [17]), ([19, 17], [17, 19]), ([18, 20, 17], [17, 18, 20]), ([21, 17], [17, 21]), ([22, 17], [17, 22]), ([17], [17]), ([17], [17]), ([17], [17]), ([26, 17], [17, 26]), ([25, 27, 17], [17, 25, 27]), ([24, 28, 17], [17, 24, 28]), ([29, 17], [17, 29]), ([30, 17], [17, 30]), ([23, 31, 17, 17], [17, 23, 31]), ([32, 17], [17, 32]), ([17, 33, 1], [1, 17, 33]), ([1, 34], [1, 34]), ([35, 32], [35]), ([36], [36]), ([37, 36], [36, 37]), ([38, 36, 36], [36, 38]), ([39], [39]), ([39], [39]), ([40, 41, 39, 39], [39, 40, 41]), ([42, 39], [39, 42]), ([39, 43, 36], [36, 39, 43]), ([36, 44], [36, 44])])
def laws_FnWays.B12 : List Nat := [0, 1, 3, 7, 3, 19, 51, 127, 255, 511, 511, 1535, 4095, 511, 16383, 32767, 65535, 131071, 262143, 262143, 786431, 2097151, 4194303, 8388607, 262143, 262143, 262143, 67371007, 235143167, 520355839, 1057226751, 2130968575, 4294967295, 8589934591, 17179869183, 34359738367, 68719476735, 137438953471, 274877906943, 549755813887, 1099511627775, 1099511627775, 4398046511103, 8796093022207, 17592186044415, 35184372088831]
theorem laws_FnWays.tab12 : rtab .any (opsOf Try.f5 12) = laws_FnWays.T12 := by kernel_rfl
theorem laws_FnWays.bits12 : waitsOk laws_FnWays.T12.2 laws_FnWays.B12 = true := by kernel_rfl
def laws_FnWays.T17 : Bool × List (List Nat × List Nat) := (true, [([], []), ([], []), ([0, 1], [0, 1]), ([], []), ([], []), ([3, 4], [3, 4]), ([2, 5], [2, 5]), ([6, 6], [6]), ([7], [7]), ([7], [7]), ([8, 9, 7], [7, 8, 9]), ([7], [7]), ([7], [7]), ([12, 7], [7, 12]), ([11, 13, 7], [7, 11, 13]), ([10, 14, 7, 7], [7, 10, 14]), ([7, 15], [7, 15]), ([16, 15], [16]), ([17], [17]), ([18, 17], [17, 18]), ([17], [17]), ([17], [17]), ([20, 21, 17], [17, 20, 21]), ([22, 17], [17, 22]), ([23, 17], [17, 23]), ([19, 24, 17], [17, 19, 24]), ([17, 25], [17, 25]), ([26, 17], [26]), ([27], [27]), ([28, 27], [27, 28]), ([27], [27]), ([27], [27]), ([30, 31, 27], [27, 30, 31]), ([32, 27], [27, 32]), ([33, 27], [27, 33]), ([29, 34, 27, 27], [27, 29, 34]), ([27, 35], [27, 35]), ([36, 35, 0, 1, 2, 3, 4, 5, 6, 7, 8, 9, 10, 11, 12, 13, 14, 15, 16, 17, 18, 19, 20, 21, 22, 23, 24, 25, 26, 27, 28, 29, 30, 31, 32, 33, 34, 35, 36], [36])])
def laws_FnWays.B17 : List Nat := [0, 0, 3, 0, 0, 24, 63, 127, 255, 255, 1023, 255, 255, 4351, 14591, 32767, 65535, 131071, 262143, 524287, 262143, 262143, 3407871, 7602175, 15990783, 33554431, 67108863, 134217727, 268435455, 536870911, 268435455, 268435455, 3489660927, 7784628223, 16374562815, 34359738367, 68719476735, 137438953471]
theorem laws_FnWays.tab17 : rtab .any (opsOf Try.f5 17) = laws_FnWays.T17 := by kernel_rfl
theorem laws_FnWays.bits17 : waitsOk laws_FnWays.T17.2 laws_FnWays.B17 = true := by kernel_rfl
set_option maxHeartbeats 8000000 in
set_option maxRecDepth 100000 in
theorem laws_FnWays.calls (k : Nat) (A0 : Option Addr) (c0 : Nat) (l0 : List Int) (r : Bool) (w : World) (hr0 : Kd.C (Kd.int .u8) w A0 l0.length l0) (hc0 : l0.length ≤ c0) (hr_ : Aside0 (r = true)) (h : laws_FnWays.f k l0 = some r) :
  Calls Try.prog 5 #[.slice A0 l0.length c0] w fun e w' => e = .returned (.bool r) ∧ Below w.heap.size w w' := by
 have hu68 := Try.underlying68
 have hu75 := Try.underlying75
 have HR0 := Aside0.mk hr0
 have HC0 := Aside0.mk hc0
 clear hr0 hc0
 have HB := Aside0.mk (Below.refl w.heap.size w)
 have H := h
 unfold laws_FnWays.f at H
 clear h
 replace H := bd_ H
 obtain ⟨t976, A2, H⟩ := H
 have HC3 := Aside0.mk H
 clear H
 go_enter Try.func5, Try.ntmps5
 go_upto_if 19 with (first | ((with_reducible refine gate_ld rfl ?_); first | refine ld_ ?_ | fail) | ((with_reducible refine gate_callee (f := 7) rfl ?_); refine gl_ (some 19) Try.func7 #[.slice A0 l0.length c0] ?_; (with_reducible refine (laws_big.calls _ _ l0 t976 _ ?side1 ?side2 A2.out).mono ?_); (case side1 => exact qC (HR0.out)); (case side2 => exact HC0.out); rintro e w' ⟨rfl, ⟨nd, rfl⟩⟩; refine ⟨_, rfl, ?_⟩))
 (try simp only [Act.put, List.setIfInBounds_toArray, List.set_cons_zero, List.set_cons_succ])
 have H := HC3.out
 clear HC3
 by_cases c4 : t976 = true
 ·
  subst c4
  rw [if_pos rfl] at H
  obtain rfl := Option.some.inj H
  go_wp2_with ((with_reducible refine gate_ld rfl ?_); first | refine ld_ ?_ | fail)
  go_ret
  exact ⟨er_, qB HB⟩
 replace c4 := Bool.eq_false_iff.mpr c4
 subst c4
 rw [if_neg (show ¬ (false = true) by decide)] at H
 replace H := bd_ H
 obtain ⟨⟨t977, t978⟩, A5, H⟩ := H
 (try dsimp only at H)
 replace H := bf_ H
 obtain ⟨f_, hf_, ⟨t981, t984, t985, t988⟩, A6, H⟩ := H
 subst hf_
 (try dsimp only at H)
 replace H := bd_ H
 obtain ⟨⟨t990, t991⟩, A7, H⟩ := H
 (try dsimp only at H)
 replace H := bd_ H
 obtain ⟨⟨t994, t995⟩, A8, H⟩ := H
 (try dsimp only at H)
 replace H := bd_ H
 obtain ⟨⟨t998, t999⟩, A9, H⟩ := H
 (try dsimp only at H)
 replace H := bf_ H
 obtain ⟨f_, hf_, ⟨t1002, t1005, t1006, t1007, t1008, t1009, t1010, t1011, t1012⟩, A10, H⟩ := H
 subst hf_
 (try dsimp only at H)
 replace H := bd_ H
 obtain ⟨t1016, A11, H⟩ := H
 have HC12 := Aside0.mk H
 clear H
 go_upto_region 10 with (first | ((with_reducible refine gate_ld rfl ?_); first | refine ld_ ?_ | fail) | ((with_reducible refine gate_callee (f := 40) rfl ?_); refine gl_ (some 22) Try.func40 #[.slice A0 l0.length c0] ?_; (with_reducible refine (spec_DrawTakeOut.calls k _ _ l0 t977 t978 _ ?side1 ?side2 A5.out).mono ?_); (case side1 => exact qC (Kd.C_below HR0.out HB.out)); (case side2 => exact HC0.out); rintro e w13 ⟨v979, rfl, ho0, hb⟩; refine ⟨_, rfl, ?_⟩; have HO980 := am_ (Kd.S_lower ho0 (below_size (qB HB))); replace HB := bS_ HB hb; (try clear hb); (try clear ho0); obtain ⟨Ao14, co14, eo14⟩ := Kd.S_slice HO980.out; subst eo14) | ((with_reducible refine gate_callee (f := 41) rfl ?_); refine gl_ (some 28) Try.func41 #[.slice Ao14 t977.length co14, .int .i64 t978] ?_; (with_reducible refine (impl_TakeOut.calls k _ _ t977 t978 t981 t984 t985 t988 _ ?side1 ?side2 A6.out).mono ?_); (case side1 => exact qC ((Kd.S_reads' HO980.out).2.2)); (case side2 => exact (Kd.S_reads' HO980.out).2.1); rintro e w15 ⟨v982, v986, rfl, ho0, ho1, hb⟩; refine ⟨_, rfl, ?_⟩; have HO983 := am_ (Kd.S_lower (Kd.S_new' ho0 (Kd.S_lt (qS HO980))) (below_size (qB HB))); replace HO980 := am_ (Kd.S_mono (Kd.S_told (Kd.S_told (Kd.S_old (qS HO980) hb) (Kd.S_base ho0)) (Kd.R_base ho1)) (fun _ h_ => h_.1)); have HO987 := am_ (Kd.R_lower ho1 (below_size (qB HB))); replace HB := bS_ HB hb; (try clear hb); (try clear ho0); (try clear ho1)) | ((with_reducible refine gate_dst (N := 6) rfl ?_); (try (refine gate_guard (by rfl) ?_; dsimp only)); refine box_event ?hg (N := 6) ?hd (cs := #[.int .i64 0, .slice none 0 0]) (t := 68) ?hr ?_; (case hd => rfl); (case hg => rfl); (case hr => first | (go_simp; done) | (go_simp; rfl) | ((try (obtain ⟨_, _, rfl⟩ := Kd.R_slice HO980.out)); (try (obtain ⟨_, _, rfl⟩ := Kd.R_slice HO983.out)); (try (obtain ⟨_, _, rfl⟩ := Kd.R_slice HO987.out)); (try (obtain ⟨_, _, rfl⟩ := Kd.R_slice HO993.out)); (try (obtain ⟨_, _, rfl⟩ := Kd.R_slice HO997.out)); (try (obtain ⟨_, _, rfl⟩ := Kd.R_slice HO1001.out)); (try (obtain ⟨_, _, rfl⟩ := Kd.R_slice HO1004.out)); (try (obtain ⟨_, _, rfl⟩ := Kd.R_slice HO1014.out)); (try (obtain ⟨_, _, rfl⟩ := Kd.R_slice HO1018.out)); first | (go_simp; done) | (go_simp; rfl))); intro gb989 hg w16 hbox hb; replace HO980 := am_ (Kd.S_below (Kd.S_elderB (qS HO980) gb989 (Nat.le_of_eq hg.symm)) hb); replace HO983 := am_ (Kd.S_below (Kd.S_elderB (qS HO983) gb989 (Nat.le_of_eq hg.symm)) hb); replace HO987 := rB_ HO987 hb; have BK989 := am_ (hbox); have GW989 := gA_ hg HB; have GE989 := GW989; have IGE989 := gI_ GE989; replace HB := bS_ HB hb; clear hb hbox hg; (try clear zK989); have zK989 := cz2 BK989.out; (try clear fK989); have fK989 := fz2 BK989.out; obtain ⟨Ao18, co18, eo18⟩ := Kd.R_slice HO987.out; subst eo18) | ((with_reducible refine gate_callee (f := 42) rfl ?_); refine gl_ (some 34) Try.func42 #[.slice A0 l0.length c0] ?_; (with_reducible refine (spec_DrawTwice.calls k _ _ l0 t990 t991 _ ?side1 ?side2 A7.out).mono ?_); (case side1 => exact Kd.C_below HR0.out (qB HB)); (case side2 => exact HC0.out); rintro e w19 ⟨v992, rfl, ho0, hb⟩; refine ⟨_, rfl, ?_⟩; have HO993 := am_ (Kd.S_lower (Kd.S_newB (Kd.S_new' (Kd.S_new' (Kd.S_new' ho0 (Kd.S_lt (by (with_reducible repeat (first | apply Kd.S_alloc | apply Kd.S_drewN | apply Kd.S_drew)); exact (Kd.S_mono (Kd.S_far (p := ⟨gb989, 1, none⟩) (Kd.S_far (p := ⟨gb989, 0, none⟩) (Kd.S_mono HO980.out (fun k_ hk => (⟨hk, hk.2⟩ : _ ∧ k_ ≠ gb989))) (fun _ hk => hk.2) (.int .i64 t984)) (fun _ hk => hk.2) (.slice Ao18 t985.length co18)) (fun _ h_ => h_.1))))) (Kd.S_lt (by (with_reducible repeat (first | apply Kd.S_alloc | apply Kd.S_drewN | apply Kd.S_drew)); exact (Kd.S_mono (Kd.S_far (p := ⟨gb989, 1, none⟩) (Kd.S_far (p := ⟨gb989, 0, none⟩) (Kd.S_mono HO983.out (fun k_ hk => (⟨hk, hk.2⟩ : _ ∧ k_ ≠ gb989))) (fun _ hk => hk.2) (.int .i64 t984)) (fun _ hk => hk.2) (.slice Ao18 t985.length co18)) (fun _ h_ => h_.1))))) (Kd.R_lt (by (with_reducible repeat (first | apply Kd.R_alloc | apply Kd.R_drewN | apply Kd.R_drew)); exact (Kd.R_mono (R_far2 (g := gb989) (Kd.R_types HO987.out BK989.out (by decide)) (fun _ hk => hk.2)) (fun _ h_ => h_.1))))) (g := gb989) (o := .cells #[.int .i64 t984, .slice Ao18 t985.length co18] 68 (0, 0)) (by exact blk_all2 (qK BK989))) (below_size (qB HB))); replace HO980 := am_ (Kd.S_elder' (by (with_reducible repeat (first | apply Kd.S_alloc | apply Kd.S_drewN | apply Kd.S_drew)); exact (Kd.S_mono (Kd.S_far (p := ⟨gb989, 1, none⟩) (Kd.S_far (p := ⟨gb989, 0, none⟩) (Kd.S_mono HO980.out (fun k_ hk => (⟨hk, hk.2⟩ : _ ∧ k_ ≠ gb989))) (fun _ hk => hk.2) (.int .i64 t984)) (fun _ hk => hk.2) (.slice Ao18 t985.length co18)) (fun _ h_ => h_.1))) (Kd.S_base ho0) hb); replace HO983 := am_ (Kd.S_elder' (by (with_reducible repeat (first | apply Kd.S_alloc | apply Kd.S_drewN | apply Kd.S_drew)); exact (Kd.S_mono (Kd.S_far (p := ⟨gb989, 1, none⟩) (Kd.S_far (p := ⟨gb989, 0, none⟩) (Kd.S_mono HO983.out (fun k_ hk => (⟨hk, hk.2⟩ : _ ∧ k_ ≠ gb989))) (fun _ hk => hk.2) (.int .i64 t984)) (fun _ hk => hk.2) (.slice Ao18 t985.length co18)) (fun _ h_ => h_.1))) (Kd.S_base ho0) hb); replace HO987 := am_ (Kd.R_below (by (with_reducible repeat (first | apply Kd.R_alloc | apply Kd.R_drewN | apply Kd.R_drew)); exact (Kd.R_mono (R_far2 (g := gb989) (Kd.R_types HO987.out BK989.out (by decide)) (fun _ hk => hk.2)) (fun _ h_ => h_.1))) hb); replace BK989 := am_ (blk_below (g := gb989) (o := .cells #[.int .i64 t984, .slice Ao18 t985.length co18] 68 (0, 0)) (by exact blk_all2 (qK BK989)) hb); replace HB := bS_ HB hb; (try clear hb); (try clear hk); (try clear ho0); obtain ⟨Ao20, co20, eo20⟩ := Kd.S_slice HO993.out; subst eo20) | ((with_reducible refine gate_callee (f := 43) rfl ?_); refine gl_ (some 40) Try.func43 #[.slice Ao20 t990.length co20, .int .i64 t991] ?_; (with_reducible refine (impl_Twice.calls k _ _ t990 t991 t994 t995 _ ?side1 ?side2 A8.out).mono ?_); (case side1 => exact qC ((Kd.S_reads' HO993.out).2.2)); (case side2 => exact (Kd.S_reads' HO993.out).2.1); rintro e w21 ⟨v996, rfl, ho0, hb⟩; refine ⟨_, rfl, ?_⟩; have HO997 := am_ (Kd.S_lower (Kd.S_newB (Kd.S_new' (Kd.S_new' (Kd.S_new' (Kd.S_new' ho0 (Kd.S_lt (qS HO980))) (Kd.S_lt (qS HO983))) (Kd.R_lt (qR HO987))) (Kd.S_lt (qS HO993))) (qK BK989)) (below_size (qB HB))); replace HO980 := am_ (Kd.S_elder' (qS HO980) (Kd.S_base ho0) hb); replace HO983 := am_ (Kd.S_elder' (qS HO983) (Kd.S_base ho0) hb); replace HO987 := rB_ HO987 hb; replace HO993 := am_ (Kd.S_elder' (qS HO993) (Kd.S_base ho0) hb); replace BK989 := bK_ BK989 hb; replace HB := bS_ HB hb; (try clear hb); (try clear ho0)) | ((with_reducible refine gate_callee (f := 44) rfl ?_); refine gl_ (some 46) Try.func44 #[.slice Ao20 t990.length co20, .int .i64 t991] ?_; (with_reducible refine (spec_Twice.calls k _ _ t990 t991 t998 t999 _ ?side1 ?side2 A9.out).mono ?_); (case side1 => exact qC ((Kd.S_reads' HO993.out).2.2)); (case side2 => exact (Kd.S_reads' HO993.out).2.1); rintro e w22 ⟨v1000, rfl, ho0, hb⟩; refine ⟨_, rfl, ?_⟩; have HO1001 := am_ (Kd.S_lower (Kd.S_newB (Kd.S_new' (Kd.S_new' (Kd.S_new' (Kd.S_new' (Kd.S_new' ho0 (Kd.S_lt (qS HO980))) (Kd.S_lt (qS HO983))) (Kd.R_lt (qR HO987))) (Kd.S_lt (qS HO993))) (Kd.S_lt (qS HO997))) (qK BK989)) (below_size (qB HB))); replace HO980 := am_ (Kd.S_elder' (qS HO980) (Kd.S_base ho0) hb); replace HO983 := am_ (Kd.S_elder' (qS HO983) (Kd.S_base ho0) hb); replace HO987 := rB_ HO987 hb; replace HO993 := am_ (Kd.S_elder' (qS HO993) (Kd.S_base ho0) hb); replace HO997 := am_ (Kd.S_elder' (qS HO997) (Kd.S_base ho0) hb); replace BK989 := bK_ BK989 hb; replace HB := bS_ HB hb; (try clear hb); (try clear ho0)) | ((with_reducible refine gate_callee (f := 45) rfl ?_); refine gl_ (some 51) Try.func45 #[.slice A0 l0.length c0] ?_; (with_reducible refine (spec_DrawSend.calls k _ _ l0 t1002 t1005 t1006 t1007 t1008 t1009 t1010 t1011 t1012 _ ?side1 ?side2 A10.out).mono ?_); (case side1 => exact qC (Kd.C_below HR0.out HB.out)); (case side2 => exact HC0.out); rintro e w23 ⟨v1003, v1013, rfl, ho0, ho1, hb⟩; refine ⟨_, rfl, ?_⟩; have HO1004 := am_ (Kd.S_lower (Kd.S_newB (Kd.S_new' (Kd.S_new' (Kd.S_new' (Kd.S_new' (Kd.S_new' (Kd.S_new' ho0 (Kd.S_lt (qS HO980))) (Kd.S_lt (qS HO983))) (Kd.R_lt (qR HO987))) (Kd.S_lt (qS HO993))) (Kd.S_lt (qS HO997))) (Kd.S_lt (qS HO1001))) (qK BK989)) (below_size (qB HB))); replace HO980 := am_ (Kd.S_elder' (qS HO980) (Kd.S_base ho0) hb); replace HO983 := am_ (Kd.S_elder' (qS HO983) (Kd.S_base ho0) hb); replace HO987 := rB_ HO987 hb; replace HO993 := am_ (Kd.S_elder' (qS HO993) (Kd.S_base ho0) hb); replace HO997 := am_ (Kd.S_elder' (qS HO997) (Kd.S_base ho0) hb); replace HO1001 := am_ (Kd.S_elder' (qS HO1001) (Kd.S_base ho0) hb); have HO1014 := am_ (Kd.R_lower ho1 (below_size (qB HB))); replace BK989 := bK_ BK989 hb; replace HB := bS_ HB hb; (try clear hb); (try clear ho0); (try clear ho1)) | ((with_reducible refine gate_dst (N := 15) rfl ?_); (try (refine gate_guard (by rfl) ?_; dsimp only)); refine box_event ?hg (N := 15) ?hd (cs := #[.int .i64 0, .int .i64 0, .int .i64 0, .int .i64 0, .int .i64 0, .bool false, .int .i64 0, .slice none 0 0]) (t := 75) ?hr ?_; (case hd => rfl); (case hg => rfl); (case hr => first | (go_simp; done) | (go_simp; rfl) | ((try (obtain ⟨_, _, rfl⟩ := Kd.R_slice HO980.out)); (try (obtain ⟨_, _, rfl⟩ := Kd.R_slice HO983.out)); (try (obtain ⟨_, _, rfl⟩ := Kd.R_slice HO987.out)); (try (obtain ⟨_, _, rfl⟩ := Kd.R_slice HO993.out)); (try (obtain ⟨_, _, rfl⟩ := Kd.R_slice HO997.out)); (try (obtain ⟨_, _, rfl⟩ := Kd.R_slice HO1001.out)); (try (obtain ⟨_, _, rfl⟩ := Kd.R_slice HO1004.out)); (try (obtain ⟨_, _, rfl⟩ := Kd.R_slice HO1014.out)); (try (obtain ⟨_, _, rfl⟩ := Kd.R_slice HO1018.out)); first | (go_simp; done) | (go_simp; rfl))); intro gb1015 hg w24 hbox hb; replace HO980 := am_ (Kd.S_below (qS HO980) hb); replace HO983 := am_ (Kd.S_below (qS HO983) hb); replace HO987 := rB_ HO987 hb; replace HO993 := am_ (Kd.S_below (qS HO993) hb); replace HO997 := am_ (Kd.S_below (qS HO997) hb); replace HO1001 := am_ (Kd.S_below (qS HO1001) hb); replace HO1004 := am_ (Kd.S_below (qS HO1004) hb); replace HO1014 := rB_ HO1014 hb; have BK1015 := am_ (hbox); have GW1015 := gA_ hg HB; have GE1015 := GW1015; have IGE1015 := gI_ GE1015; replace HB := bS_ HB hb; have NB989_1015 := am_ ((gN_ hg (qK BK989))); have NB1015_989 := am_ ((gM_ hg (qK BK989))); replace BK989 := bK_ BK989 hb; clear hb hbox hg; have hnb25 := NB1015_989.out; have hnc25 := NB989_1015.out; (try clear zK1015); have zK1015 := cz8 BK1015.out; (try clear fK1015); have fK1015 := fz8 BK1015.out; obtain ⟨Ao27, co27, eo27⟩ := Kd.R_slice HO1014.out; subst eo27) | ((with_reducible refine gate_store (t := 75) (p := 15) rfl ?_); refine store_event (t := 75) (p := 15) (v := ?vo_w28) (w1 := ((((((((w24.setCell ⟨gb1015, 0, none⟩ (.int .i64 t1005)).setCell ⟨gb1015, 1, none⟩ (.int .i64 t1006)).setCell ⟨gb1015, 2, none⟩ (.int .i64 t1007)).setCell ⟨gb1015, 3, none⟩ (.int .i64 t1008)).setCell ⟨gb1015, 4, none⟩ (.int .i64 t1009)).setCell ⟨gb1015, 5, none⟩ (.bool t1010)).setCell ⟨gb1015, 6, none⟩ (.int .i64 t1011)).setCell ⟨gb1015, 7, none⟩ (.slice Ao27 t1012.length co27))) ?hg ?ho ?hn ?hr ?_; (case ho => rfl); (case hg => rfl); (case hn => rfl); (case hr => first | (go_simp; done) | (go_simp; rfl) | ((try (obtain ⟨_, _, rfl⟩ := Kd.R_slice HO980.out)); (try (obtain ⟨_, _, rfl⟩ := Kd.R_slice HO983.out)); (try (obtain ⟨_, _, rfl⟩ := Kd.R_slice HO987.out)); (try (obtain ⟨_, _, rfl⟩ := Kd.R_slice HO993.out)); (try (obtain ⟨_, _, rfl⟩ := Kd.R_slice HO997.out)); (try (obtain ⟨_, _, rfl⟩ := Kd.R_slice HO1001.out)); (try (obtain ⟨_, _, rfl⟩ := Kd.R_slice HO1004.out)); (try (obtain ⟨_, _, rfl⟩ := Kd.R_slice HO1014.out)); (try (obtain ⟨_, _, rfl⟩ := Kd.R_slice HO1018.out)); first | (go_simp; done) | (go_simp; rfl))); intro w28 hw; have n0_ : Aside0 (Kd.S k68 68 w28 w.heap.size (fun k_ => some k_ ≠ (v982 : Value).ownBlock ∧ some k_ ≠ (.slice Ao18 t985.length co18 : Value).ownBlock ∧ some k_ ≠ (.slice Ao20 t990.length co20 : Value).ownBlock ∧ some k_ ≠ (v996 : Value).ownBlock ∧ some k_ ≠ (v1000 : Value).ownBlock ∧ some k_ ≠ (v1003 : Value).ownBlock ∧ k_ ≠ gb989) (.slice Ao14 t977.length co14) t977) := ⟨(by rw [hw]; exact (by (with_reducible repeat (first | apply Kd.S_alloc | apply Kd.S_drewN | apply Kd.S_drew)); exact Kd.S_mono (Kd.S_far (p := ⟨gb1015, 7, none⟩) (Kd.S_far (p := ⟨gb1015, 6, none⟩) (Kd.S_far (p := ⟨gb1015, 5, none⟩) (Kd.S_far (p := ⟨gb1015, 4, none⟩) (Kd.S_far (p := ⟨gb1015, 3, none⟩) (Kd.S_far (p := ⟨gb1015, 2, none⟩) (Kd.S_far (p := ⟨gb1015, 1, none⟩) (Kd.S_far (p := ⟨gb1015, 0, none⟩) (Kd.S_types HO980.out BK1015.out (by decide)) (fun _ hk => hk.2) (.int .i64 t1005)) (fun _ hk => hk.2) (.int .i64 t1006)) (fun _ hk => hk.2) (.int .i64 t1007)) (fun _ hk => hk.2) (.int .i64 t1008)) (fun _ hk => hk.2) (.int .i64 t1009)) (fun _ hk => hk.2) (.bool t1010)) (fun _ hk => hk.2) (.int .i64 t1011)) (fun _ hk => hk.2) (.slice Ao27 t1012.length co27)) (fun _ hk => ⟨hk.1.1.1.1.1.1.1.2, ⟨hk.1.1.1.1.1.1.2, ⟨hk.1.1.1.1.2, ⟨hk.1.1.1.2, ⟨hk.1.1.2, ⟨hk.1.2, hk.1.1.1.1.1.2⟩⟩⟩⟩⟩⟩)))⟩; have n1_ : Aside0 (Kd.S k68 68 w28 w.heap.size (fun k_ => some k_ ≠ (.slice Ao14 t977.length co14 : Value).ownBlock ∧ some k_ ≠ (.slice Ao18 t985.length co18 : Value).ownBlock ∧ some k_ ≠ (.slice Ao20 t990.length co20 : Value).ownBlock ∧ some k_ ≠ (v996 : Value).ownBlock ∧ some k_ ≠ (v1000 : Value).ownBlock ∧ some k_ ≠ (v1003 : Value).ownBlock ∧ k_ ≠ gb989) v982 t981) := ⟨(by rw [hw]; exact (by (with_reducible repeat (first | apply Kd.S_alloc | apply Kd.S_drewN | apply Kd.S_drew)); exact Kd.S_mono (Kd.S_far (p := ⟨gb1015, 7, none⟩) (Kd.S_far (p := ⟨gb1015, 6, none⟩) (Kd.S_far (p := ⟨gb1015, 5, none⟩) (Kd.S_far (p := ⟨gb1015, 4, none⟩) (Kd.S_far (p := ⟨gb1015, 3, none⟩) (Kd.S_far (p := ⟨gb1015, 2, none⟩) (Kd.S_far (p := ⟨gb1015, 1, none⟩) (Kd.S_far (p := ⟨gb1015, 0, none⟩) (Kd.S_types HO983.out BK1015.out (by decide)) (fun _ hk => hk.2) (.int .i64 t1005)) (fun _ hk => hk.2) (.int .i64 t1006)) (fun _ hk => hk.2) (.int .i64 t1007)) (fun _ hk => hk.2) (.int .i64 t1008)) (fun _ hk => hk.2) (.int .i64 t1009)) (fun _ hk => hk.2) (.bool t1010)) (fun _ hk => hk.2) (.int .i64 t1011)) (fun _ hk => hk.2) (.slice Ao27 t1012.length co27)) (fun _ hk => ⟨hk.1.1.1.1.1.1.2, ⟨hk.1.1.1.1.1.1.1, ⟨hk.1.1.1.1.2, ⟨hk.1.1.1.2, ⟨hk.1.1.2, ⟨hk.1.2, hk.1.1.1.1.1.2⟩⟩⟩⟩⟩⟩)))⟩; have n2_ : Aside0 (Kd.R (Kd.int .u8) 5 w28 w.heap.size (fun _ => True) (.slice Ao18 t985.length co18) t985) := ⟨(by rw [hw]; exact (by (with_reducible repeat (first | apply Kd.R_alloc | apply Kd.R_drewN | apply Kd.R_drew)); exact Kd.R_mono (R_far8 (g := gb1015) (Kd.R_types HO987.out BK1015.out (by decide)) (fun _ hk => hk.2)) (fun _ hk => trivial)))⟩; have n3_ : Aside0 (Kd.S k68 68 w28 w.heap.size (fun k_ => some k_ ≠ (.slice Ao14 t977.length co14 : Value).ownBlock ∧ some k_ ≠ (v982 : Value).ownBlock ∧ some k_ ≠ (.slice Ao18 t985.length co18 : Value).ownBlock ∧ some k_ ≠ (v996 : Value).ownBlock ∧ some k_ ≠ (v1000 : Value).ownBlock ∧ some k_ ≠ (v1003 : Value).ownBlock ∧ k_ ≠ gb989) (.slice Ao20 t990.length co20) t990) := ⟨(by rw [hw]; exact (by (with_reducible repeat (first | apply Kd.S_alloc | apply Kd.S_drewN | apply Kd.S_drew)); exact Kd.S_mono (Kd.S_far (p := ⟨gb1015, 7, none⟩) (Kd.S_far (p := ⟨gb1015, 6, none⟩) (Kd.S_far (p := ⟨gb1015, 5, none⟩) (Kd.S_far (p := ⟨gb1015, 4, none⟩) (Kd.S_far (p := ⟨gb1015, 3, none⟩) (Kd.S_far (p := ⟨gb1015, 2, none⟩) (Kd.S_far (p := ⟨gb1015, 1, none⟩) (Kd.S_far (p := ⟨gb1015, 0, none⟩) (Kd.S_types HO993.out BK1015.out (by decide)) (fun _ hk => hk.2) (.int .i64 t1005)) (fun _ hk => hk.2) (.int .i64 t1006)) (fun _ hk => hk.2) (.int .i64 t1007)) (fun _ hk => hk.2) (.int .i64 t1008)) (fun _ hk => hk.2) (.int .i64 t1009)) (fun _ hk => hk.2) (.bool t1010)) (fun _ hk => hk.2) (.int .i64 t1011)) (fun _ hk => hk.2) (.slice Ao27 t1012.length co27)) (fun _ hk => ⟨hk.1.1.1.1.1.1.1.2, ⟨hk.1.1.1.1.1.1.2, ⟨hk.1.1.1.1.1.2, ⟨hk.1.1.1.2, ⟨hk.1.1.2, ⟨hk.1.2, hk.1.1.1.1.2⟩⟩⟩⟩⟩⟩)))⟩; have n4_ : Aside0 (Kd.S k68 68 w28 w.heap.size (fun k_ => some k_ ≠ (.slice Ao14 t977.length co14 : Value).ownBlock ∧ some k_ ≠ (v982 : Value).ownBlock ∧ some k_ ≠ (.slice Ao18 t985.length co18 : Value).ownBlock ∧ some k_ ≠ (.slice Ao20 t990.length co20 : Value).ownBlock ∧ some k_ ≠ (v1000 : Value).ownBlock ∧ some k_ ≠ (v1003 : Value).ownBlock ∧ k_ ≠ gb989) v996 t994) := ⟨(by rw [hw]; exact (by (with_reducible repeat (first | apply Kd.S_alloc | apply Kd.S_drewN | apply Kd.S_drew)); exact Kd.S_mono (Kd.S_far (p := ⟨gb1015, 7, none⟩) (Kd.S_far (p := ⟨gb1015, 6, none⟩) (Kd.S_far (p := ⟨gb1015, 5, none⟩) (Kd.S_far (p := ⟨gb1015, 4, none⟩) (Kd.S_far (p := ⟨gb1015, 3, none⟩) (Kd.S_far (p := ⟨gb1015, 2, none⟩) (Kd.S_far (p := ⟨gb1015, 1, none⟩) (Kd.S_far (p := ⟨gb1015, 0, none⟩) (Kd.S_types HO997.out BK1015.out (by decide)) (fun _ hk => hk.2) (.int .i64 t1005)) (fun _ hk => hk.2) (.int .i64 t1006)) (fun _ hk => hk.2) (.int .i64 t1007)) (fun _ hk => hk.2) (.int .i64 t1008)) (fun _ hk => hk.2) (.int .i64 t1009)) (fun _ hk => hk.2) (.bool t1010)) (fun _ hk => hk.2) (.int .i64 t1011)) (fun _ hk => hk.2) (.slice Ao27 t1012.length co27)) (fun _ hk => ⟨hk.1.1.1.1.1.1.1.2, ⟨hk.1.1.1.1.1.1.2, ⟨hk.1.1.1.1.1.2, ⟨hk.1.1.1.1.2, ⟨hk.1.1.2, ⟨hk.1.2, hk.1.1.1.2⟩⟩⟩⟩⟩⟩)))⟩; have n5_ : Aside0 (Kd.S k68 68 w28 w.heap.size (fun k_ => some k_ ≠ (.slice Ao14 t977.length co14 : Value).ownBlock ∧ some k_ ≠ (v982 : Value).ownBlock ∧ some k_ ≠ (.slice Ao18 t985.length co18 : Value).ownBlock ∧ some k_ ≠ (.slice Ao20 t990.length co20 : Value).ownBlock ∧ some k_ ≠ (v996 : Value).ownBlock ∧ some k_ ≠ (v1003 : Value).ownBlock ∧ k_ ≠ gb989) v1000 t998) := ⟨(by rw [hw]; exact (by (with_reducible repeat (first | apply Kd.S_alloc | apply Kd.S_drewN | apply Kd.S_drew)); exact Kd.S_mono (Kd.S_far (p := ⟨gb1015, 7, none⟩) (Kd.S_far (p := ⟨gb1015, 6, none⟩) (Kd.S_far (p := ⟨gb1015, 5, none⟩) (Kd.S_far (p := ⟨gb1015, 4, none⟩) (Kd.S_far (p := ⟨gb1015, 3, none⟩) (Kd.S_far (p := ⟨gb1015, 2, none⟩) (Kd.S_far (p := ⟨gb1015, 1, none⟩) (Kd.S_far (p := ⟨gb1015, 0, none⟩) (Kd.S_types HO1001.out BK1015.out (by decide)) (fun _ hk => hk.2) (.int .i64 t1005)) (fun _ hk => hk.2) (.int .i64 t1006)) (fun _ hk => hk.2) (.int .i64 t1007)) (fun _ hk => hk.2) (.int .i64 t1008)) (fun _ hk => hk.2) (.int .i64 t1009)) (fun _ hk => hk.2) (.bool t1010)) (fun _ hk => hk.2) (.int .i64 t1011)) (fun _ hk => hk.2) (.slice Ao27 t1012.length co27)) (fun _ hk => ⟨hk.1.1.1.1.1.1.1.2, ⟨hk.1.1.1.1.1.1.2, ⟨hk.1.1.1.1.1.2, ⟨hk.1.1.1.1.2, ⟨hk.1.1.1.2, ⟨hk.1.2, hk.1.1.2⟩⟩⟩⟩⟩⟩)))⟩; have n6_ : Aside0 (Kd.S k68 68 w28 w.heap.size (fun k_ => some k_ ≠ (.slice Ao14 t977.length co14 : Value).ownBlock ∧ some k_ ≠ (v982 : Value).ownBlock ∧ some k_ ≠ (.slice Ao18 t985.length co18 : Value).ownBlock ∧ some k_ ≠ (.slice Ao20 t990.length co20 : Value).ownBlock ∧ some k_ ≠ (v996 : Value).ownBlock ∧ some k_ ≠ (v1000 : Value).ownBlock ∧ k_ ≠ gb989) v1003 t1002) := ⟨(by rw [hw]; exact (by (with_reducible repeat (first | apply Kd.S_alloc | apply Kd.S_drewN | apply Kd.S_drew)); exact Kd.S_mono (Kd.S_far (p := ⟨gb1015, 7, none⟩) (Kd.S_far (p := ⟨gb1015, 6, none⟩) (Kd.S_far (p := ⟨gb1015, 5, none⟩) (Kd.S_far (p := ⟨gb1015, 4, none⟩) (Kd.S_far (p := ⟨gb1015, 3, none⟩) (Kd.S_far (p := ⟨gb1015, 2, none⟩) (Kd.S_far (p := ⟨gb1015, 1, none⟩) (Kd.S_far (p := ⟨gb1015, 0, none⟩) (Kd.S_types HO1004.out BK1015.out (by decide)) (fun _ hk => hk.2) (.int .i64 t1005)) (fun _ hk => hk.2) (.int .i64 t1006)) (fun _ hk => hk.2) (.int .i64 t1007)) (fun _ hk => hk.2) (.int .i64 t1008)) (fun _ hk => hk.2) (.int .i64 t1009)) (fun _ hk => hk.2) (.bool t1010)) (fun _ hk => hk.2) (.int .i64 t1011)) (fun _ hk => hk.2) (.slice Ao27 t1012.length co27)) (fun _ hk => ⟨hk.1.1.1.1.1.1.1.2, ⟨hk.1.1.1.1.1.1.2, ⟨hk.1.1.1.1.1.2, ⟨hk.1.1.1.1.2, ⟨hk.1.1.1.2, ⟨hk.1.1.2, hk.1.2⟩⟩⟩⟩⟩⟩)))⟩; have n7_ : Aside0 (Kd.R k29 29 w28 w.heap.size (fun _ => True) (.slice Ao27 t1012.length co27) t1012) := ⟨(by rw [hw]; exact (by (with_reducible repeat (first | apply Kd.R_alloc | apply Kd.R_drewN | apply Kd.R_drew)); exact Kd.R_mono (R_far8 (g := gb1015) (Kd.R_types HO1014.out BK1015.out (by decide)) (fun _ hk => hk.2)) (fun _ hk => trivial)))⟩; have n8_ : Aside0 (w28.heap[gb989]? = some (.cells #[.int .i64 t984, .slice Ao18 t985.length co18] 68 (0, 0))) := ⟨(by rw [hw]; exact (by (with_reducible repeat (first | refine blk_drewN ?_ _ | refine blk_drew ?_ | refine blk_alloc ?_ _)); refine blk_far8 ?_ NB989_1015.out; exact qK BK989))⟩; have n9_ : Aside0 (w28.heap[gb1015]? = some (.cells #[.int .i64 t1005, .int .i64 t1006, .int .i64 t1007, .int .i64 t1008, .int .i64 t1009, .bool t1010, .int .i64 t1011, .slice Ao27 t1012.length co27] 75 (0, 0))) := ⟨(by rw [hw]; exact (by exact blk_all8 (qK BK1015)))⟩; have n10_ : Aside0 (Below w.heap.size w w28) := ⟨(by rw [hw]; exact (qB HB))⟩; clear hw; clear HO980; clear HO983; clear HO987; clear HO993; clear HO997; clear HO1001; clear HO1004; clear HO1014; clear BK989; clear BK1015; clear HB; have HO980 := n0_; have HO983 := n1_; have HO987 := n2_; have HO993 := n3_; have HO997 := n4_; have HO1001 := n5_; have HO1004 := n6_; have HO1014 := n7_; have BK989 := n8_; have BK1015 := n9_; have HB := n10_; clear n0_ n1_ n2_ n3_ n4_ n5_ n6_ n7_ n8_ n9_ n10_; (try clear zK1015); have zK1015 := cz8 BK1015.out; obtain ⟨Ao30, co30, eo30⟩ := Kd.S_slice HO1004.out; subst eo30) | ((with_reducible refine gate_callee (f := 46) rfl ?_); refine gl_ (some 56) Try.func46 #[.slice Ao30 t1002.length co30, .agg #[.int .i64 t1005, .int .i64 t1006, .int .i64 t1007, .int .i64 t1008, .int .i64 t1009, .bool t1010, .int .i64 t1011, .slice Ao27 t1012.length co27]] ?_; (with_reducible refine (impl_Send.calls k _ _ t1002 t1005 t1006 t1007 t1008 t1009 t1010 t1011 _ _ t1012 t1016 _ ?side1 ?side2 ?side3 ?side4 A11.out).mono ?_); (case side1 => exact qC ((Kd.S_reads' HO1004.out).2.2)); (case side2 => exact (Kd.S_reads' HO1004.out).2.1); (case side3 => exact qC ((Kd.R_reads' HO1014.out).2.2)); (case side4 => exact (Kd.R_reads' HO1014.out).2.1); rintro e w31 ⟨v1017, rfl, ho0, hb⟩; refine ⟨_, rfl, ?_⟩; replace HO1014 := rB_ HO1014 hb; have HO1018 := am_ (Kd.S_lower (Kd.S_newB (Kd.S_new' (Kd.S_new' (Kd.S_new' (Kd.S_new' (Kd.S_new' (Kd.S_new' (Kd.S_new' ho0 (Kd.S_lt (qS HO980))) (Kd.S_lt (qS HO983))) (Kd.R_lt (qR HO987))) (Kd.S_lt (qS HO993))) (Kd.S_lt (qS HO997))) (Kd.S_lt (qS HO1001))) (Kd.S_lt (qS HO1004))) (qK BK989)) (below_size (qB HB))); replace HO980 := am_ (Kd.S_elder' (qS HO980) (Kd.S_base ho0) hb); replace HO983 := am_ (Kd.S_elder' (qS HO983) (Kd.S_base ho0) hb); replace HO987 := rB_ HO987 hb; replace HO993 := am_ (Kd.S_elder' (qS HO993) (Kd.S_base ho0) hb); replace HO997 := am_ (Kd.S_elder' (qS HO997) (Kd.S_base ho0) hb); replace HO1001 := am_ (Kd.S_elder' (qS HO1001) (Kd.S_base ho0) hb); replace HO1004 := am_ (Kd.S_elder' (qS HO1004) (Kd.S_base ho0) hb); replace BK989 := bK_ BK989 hb; replace BK1015 := bK_ BK1015 hb; replace HB := bS_ HB hb; (try clear hb); (try clear ho0)))
 (try simp only [Act.put, List.setIfInBounds_toArray, List.set_cons_zero, List.set_cons_succ])
 go_cut [85] (fun v85 wc => ∃ (kq : Nat) (x85_11 : Bool), v85 = .bool x85_11 ∧ Aside0 (laws_FnWays.j0 kq t977 t978 t981 t988 t990 t991 t994 t995 x85_11 t984 t985 = some r) ∧ Aside0 (kq ≤ k) ∧ Aside0 (Kd.S k68 68 wc w.heap.size (fun k_ => some k_ ≠ (v982 : Value).ownBlock ∧ some k_ ≠ ((.slice Ao20 t990.length co20) : Value).ownBlock ∧ some k_ ≠ (v996 : Value).ownBlock ∧ some k_ ≠ ((.slice Ao18 t985.length co18) : Value).ownBlock ∧ k_ ≠ gb989) (.slice Ao14 t977.length co14) t977) ∧ Aside0 (Kd.S k68 68 wc w.heap.size (fun k_ => some k_ ≠ ((.slice Ao14 t977.length co14) : Value).ownBlock ∧ some k_ ≠ ((.slice Ao20 t990.length co20) : Value).ownBlock ∧ some k_ ≠ (v996 : Value).ownBlock ∧ some k_ ≠ ((.slice Ao18 t985.length co18) : Value).ownBlock ∧ k_ ≠ gb989) v982 t981) ∧ Aside0 (Kd.S k68 68 wc w.heap.size (fun k_ => some k_ ≠ ((.slice Ao14 t977.length co14) : Value).ownBlock ∧ some k_ ≠ (v982 : Value).ownBlock ∧ some k_ ≠ (v996 : Value).ownBlock ∧ some k_ ≠ ((.slice Ao18 t985.length co18) : Value).ownBlock ∧ k_ ≠ gb989) (.slice Ao20 t990.length co20) t990) ∧ Aside0 (Kd.S k68 68 wc w.heap.size (fun k_ => some k_ ≠ ((.slice Ao14 t977.length co14) : Value).ownBlock ∧ some k_ ≠ (v982 : Value).ownBlock ∧ some k_ ≠ ((.slice Ao20 t990.length co20) : Value).ownBlock ∧ some k_ ≠ ((.slice Ao18 t985.length co18) : Value).ownBlock ∧ k_ ≠ gb989) v996 t994) ∧ Aside0 (Kd.R (Kd.int .u8) 5 wc w.heap.size (fun _ => True) (.slice Ao18 t985.length co18) t985) ∧ Aside0 (Kd.R k29 29 wc w.heap.size (fun _ => True) (.slice Ao27 t1012.length co27) t1012) ∧ Aside0 (wc.heap[gb989]? = some (.cells #[.int .i64 t984, (.slice Ao18 t985.length co18)] 68 (0, 0))) ∧ Aside0 (wc.heap[gb1015]? = some (.cells #[.int .i64 t1005, .int .i64 t1006, .int .i64 t1007, .int .i64 t1008, .int .i64 t1009, .bool t1010, .int .i64 t1011, (.slice Ao27 t1012.length co27)] 75 (0, 0))) ∧ Aside0 (Below w.heap.size w wc))
 case first =>
  have H := HC12.out
  clear HC12
  replace H := bd_ H
  obtain ⟨t1019, A32, H⟩ := H
  replace H := bd_ H
  obtain ⟨t1020, A33, H⟩ := H
  by_cases c34 : (t1019 != t1020) = true
  ·
   rw [if_pos c34] at H
   have c34b0 : (t1019 != t1020) = true := c34
   (try (have c34b1 : decide (t1019 = t1020) = false := by simpa using c34))
   (try (have c34b2 : (t1019 == t1020) = false := by simpa using c34))
   (try (have c34b3 : ¬ (t1019 = t1020) := by simpa using c34))
   clear c34
   (first | rw [c34b0] | rw [c34b1] | rw [c34b2] | rw [c34b3] | (simp only [i64_w, i32_w]; rw [c34b0]) | skip)
   exact absurd (hr_.out ▸ H) (by cases k <;> simp [laws_FnWays.j0])
  rw [if_neg c34] at H
  have c34b0 : (t1019 != t1020) = false := by simpa using c34
  (try (have c34b1 : decide (t1019 = t1020) = true := by simpa using c34))
  (try (have c34b2 : (t1019 == t1020) = true := by simpa using c34))
  clear c34
  (first | rw [c34b0] | rw [c34b1] | rw [c34b2] | (simp only [i64_w, i32_w]; rw [c34b0]) | skip)
  by_cases c35 : (t995 != t999) = true
  ·
   rw [if_pos c35] at H
   have c35b0 : (t995 != t999) = true := c35
   (try (have c35b1 : decide (t995 = t999) = false := by simpa using c35))
   (try (have c35b2 : (t995 == t999) = false := by simpa using c35))
   (try (have c35b3 : ¬ (t995 = t999) := by simpa using c35))
   clear c35
   exact absurd (hr_.out ▸ H) (by cases k <;> simp [laws_FnWays.j0])
  rw [if_neg c35] at H
  have c35b0 : (t995 != t999) = false := by simpa using c35
  (try (have c35b1 : decide (t995 = t999) = true := by simpa using c35))
  (try (have c35b2 : (t995 == t999) = true := by simpa using c35))
  clear c35
  replace H := bd_ H
  obtain ⟨t1021, A36, H⟩ := H
  replace H := bd_ H
  obtain ⟨t1024, A37, H⟩ := H
  by_cases c38 : t1024 = true
  rotate_left
  ·
   replace c38 := Bool.eq_false_iff.mpr c38
   subst c38
   rw [if_neg (show ¬ (false = true) by decide)] at H
   exact absurd (hr_.out ▸ H) (by cases k <;> simp [laws_FnWays.j0])
  subst c38
  rw [if_pos rfl] at H
  by_cases c39 : (t977.length : Int) > 0
  ·
   rw [if_pos c39] at H
   have c39b0 : decide (0 < (t977.length : Int)) = true := decide_eq_true c39
   have c39b1 : decide (0 < t977.length) = true := decide_eq_true (by omega)
   clear c39
   have H' := Aside0.mk H
   clear H
   go_wp2_with (first | ((with_reducible refine gate_ld rfl ?_); first | refine ld_ ?_ | fail) | ((with_reducible refine gate_callee (f := 47) rfl ?_); refine gl_ (some 58) Try.func47 #[.slice Ao14 t977.length co14] ?_; (with_reducible refine (impl_WayOk.calls k _ _ t977 t1019 _ ?side1 ?side2 A32.out).mono ?_); (case side1 => exact qC ((Kd.S_reads' HO980.out).2.2)); (case side2 => exact (Kd.S_reads' HO980.out).2.1); rintro e w40 ⟨rfl, hb⟩; refine ⟨_, rfl, ?_⟩; replace HO980 := am_ (Kd.S_below (qS HO980) hb); replace HO983 := am_ (Kd.S_below (qS HO983) hb); replace HO987 := rB_ HO987 hb; replace HO993 := am_ (Kd.S_below (qS HO993) hb); replace HO997 := am_ (Kd.S_below (qS HO997) hb); replace HO1001 := am_ (Kd.S_below (qS HO1001) hb); replace HO1004 := am_ (Kd.S_below (qS HO1004) hb); replace HO1014 := rB_ HO1014 hb; replace HO1018 := am_ (Kd.S_below (qS HO1018) hb); replace BK989 := bK_ BK989 hb; replace BK1015 := bK_ BK1015 hb; replace HB := bS_ HB hb; (try clear hb)) | ((with_reducible refine gate_callee (f := 48) rfl ?_); refine gl_ (some 60) Try.func48 #[.slice Ao14 t977.length co14] ?_; (with_reducible refine (spec_WayOk.calls k _ _ t977 t1020 _ ?side1 ?side2 A33.out).mono ?_); (case side1 => exact qC ((Kd.S_reads' HO980.out).2.2)); (case side2 => exact (Kd.S_reads' HO980.out).2.1); rintro e w' ⟨rfl, ⟨nd, rfl⟩⟩; refine ⟨_, rfl, ?_⟩; have hnb41 := NB1015_989.out; have hnc41 := NB989_1015.out; (try clear zK1015); have zK1015 := cz8 BK1015.out) | (go_at_call 50; (with_reducible refine (spec_Send.calls k _ _ t1002 t1005 t1006 t1007 t1008 t1009 t1010 t1011 _ _ t1012 t1021 _ ?side1 ?side2 ?side3 ?side4 A36.out).mono ?_); (case side1 => exact qC ((Kd.S_reads' HO1004.out).2.2)); (case side2 => exact (Kd.S_reads' HO1004.out).2.1); (case side3 => exact qC ((Kd.R_reads' HO1014.out).2.2)); (case side4 => exact (Kd.R_reads' HO1014.out).2.1); rintro e w43 ⟨v1022, rfl, ho0, hb⟩; replace HO1014 := rB_ HO1014 hb; have HO1023 := am_ (Kd.S_lower (Kd.S_newB (Kd.S_new' (Kd.S_new' (Kd.S_new' (Kd.S_new' (Kd.S_new' (Kd.S_new' (Kd.S_new' (Kd.S_new' ho0 (Kd.S_lt (qS HO980))) (Kd.S_lt (qS HO983))) (Kd.R_lt (qR HO987))) (Kd.S_lt (qS HO993))) (Kd.S_lt (qS HO997))) (Kd.S_lt (qS HO1001))) (Kd.S_lt (qS HO1004))) (Kd.S_lt (qS HO1018))) (qK BK989)) (below_size (qB HB))); replace HO980 := am_ (Kd.S_elder' (qS HO980) (Kd.S_base ho0) hb); replace HO983 := am_ (Kd.S_elder' (qS HO983) (Kd.S_base ho0) hb); replace HO987 := rB_ HO987 hb; replace HO993 := am_ (Kd.S_elder' (qS HO993) (Kd.S_base ho0) hb); replace HO997 := am_ (Kd.S_elder' (qS HO997) (Kd.S_base ho0) hb); replace HO1001 := am_ (Kd.S_elder' (qS HO1001) (Kd.S_base ho0) hb); replace HO1004 := am_ (Kd.S_elder' (qS HO1004) (Kd.S_base ho0) hb); replace HO1018 := am_ (Kd.S_elder' (qS HO1018) (Kd.S_base ho0) hb); replace BK989 := bK_ BK989 hb; replace BK1015 := bK_ BK1015 hb; replace HB := bS_ HB hb; (try clear hb); (try clear ho0); obtain ⟨Ao44, co44, eo44⟩ := Kd.S_slice HO1018.out; subst eo44; obtain ⟨Ao45, co45, eo45⟩ := Kd.S_slice HO1023.out; subst eo45) | (go_at_call 49; (with_reducible refine (laws_samePacks.calls k _ _ t1016 _ _ t1021 true _ ?side1 ?side2 ?side3 ?side4 A37.out).mono ?_); (case side1 => exact qC ((Kd.S_reads' HO1018.out).2.2)); (case side2 => exact (Kd.S_reads' HO1018.out).2.1); (case side3 => exact qC ((Kd.S_reads' HO1023.out).2.2)); (case side4 => exact (Kd.S_reads' HO1023.out).2.1); rintro e w' ⟨rfl, ⟨nd, rfl⟩⟩))
   go_meet
   case rel => exact ⟨_, ((t988 != (decide (t978 ≥ 0)))), eqq_, H', ⟨by first | omega | exact Nat.le_refl _⟩, ⟨by (with_reducible repeat (first | apply Kd.S_alloc | apply Kd.S_drewN | apply Kd.S_drew)); exact Kd.S_mono HO980.out (fun _ hk => ⟨hk.1.1.1, ⟨hk.1.1.2.2.1, ⟨hk.1.1.2.2.2.1, ⟨hk.1.1.2.1, hk.1.1.2.2.2.2.2.2⟩⟩⟩⟩)⟩, ⟨by (with_reducible repeat (first | apply Kd.S_alloc | apply Kd.S_drewN | apply Kd.S_drew)); exact Kd.S_mono HO983.out (fun _ hk => ⟨hk.1.1.1, ⟨hk.1.1.2.2.1, ⟨hk.1.1.2.2.2.1, ⟨hk.1.1.2.1, hk.1.1.2.2.2.2.2.2⟩⟩⟩⟩)⟩, ⟨by (with_reducible repeat (first | apply Kd.S_alloc | apply Kd.S_drewN | apply Kd.S_drew)); exact Kd.S_mono HO993.out (fun _ hk => ⟨hk.1.1.1, ⟨hk.1.1.2.1, ⟨hk.1.1.2.2.2.1, ⟨hk.1.1.2.2.1, hk.1.1.2.2.2.2.2.2⟩⟩⟩⟩)⟩, ⟨by (with_reducible repeat (first | apply Kd.S_alloc | apply Kd.S_drewN | apply Kd.S_drew)); exact Kd.S_mono HO997.out (fun _ hk => ⟨hk.1.1.1, ⟨hk.1.1.2.1, ⟨hk.1.1.2.2.2.1, ⟨hk.1.1.2.2.1, hk.1.1.2.2.2.2.2.2⟩⟩⟩⟩)⟩, ⟨qR HO987⟩, ⟨qR HO1014⟩, ⟨qK BK989⟩, ⟨qK BK1015⟩, ⟨qB HB⟩⟩
  rw [if_neg c39] at H
  have c39b0 : decide (0 < (t977.length : Int)) = false := decide_eq_false c39
  have c39b1 : decide (0 < t977.length) = false := decide_eq_false (by omega)
  clear c39
  have H' := Aside0.mk H
  clear H
  go_wp2_with (first | ((with_reducible refine gate_ld rfl ?_); first | refine ld_ ?_ | fail) | ((with_reducible refine gate_callee (f := 47) rfl ?_); refine gl_ (some 58) Try.func47 #[.slice Ao14 t977.length co14] ?_; (with_reducible refine (impl_WayOk.calls k _ _ t977 t1019 _ ?side1 ?side2 A32.out).mono ?_); (case side1 => exact qC ((Kd.S_reads' HO980.out).2.2)); (case side2 => exact (Kd.S_reads' HO980.out).2.1); rintro e w46 ⟨rfl, hb⟩; refine ⟨_, rfl, ?_⟩; replace HO980 := am_ (Kd.S_below (qS HO980) hb); replace HO983 := am_ (Kd.S_below (qS HO983) hb); replace HO987 := rB_ HO987 hb; replace HO993 := am_ (Kd.S_below (qS HO993) hb); replace HO997 := am_ (Kd.S_below (qS HO997) hb); replace HO1001 := am_ (Kd.S_below (qS HO1001) hb); replace HO1004 := am_ (Kd.S_below (qS HO1004) hb); replace HO1014 := rB_ HO1014 hb; replace HO1018 := am_ (Kd.S_below (qS HO1018) hb); replace BK989 := bK_ BK989 hb; replace BK1015 := bK_ BK1015 hb; replace HB := bS_ HB hb; (try clear hb)) | ((with_reducible refine gate_callee (f := 48) rfl ?_); refine gl_ (some 60) Try.func48 #[.slice Ao14 t977.length co14] ?_; (with_reducible refine (spec_WayOk.calls k _ _ t977 t1020 _ ?side1 ?side2 A33.out).mono ?_); (case side1 => exact qC ((Kd.S_reads' HO980.out).2.2)); (case side2 => exact (Kd.S_reads' HO980.out).2.1); rintro e w' ⟨rfl, ⟨nd, rfl⟩⟩; refine ⟨_, rfl, ?_⟩; have hnb47 := NB1015_989.out; have hnc47 := NB989_1015.out; (try clear zK1015); have zK1015 := cz8 BK1015.out) | (go_at_call 50; (with_reducible refine (spec_Send.calls k _ _ t1002 t1005 t1006 t1007 t1008 t1009 t1010 t1011 _ _ t1012 t1021 _ ?side1 ?side2 ?side3 ?side4 A36.out).mono ?_); (case side1 => exact qC ((Kd.S_reads' HO1004.out).2.2)); (case side2 => exact (Kd.S_reads' HO1004.out).2.1); (case side3 => exact qC ((Kd.R_reads' HO1014.out).2.2)); (case side4 => exact (Kd.R_reads' HO1014.out).2.1); rintro e w49 ⟨v1022, rfl, ho0, hb⟩; replace HO1014 := rB_ HO1014 hb; have HO1023 := am_ (Kd.S_lower (Kd.S_newB (Kd.S_new' (Kd.S_new' (Kd.S_new' (Kd.S_new' (Kd.S_new' (Kd.S_new' (Kd.S_new' (Kd.S_new' ho0 (Kd.S_lt (qS HO980))) (Kd.S_lt (qS HO983))) (Kd.R_lt (qR HO987))) (Kd.S_lt (qS HO993))) (Kd.S_lt (qS HO997))) (Kd.S_lt (qS HO1001))) (Kd.S_lt (qS HO1004))) (Kd.S_lt (qS HO1018))) (qK BK989)) (below_size (qB HB))); replace HO980 := am_ (Kd.S_elder' (qS HO980) (Kd.S_base ho0) hb); replace HO983 := am_ (Kd.S_elder' (qS HO983) (Kd.S_base ho0) hb); replace HO987 := rB_ HO987 hb; replace HO993 := am_ (Kd.S_elder' (qS HO993) (Kd.S_base ho0) hb); replace HO997 := am_ (Kd.S_elder' (qS HO997) (Kd.S_base ho0) hb); replace HO1001 := am_ (Kd.S_elder' (qS HO1001) (Kd.S_base ho0) hb); replace HO1004 := am_ (Kd.S_elder' (qS HO1004) (Kd.S_base ho0) hb); replace HO1018 := am_ (Kd.S_elder' (qS HO1018) (Kd.S_base ho0) hb); replace BK989 := bK_ BK989 hb; replace BK1015 := bK_ BK1015 hb; replace HB := bS_ HB hb; (try clear hb); (try clear ho0); obtain ⟨Ao50, co50, eo50⟩ := Kd.S_slice HO1018.out; subst eo50; obtain ⟨Ao51, co51, eo51⟩ := Kd.S_slice HO1023.out; subst eo51) | (go_at_call 49; (with_reducible refine (laws_samePacks.calls k _ _ t1016 _ _ t1021 true _ ?side1 ?side2 ?side3 ?side4 A37.out).mono ?_); (case side1 => exact qC ((Kd.S_reads' HO1018.out).2.2)); (case side2 => exact (Kd.S_reads' HO1018.out).2.1); (case side3 => exact qC ((Kd.S_reads' HO1023.out).2.2)); (case side4 => exact (Kd.S_reads' HO1023.out).2.1); rintro e w' ⟨rfl, ⟨nd, rfl⟩⟩))
  go_meet
  case rel => exact ⟨_, ((t988 != false)), eqq_, H', ⟨by first | omega | exact Nat.le_refl _⟩, ⟨by (with_reducible repeat (first | apply Kd.S_alloc | apply Kd.S_drewN | apply Kd.S_drew)); exact Kd.S_mono HO980.out (fun _ hk => ⟨hk.1.1.1, ⟨hk.1.1.2.2.1, ⟨hk.1.1.2.2.2.1, ⟨hk.1.1.2.1, hk.1.1.2.2.2.2.2.2⟩⟩⟩⟩)⟩, ⟨by (with_reducible repeat (first | apply Kd.S_alloc | apply Kd.S_drewN | apply Kd.S_drew)); exact Kd.S_mono HO983.out (fun _ hk => ⟨hk.1.1.1, ⟨hk.1.1.2.2.1, ⟨hk.1.1.2.2.2.1, ⟨hk.1.1.2.1, hk.1.1.2.2.2.2.2.2⟩⟩⟩⟩)⟩, ⟨by (with_reducible repeat (first | apply Kd.S_alloc | apply Kd.S_drewN | apply Kd.S_drew)); exact Kd.S_mono HO993.out (fun _ hk => ⟨hk.1.1.1, ⟨hk.1.1.2.1, ⟨hk.1.1.2.2.2.1, ⟨hk.1.1.2.2.1, hk.1.1.2.2.2.2.2.2⟩⟩⟩⟩)⟩, ⟨by (with_reducible repeat (first | apply Kd.S_alloc | apply Kd.S_drewN | apply Kd.S_drew)); exact Kd.S_mono HO997.out (fun _ hk => ⟨hk.1.1.1, ⟨hk.1.1.2.1, ⟨hk.1.1.2.2.2.1, ⟨hk.1.1.2.2.1, hk.1.1.2.2.2.2.2.2⟩⟩⟩⟩)⟩, ⟨qR HO987⟩, ⟨qR HO1014⟩, ⟨qK BK989⟩, ⟨qK BK1015⟩, ⟨qB HB⟩⟩
 case rest =>
  clear HC12
  try clear c2
  try clear p2
  try clear c3
  try clear c4
  try clear c5
  try clear c7
  try clear c25
  try clear c34
  try clear c34b0
  try clear c34b1
  try clear c34b2
  try clear c35
  try clear c35b0
  try clear c35b1
  try clear c35b2
  try clear c38
  try clear c39
  try clear c39b0
  try clear c39b1
  try clear c40
  try clear c41
  try clear c42
  try clear c43
  try clear c44
  try clear c45
  try clear c46
  try clear c47
  try clear c48
  (try clear zK989)
  (try clear zK1015)
  (try clear zK1015)
  (try clear zK1015)
  (try clear zK1015)
  (try clear fK989)
  (try clear fK1015)
  (try clear f29)
  (try clear f42)
  (try clear f48)
  obtain ⟨kq, x85_11, rfl, HA, HJ11, HO_3, HO_5, HO_8, HO_10, HO_990001, HO_1016007, BK989, BK1015, HB⟩ := hcut
  cases kq with
  | zero => exact absurd HA.out (by simp [laws_FnWays.j0])
  | succ kj11 =>
   have H := HA.out
   clear HA
   simp only [laws_FnWays.j0] at H
   by_cases c52 : x85_11 = true
   ·
    subst c52
    rw [if_pos rfl] at H
    exact absurd (hr_.out ▸ H) (by simp)
   replace c52 := Bool.eq_false_iff.mpr c52
   subst c52
   rw [if_neg (show ¬ (false = true) by decide)] at H
   have HC53 := Aside0.mk H
   clear H
   go_upto_region 12 with ((with_reducible refine gate_ld rfl ?_); first | refine ld_ ?_ | fail)
   go_cut [131] (fun v131 wc => ∃ (kq : Nat) (x131_52 : Bool), v131 = .bool x131_52 ∧ Aside0 (laws_FnWays.j1 kq t977 t978 t981 t988 x131_52 t984 t985 = some r) ∧ Aside0 (kq ≤ kj11) ∧ Aside0 (Kd.S k68 68 wc w.heap.size (fun k_ => some k_ ≠ (v982 : Value).ownBlock ∧ some k_ ≠ ((.slice Ao18 t985.length co18) : Value).ownBlock ∧ k_ ≠ gb989) (.slice Ao14 t977.length co14) t977) ∧ Aside0 (Kd.S k68 68 wc w.heap.size (fun k_ => some k_ ≠ ((.slice Ao14 t977.length co14) : Value).ownBlock ∧ some k_ ≠ ((.slice Ao18 t985.length co18) : Value).ownBlock ∧ k_ ≠ gb989) v982 t981) ∧ Aside0 (Kd.R (Kd.int .u8) 5 wc w.heap.size (fun _ => True) (.slice Ao18 t985.length co18) t985) ∧ Aside0 (Kd.R k29 29 wc w.heap.size (fun _ => True) (.slice Ao27 t1012.length co27) t1012) ∧ Aside0 (wc.heap[gb989]? = some (.cells #[.int .i64 t984, (.slice Ao18 t985.length co18)] 68 (0, 0))) ∧ Aside0 (wc.heap[gb1015]? = some (.cells #[.int .i64 t1005, .int .i64 t1006, .int .i64 t1007, .int .i64 t1008, .int .i64 t1009, .bool t1010, .int .i64 t1011, (.slice Ao27 t1012.length co27)] 75 (0, 0))) ∧ Aside0 (Below w.heap.size w wc))
   case first =>
    have H := HC53.out
    clear HC53
    by_cases c54 : t995 = true
    rotate_left
    ·
     replace c54 := Bool.eq_false_iff.mpr c54
     subst c54
     rw [if_neg (show ¬ (false = true) by decide)] at H
     replace H := bd_ H
     obtain ⟨t1033, A70, H⟩ := H
     have H' := Aside0.mk H
     clear H
     try go_wp2_with ((with_reducible refine gate_ld rfl ?_); first | refine ld_ ?_ | fail)
     replace HO_3 := am_ (Kd.S_drew HO_3.out)
     replace HO_5 := am_ (Kd.S_drew HO_5.out)
     replace HO_8 := am_ (Kd.S_drew HO_8.out)
     replace HO_10 := am_ (Kd.S_drew HO_10.out)
     replace HO_990001 := am_ (Kd.R_drew HO_990001.out)
     replace HO_1016007 := am_ (Kd.R_drew HO_1016007.out)
     replace BK989 := am_ (blk_drew BK989.out)
     replace BK1015 := am_ (blk_drew BK1015.out)
     replace HB := am_ (below_drew1 HB.out)
     obtain ⟨Ao72, co72, eo72⟩ := Kd.S_slice HO_10.out
     (first | subst eo72 | (injection eo72 with f1_ f2_ f3_; have f4_ := f1_.symm; have f5_ := f3_.symm; clear f1_ f2_ f3_; subst f4_; subst f5_))
     refine start_ (n := 46) (S := fun w' => True) (ds := []) (rl [0,46]) (by kernel_rfl) rfl rfl trivial (fun hHeld => ?_); refine with_tabW laws_FnWays.tab12 laws_FnWays.bits12 (fun HT_ HW_ => ?_)
     generalize wc.drew = w71 at HO_3 HO_5 HO_8 HO_10 HO_990001 HO_1016007 BK989 BK1015 HB hHeld ⊢
     refine pz_ (i := 0) (N := some 86) HT_ (rl [1,45]) rfl rfl ?_
     refine pz_ (i := 1) (N := some 87) HT_ (rl [2,44]) rfl rfl ?_
     refine pu_ (i := 2) (N := some 88) HT_ (rl [3,43]) rfl rfl ?_
     refine pu_ (i := 3) (N := some 89) HT_ (rl [4,42]) rfl rfl ?_
     refine pu_ (i := 4) (N := some 90) HT_ (rl [5,41]) rfl rfl ?_
     refine pu_ (i := 5) (N := some 91) HT_ (rl [6,40]) rfl rfl ?_
     refine pu_ (i := 6) (N := some 92) HT_ (rl [7,39]) rfl rfl ?_
     refine pu_ (i := 7) (N := some 93) HT_ (rl [8,38]) rfl rfl ?_
     refine pu_ (i := 8) (N := some 94) HT_ (rl [9,37]) rfl rfl ?_
     refine pu_ (i := 9) (N := some 95) HT_ (rl [10,36]) rfl rfl ?_
     refine pu_ (i := 10) (N := some 96) HT_ (rl [11,35]) rfl rfl ?_
     refine pu_ (i := 11) (N := some 97) HT_ (rl [12,34]) rfl rfl ?_
     refine pu_ (i := 12) (N := some 98) HT_ (rl [13,33]) rfl rfl ?_
     refine pu_ (i := 13) (N := some 99) HT_ (rl [14,32]) rfl rfl ?_
     refine pu_ (i := 14) (N := some 100) HT_ (rl [15,31]) rfl rfl ?_
     refine pu_ (i := 15) (N := some 101) HT_ (rl [16,30]) rfl rfl ?_
     refine pu_ (i := 16) (N := some 102) HT_ (rl [17,29]) rfl rfl ?_
     refine pu_ (i := 17) (N := some 103) HT_ (rl [18,28]) rfl rfl ?_
     refine pu_ (i := 18) (N := some 104) HT_ (rl [19,27]) rfl rfl ?_
     refine pu_ (i := 19) (N := some 105) HT_ (rl [20,26]) rfl rfl ?_
     refine pu_ (i := 20) (N := some 106) HT_ (rl [21,25]) rfl rfl ?_
     refine pu_ (i := 21) (N := some 107) HT_ (rl [22,24]) rfl rfl ?_
     refine pu_ (i := 22) (N := some 108) HT_ (rl [23,23]) rfl rfl ?_
     refine pu_ (i := 23) (N := some 109) HT_ (rl [24,22]) rfl rfl ?_
     refine pu_ (i := 24) (N := some 110) HT_ (rl [25,21]) rfl rfl ?_
     refine pu_ (i := 25) (N := some 111) HT_ (rl [26,20]) rfl rfl ?_
     refine pu_ (i := 26) (N := some 112) HT_ (rl [27,19]) rfl rfl ?_
     refine pu_ (i := 27) (N := some 113) HT_ (rl [28,18]) rfl rfl ?_
     refine pu_ (i := 28) (N := some 114) HT_ (rl [29,17]) rfl rfl ?_
     refine pu_ (i := 29) (N := some 115) HT_ (rl [30,16]) rfl rfl ?_
     refine pu_ (i := 30) (N := some 116) HT_ (rl [31,15]) rfl rfl ?_
     refine pu_ (i := 31) (N := some 117) HT_ (rl [32,14]) rfl rfl ?_
     refine pu_ (i := 32) (N := some 118) HT_ (rl [33,13]) rfl rfl ?_
     refine pu_ (i := 33) (N := some 119) HT_ (rl [34,12]) rfl rfl ?_
     refine pu_ (i := 34) (N := some 120) HT_ (rl [35,11]) rfl rfl ?_
     refine pz_ (i := 35) (N := some 121) HT_ (rl [36,10]) rfl rfl ?_
     refine pz_ (i := 36) (N := some 122) HT_ (rl [37,9]) rfl rfl ?_
     refine pz_ (i := 37) (N := some 123) HT_ (rl [38,8]) rfl rfl ?_
     refine pz_ (i := 38) (N := some 124) HT_ (rl [39,7]) rfl rfl ?_
     refine pz_ (i := 39) (N := some 125) HT_ (rl [40,6]) rfl rfl ?_
     refine pz_ (i := 40) (N := some 126) HT_ (rl [41,5]) rfl rfl ?_
     refine pz_ (i := 41) (N := some 127) HT_ (rl [42,4]) rfl rfl ?_
     refine one_ (i := 42) (N := some 128) (rl [43,3]) rfl rfl (one_of HT_.out (by kernel_rfl)) (by decide) (fun K hK => ?_)
     refine goes_ Try.func49 (by kernel_rfl) rfl #[.slice Ao72 t994.length co72, .slice Ao20 t990.length co20] (by rfl) rfl rfl la_ ?_
     with_reducible refine (laws_samePacks.calls kj11 _ _ t994 _ _ t990 t1033 _ ?side1 ?side2 ?side3 ?side4 A70.out).mono ?_
     (case side1 => exact qC ((Kd.S_reads' HO_10.out).2.2))
     (case side2 => exact (Kd.S_reads' HO_10.out).2.1)
     (case side3 => exact qC ((Kd.S_reads' HO_8.out).2.2))
     (case side4 => exact (Kd.S_reads' HO_8.out).2.1)
     rintro e w' ⟨rfl, ⟨nd, rfl⟩⟩
     refine ⟨_, rfl, ?_⟩
     refine hK.out _ _ trivial (fun hHeld => ?_)
     clear hK K
     refine norm_ (a' := ?_) ?_ ?_
     rotate_left
     ·
      show Act.put _ (some 128) _ = _
      exact ap_
     refine pz_ (i := 43) (N := some 129) HT_ (rl [44,2]) rfl rfl ?_
     refine pz_ (i := 44) (N := some 130) HT_ (rl [45,1]) rfl rfl ?_
     refine pz_ (i := 45) (N := some 131) HT_ (rl [46]) rfl rfl ?_
     refine done_ (done_of HT_.out (by kernel_rfl)) ?_
     try go_wp2_with ((with_reducible refine gate_ld rfl ?_); first | refine ld_ ?_ | fail)
     go_meet
     case rel => exact ⟨_, (!t1033), eqq_, H', ⟨by have := HJ11.out; first | omega | exact Nat.le_refl _⟩, ⟨by (with_reducible repeat (first | apply Kd.S_alloc | apply Kd.S_drewN | apply Kd.S_drew)); exact Kd.S_mono HO_3.out (fun _ hk => ⟨hk.1, ⟨hk.2.2.2.1, hk.2.2.2.2⟩⟩)⟩, ⟨by (with_reducible repeat (first | apply Kd.S_alloc | apply Kd.S_drewN | apply Kd.S_drew)); exact Kd.S_mono HO_5.out (fun _ hk => ⟨hk.1, ⟨hk.2.2.2.1, hk.2.2.2.2⟩⟩)⟩, ⟨qR HO_990001⟩, ⟨qR HO_1016007⟩, ⟨qK BK989⟩, ⟨qK BK1015⟩, ⟨qB HB⟩⟩
    subst c54
    rw [if_pos rfl] at H
    by_cases c55 : (t994.length : Int) = (wrap64 ((t990.length : Int) + 1))
    rotate_left
    ·
     rw [if_neg c55] at H
     have c55b0 : ((t994.length : Int) == (wrap64 ((t990.length : Int) + 1))) = false := beq_eq_false_iff_ne.mpr c55
     have c55b1 : ((t994.length : Int) != (wrap64 ((t990.length : Int) + 1))) = true := bne_iff_ne.mpr c55
     (first | rw [c55b0] | rw [c55b1] | (simp only [i64_w, i32_w]; rw [c55b0]) | skip)
     exact absurd (hr_.out ▸ H) (by cases kj11 <;> simp [laws_FnWays.j1])
    rw [if_pos c55] at H
    have c55b0 : ((t994.length : Int) == (wrap64 ((t990.length : Int) + 1))) = true := beq_iff_eq.mpr c55
    have c55b1 : ((t994.length : Int) != (wrap64 ((t990.length : Int) + 1))) = false := bne_eq_false_iff_eq.mpr c55
    clear c55
    (first | rw [c55b0] | rw [c55b1] | (simp only [i64_w, i32_w]; rw [c55b0]) | skip)
    by_cases c56 : 0 ≤ (t990.length : Int)
    case neg => exact nn_ c56 H
    rw [if_pos c56] at H
    have c56b0 := eq_true c56
    have c56b1 : decide (0 ≤ (t990.length : Int)) = true := decide_eq_true c56
    clear c56
    by_cases c57 : (t990.length : Int) ≤ (t994.length : Int)
    case neg => exact nn_ c57 H
    rw [if_pos c57] at H
    have c57b0 := eq_true c57
    have c57b1 : decide ((t990.length : Int) ≤ (t994.length : Int)) = true := decide_eq_true c57
    clear c57
    obtain ⟨y1025, hy1025⟩ : ∃ y_ : List (S68), y_ = (t994.take ((t990.length : Int) : Int).toNat) := ⟨_, rfl⟩
    rw [← hy1025] at H
    have Ny1025 := Aside0.mk hy1025
    clear hy1025
    replace H := bd_ H
    obtain ⟨t1029, A58, H⟩ := H
    by_cases c59 : t1029 = true
    rotate_left
    ·
     replace c59 := Bool.eq_false_iff.mpr c59
     subst c59
     rw [if_neg (show ¬ (false = true) by decide)] at H
     exact absurd (hr_.out ▸ H) (by cases kj11 <;> simp [laws_FnWays.j1])
    subst c59
    rw [if_pos rfl] at H
    by_cases c60 : (t990.length : Int) < (t994.length : Int)
    case neg => exact nn_ c60 H
    rw [if_pos c60] at H
    have c60b0 : decide ((t990.length : Int) < (t994.length : Int)) = true := decide_eq_true c60
    have c60b1 : decide (t990.length < t994.length) = true := decide_eq_true (Int.ofNat_lt.mp c60)
    clear c60
    by_cases c61 : (t990.length : Int) = 0
    ·
     rw [if_pos c61] at H
     exact absurd H (by simp)
    rw [if_neg c61] at H
    have c61b0 : ((t990.length : Int) == 0) = false := beq_eq_false_iff_ne.mpr c61
    have c61b1 : ((t990.length : Int) != 0) = true := bne_iff_ne.mpr c61
    have c61b2 : ¬ (t990 = []) := fun h_ => c61 (by rw [h_]; rfl)
    obtain ⟨ji62, hji62⟩ : ∃ j_ : Int, (Int.tmod t991 (t990.length : Int)) = j_ := ⟨_, rfl⟩
    replace H : (if 0 ≤ (ji62) then (if (ji62) < (t990.length : Int) then ((laws_same.f ((rd_T68 t994 (t990.length : Int)).f1) ((rd_T68 t990 (ji62)).f1)).bind fun t1032 => (if t1032 = true then (laws_FnWays.j1 kj11 t977 t978 t981 t988 false t984 t985) else (laws_FnWays.j1 kj11 t977 t978 t981 t988 true t984 t985))) else (none)) else (none)) = some r := by first | (rw [hji62] at H; exact H) | (simp only [hji62] at H ⊢; exact H)
    (try rw [hji62] at A58)
    by_cases c63 : 0 ≤ (ji62)
    case neg => exact nn_ c63 H
    rw [if_pos c63] at H
    have c63b0 : decide (0 ≤ (ji62)) = true := decide_eq_true c63
    clear c63
    by_cases c64 : (ji62) < (t990.length : Int)
    case neg => exact nn_ c64 H
    rw [if_pos c64] at H
    have c64b0 : decide ((ji62) < (t990.length : Int)) = true := decide_eq_true c64
    clear c64
    replace H := bd_ H
    obtain ⟨t1032, A65, H⟩ := H
    by_cases c66 : t1032 = true
    rotate_left
    ·
     replace c66 := Bool.eq_false_iff.mpr c66
     subst c66
     rw [if_neg (show ¬ (false = true) by decide)] at H
     exact absurd (hr_.out ▸ H) (by cases kj11 <;> simp [laws_FnWays.j1])
    subst c66
    rw [if_pos rfl] at H
    have H' := Aside0.mk H
    clear H
    try go_wp2_with ((with_reducible refine gate_ld rfl ?_); first | refine ld_ ?_ | fail)
    replace HO_3 := am_ (Kd.S_drew HO_3.out)
    replace HO_5 := am_ (Kd.S_drew HO_5.out)
    replace HO_8 := am_ (Kd.S_drew HO_8.out)
    replace HO_10 := am_ (Kd.S_drew HO_10.out)
    replace HO_990001 := am_ (Kd.R_drew HO_990001.out)
    replace HO_1016007 := am_ (Kd.R_drew HO_1016007.out)
    replace BK989 := am_ (blk_drew BK989.out)
    replace BK1015 := am_ (blk_drew BK1015.out)
    replace HB := am_ (below_drew1 HB.out)
    obtain ⟨Ao68, co68, eo68⟩ := Kd.S_slice HO_10.out
    (first | subst eo68 | (injection eo68 with f1_ f2_ f3_; have f4_ := f1_.symm; have f5_ := f3_.symm; clear f1_ f2_ f3_; subst f4_; subst f5_))
    have q69 : ((t990.length : Int) : Int) ≤ ((t994.length : Int) : Int) := od_
    obtain ⟨i069, hi069, _, hsz69, _⟩ := info_parts info68
    have hroom69 : t994.length ≤ co68 := (Kd.S_reads' HO_10.out).2.1
    have hC69 : Kd.C k68 _ Ao68 t994.length t994 := (Kd.S_reads' HO_10.out).2.2
    have hcut69 := cut_to (P := Try.prog) 64 68 .i64 Try.underlying64 hi069 Ao68 t994.length co68 (t990.length : Int) od_ q69 hroom69
    have hr69 := Kd.C_take (m := ((t990.length : Int) : Int).toNat) hC69 (by omega)
    have hy69 : y1025.length = ((t990.length : Int) : Int).toNat := (by rw [Ny1025.out, List.length_take]; omega)
    rw [← Ny1025.out] at hr69
    rw [← hy69] at hcut69
    have HR1028 := Aside0.mk hr69
    have HC1028 := Aside0.mk (show y1025.length ≤ co68 from by omega)
    clear hr69 hC69 hroom69 hi069 hsz69
    have KY69 := Aside0.mk hy69
    clear hy69
    have KL69 := Aside0.mk (show ((t990.length : Int) : Int).toNat ≤ t994.length from by omega)
    replace q69 := eq_true q69
    have p1030 : 0 ≤ ((t990.length : Int) : Int) := od_
    have q1030 : (t990.length : Int) < (t994.length : Int) := od_
    obtain ⟨ad1030, A1030_1, c1030_1, e1030, hx1030_0, hx1030_1, hl1030_1, hi1030_1⟩ := at_T68 (Kd.S_reads' HO_10.out).2.2 (t990.length : Int) p1030 q1030
    cases e1030
    obtain ⟨ce1030, hce1030, hMe1030, hcc1030⟩ := Kd.S_get HO_10.out z68 (t990.length : Int) p1030 (by first | exact q1030 | exact od_ | (have e_ := (Kd.S_reads' HO_10.out).1; omega))
    obtain ⟨ve1030_1, rfl, ge1030_1⟩ := k68_openM hMe1030
    have hv1030_1 := hcc1030 1 _ rfl
    rw [add_field _ _ 1 (by omega)] at hv1030_1
    replace hv1030_1 := Option.some.inj (hv1030_1.symm.trans hx1030_1)
    rw [hv1030_1] at ge1030_1
    have HL1030_1 := Aside0.mk (show Kd.R (Kd.int .u8) 5 _ _ _ _ ((rd_T68 t994 (t990.length : Int)).f1) from ge1030_1)
    clear hv1030_1 ge1030_1
    clear hcc1030 hce1030
    have HR1030_1 := Aside0.mk hi1030_1
    have HC1030_1 := Aside0.mk hl1030_1
    clear hi1030_1 hl1030_1
    (try simp only [Go.IntWalk.toNatUp] at hx1030_0)
    (try simp only [Go.IntWalk.toNatUp] at hx1030_1)
    replace p1030 := eq_true p1030
    replace q1030 := eq_true q1030
    have p1031 : 0 ≤ ((ji62) : Int) := od_
    have q1031 : (ji62) < (t990.length : Int) := od_
    obtain ⟨ad1031, A1031_1, c1031_1, e1031, hx1031_0, hx1031_1, hl1031_1, hi1031_1⟩ := at_T68 (Kd.S_reads' HO_8.out).2.2 (ji62) p1031 q1031
    cases e1031
    obtain ⟨ce1031, hce1031, hMe1031, hcc1031⟩ := Kd.S_get HO_8.out z68 (ji62) p1031 (by first | exact q1031 | exact od_ | (have e_ := (Kd.S_reads' HO_8.out).1; omega))
    obtain ⟨ve1031_1, rfl, ge1031_1⟩ := k68_openM hMe1031
    have hv1031_1 := hcc1031 1 _ rfl
    rw [add_field _ _ 1 (by omega)] at hv1031_1
    replace hv1031_1 := Option.some.inj (hv1031_1.symm.trans hx1031_1)
    rw [hv1031_1] at ge1031_1
    have HL1031_1 := Aside0.mk (show Kd.R (Kd.int .u8) 5 _ _ _ _ ((rd_T68 t990 (ji62)).f1) from ge1031_1)
    clear hv1031_1 ge1031_1
    clear hcc1031 hce1031
    have HR1031_1 := Aside0.mk hi1031_1
    have HC1031_1 := Aside0.mk hl1031_1
    clear hi1031_1 hl1031_1
    replace p1031 := eq_true p1031
    replace q1031 := eq_true q1031
    refine start_ (n := 46) (S := fun w' => w'.cell? (ad1030.add (t990.length * 2)) = some (.int .i64 ((rd_T68 t994 (t990.length : Int)).f0)) ∧ w'.cell? ⟨(ad1030.add (t990.length * 2)).block, (ad1030.add (t990.length * 2)).off + 1, none⟩ = some (.slice A1030_1 ((rd_T68 t994 (t990.length : Int)).f1).length c1030_1) ∧ w'.cell? (ad1031.add (((ji62)).toNat * 2)) = some (.int .i64 ((rd_T68 t990 (ji62)).f0)) ∧ w'.cell? ⟨(ad1031.add (((ji62)).toNat * 2)).block, (ad1031.add (((ji62)).toNat * 2)).off + 1, none⟩ = some (.slice A1031_1 ((rd_T68 t990 (ji62)).f1).length c1031_1)) (ds := []) (rl [0,46]) (by kernel_rfl) rfl rfl ⟨hx1030_0, hx1030_1, hx1031_0, hx1031_1⟩ (fun hHeld => ?_); refine with_tabW laws_FnWays.tab12 laws_FnWays.bits12 (fun HT_ HW_ => ?_)
    generalize wc.drew = w67 at HO_3 HO_5 HO_8 HO_10 HO_990001 HO_1016007 BK989 BK1015 HB HL1030_1 HL1031_1 HR1028 HR1030_1 HR1031_1 hx1030_0 hx1030_1 hx1031_0 hx1031_1 hHeld ⊢
    refine pz_ (i := 0) (N := some 86) HT_ (rl [1,45]) rfl rfl ?_
    refine pz_ (i := 1) (N := some 87) HT_ (rl [2,44]) rfl rfl ?_
    refine pz_ (i := 2) (N := some 88) HT_ (rl [3,43]) rfl rfl ?_
    refine pz_ (i := 3) (N := some 89) HT_ (rl [4,42]) rfl rfl ?_
    refine pz_ (i := 4) (N := some 90) HT_ (rl [5,41]) rfl rfl ?_
    refine pz_ (i := 5) (N := some 91) HT_ (rl [6,40]) rfl rfl ?_
    refine pz_ (i := 6) (N := some 92) HT_ (rl [7,39]) rfl rfl ?_
    refine pz_ (i := 7) (N := some 93) HT_ (rl [8,38]) rfl rfl ?_
    refine pz_ (i := 8) (N := some 94) HT_ (rl [9,37]) rfl rfl ?_
    refine pz_ (i := 9) (N := some 95) HT_ (rl [10,36]) rfl rfl ?_
    refine pz_ (i := 10) (N := some 96) HT_ (rl [11,35]) rfl rfl ?_
    refine pz_ (i := 11) (N := some 97) HT_ (rl [12,34]) rfl rfl ?_
    refine pz_ (i := 12) (N := some 98) HT_ (rl [13,33]) rfl rfl ?_
    refine pz_ (i := 13) (N := some 99) HT_ (rl [14,32]) rfl rfl ?_
    refine one_ (i := 14) (N := some 100) (rl [15,31]) rfl rfl (one_of HT_.out (by kernel_rfl)) (by decide) (fun K hK => ?_)
    refine goes_ Try.func49 (by kernel_rfl) rfl #[.slice (some ad1030) y1025.length co68, .slice (some ad1031) t990.length co20] (by rfl) rfl rfl la_ ?_
    with_reducible refine (laws_samePacks.calls kj11 _ _ y1025 _ _ t990 true _ ?side1 ?side2 ?side3 ?side4 A58.out).mono ?_
    (case side1 => repeat (first | exact (by repeat (first | (with_reducible exact HR1028.out) | (with_reducible refine Kd.C_alloc ?_ _) | (with_reducible refine Kd.C_drewN ?_ _) | (with_reducible refine Kd.C_drew ?_) | exact HR1028.out)) | (with_reducible refine Kd.C_alloc ?_ _) | (with_reducible refine Kd.C_drewN ?_ _) | (with_reducible refine Kd.C_drew ?_)))
    (case side2 => exact HC1028.out)
    (case side3 => exact qC ((Kd.S_reads' HO_8.out).2.2))
    (case side4 => exact (Kd.S_reads' HO_8.out).2.1)
    rintro e w' ⟨rfl, ⟨nd, rfl⟩⟩
    refine ⟨_, rfl, ?_⟩
    refine hK.out _ _ ⟨hHeld.1, hHeld.2.1, hHeld.2.2.1, hHeld.2.2.2⟩ (fun hHeld => ?_)
    clear hK K
    refine norm_ (a' := ?_) ?_ ?_
    rotate_left
    ·
     show Act.put _ (some 100) _ = _
     exact ap_
    refine pz_ (i := 15) (N := some 101) HT_ (rl [16,30]) rfl rfl ?_
    refine pz_ (i := 16) (N := some 102) HT_ (rl [17,29]) rfl rfl ?_
    refine pz_ (i := 17) (N := some 103) HT_ (rl [18,28]) rfl rfl ?_
    refine pz_ (i := 18) (N := some 104) HT_ (rl [19,27]) rfl rfl ?_
    refine pz_ (i := 19) (N := some 105) HT_ (rl [20,26]) rfl rfl ?_
    refine pz_ (i := 20) (N := some 106) HT_ (rl [21,25]) rfl rfl ?_
    refine pz_ (i := 21) (N := some 107) HT_ (rl [22,24]) rfl rfl ?_
    refine pz_ (i := 22) (N := some 108) HT_ (rl [23,23]) rfl rfl ?_
    refine pz_ (i := 24) (N := some 110) HT_ (rl [23,1,1,21]) rfl rfl ?_
    refine pz_ (i := 25) (N := some 111) HT_ (rl [23,1,2,20]) rfl rfl ?_
    refine pz_ (i := 26) (N := some 112) HT_ (rl [23,1,3,19]) rfl rfl ?_
    refine pz_ (i := 27) (N := some 113) HT_ (rl [23,1,4,18]) rfl rfl ?_
    refine pz_ (i := 28) (N := some 114) HT_ (rl [23,1,5,17]) rfl rfl ?_
    refine pz_ (i := 29) (N := some 115) HT_ (rl [23,1,6,16]) rfl rfl ?_
    refine pz_ (i := 30) (N := some 116) HT_ (rl [23,1,7,15]) rfl rfl ?_
    refine tz_ (i := 23) (N := some 109) HT_ HW_ (rl [31,15]) rfl rfl hHeld ?_
    refine tz_ (i := 31) (N := some 117) HT_ HW_ (rl [32,14]) rfl rfl hHeld ?_
    refine one_ (i := 32) (N := some 118) (rl [33,13]) rfl rfl (one_of HT_.out (by kernel_rfl)) (by decide) (fun K hK => ?_)
    refine goes_ Try.func15 (by kernel_rfl) rfl #[.slice A1030_1 ((rd_T68 t994 (t990.length : Int)).f1).length c1030_1, .slice A1031_1 ((rd_T68 t990 (ji62)).f1).length c1031_1] (by rfl) rfl rfl (by (try simp only [List.map_toArray, List.map_cons, List.map_nil]); first | done | (simp only [hji62]; rfl) | rfl | (simp only [List.length_drop, List.length_take]; rfl)) ?_
    with_reducible refine (laws_same.calls _ _ ((rd_T68 t994 (t990.length : Int)).f1) _ _ ((rd_T68 t990 (ji62)).f1) true _ ?side1 ?side2 ?side3 ?side4 A65.out).mono ?_
    (case side1 => repeat (first | exact (by repeat (first | (with_reducible exact HR1030_1.out) | (with_reducible refine Kd.C_alloc ?_ _) | (with_reducible refine Kd.C_drewN ?_ _) | (with_reducible refine Kd.C_drew ?_) | exact HR1030_1.out)) | (with_reducible refine Kd.C_alloc ?_ _) | (with_reducible refine Kd.C_drewN ?_ _) | (with_reducible refine Kd.C_drew ?_)))
    (case side2 => exact HC1030_1.out)
    (case side3 => repeat (first | exact (by repeat (first | (with_reducible exact HR1031_1.out) | (with_reducible refine Kd.C_alloc ?_ _) | (with_reducible refine Kd.C_drewN ?_ _) | (with_reducible refine Kd.C_drew ?_) | exact HR1031_1.out)) | (with_reducible refine Kd.C_alloc ?_ _) | (with_reducible refine Kd.C_drewN ?_ _) | (with_reducible refine Kd.C_drew ?_)))
    (case side4 => exact HC1031_1.out)
    rintro e w' ⟨rfl, ⟨nd, rfl⟩⟩
    refine ⟨_, rfl, ?_⟩
    refine hK.out _ _ ⟨hHeld.1, hHeld.2.1, hHeld.2.2.1, hHeld.2.2.2⟩ (fun hHeld => ?_)
    clear hK K
    refine norm_ (a' := ?_) ?_ ?_
    rotate_left
    ·
     show Act.put _ (some 118) _ = _
     exact ap_
    refine pz_ (i := 33) (N := some 119) HT_ (rl [34,12]) rfl rfl ?_
    refine pz_ (i := 34) (N := some 120) HT_ (rl [35,11]) rfl rfl ?_
    refine pz_ (i := 35) (N := some 121) HT_ (rl [36,10]) rfl rfl ?_
    refine pz_ (i := 36) (N := some 122) HT_ (rl [37,9]) rfl rfl ?_
    refine pz_ (i := 37) (N := some 123) HT_ (rl [38,8]) rfl rfl ?_
    refine pz_ (i := 38) (N := some 124) HT_ (rl [39,7]) rfl rfl ?_
    refine pz_ (i := 39) (N := some 125) HT_ (rl [40,6]) rfl rfl ?_
    refine pu_ (i := 40) (N := some 126) HT_ (rl [41,5]) rfl rfl ?_
    refine pu_ (i := 41) (N := some 127) HT_ (rl [42,4]) rfl rfl ?_
    refine pu_ (i := 42) (N := some 128) HT_ (rl [43,3]) rfl rfl ?_
    refine pu_ (i := 43) (N := some 129) HT_ (rl [44,2]) rfl rfl ?_
    refine pz_ (i := 44) (N := some 130) HT_ (rl [45,1]) rfl rfl ?_
    refine pz_ (i := 45) (N := some 131) HT_ (rl [46]) rfl rfl ?_
    refine done_ (done_of HT_.out (by kernel_rfl)) ?_
    try go_wp2_with ((with_reducible refine gate_ld rfl ?_); first | refine ld_ ?_ | fail)
    go_meet
    case rel => exact ⟨_, (false), eqq_, H', ⟨by have := HJ11.out; first | omega | exact Nat.le_refl _⟩, ⟨by (with_reducible repeat (first | apply Kd.S_alloc | apply Kd.S_drewN | apply Kd.S_drew)); exact Kd.S_mono HO_3.out (fun _ hk => ⟨hk.1, ⟨hk.2.2.2.1, hk.2.2.2.2⟩⟩)⟩, ⟨by (with_reducible repeat (first | apply Kd.S_alloc | apply Kd.S_drewN | apply Kd.S_drew)); exact Kd.S_mono HO_5.out (fun _ hk => ⟨hk.1, ⟨hk.2.2.2.1, hk.2.2.2.2⟩⟩)⟩, ⟨qR HO_990001⟩, ⟨qR HO_1016007⟩, ⟨qK BK989⟩, ⟨qK BK1015⟩, ⟨qB HB⟩⟩
   case rest =>
    clear HC53
    try clear c1
    try clear p2
    try clear c4
    try clear c5
    try clear c6
    try clear p6
    try clear c10
    try clear c15
    try clear c49
    try clear c54
    try clear c55
    try clear c55b0
    try clear c55b1
    try clear c56
    try clear c57
    try clear c59
    try clear c60
    try clear c63
    try clear c64
    try clear p64
    try clear c66
    obtain ⟨kq, x131_52, rfl, HA, HJ52, HO_3, HO_5, HO_990001, HO_1016007, BK989, BK1015, HB⟩ := hcut
    cases kq with
    | zero => exact absurd HA.out (by simp [laws_FnWays.j1])
    | succ kj52 =>
     have H := HA.out
     clear HA
     simp only [laws_FnWays.j1] at H
     by_cases c73 : x131_52 = true
     ·
      subst c73
      rw [if_pos rfl] at H
      exact absurd (hr_.out ▸ H) (by simp)
     replace c73 := Bool.eq_false_iff.mpr c73
     subst c73
     rw [if_neg (show ¬ (false = true) by decide)] at H
     by_cases c74 : t988 = true
     rotate_left
     ·
      replace c74 := Bool.eq_false_iff.mpr c74
      subst c74
      rw [if_neg (show ¬ (false = true) by decide)] at H
      replace H := bd_ H
      obtain ⟨t1055, A99, H⟩ := H
      obtain rfl := Option.some.inj H
      obtain ⟨Ao100, co100, eo100⟩ := Kd.S_slice HO_5.out
      subst eo100
      go_wp2_with (first | ((with_reducible refine gate_ld rfl ?_); first | refine ld_ ?_ | fail) | ((with_reducible refine gate_callee (f := 49) rfl ?_); refine gl_ (some 136) Try.func49 #[.slice Ao100 t981.length co100, .slice Ao14 t977.length co14] ?_; (with_reducible refine (laws_samePacks.calls kj52 _ _ t981 _ _ t977 t1055 _ ?side1 ?side2 ?side3 ?side4 A99.out).mono ?_); (case side1 => exact qC ((Kd.S_reads' HO_5.out).2.2)); (case side2 => exact (Kd.S_reads' HO_5.out).2.1); (case side3 => exact qC ((Kd.S_reads' HO_3.out).2.2)); (case side4 => exact (Kd.S_reads' HO_3.out).2.1); rintro e w' ⟨rfl, ⟨nd, rfl⟩⟩; refine ⟨_, rfl, ?_⟩))
      go_ret
      exact ⟨er_, qB HB⟩
     subst c74
     rw [if_pos rfl] at H
     by_cases c75 : (t977.length : Int) = 0
     ·
      rw [if_pos c75] at H
      exact absurd H (by simp)
     rw [if_neg c75] at H
     have c75b0 : ((t977.length : Int) == 0) = false := beq_eq_false_iff_ne.mpr c75
     have c75b1 : ((t977.length : Int) != 0) = true := bne_iff_ne.mpr c75
     have c75b2 : ¬ (t977 = []) := fun h_ => c75 (by rw [h_]; rfl)
     obtain ⟨ji76, hji76⟩ : ∃ j_ : Int, (Int.tmod t978 (t977.length : Int)) = j_ := ⟨_, rfl⟩
     replace H : (if 0 ≤ (ji76) then (if (ji76) ≤ (t981.length : Int) then (if (ji76) ≤ (t977.length : Int) then ((laws_samePacks.f kj52 (t981.take ((ji76) : Int).toNat) (t977.take ((ji76) : Int).toNat)).bind fun t1042 => (if t1042 = true then (if 0 ≤ (wrap64 ((ji76) + 1)) then (if (wrap64 ((ji76) + 1)) ≤ (t977.length : Int) then ((laws_samePacks.f kj52 (t981.drop ((ji76) : Int).toNat) (t977.drop ((wrap64 ((ji76) + 1)) : Int).toNat)).bind fun t1051 => (if t1051 = true then (if (ji76) < (t977.length : Int) then (if t984 = ((rd_T68 t977 (ji76)).f0) then ((laws_same.f t985 ((rd_T68 t977 (ji76)).f1)).bind fun t1054 => (some t1054)) else (some false)) else (none)) else (some false))) else (none)) else (none)) else (some false))) else (none)) else (none)) else (none)) = some r := by first | (rw [hji76] at H; exact H) | (simp only [hji76] at H ⊢; exact H)
     by_cases c77 : 0 ≤ (ji76)
     case neg => exact nn_ c77 H
     rw [if_pos c77] at H
     have c77b0 := eq_true c77
     have c77b1 : decide (0 ≤ (ji76)) = true := decide_eq_true c77
     clear c77
     by_cases c78 : (ji76) ≤ (t981.length : Int)
     case neg => exact nn_ c78 H
     rw [if_pos c78] at H
     have c78b0 := eq_true c78
     have c78b1 : decide ((ji76) ≤ (t981.length : Int)) = true := decide_eq_true c78
     clear c78
     obtain ⟨y1034, hy1034⟩ : ∃ y_ : List (S68), y_ = (t981.take ((ji76) : Int).toNat) := ⟨_, rfl⟩
     rw [← hy1034] at H
     have Ny1034 := Aside0.mk hy1034
     clear hy1034
     have c79b0 := eq_true (od_ : 0 ≤ (ji76))
     by_cases c80 : (ji76) ≤ (t977.length : Int)
     case neg => exact nn_ c80 H
     rw [if_pos c80] at H
     have c80b0 := eq_true c80
     have c80b1 : decide ((ji76) ≤ (t977.length : Int)) = true := decide_eq_true c80
     clear c80
     obtain ⟨y1038, hy1038⟩ : ∃ y_ : List (S68), y_ = (t977.take ((ji76) : Int).toNat) := ⟨_, rfl⟩
     rw [← hy1038] at H
     have Ny1038 := Aside0.mk hy1038
     clear hy1038
     replace H := bd_ H
     obtain ⟨t1042, A81, H⟩ := H
     by_cases c82 : t1042 = true
     rotate_left
     ·
      replace c82 := Bool.eq_false_iff.mpr c82
      subst c82
      rw [if_neg (show ¬ (false = true) by decide)] at H
      exact absurd (hr_.out ▸ H) (by simp)
     subst c82
     rw [if_pos rfl] at H
     have c83b0 := eq_true (od_ : 0 ≤ (ji76))
     have c84b0 := eq_true (od_ : (ji76) ≤ (t981.length : Int))
     obtain ⟨y1043, hy1043⟩ : ∃ y_ : List (S68), y_ = (t981.drop ((ji76) : Int).toNat) := ⟨_, rfl⟩
     rw [← hy1043] at H
     have Ny1043 := Aside0.mk hy1043
     clear hy1043
     obtain ⟨ji85, hji85⟩ : ∃ j_ : Int, (wrap64 ((ji76) + 1)) = j_ := ⟨_, rfl⟩
     replace H : (if 0 ≤ (ji85) then (if (ji85) ≤ (t977.length : Int) then ((laws_samePacks.f kj52 y1043 (t977.drop ((ji85) : Int).toNat)).bind fun t1051 => (if t1051 = true then (if (ji76) < (t977.length : Int) then (if t984 = ((rd_T68 t977 (ji76)).f0) then ((laws_same.f t985 ((rd_T68 t977 (ji76)).f1)).bind fun t1054 => (some t1054)) else (some false)) else (none)) else (some false))) else (none)) else (none)) = some r := by first | (rw [hji85] at H; exact H) | (simp only [hji85] at H ⊢; exact H)
     (try rw [hji85] at A81)
     have hji85w : (IntKind.i64.wrap ((ji76) + 1)) = ji85 := (i64_w _).trans hji85
     by_cases c86 : 0 ≤ (ji85)
     case neg => exact nn_ c86 H
     rw [if_pos c86] at H
     have c86b0 := eq_true c86
     have c86b1 : decide (0 ≤ (ji85)) = true := decide_eq_true c86
     clear c86
     by_cases c87 : (ji85) ≤ (t977.length : Int)
     case neg => exact nn_ c87 H
     rw [if_pos c87] at H
     have c87b0 := eq_true c87
     have c87b1 : decide ((ji85) ≤ (t977.length : Int)) = true := decide_eq_true c87
     clear c87
     obtain ⟨y1047, hy1047⟩ : ∃ y_ : List (S68), y_ = (t977.drop ((ji85) : Int).toNat) := ⟨_, rfl⟩
     rw [← hy1047] at H
     have Ny1047 := Aside0.mk hy1047
     clear hy1047
     replace H := bd_ H
     obtain ⟨t1051, A88, H⟩ := H
     by_cases c89 : t1051 = true
     rotate_left
     ·
      replace c89 := Bool.eq_false_iff.mpr c89
      subst c89
      rw [if_neg (show ¬ (false = true) by decide)] at H
      exact absurd (hr_.out ▸ H) (by simp)
     subst c89
     rw [if_pos rfl] at H
     by_cases c90 : (ji76) < (t977.length : Int)
     case neg => exact nn_ c90 H
     rw [if_pos c90] at H
     have c90b0 : decide ((ji76) < (t977.length : Int)) = true := decide_eq_true c90
     clear c90
     by_cases c91 : t984 = ((rd_T68 t977 (ji76)).f0)
     rotate_left
     ·
      rw [if_neg c91] at H
      have c91b0 : (t984 == ((rd_T68 t977 (ji76)).f0)) = false := beq_eq_false_iff_ne.mpr c91
      have c91b1 : (t984 != ((rd_T68 t977 (ji76)).f0)) = true := bne_iff_ne.mpr c91
      exact absurd (hr_.out ▸ H) (by simp)
     rw [if_pos c91] at H
     have c91b0 : (t984 == ((rd_T68 t977 (ji76)).f0)) = true := beq_iff_eq.mpr c91
     have c91b1 : (t984 != ((rd_T68 t977 (ji76)).f0)) = false := bne_eq_false_iff_eq.mpr c91
     clear c91
     replace H := bd_ H
     obtain ⟨t1054, A92, H⟩ := H
     obtain rfl := Option.some.inj H
     try go_wp2_with ((with_reducible refine gate_ld rfl ?_); first | refine ld_ ?_ | fail)
     replace HO_3 := am_ (Kd.S_drew HO_3.out)
     replace HO_5 := am_ (Kd.S_drew HO_5.out)
     replace HO_990001 := am_ (Kd.R_drew HO_990001.out)
     replace HO_1016007 := am_ (Kd.R_drew HO_1016007.out)
     replace BK989 := am_ (blk_drew BK989.out)
     replace BK1015 := am_ (blk_drew BK1015.out)
     replace HB := am_ (below_drew1 HB.out)
     obtain ⟨Ao95, co95, eo95⟩ := Kd.S_slice HO_5.out
     (first | subst eo95 | (injection eo95 with f1_ f2_ f3_; have f4_ := f1_.symm; have f5_ := f3_.symm; clear f1_ f2_ f3_; subst f4_; subst f5_))
     have q94 : ((ji76) : Int) ≤ ((t981.length : Int) : Int) := od_
     obtain ⟨i094, hi094, _, hsz94, _⟩ := info_parts info68
     have hroom94 : t981.length ≤ co95 := (Kd.S_reads' HO_5.out).2.1
     have hC94 : Kd.C k68 _ Ao95 t981.length t981 := (Kd.S_reads' HO_5.out).2.2
     have hcut94 := cut_to (P := Try.prog) 64 68 .i64 Try.underlying64 hi094 Ao95 t981.length co95 (ji76) od_ q94 hroom94
     have hr94 := Kd.C_take (m := ((ji76) : Int).toNat) hC94 (by omega)
     have hy94 : y1034.length = ((ji76) : Int).toNat := (by rw [Ny1034.out, List.length_take]; omega)
     rw [← Ny1034.out] at hr94
     rw [← hy94] at hcut94
     have HR1037 := Aside0.mk hr94
     have HC1037 := Aside0.mk (show y1034.length ≤ co95 from by omega)
     clear hr94 hC94 hroom94 hi094 hsz94
     have KY94 := Aside0.mk hy94
     clear hy94
     have KL94 := Aside0.mk (show ((ji76) : Int).toNat ≤ t981.length from by omega)
     replace q94 := eq_true q94
     have q96 : ((ji76) : Int) ≤ ((t977.length : Int) : Int) := od_
     obtain ⟨i096, hi096, _, hsz96, _⟩ := info_parts info68
     have hroom96 : t977.length ≤ co14 := (Kd.S_reads' HO_3.out).2.1
     have hC96 : Kd.C k68 _ Ao14 t977.length t977 := (Kd.S_reads' HO_3.out).2.2
     have hcut96 := cut_to (P := Try.prog) 64 68 .i64 Try.underlying64 hi096 Ao14 t977.length co14 (ji76) od_ q96 hroom96
     have hr96 := Kd.C_take (m := ((ji76) : Int).toNat) hC96 (by omega)
     have hy96 : y1038.length = ((ji76) : Int).toNat := (by rw [Ny1038.out, List.length_take]; omega)
     rw [← Ny1038.out] at hr96
     rw [← hy96] at hcut96
     have HR1041 := Aside0.mk hr96
     have HC1041 := Aside0.mk (show y1038.length ≤ co14 from by omega)
     clear hr96 hC96 hroom96 hi096 hsz96
     have KY96 := Aside0.mk hy96
     clear hy96
     have KL96 := Aside0.mk (show ((ji76) : Int).toNat ≤ t977.length from by omega)
     replace q96 := eq_true q96
     have p1052 : 0 ≤ ((ji76) : Int) := od_
     have q1052 : (ji76) < (t977.length : Int) := od_
     obtain ⟨ad1052, A1052_1, c1052_1, e1052, hx1052_0, hx1052_1, hl1052_1, hi1052_1⟩ := at_T68 (Kd.S_reads' HO_3.out).2.2 (ji76) p1052 q1052
     cases e1052
     obtain ⟨ce1052, hce1052, hMe1052, hcc1052⟩ := Kd.S_get HO_3.out z68 (ji76) p1052 (by first | exact q1052 | exact od_ | (have e_ := (Kd.S_reads' HO_3.out).1; omega))
     obtain ⟨ve1052_1, rfl, ge1052_1⟩ := k68_openM hMe1052
     have hv1052_1 := hcc1052 1 _ rfl
     rw [add_field _ _ 1 (by omega)] at hv1052_1
     replace hv1052_1 := Option.some.inj (hv1052_1.symm.trans hx1052_1)
     rw [hv1052_1] at ge1052_1
     have HL1052_1 := Aside0.mk (show Kd.R (Kd.int .u8) 5 _ _ _ _ ((rd_T68 t977 (ji76)).f1) from ge1052_1)
     clear hv1052_1 ge1052_1
     clear hcc1052 hce1052
     have HR1052_1 := Aside0.mk hi1052_1
     have HC1052_1 := Aside0.mk hl1052_1
     clear hi1052_1 hl1052_1
     replace p1052 := eq_true p1052
     replace q1052 := eq_true q1052
     have p1053 : 0 ≤ ((ji76) : Int) := od_
     have q1053 : (ji76) < (t977.length : Int) := od_
     obtain ⟨ad1053, A1053_1, c1053_1, e1053, hx1053_0, hx1053_1, hl1053_1, hi1053_1⟩ := at_T68 (Kd.S_reads' HO_3.out).2.2 (ji76) p1053 q1053
     obtain rfl : ad1052 = ad1053 := (by injection e1053)
     obtain ⟨ce1053, hce1053, hMe1053, hcc1053⟩ := Kd.S_get HO_3.out z68 (ji76) p1053 (by first | exact q1053 | exact od_ | (have e_ := (Kd.S_reads' HO_3.out).1; omega))
     obtain ⟨ve1053_1, rfl, ge1053_1⟩ := k68_openM hMe1053
     have hv1053_1 := hcc1053 1 _ rfl
     rw [add_field _ _ 1 (by omega)] at hv1053_1
     replace hv1053_1 := Option.some.inj (hv1053_1.symm.trans hx1053_1)
     rw [hv1053_1] at ge1053_1
     have HL1053_1 := Aside0.mk (show Kd.R (Kd.int .u8) 5 _ _ _ _ ((rd_T68 t977 (ji76)).f1) from ge1053_1)
     clear hv1053_1 ge1053_1
     clear hcc1053 hce1053
     have HR1053_1 := Aside0.mk hi1053_1
     have HC1053_1 := Aside0.mk hl1053_1
     clear hi1053_1 hl1053_1
     replace p1053 := eq_true p1053
     replace q1053 := eq_true q1053
     have ea_ := Option.some.inj (hx1052_1.symm.trans hx1053_1)
     injection ea_ with ea_ en_ ec_
     subst ea_
     subst ec_
     clear en_
     refine start_ (n := 38) (S := fun w' => w'.cell? ⟨gb989, 0, none⟩ = some (.int .i64 t984) ∧ w'.cell? ⟨gb989, 1, none⟩ = some (.slice Ao18 t985.length co18) ∧ w'.cell? (ad1052.add (((ji76)).toNat * 2)) = some (.int .i64 ((rd_T68 t977 (ji76)).f0)) ∧ w'.cell? ⟨(ad1052.add (((ji76)).toNat * 2)).block, (ad1052.add (((ji76)).toNat * 2)).off + 1, none⟩ = some (.slice A1052_1 ((rd_T68 t977 (ji76)).f1).length c1052_1) ∧ w'.cell? (ad1052.add (((ji76)).toNat * 2)) = some (.int .i64 ((rd_T68 t977 (ji76)).f0)) ∧ w'.cell? ⟨(ad1052.add (((ji76)).toNat * 2)).block, (ad1052.add (((ji76)).toNat * 2)).off + 1, none⟩ = some (.slice A1052_1 ((rd_T68 t977 (ji76)).f1).length c1052_1)) (ds := []) (rl [0,38]) (by kernel_rfl) rfl rfl (cw2 BK989.out ⟨hx1052_0, hx1052_1, hx1053_0, hx1053_1⟩) (fun hHeld => ?_); refine with_tabW laws_FnWays.tab17 laws_FnWays.bits17 (fun HT_ HW_ => ?_)
     generalize wc.drew = w93 at HO_3 HO_5 HO_990001 HO_1016007 BK989 BK1015 HB HL1052_1 HL1053_1 HR1037 HR1041 HR1052_1 HR1053_1 hx1052_0 hx1052_1 hx1053_0 hx1053_1 hHeld ⊢
     refine pz_ (i := 0) (N := some 141) HT_ (rl [1,37]) rfl rfl ?_
     refine pz_ (i := 1) (N := some 142) HT_ (rl [2,36]) rfl rfl ?_
     refine pz_ (i := 2) (N := some 143) HT_ (rl [3,35]) rfl rfl ?_
     refine pz_ (i := 3) (N := some 144) HT_ (rl [4,34]) rfl rfl ?_
     refine pz_ (i := 4) (N := some 145) HT_ (rl [5,33]) rfl rfl ?_
     refine pz_ (i := 5) (N := some 146) HT_ (rl [6,32]) rfl rfl ?_
     refine one_ (i := 6) (N := some 147) (rl [7,31]) rfl rfl (one_of HT_.out (by kernel_rfl)) (by decide) (fun K hK => ?_)
     refine goes_ Try.func49 (by kernel_rfl) rfl #[.slice Ao95 y1034.length co95, .slice (some ad1052) y1038.length co14] (by rfl) rfl rfl la_ ?_
     with_reducible refine (laws_samePacks.calls kj52 _ _ y1034 _ _ y1038 true _ ?side1 ?side2 ?side3 ?side4 A81.out).mono ?_
     (case side1 => repeat (first | exact (by repeat (first | (with_reducible exact HR1037.out) | (with_reducible refine Kd.C_alloc ?_ _) | (with_reducible refine Kd.C_drewN ?_ _) | (with_reducible refine Kd.C_drew ?_) | exact HR1037.out)) | (with_reducible refine Kd.C_alloc ?_ _) | (with_reducible refine Kd.C_drewN ?_ _) | (with_reducible refine Kd.C_drew ?_)))
     (case side2 => exact HC1037.out)
     (case side3 => repeat (first | exact (by repeat (first | (with_reducible exact HR1041.out) | (with_reducible refine Kd.C_alloc ?_ _) | (with_reducible refine Kd.C_drewN ?_ _) | (with_reducible refine Kd.C_drew ?_) | exact HR1041.out)) | (with_reducible refine Kd.C_alloc ?_ _) | (with_reducible refine Kd.C_drewN ?_ _) | (with_reducible refine Kd.C_drew ?_)))
     (case side4 => exact HC1041.out)
     rintro e w' ⟨rfl, ⟨nd, rfl⟩⟩
     refine ⟨_, rfl, ?_⟩
     have q97 : ((ji76) : Int) ≤ ((t981.length : Int) : Int) := od_
     obtain ⟨i097, hi097, _, hsz97, _⟩ := info_parts info68
     have hroom97 : t981.length ≤ co95 := (Kd.S_reads' HO_5.out).2.1
     have hC97 : Kd.C k68 _ Ao95 t981.length t981 := (Kd.S_reads' HO_5.out).2.2
     have q097 : (0 : Int) ≤ ((ji76) : Int) := od_
     have hcut97 := cut_from (P := Try.prog) 64 68 .i64 Try.underlying64 hi097 2 hsz97 Ao95 t981.length co95 (ji76) q097 q97
     have hr97 := Kd.C_drop (m := ((ji76) : Int).toNat) (c := co95) hC97 (by omega) hroom97
     obtain ⟨A97, hA97⟩ : ∃ A1, A1 = (if co95 = ((ji76) : Int).toNat then Ao95 else (Ao95 : Option Addr).map (·.add (((ji76) : Int).toNat * 2))) := ⟨_, rfl⟩
     obtain ⟨c97, hc97⟩ : ∃ c1, c1 = co95 - ((ji76) : Int).toNat := ⟨_, rfl⟩
     have hy97 : y1043.length = t981.length - ((ji76) : Int).toNat := (by rw [Ny1043.out, List.length_drop] <;> omega)
     rw [show (t981).drop ((ji76) : Int).toNat = y1043 from Ny1043.out.symm] at hr97
     replace hr97 : Kd.C k68 _ A97 y1043.length y1043 := (by rw [hA97]; exact hr97)
     rw [← hy97, ← hA97, ← hc97] at hcut97
     have HR1046 := Aside0.mk hr97
     have HC1046 := Aside0.mk (show y1043.length ≤ c97 from by rw [hy97, hc97]; exact Nat.sub_le_sub_right hroom97 _)
     have KC97 := Aside0.mk hc97
     clear hr97 hC97 hroom97 hi097 hsz97 hc97
     have KY97 := Aside0.mk hy97
     have KA97 := Aside0.mk hA97
     clear hy97 hA97
     have KL97 := Aside0.mk (show ((ji76) : Int).toNat ≤ t981.length from by omega)
     replace q97 := eq_true q97
     have q98 : ((ji85) : Int) ≤ ((t977.length : Int) : Int) := od_
     obtain ⟨i098, hi098, _, hsz98, _⟩ := info_parts info68
     have hroom98 : t977.length ≤ co14 := (Kd.S_reads' HO_3.out).2.1
     have hC98 : Kd.C k68 _ (some ad1052) t977.length t977 := (Kd.S_reads' HO_3.out).2.2
     have q098 : (0 : Int) ≤ ((ji85) : Int) := od_
     have hcut98 := cut_from (P := Try.prog) 64 68 .i64 Try.underlying64 hi098 2 hsz98 (some ad1052) t977.length co14 (ji85) q098 q98
     have hr98 := Kd.C_drop (m := ((ji85) : Int).toNat) (c := co14) hC98 (by omega) hroom98
     obtain ⟨A98, hA98⟩ : ∃ A1, A1 = (if co14 = ((ji85) : Int).toNat then (some ad1052) else ((some ad1052) : Option Addr).map (·.add (((ji85) : Int).toNat * 2))) := ⟨_, rfl⟩
     obtain ⟨c98, hc98⟩ : ∃ c1, c1 = co14 - ((ji85) : Int).toNat := ⟨_, rfl⟩
     have hy98 : y1047.length = t977.length - ((ji85) : Int).toNat := (by rw [Ny1047.out, List.length_drop] <;> omega)
     rw [show (t977).drop ((ji85) : Int).toNat = y1047 from Ny1047.out.symm] at hr98
     replace hr98 : Kd.C k68 _ A98 y1047.length y1047 := (by rw [hA98]; exact hr98)
     rw [← hy98, ← hA98, ← hc98] at hcut98
     have HR1050 := Aside0.mk hr98
     have HC1050 := Aside0.mk (show y1047.length ≤ c98 from by rw [hy98, hc98]; exact Nat.sub_le_sub_right hroom98 _)
     have KC98 := Aside0.mk hc98
     clear hr98 hC98 hroom98 hi098 hsz98 hc98
     have KY98 := Aside0.mk hy98
     have KA98 := Aside0.mk hA98
     clear hy98 hA98
     have KL98 := Aside0.mk (show ((ji85) : Int).toNat ≤ t977.length from by omega)
     replace q98 := eq_true q98
     refine hK.out _ _ (cw2 BK989.out ⟨hHeld.2.2.1, hHeld.2.2.2.1, hHeld.2.2.2.2.1, hHeld.2.2.2.2.2⟩) (fun hHeld => ?_)
     clear hK K
     refine norm_ (a' := ?_) ?_ ?_
     rotate_left
     ·
      show Act.put _ (some 147) _ = _
      exact ap_
     (try rw [show (if co14 = ((ji85) : Int).toNat then (some ad1052) else ((some ad1052) : Option Addr).map (·.add (((ji85) : Int).toNat * 2))) = A98 from by rw [KA98.out]; simp only [Nat.mul_one]])
     (try rw [← KY98.out])
     (try rw [← KC98.out])
     (try rw [show (if co95 = ((ji76) : Int).toNat then Ao95 else (Ao95 : Option Addr).map (·.add (((ji76) : Int).toNat * 2))) = A97 from by rw [KA97.out]; simp only [Nat.mul_one]])
     (try rw [← KY97.out])
     (try rw [← KC97.out])
     refine pz_ (i := 7) (N := some 148) HT_ (rl [8,30]) rfl rfl ?_
     refine pz_ (i := 8) (N := some 149) HT_ (rl [9,29]) rfl rfl ?_
     refine pz_ (i := 9) (N := some 150) HT_ (rl [10,28]) rfl rfl ?_
     refine pz_ (i := 10) (N := some 151) HT_ (rl [11,27]) rfl rfl ?_
     refine pz_ (i := 11) (N := some 152) HT_ (rl [12,26]) rfl rfl ?_
     refine pz_ (i := 12) (N := some 153) HT_ (rl [13,25]) rfl rfl ?_
     refine pz_ (i := 13) (N := some 154) HT_ (rl [14,24]) rfl rfl ?_
     refine pz_ (i := 14) (N := some 155) HT_ (rl [15,23]) rfl rfl ?_
     refine one_ (i := 15) (N := some 156) (rl [16,22]) rfl rfl (one_of HT_.out (by kernel_rfl)) (by decide) (fun K hK => ?_)
     refine goes_ Try.func49 (by kernel_rfl) rfl #[.slice A97 y1043.length c97, .slice A98 y1047.length c98] (by rfl) rfl rfl la_ ?_
     with_reducible refine (laws_samePacks.calls kj52 _ _ y1043 _ _ y1047 true _ ?side1 ?side2 ?side3 ?side4 A88.out).mono ?_
     (case side1 => repeat (first | exact (by repeat (first | (with_reducible exact HR1046.out) | (with_reducible refine Kd.C_alloc ?_ _) | (with_reducible refine Kd.C_drewN ?_ _) | (with_reducible refine Kd.C_drew ?_) | exact HR1046.out)) | (with_reducible refine Kd.C_alloc ?_ _) | (with_reducible refine Kd.C_drewN ?_ _) | (with_reducible refine Kd.C_drew ?_)))
     (case side2 => exact HC1046.out)
     (case side3 => repeat (first | exact (by repeat (first | (with_reducible exact HR1050.out) | (with_reducible refine Kd.C_alloc ?_ _) | (with_reducible refine Kd.C_drewN ?_ _) | (with_reducible refine Kd.C_drew ?_) | exact HR1050.out)) | (with_reducible refine Kd.C_alloc ?_ _) | (with_reducible refine Kd.C_drewN ?_ _) | (with_reducible refine Kd.C_drew ?_)))
     (case side4 => exact HC1050.out)
     rintro e w' ⟨rfl, ⟨nd, rfl⟩⟩
     refine ⟨_, rfl, ?_⟩
     refine hK.out _ _ (cw2 BK989.out ⟨hHeld.2.2.1, hHeld.2.2.2.1, hHeld.2.2.2.2.1, hHeld.2.2.2.2.2⟩) (fun hHeld => ?_)
     clear hK K
     refine norm_ (a' := ?_) ?_ ?_
     rotate_left
     ·
      show Act.put _ (some 156) _ = _
      exact ap_
     refine pz_ (i := 16) (N := some 157) HT_ (rl [17,21]) rfl rfl ?_
     refine pz_ (i := 17) (N := some 158) HT_ (rl [18,20]) rfl rfl ?_
     refine pz_ (i := 18) (N := some 159) HT_ (rl [19,19]) rfl rfl ?_
     refine pz_ (i := 20) (N := some 161) HT_ (rl [19,1,1,17]) rfl rfl ?_
     refine pz_ (i := 21) (N := some 162) HT_ (rl [19,1,2,16]) rfl rfl ?_
     refine pz_ (i := 22) (N := some 163) HT_ (rl [19,1,3,15]) rfl rfl ?_
     refine pz_ (i := 23) (N := some 164) HT_ (rl [19,1,4,14]) rfl rfl ?_
     refine tz_ (i := 19) (N := some 160) HT_ HW_ (rl [24,14]) rfl rfl hHeld ?_
     refine tz_ (i := 24) (N := some 165) HT_ HW_ (rl [25,13]) rfl rfl hHeld ?_
     refine pz_ (i := 25) (N := some 166) HT_ (rl [26,12]) rfl rfl ?_
     refine pz_ (i := 26) (N := some 167) HT_ (rl [27,11]) rfl rfl ?_
     refine pz_ (i := 27) (N := some 168) HT_ (rl [28,10]) rfl rfl ?_
     refine pz_ (i := 28) (N := some 169) HT_ (rl [29,9]) rfl rfl ?_
     refine pz_ (i := 30) (N := some 171) HT_ (rl [29,1,1,7]) rfl rfl ?_
     refine pz_ (i := 31) (N := some 172) HT_ (rl [29,1,2,6]) rfl rfl ?_
     refine pz_ (i := 32) (N := some 173) HT_ (rl [29,1,3,5]) rfl rfl ?_
     refine pz_ (i := 33) (N := some 174) HT_ (rl [29,1,4,4]) rfl rfl ?_
     refine tz_ (i := 29) (N := some 170) HT_ HW_ (rl [34,4]) rfl rfl hHeld ?_
     refine tz_ (i := 34) (N := some 175) HT_ HW_ (rl [35,3]) rfl rfl hHeld ?_
     refine one_ (i := 35) (N := some 176) (rl [36,2]) rfl rfl (one_of HT_.out (by kernel_rfl)) (by decide) (fun K hK => ?_)
     refine goes_ Try.func15 (by kernel_rfl) rfl #[.slice Ao18 t985.length co18, .slice A1052_1 ((rd_T68 t977 (ji76)).f1).length c1052_1] (by rfl) rfl rfl (by (try simp only [List.map_toArray, List.map_cons, List.map_nil]); first | done | (simp only [hji76]; rfl) | rfl | (simp only [List.length_drop, List.length_take]; rfl)) ?_
     with_reducible refine (laws_same.calls _ _ t985 _ _ ((rd_T68 t977 (ji76)).f1) t1054 _ ?side1 ?side2 ?side3 ?side4 A92.out).mono ?_
     (case side1 => exact qC ((Kd.R_reads' HO_990001.out).2.2))
     (case side2 => exact (Kd.R_reads' HO_990001.out).2.1)
     (case side3 => repeat (first | exact (by repeat (first | (with_reducible exact HR1053_1.out) | (with_reducible refine Kd.C_alloc ?_ _) | (with_reducible refine Kd.C_drewN ?_ _) | (with_reducible refine Kd.C_drew ?_) | exact HR1053_1.out)) | (with_reducible refine Kd.C_alloc ?_ _) | (with_reducible refine Kd.C_drewN ?_ _) | (with_reducible refine Kd.C_drew ?_)))
     (case side4 => exact HC1053_1.out)
     rintro e w' ⟨rfl, ⟨nd, rfl⟩⟩
     refine ⟨_, rfl, ?_⟩
     refine hK.out _ _ (cw2 BK989.out ⟨hHeld.2.2.1, hHeld.2.2.2.1, hHeld.2.2.2.2.1, hHeld.2.2.2.2.2⟩) (fun hHeld => ?_)
     clear hK K
     refine norm_ (a' := ?_) ?_ ?_
     rotate_left
     ·
      show Act.put _ (some 176) _ = _
      exact ap_
     refine pz_ (i := 36) (N := some 177) HT_ (rl [37,1]) rfl rfl ?_
     refine pz_ (i := 37) (N := some 2) HT_ (rl [38]) rfl rfl ?_
     refine done_ (done_of HT_.out (by kernel_rfl)) ?_
     try go_wp2_with ((with_reducible refine gate_ld rfl ?_); first | refine ld_ ?_ | fail)
     go_ret
     exact ⟨by first | rfl | (simp [errW_none, errW_some] <;> rfl) | (simp only [← hji76, ← hji85]; first | rfl | (simp [errW_none, errW_some] <;> rfl)) | (simp [*, errW_none, errW_some] <;> rfl), qB HB⟩

/-- THE ONE PURE STATEMENT of laws_FnWays: yours. -/
def laws_FnWays.Pure : Prop := ∀ (l0 : List Int), l0.length ≤ maxLen → l0.length * 1 ≤ 140737488351232 → (∀ x ∈ l0, (Lit.int .u8 x).wf = true) → ∃ k, laws_FnWays.f k l0 = some true
theorem laws_FnWays.walk (P : laws_FnWays.Pure) (a0 : Option Addr) (len0 cap0 : Nat) (z0 : List Int) (w : World) (w0 : (a0 = none ∧ len0 = 0 ∧ cap0 = 0 ∧ z0 = []) ∨ ∃ x, a0 = some x ∧ len0 ≤ cap0 ∧ cap0 ≤ maxLen ∧ z0.length = cap0 ∧ (∀ i, i < z0.length → w.cell? (x.add i) = some (.int .u8 (z0.getD i 0))) ∧ ∀ n ∈ z0, (Lit.int .u8 n).wf = true) (y0 : len0 * 1 ≤ 140737488351232) :
  Calls Try.prog 5 #[.slice a0 len0 cap0] w fun e w' => e = .returned (.bool true) ∧ Below w.heap.size w w' := by
 obtain ⟨l0, rfl, hr0, hm0, hw0, hc0⟩ := ReadsInt.ofRowC w0
 obtain ⟨k, h⟩ := P l0 hm0 y0 hw0
 refine (laws_FnWays.calls k _ _ l0 true w (Kd.C_of_reads (d := (0 : Int)) (h1 := fun _ => rfl) hr0) hc0 ⟨rfl⟩ h).mono ?_
 rintro e w' ⟨rfl, hd⟩
 exact ⟨rfl, hd⟩

end Go.Proofs.Ytiffahfpfgnjnaa.PFnWays
