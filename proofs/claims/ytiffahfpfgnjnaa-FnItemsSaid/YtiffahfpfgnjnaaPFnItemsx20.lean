-- Written by a program of this session (myprint.py, over the kit's print): contracts of FnItems
import Derived.Test.YtiffahfpfgnjnaaPFnItemsx0
import Derived.Test.YtiffahfpfgnjnaaPFnItemsx4
import Derived.Test.YtiffahfpfgnjnaaPFnItemsx6
import Derived.Test.YtiffahfpfgnjnaaPFnItemsx7
namespace Go.Proofs.Ytiffahfpfgnjnaa.PFnItems
open Go.RowKit Go.Proofs.YtiffahfpfgnjnaaW.PrintWords Go.Proofs.YtiffahfpfgnjnaaW.PrintLast Go.Proofs.YtiffahfpfgnjnaaW.PrintMore Go.Proofs.YtiffahfpfgnjnaaV
attribute [local go_sem] max2_int min2_int max_two min_two max_three min_three max_four min_four   -- for this text's walks alone
set_option linter.unusedVariables false
set_option linter.unusedSimpArgs false

/-! ### spec_DrawAskerOk: function 13 -/
def spec_DrawAskerOk.f (k : Nat) (l0 : List Int) : Option (Int × ByteArray × Int × Int × Int × ByteArray × Int × Int) := (spec_l1New.f k l0).bind fun bt817 => ((spec_l9AnyAsker.f k bt817.1 bt817.2.1 bt817.2.2).bind fun bt821 => (some (bt821.1, bt821.2.1, bt821.2.2.1, bt821.2.2.2.1, bt821.2.2.2.2.1, bt821.2.2.2.2.2.1, bt821.2.2.2.2.2.2.1, bt821.2.2.2.2.2.2.2.1)))
theorem spec_DrawAskerOk.mono : ∀ a0 k, LeO (spec_DrawAskerOk.f k a0) (spec_DrawAskerOk.f (k + 1) a0) := by
 intro a0 k
 unfold spec_DrawAskerOk.f
 repeat' first
   | (with_reducible exact spec_l1New.mono _ _)
   | (with_reducible exact spec_l9AnyAsker.mono _ _ _ _)
   | (with_reducible exact LeO.refl _)
   | (with_reducible exact LeO.none _)
   | (with_reducible refine LeO.ite ?_ ?_)
   | (with_reducible refine LeO.bind ?_ (fun _ => ?_))
set_option maxHeartbeats 8000000 in
set_option maxRecDepth 100000 in
theorem spec_DrawAskerOk.calls (k : Nat) (A0 : Option Addr) (c0 : Nat) (l0 : List Int) (r1 : Int) (r2 : ByteArray) (r3 : Int) (r4 : Int) (r5 : Int) (r6 : ByteArray) (r7 : Int) (r8 : Int) (w : World) (hr0 : Kd.C (Kd.int .u8) w A0 l0.length l0) (hc0 : l0.length ≤ c0) (h : spec_DrawAskerOk.f k l0 = some (r1, r2, r3, r4, r5, r6, r7, r8)) :
  Calls Try.prog 13 #[.slice A0 l0.length c0] w fun e w' => e = .returned (.agg #[.int .i64 r1, .string r2, .int .i64 r3, .int .i64 r4, .int .i64 r5, .string r6, .int .i64 r7, .int .i64 r8]) ∧ Below w.heap.size w w' := by
 have hu25 := Try.underlying25
 have HR0 := Aside0.mk hr0
 have HC0 := Aside0.mk hc0
 clear hr0 hc0
 have HB := Aside0.mk (Below.refl w.heap.size w)
 have H := h
 unfold spec_DrawAskerOk.f at H
 clear h
 replace H := bf_ H
 obtain ⟨f_, hf_, ⟨t817, t818, t819⟩, A2, H⟩ := H
 subst hf_
 (try dsimp only at H)
 replace H := bf_ H
 obtain ⟨f_, hf_, ⟨t821, t822, t823, t824, t825, t826, t827, t828, t829, t830⟩, A3, H⟩ := H
 subst hf_
 (try dsimp only at H)
 simp only [Option.some.injEq, Prod.mk.injEq] at H
 obtain ⟨rfl, rfl, rfl, rfl, rfl, rfl, rfl, rfl⟩ := H
 go_enter Try.func13, Try.ntmps13
 go_wp2_with (first | ((with_reducible refine gate_dst (N := 2) rfl ?_); refine box_event ?hg (N := 2) ?hd (cs := #[.int .i64 0, .string (⟨#[]⟩ : ByteArray), .int .i64 0, .int .i64 0, .int .i64 0, .string (⟨#[]⟩ : ByteArray), .int .i64 0, .int .i64 0]) (t := 25) ?hr ?_; (case hd => rfl); (case hg => rfl); (case hr => first | (go_simp; done) | (go_simp; rfl)); intro gb816 hg w4 hbox hb; have BK816 := am_ (hbox); have GW816 := gA_ hg HB; have GE816 := GW816; have IGE816 := gI_ GE816; replace HB := bS_ HB hb; clear hb hbox hg) | ((with_reducible refine gate_callee (f := 59) rfl ?_); refine goesL_ (some 5) rfl rfl Try.func59 (by kernel_rfl) rfl #[.slice A0 l0.length c0] rfl la_ ?_; (with_reducible refine (spec_l1New.calls k _ _ l0 t817 t818 t819 w _ ?side1 ?side2 ?side3 A2.out).mono ?_); (case side1 => exact qB HB); (case side2 => exact HR0.out); (case side3 => exact HC0.out); rintro e w5 ⟨g820, rfl, hi, hb, hb2⟩; refine ⟨_, rfl, ?_⟩; replace HB := am_ (hb); have HI820 := am_ (hi); have IGHI820 := iG_ HI820.out.ge; have NB820_816 := am_ (IsS128.ne_blk hi (blk_below (qK BK816) hb2) (by decide)); have NB816_820 := am_ (Ne.symm (IsS128.ne_blk hi (blk_below (qK BK816) hb2) (by decide))); replace BK816 := am_ (blk_below (qK BK816) hb2); (try clear hb); (try clear hb2); (try clear hi)) | ((with_reducible refine gate_callee (f := 63) rfl ?_); refine goesL_ (some 7) rfl rfl Try.func63 (by kernel_rfl) rfl #[.pointer (some ⟨g820, 0, none⟩)] rfl la_ ?_; (with_reducible refine (spec_l9AnyAsker.calls k g820 t817 t818 t819 t821 t822 t823 t824 t825 t826 t827 t828 t829 t830 w _ ?side1 ?side2 A3.out).mono ?_); (case side1 => repeat (first | (with_reducible first | exact HI820.out | apply IsS128.alloc | apply IsS128.drewN | apply IsS128.drew | apply IsS128.set_1 | apply IsS128.set_2 | refine IsS128.far ?_ NB820_816.out _) | exact HI820.out)); (case side2 => exact qB HB); rintro e w6 ⟨rfl, hi, hb, hk⟩; refine ⟨_, rfl, ?_⟩; replace BK816 := kB_ BK816 hk NB816_820; replace HB := am_ (hb); replace HI820 := am_ (hi); (try clear hb); (try clear hk); (try clear hi); have hnb7 := NB816_820.out; have hnc7 := NB820_816.out; (try clear zK816); have zK816 := cz8 BK816.out; (try clear fK816); have fK816 := fz8 BK816.out))
 refine bodyPost_ret (results_cell_row rfl _ _ gb816 25 #[.int .i64 t821, .string t822, .int .i64 t823, .int .i64 t824, .int .i64 t825, .string t826, .int .i64 t827, .int .i64 t828] (0, 0) _ rfl (by exact blk_all8 (qK BK816)) Try.underlying25 rfl (by kernel_rfl)) rfl ?_
 exact ⟨er_, qB HB⟩

/-! ### spec_DrawLineOk: function 14 -/
def spec_DrawLineOk.f (k : Nat) (l0 : List Int) : Option (Int × ByteArray × Int × Int × Int × Int × Int) := (spec_l1New.f k l0).bind fun bt832 => ((spec_l9AnyLine.f bt832.1 bt832.2.1 bt832.2.2).bind fun bt836 => (some (bt836.1, bt836.2.1, bt836.2.2.1, bt836.2.2.2.1, bt836.2.2.2.2.1, bt836.2.2.2.2.2.1, bt836.2.2.2.2.2.2.1)))
theorem spec_DrawLineOk.mono : ∀ a0 k, LeO (spec_DrawLineOk.f k a0) (spec_DrawLineOk.f (k + 1) a0) := by
 intro a0 k
 unfold spec_DrawLineOk.f
 repeat' first
   | (with_reducible exact spec_l1New.mono _ _)
   | (with_reducible exact LeO.refl _)
   | (with_reducible exact LeO.none _)
   | (with_reducible refine LeO.ite ?_ ?_)
   | (with_reducible refine LeO.bind ?_ (fun _ => ?_))
set_option maxHeartbeats 8000000 in
set_option maxRecDepth 100000 in
theorem spec_DrawLineOk.calls (k : Nat) (A0 : Option Addr) (c0 : Nat) (l0 : List Int) (r1 : Int) (r2 : ByteArray) (r3 : Int) (r4 : Int) (r5 : Int) (r6 : Int) (r7 : Int) (w : World) (hr0 : Kd.C (Kd.int .u8) w A0 l0.length l0) (hc0 : l0.length ≤ c0) (h : spec_DrawLineOk.f k l0 = some (r1, r2, r3, r4, r5, r6, r7)) :
  Calls Try.prog 14 #[.slice A0 l0.length c0] w fun e w' => e = .returned (.agg #[.int .i64 r1, .string r2, .int .i64 r3, .int .i64 r4, .int .i64 r5, .int .i64 r6, .int .i64 r7]) ∧ Below w.heap.size w w' := by
 have hu27 := Try.underlying27
 have HR0 := Aside0.mk hr0
 have HC0 := Aside0.mk hc0
 clear hr0 hc0
 have HB := Aside0.mk (Below.refl w.heap.size w)
 have H := h
 unfold spec_DrawLineOk.f at H
 clear h
 replace H := bf_ H
 obtain ⟨f_, hf_, ⟨t832, t833, t834⟩, A2, H⟩ := H
 subst hf_
 (try dsimp only at H)
 replace H := bf_ H
 obtain ⟨f_, hf_, ⟨t836, t837, t838, t839, t840, t841, t842, t843, t844⟩, A3, H⟩ := H
 subst hf_
 (try dsimp only at H)
 simp only [Option.some.injEq, Prod.mk.injEq] at H
 obtain ⟨rfl, rfl, rfl, rfl, rfl, rfl, rfl⟩ := H
 go_enter Try.func14, Try.ntmps14
 go_wp2_with (first | ((with_reducible refine gate_dst (N := 2) rfl ?_); refine box_event ?hg (N := 2) ?hd (cs := #[.int .i64 0, .string (⟨#[]⟩ : ByteArray), .int .i64 0, .int .i64 0, .int .i64 0, .int .i64 0, .int .i64 0]) (t := 27) ?hr ?_; (case hd => rfl); (case hg => rfl); (case hr => first | (go_simp; done) | (go_simp; rfl)); intro gb831 hg w4 hbox hb; have BK831 := am_ (hbox); have GW831 := gA_ hg HB; have GE831 := GW831; have IGE831 := gI_ GE831; replace HB := bS_ HB hb; clear hb hbox hg) | ((with_reducible refine gate_callee (f := 59) rfl ?_); refine goesL_ (some 5) rfl rfl Try.func59 (by kernel_rfl) rfl #[.slice A0 l0.length c0] rfl la_ ?_; (with_reducible refine (spec_l1New.calls k _ _ l0 t832 t833 t834 w _ ?side1 ?side2 ?side3 A2.out).mono ?_); (case side1 => exact qB HB); (case side2 => exact HR0.out); (case side3 => exact HC0.out); rintro e w5 ⟨g835, rfl, hi, hb, hb2⟩; refine ⟨_, rfl, ?_⟩; replace HB := am_ (hb); have HI835 := am_ (hi); have IGHI835 := iG_ HI835.out.ge; have NB835_831 := am_ (IsS128.ne_blk hi (blk_below (qK BK831) hb2) (by decide)); have NB831_835 := am_ (Ne.symm (IsS128.ne_blk hi (blk_below (qK BK831) hb2) (by decide))); replace BK831 := am_ (blk_below (qK BK831) hb2); (try clear hb); (try clear hb2); (try clear hi)) | ((with_reducible refine gate_callee (f := 64) rfl ?_); refine goesL_ (some 7) rfl rfl Try.func64 (by kernel_rfl) rfl #[.pointer (some ⟨g835, 0, none⟩)] rfl la_ ?_; (with_reducible refine (spec_l9AnyLine.calls g835 t832 t833 t834 t836 t837 t838 t839 t840 t841 t842 t843 t844 w _ ?side1 ?side2 A3.out).mono ?_); (case side1 => repeat (first | (with_reducible first | exact HI835.out | apply IsS128.alloc | apply IsS128.drewN | apply IsS128.drew | apply IsS128.set_1 | apply IsS128.set_2 | refine IsS128.far ?_ NB835_831.out _) | exact HI835.out)); (case side2 => exact qB HB); rintro e w6 ⟨rfl, hi, hb, hk⟩; refine ⟨_, rfl, ?_⟩; replace BK831 := kB_ BK831 hk NB831_835; replace HB := am_ (hb); replace HI835 := am_ (hi); (try clear hb); (try clear hk); (try clear hi); have hnb7 := NB831_835.out; have hnc7 := NB835_831.out; (try clear zK831); have zK831 := cz7 BK831.out; (try clear fK831); have fK831 := fz7 BK831.out))
 refine bodyPost_ret (results_cell_row rfl _ _ gb831 27 #[.int .i64 t836, .string t837, .int .i64 t838, .int .i64 t839, .int .i64 t840, .int .i64 t841, .int .i64 t842] (0, 0) _ rfl (by exact blk_all7 (qK BK831)) Try.underlying27 rfl (by kernel_rfl)) rfl ?_
 exact ⟨er_, qB HB⟩

/-! ### laws_same: function 15 -/
def laws_same.f (l0 : List Int) (l1 : List Int) : Option (Bool) := some ((strOfNums l0).toList == (strOfNums l1).toList)
set_option maxHeartbeats 8000000 in
set_option maxRecDepth 100000 in
theorem laws_same.calls (A0 : Option Addr) (c0 : Nat) (l0 : List Int) (A1 : Option Addr) (c1 : Nat) (l1 : List Int) (r : Bool) (w : World) (hr0 : Kd.C (Kd.int .u8) w A0 l0.length l0) (hc0 : l0.length ≤ c0) (hr1 : Kd.C (Kd.int .u8) w A1 l1.length l1) (hc1 : l1.length ≤ c1) (h : laws_same.f l0 l1 = some r) :
  Calls Try.prog 15 #[.slice A0 l0.length c0, .slice A1 l1.length c1] w fun e w' => e = .returned (.bool r) ∧ Drawn0 w w' := by
 have HR0 := Aside0.mk hr0
 have HC0 := Aside0.mk hc0
 clear hr0 hc0
 have HR1 := Aside0.mk hr1
 have HC1 := Aside0.mk hc1
 clear hr1 hc1
 have H : (some ((strOfNums l0).toList == (strOfNums l1).toList)) = some r := h
 clear h
 obtain rfl := Option.some.inj H
 have hcv3 := conv_len (Kd.C_string (P := Try.prog) (A := A0) (c := c0) Try.underlying22 Try.underlying5 Try.underlying9 HR0.out)
 have hcv4 := conv_len (Kd.C_string (P := Try.prog) (A := A1) (c := c1) Try.underlying22 Try.underlying5 Try.underlying9 HR1.out)
 go_enter Try.func15, Try.ntmps15
 go_wp2
 go_ret
 exact ⟨by first | rfl | (simp; done) | (simp [*]; done), by repeat (first | exact Drawn0.refl _ | apply Drawn0.step)⟩

end Go.Proofs.Ytiffahfpfgnjnaa.PFnItems
