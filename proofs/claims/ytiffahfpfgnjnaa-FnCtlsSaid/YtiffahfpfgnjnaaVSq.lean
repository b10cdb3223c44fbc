-- Part of the print's words: what this session's texts name (trim.py)
import Derived.Test.YtiffahfpfgnjnaaWWords
import Derived.Test.YtiffahfpfgnjnaaVExt
import Derived.Test.YtiffahfpfgnjnaaWApart
import Derived.Test.YtiffahfpfgnjnaaWN
import Derived.Test.YtiffahfpfgnjnaaWMore
import Derived.Test.YtiffahfpfgnjnaaWLast
import Derived.Test.YtiffahfpfgnjnaaWTab
import Derived.KernelRfl
namespace Go.Proofs.YtiffahfpfgnjnaaV
open Go.RowKit Go.Proofs.YtiffahfpfgnjnaaW.PrintWords Go.Proofs.YtiffahfpfgnjnaaW.PrintMore Go.Proofs.YtiffahfpfgnjnaaW.PrintLast
class Stp (w w' : World) : Prop where
  out : Below w.heap.size w w'
instance (w : World) : Stp w w := ⟨Below.refl _ _⟩
instance (w w' : World) [h : Stp w w'] (o : Obj) : Stp w (w'.alloc o) := ⟨below_alloc h.out o⟩
instance (w w' : World) [h : Stp w w'] (n : Nat) : Stp w (w'.drewN n) := ⟨pw_below_drewN h.out n⟩
instance (w w' : World) [h : Stp w w'] : Stp w w'.drew := ⟨below_drew1 h.out⟩
class Ge (w : World) (g : Nat) : Prop where
  out : w.heap.size ≤ g
theorem am_ {p : Prop} (h : p) : Aside0 p := ⟨h⟩
theorem gI_ {w : World} {g : Nat} (h : Aside0 (w.heap.size ≤ g)) : Ge w g := ⟨h.out⟩
class Stq (w0 w w' : World) : Prop where
  out : Below w0.heap.size w0 w → Below w0.heap.size w0 w'
instance (w0 w : World) : Stq w0 w w := ⟨id⟩
instance (w0 w w' : World) [h : Stq w0 w w'] (o : Obj) : Stq w0 w (w'.alloc o) := ⟨fun b => below_alloc (h.out b) o⟩
instance (w0 w w' : World) [h : Stq w0 w w'] (n : Nat) : Stq w0 w (w'.drewN n) := ⟨fun b => pw_below_drewN (h.out b) n⟩
instance (w0 w w' : World) [h : Stq w0 w w'] : Stq w0 w w'.drew := ⟨fun b => below_drew1 (h.out b)⟩
instance (w0 w w' : World) (g j : Nat) (u : Value) [k : Ge w0 g] [h : Stq w0 w w'] : Stq w0 w (w'.setCell ⟨g, j, none⟩ u) := ⟨fun b => below_set (h.out b) k.out⟩
theorem qB {w0 w w' : World} (h : Aside0 (Below w0.heap.size w0 w)) [s : Stq w0 w w'] : Below w0.heap.size w0 w' := s.out h.out
theorem gG_ {w W : World} {g : Nat} (hg : g = W.heap.size) (h : Below w.heap.size w W) : w.heap.size ≤ g := hg ▸ below_size h
theorem gN_ {W : World} {g g' : Nat} {o : Obj} (hg : g' = W.heap.size) (h : W.heap[g]? = some o) : g ≠ g' := hg ▸ Nat.ne_of_lt (blk_lt h)
theorem gM_ {W : World} {g g' : Nat} {o : Obj} (hg : g' = W.heap.size) (h : W.heap[g]? = some o) : g' ≠ g := hg ▸ Nat.ne_of_gt (blk_lt h)
abbrev ii : Bool := true
abbrev oo : Bool := false
class Stk (w0 : World) (g : Nat) (w w' : World) : Prop where
  out : KeepBut w0 w g none → KeepBut w0 w' g none
instance (w0 w : World) (g : Nat) : Stk w0 g w w := ⟨id⟩
instance (w0 w w' : World) (g : Nat) [h : Stk w0 g w w'] (o : Obj) : Stk w0 g w (w'.alloc o) := ⟨fun b => keep_alloc (h.out b) o⟩
instance (w0 w w' : World) (g : Nat) [h : Stk w0 g w w'] (n : Nat) : Stk w0 g w (w'.drewN n) := ⟨fun b => keep_drewN (h.out b) n⟩
instance (w0 w w' : World) (g : Nat) [h : Stk w0 g w w'] : Stk w0 g w w'.drew := ⟨fun b => keep_drew (h.out b)⟩
instance (w0 w w' : World) (g g' j : Nat) (u : Value) [k : Ge w0 g'] [h : Stk w0 g w w'] : Stk w0 g w (w'.setCell ⟨g', j, none⟩ u) := ⟨fun b => keep_far (h.out b) k.out _⟩
instance (w0 w w' : World) (g j : Nat) (u : Value) [h : Stk w0 g w w'] : Stk w0 g w (w'.setCell ⟨g, j, none⟩ u) := ⟨fun b => KeepBut.set_ (h.out b) j u⟩
theorem qP {w0 w w' : World} {g : Nat} (h : Aside0 (KeepBut w0 w g none)) [s : Stk w0 g w w'] : KeepBut w0 w' g none := s.out h.out
theorem gK_ {w W : World} {g gb : Nat} (hg : gb = W.heap.size) (h : KeepBut w W g none) : w.heap.size ≤ gb := hg ▸ keep_size h
class Nei (g g' : Nat) : Prop where
  out : g ≠ g'
theorem nI_ {g g' : Nat} (h : Aside0 (g ≠ g')) : Nei g g' := ⟨h.out⟩
theorem nG_ {W : World} {g gb : Nat} (hg : gb = W.heap.size) (h : g < W.heap.size) : g ≠ gb := hg ▸ Nat.ne_of_lt h
theorem iG_ {w : World} {g : Nat} (h : w.heap.size ≤ g) : Ge w g := ⟨h⟩
class Sti (g : Nat) (w w' : World) : Prop where
  out : g < w.heap.size → g < w'.heap.size ∧ w'.heap[g]? = w.heap[g]?
instance (g : Nat) (w : World) : Sti g w w := ⟨fun h => ⟨h, rfl⟩⟩
instance (g : Nat) (w w' : World) [h : Sti g w w'] (o : Obj) : Sti g w (w'.alloc o) := ⟨fun b => ⟨by have := (h.out b).1; simp only [World.size_alloc]; omega, (Below.heap_alloc w' o g (h.out b).1).trans (h.out b).2⟩⟩
instance (g : Nat) (w w' : World) [h : Sti g w w'] (n : Nat) : Sti g w (w'.drewN n) := ⟨fun b => h.out b⟩
instance (g : Nat) (w w' : World) [h : Sti g w w'] : Sti g w w'.drew := ⟨fun b => h.out b⟩
instance (g : Nat) (w w' : World) (g' j : Nat) (u : Value) [k : Nei g g'] [h : Sti g w w'] : Sti g w (w'.setCell ⟨g', j, none⟩ u) := ⟨fun b => ⟨by have := (h.out b).1; simp only [World.size_setCell]; omega, (Below.heap_setCell w' ⟨g', j, none⟩ u g k.out).trans (h.out b).2⟩⟩
section
variable {P : Program} {ops : Array Oper} {rest : List Oper} {o : Oper} {a : Act} {Q : Exit → Act → World → Prop}
theorem store_evs {W : World} {g j e : Nat} {cur : Array Value} {cs : List Value} {t : TypeId} {p : Tmp} {v : Operand} (hh : W.heap[g]? = some (.cells cur e (0, 0))) (h : ∀ w', w' = W.setCells g j cs → wpList P ops Q rest a w')
    (hgd : o.guard = none := by rfl) (ho : o.op = .store t (.tmp p) v := by rfl) (hN : o.dst = none := by rfl) (hp : a.eval (.tmp p) = .pointer (some ⟨g, j, none⟩) := by rfl) (hu : (a.eval v).cells.toList = cs := by rfl)
    (ht : (P.info? t).map (·.size) = some cs.length := by kernel_rfl) (hfit : j + cs.length ≤ cur.size := by simp) (h1 : cs.all (·.oneCell') = true := by rfl) : wpList P ops Q (o :: rest) a W := by
  have hrun := run_store_run (P := P) (o := j) t (a.eval v) cs hh hu ht hfit (fun q hq => List.all_eq_true.1 h1 q hq)
  refine wpList_plain hgd fun K hK => ?_
  unfold Oper.wp execOp
  simp only [ho, hp, Sem.run_bind, Sem.run_pure, Result.andThen_ok, hrun]
  show K (a.put o.dst undef) _
  rw [hN]
  exact hK a _ (h _ rfl)
theorem ld_ {W0 W : World} {g : Nat} {e : TypeId} {cs : Array Value} {ty : TypeId} {x : Operand} {fs : Array Field} (h : wpList P ops Q rest (a.put o.dst (.agg cs)) W)
    (hgd : o.guard = none := by rfl) (ho : o.op = .load ty x := by with_reducible rfl) (hx : a.eval x = .pointer (some ⟨g, 0, none⟩) := by rfl) (hu : P.underlying ty = some (.struct fs) := by assumption) (hg : Aside0 (W0.heap[g]? = some (.cells cs e (0, 0))) := by assumption)
    (hi : (P.info? ty).map (·.size) = some cs.size := by kernel_rfl) [s : Stp W0 W] : wpList P ops Q (o :: rest) a W :=
  wpList_load_row hgd ty x ho g hx e cs (0, 0) _ (blk_below hg.out s.out) hu rfl hi h
def CellsAt (W : World) (g : Nat) : Nat → List Value → Prop
  | _, [] => True
  | j, c :: r => W.cell? ⟨g, j, none⟩ = some c ∧ CellsAt W g (j + 1) r
theorem cells_at {W : World} {g : Nat} : ∀ (cs : List Value) (j : Nat), CellsAt W g j cs → ∀ i v, cs[i]? = some v → W.cell? ⟨g, j + i, none⟩ = some v
  | [], _, _, i, v, h => by simp at h
  | c :: r, j, hc, i, v, h => by
    cases i with
    | zero => simp at h; subst h; exact hc.1
    | succ i => have := cells_at r (j + 1) hc.2 i v (by simpa using h); rwa [Nat.add_assoc, Nat.add_comm 1 i] at this
theorem ldr_ {W : World} {g : Nat} {cs : List Value} {ty : TypeId} {x : Operand} {fs : Array Field} {ρ : Operand → Value} (hc : CellsAt W g 0 cs) (ho : o.op = .load ty x) (hx : ρ x = .pointer (some ⟨g, 0, none⟩)) (hu : P.underlying ty = some (.struct fs)) (hi : (P.info? ty).map (·.size) = some cs.length) :
    (execOp ρ o).run P W = .ok (.value (.agg cs.toArray)) W := by
  have hl : (loadCells ⟨g, 0, none⟩ cs.length).run P W = .ok cs.toArray W := run_loadCells_list (P := P) W ⟨g, 0, none⟩ cs (fun j v hv => by
    have hadd : (⟨g, 0, none⟩ : Addr).add j = ⟨g, j, none⟩ := by unfold Addr.add; split <;> simp_all
    rw [hadd]
    have := cells_at cs 0 hc j v hv
    rwa [Nat.zero_add] at this)
  obtain ⟨i, hq, hs⟩ := Option.map_eq_some_iff.1 hi
  have hagg : (isAgg ty).run P W = .ok true W := by
    unfold isAgg
    rw [Sem.run_bind, run_underlying hu W]
    rfl
  unfold execOp
  simp only [ho, hx, Instr.loadAt, Instr.sureAddr, Sem.run_bind, Sem.run_pure, Result.andThen_ok, loadVar, hagg, sizeOf, typeInfo]
  simp [hq, hs, hl]
theorem ldr8 {W : World} {g : Nat} {ty : TypeId} {x : Operand} {fs : Array Field} {ρ : Operand → Value} {c0 c1 c2 c3 c4 c5 c6 c7 : Value} (h0 : W.cell? ⟨g, 0, none⟩ = some c0) (h1 : W.cell? ⟨g, 1, none⟩ = some c1) (h2 : W.cell? ⟨g, 2, none⟩ = some c2) (h3 : W.cell? ⟨g, 3, none⟩ = some c3) (h4 : W.cell? ⟨g, 4, none⟩ = some c4) (h5 : W.cell? ⟨g, 5, none⟩ = some c5) (h6 : W.cell? ⟨g, 6, none⟩ = some c6) (h7 : W.cell? ⟨g, 7, none⟩ = some c7) (ho : o.op = .load ty x := by rfl) (hx : ρ x = .pointer (some ⟨g, 0, none⟩) := by rfl) (hu : P.underlying ty = some (.struct fs) := by assumption) (hi : (P.info? ty).map (·.size) = some 8 := by kernel_rfl) : (execOp ρ o).run P W = .ok (.value (.agg #[c0, c1, c2, c3, c4, c5, c6, c7])) W := ldr_ (cs := [c0, c1, c2, c3, c4, c5, c6, c7]) ⟨h0, h1, h2, h3, h4, h5, h6, h7, trivial⟩ ho hx hu hi
theorem gate_ld {W : World} {ty : TypeId} {x : Operand} (_ho : o.op = .load ty x) (h : wpList P ops Q (o :: rest) a W) : wpList P ops Q (o :: rest) a W := h
end
theorem keep_sets {w : World} {g0 g : Nat} (hg : w.heap.size ≤ g ∨ g = g0) : ∀ (cs : List Value) (j : Nat) {W : World}, KeepBut w W g0 none → KeepBut w (W.setCells g j cs) g0 none
  | [], _, _, h => h
  | v :: r, j, W, h => keep_sets hg r (j + 1) (hg.elim (fun hg => keep_far h hg _) (fun e => by subst e; exact KeepBut.set_ h j v))
theorem below_sets {B : Nat} {w W : World} {g : Nat} (hg : B ≤ g) (cs : List Value) (j : Nat) (h : Below B w W) : Below B w (W.setCells g j cs) := by
  obtain ⟨s1, s2, s3, s4⟩ := setCells_same g cs j W
  exact h.trans ⟨s1, s2, s3, Nat.le_of_eq s4.symm, fun k hk => setCells_far cs j k (by omega)⟩
instance (w0 w w' : World) (g j : Nat) (cs : List Value) [k : Ge w0 g] [h : Stq w0 w w'] : Stq w0 w (w'.setCells g j cs) := ⟨fun b => below_sets k.out cs j (h.out b)⟩
instance (w0 w w' : World) (g g' j : Nat) (cs : List Value) [k : Ge w0 g'] [h : Stk w0 g w w'] : Stk w0 g w (w'.setCells g' j cs) := ⟨fun b => keep_sets (.inl k.out) cs j (h.out b)⟩
instance (w0 w w' : World) (g j : Nat) (cs : List Value) [h : Stk w0 g w w'] : Stk w0 g w (w'.setCells g j cs) := ⟨fun b => keep_sets (.inr rfl) cs j (h.out b)⟩
instance (g : Nat) (w w' : World) (g' j : Nat) (cs : List Value) [k : Nei g g'] [h : Sti g w w'] : Sti g w (w'.setCells g' j cs) := ⟨fun b => ⟨by have := (h.out b).1; rw [(setCells_same g' cs j w').2.2.2]; exact this, (setCells_far cs j g k.out).trans (h.out b).2⟩⟩
def putsAt (cur : Array Value) (j : Nat) (cs : List Value) : Array Value := (cur.toList.take j ++ cs ++ cur.toList.drop (j + cs.length)).toArray
section
variable {w w' W : World} {g g' j e : Nat} {cs : List Value} {cur cur' : Array Value} {ob : Obj}
theorem sP_ (hw : w' = W.setCells g j cs) (h : Aside0 (w.heap[g]? = some (.cells cur e (0, 0)))) [s : Stp w W] (hc : cur' = putsAt cur j cs := by rfl) (hl : j + cs.length ≤ cur.size := by simp) : Aside0 (w'.heap[g]? = some (.cells cur' e (0, 0))) := by
  obtain ⟨c, h1, h2, h3⟩ := setCells_row cs j W cur (blk_below h.out s.out) hl
  have : c = cur' := by rw [hc]; apply Array.toList_inj.1; rw [h3]; rfl
  subst this
  exact ⟨hw ▸ h1⟩
theorem sW_ (hw : w' = W.setCells g 0 cs) (h : Aside0 (w.heap[g]? = some (.cells cur e (0, 0)))) [s : Stp w W] (hl : cs.length = cur.size := by rfl) : Aside0 (w'.heap[g]? = some (.cells cs.toArray e (0, 0))) :=
  sP_ hw h (hc := by unfold putsAt; rw [List.take_zero, List.nil_append, List.drop_of_length_le (by rw [Nat.zero_add, hl]; simp), List.append_nil]) (hl := by omega)
theorem sK_ (hw : w' = W.setCells g j cs) (h : Aside0 (w.heap[g']? = some ob)) (hn : Aside0 (g' ≠ g)) [s : Stp w W] : Aside0 (w'.heap[g']? = some ob) := ⟨hw ▸ (setCells_far cs j g' hn.out).trans (blk_below h.out s.out)⟩
theorem sB_ {w0 W1 : World} (hw : w' = W1) (h : Aside0 (Below w0.heap.size w0 w)) [s : Stq w0 w W1] : Aside0 (Below w0.heap.size w0 w') := ⟨hw ▸ s.out h.out⟩
theorem sH_ {w0 W1 : World} (hw : w' = W1) (h : Aside0 (KeepBut w0 w g none)) [s : Stk w0 g w W1] : Aside0 (KeepBut w0 w' g none) := ⟨hw ▸ s.out h.out⟩
end
theorem nn_ {α : Type} {p : Prop} {i : Decidable p} {x : Option α} {r : α} {q : Prop} (c : ¬ p) (h : (if p then x else none) = some r) : q := by
  rw [if_neg c] at h
  cases h
theorem er_ {α : Type} {x y : α} (h : x = y := by first | rfl | (simp [errW_none, errW_some] <;> rfl) | (simp [*, errW_none, errW_some] <;> rfl)) : x = y := h
theorem od_ {p : Prop} [Decidable p] (h : decide p = true := by first | (with_reducible assumption) | assumption) : p := of_decide_eq_true h
theorem la_ {α : Type} {x y : α} (h : x = y := by (try simp only [List.map_toArray, List.map_cons, List.map_nil]); first | done | rfl | (simp only [List.length_drop, List.length_take]; rfl)) : x = y := h
theorem eqq_ {α : Type} {x y : α} (h : x = y := by first | rfl | (simp; done) | (simp [*]; done) | (simp [bne_nil, beq_nil]; done)) : x = y := h
theorem bd_ {α β : Type} {o : Option α} {f : α → Option β} {r : β} (h : o.bind f = some r) : ∃ a, Aside0 (o = some a) ∧ f a = some r := by
  obtain ⟨a, e, k⟩ := Option.bind_eq_some_iff.mp h
  exact ⟨a, ⟨e⟩, k⟩
theorem bf_ {α β : Type} {o : Option α} {f : α → Option β} {r : β} (h : o.bind f = some r) : ∃ f' : α → Option β, f' = f ∧ ∃ a, Aside0 (o = some a) ∧ f' a = some r := ⟨f, rfl, bd_ h⟩
theorem lb_ {w W : World} {a : Addr} {v : Value} (h : Aside0 (Below w.heap.size w W)) (c : w.cell? a = some v) : W.cell? a = some v := (h.out.cell (World.block_lt_of_cell? w _ c)).trans c
section
variable {α : Type} {d : Kd α} {e base n : Nat} {ok : Nat → Prop} {w w' : World} {A : Option Addr} {v : Value} {xs : List α} {g : Nat} {o : Obj}
theorem eR {β : Type} {d' : Kd β} {e' : Nat} {okv : Nat → Prop} {w1 w2 : World} {u : Value} {ys : List β} (h : Aside0 (d.R e w base ok v xs)) [s : Stp w w1] (ho : d'.R e' w2 w1.heap.size okv u ys) (hb : Below w1.heap.size w1 w2) : d.R e w2 base (fun k => ok k ∧ some k ≠ u.ownBlock) v xs := Kd.R_elder' (Kd.R_below h.out s.out) (Kd.R_base ho) hb
theorem qR (h : Aside0 (d.R e w base ok v xs)) [s : Stp w w'] : d.R e w' base ok v xs := Kd.R_below h.out s.out
theorem qK (h : Aside0 (w.heap[g]? = some o)) [s : Stp w w'] : w'.heap[g]? = some o := blk_below h.out s.out
theorem qC (h : d.C w A n xs) [s : Stp w w'] : d.C w' A n xs := Kd.C_below h s.out
end
section
variable {α : Type} {d : Kd α} {e base : Nat} {ok : Nat → Prop} {w0 w w' w2 : World} {v : Value} {xs : List α} {g g' : Nat} {o : Obj}
theorem bS_ (h : Aside0 (Below w0.heap.size w0 w)) [s : Stq w0 w w'] (hb : Below w'.heap.size w' w2) : Aside0 (Below w0.heap.size w0 w2) := ⟨below_step (s.out h.out) hb⟩
theorem bK_ (h : Aside0 (w.heap[g]? = some o)) [s : Stp w w'] (hb : Below w'.heap.size w' w2) : Aside0 (w2.heap[g]? = some o) := ⟨blk_below (blk_below h.out s.out) hb⟩
theorem kT_ (h : Aside0 (KeepBut w0 w g none)) [s : Stk w0 g w w'] (hk : KeepBut w' w2 g none) : Aside0 (KeepBut w0 w2 g none) := ⟨KeepBut.trans (s.out h.out) hk (.inl rfl)⟩
theorem kL_ (h : Aside0 (KeepBut w0 w g none)) [s : Stk w0 g w w'] (hb : Below w'.heap.size w' w2) : Aside0 (KeepBut w0 w2 g none) := ⟨KeepBut.trans (s.out h.out) (KeepBut.of_below hb g none) (.inl rfl)⟩
theorem kB_ (h : Aside0 (w.heap[g']? = some o)) [s : Stp w w'] (hk : KeepBut w' w2 g none) (hn : Aside0 (g' ≠ g)) : Aside0 (w2.heap[g']? = some o) := ⟨KeepBut.blk hk (blk_below h.out s.out) hn.out (by simp)⟩
theorem eA_ {β : Type} {d' : Kd β} {e' : Nat} {okv : Nat → Prop} {w1 : World} {u : Value} {ys : List β} (h : Aside0 (d.R e w base ok v xs)) [s : Stp w w1] (ho : d'.R e' w2 w1.heap.size okv u ys) (hb : Below w1.heap.size w1 w2) : Aside0 (d.R e w2 base (fun k => ok k ∧ some k ≠ u.ownBlock) v xs) := ⟨eR h ho hb⟩
theorem rB_ (h : Aside0 (d.R e w base ok v xs)) [s : Stp w w'] (hb : Below w'.heap.size w' w2) : Aside0 (d.R e w2 base ok v xs) := ⟨Kd.R_below (Kd.R_below h.out s.out) hb⟩
theorem gA_ (hg : g = w'.heap.size) (h : Aside0 (Below w0.heap.size w0 w)) [s : Stq w0 w w'] : Aside0 (w0.heap.size ≤ g) := ⟨hg ▸ below_size (s.out h.out)⟩
end
section
variable {w : World} {g : Nat} {t : TypeId} {cs : Array Value}
theorem cz7 {c0 c1 c2 c3 c4 c5 c6 : Value} (h : w.heap[g]? = some (.cells #[c0, c1, c2, c3, c4, c5, c6] t (0, 0))) : w.cell? ⟨g, 0, none⟩ = some c0 ∧ w.cell? ⟨g, 1, none⟩ = some c1 ∧ w.cell? ⟨g, 2, none⟩ = some c2 ∧ w.cell? ⟨g, 3, none⟩ = some c3 ∧ w.cell? ⟨g, 4, none⟩ = some c4 ∧ w.cell? ⟨g, 5, none⟩ = some c5 ∧ w.cell? ⟨g, 6, none⟩ = some c6 := ⟨(blk_cell h 0).trans rfl, (blk_cell h 1).trans rfl, (blk_cell h 2).trans rfl, (blk_cell h 3).trans rfl, (blk_cell h 4).trans rfl, (blk_cell h 5).trans rfl, (blk_cell h 6).trans rfl⟩
theorem cw7 {c0 c1 c2 c3 c4 c5 c6 : Value} {r : Prop} (h : w.heap[g]? = some (.cells #[c0, c1, c2, c3, c4, c5, c6] t (0, 0))) (q : r) : w.cell? ⟨g, 0, none⟩ = some c0 ∧ w.cell? ⟨g, 1, none⟩ = some c1 ∧ w.cell? ⟨g, 2, none⟩ = some c2 ∧ w.cell? ⟨g, 3, none⟩ = some c3 ∧ w.cell? ⟨g, 4, none⟩ = some c4 ∧ w.cell? ⟨g, 5, none⟩ = some c5 ∧ w.cell? ⟨g, 6, none⟩ = some c6 ∧ r := ⟨(blk_cell h 0).trans rfl, (blk_cell h 1).trans rfl, (blk_cell h 2).trans rfl, (blk_cell h 3).trans rfl, (blk_cell h 4).trans rfl, (blk_cell h 5).trans rfl, (blk_cell h 6).trans rfl, q⟩
theorem fz7 (h : w.heap[g]? = some (.cells cs t (0, 0))) : w.frozen? ⟨g, 0, none⟩ = false ∧ w.frozen? ⟨g, 1, none⟩ = false ∧ w.frozen? ⟨g, 2, none⟩ = false ∧ w.frozen? ⟨g, 3, none⟩ = false ∧ w.frozen? ⟨g, 4, none⟩ = false ∧ w.frozen? ⟨g, 5, none⟩ = false ∧ w.frozen? ⟨g, 6, none⟩ = false := ⟨blk_frozen h 0, blk_frozen h 1, blk_frozen h 2, blk_frozen h 3, blk_frozen h 4, blk_frozen h 5, blk_frozen h 6⟩
theorem cz8 {c0 c1 c2 c3 c4 c5 c6 c7 : Value} (h : w.heap[g]? = some (.cells #[c0, c1, c2, c3, c4, c5, c6, c7] t (0, 0))) : w.cell? ⟨g, 0, none⟩ = some c0 ∧ w.cell? ⟨g, 1, none⟩ = some c1 ∧ w.cell? ⟨g, 2, none⟩ = some c2 ∧ w.cell? ⟨g, 3, none⟩ = some c3 ∧ w.cell? ⟨g, 4, none⟩ = some c4 ∧ w.cell? ⟨g, 5, none⟩ = some c5 ∧ w.cell? ⟨g, 6, none⟩ = some c6 ∧ w.cell? ⟨g, 7, none⟩ = some c7 := ⟨(blk_cell h 0).trans rfl, (blk_cell h 1).trans rfl, (blk_cell h 2).trans rfl, (blk_cell h 3).trans rfl, (blk_cell h 4).trans rfl, (blk_cell h 5).trans rfl, (blk_cell h 6).trans rfl, (blk_cell h 7).trans rfl⟩
theorem cw8 {c0 c1 c2 c3 c4 c5 c6 c7 : Value} {r : Prop} (h : w.heap[g]? = some (.cells #[c0, c1, c2, c3, c4, c5, c6, c7] t (0, 0))) (q : r) : w.cell? ⟨g, 0, none⟩ = some c0 ∧ w.cell? ⟨g, 1, none⟩ = some c1 ∧ w.cell? ⟨g, 2, none⟩ = some c2 ∧ w.cell? ⟨g, 3, none⟩ = some c3 ∧ w.cell? ⟨g, 4, none⟩ = some c4 ∧ w.cell? ⟨g, 5, none⟩ = some c5 ∧ w.cell? ⟨g, 6, none⟩ = some c6 ∧ w.cell? ⟨g, 7, none⟩ = some c7 ∧ r := ⟨(blk_cell h 0).trans rfl, (blk_cell h 1).trans rfl, (blk_cell h 2).trans rfl, (blk_cell h 3).trans rfl, (blk_cell h 4).trans rfl, (blk_cell h 5).trans rfl, (blk_cell h 6).trans rfl, (blk_cell h 7).trans rfl, q⟩
theorem fz8 (h : w.heap[g]? = some (.cells cs t (0, 0))) : w.frozen? ⟨g, 0, none⟩ = false ∧ w.frozen? ⟨g, 1, none⟩ = false ∧ w.frozen? ⟨g, 2, none⟩ = false ∧ w.frozen? ⟨g, 3, none⟩ = false ∧ w.frozen? ⟨g, 4, none⟩ = false ∧ w.frozen? ⟨g, 5, none⟩ = false ∧ w.frozen? ⟨g, 6, none⟩ = false ∧ w.frozen? ⟨g, 7, none⟩ = false := ⟨blk_frozen h 0, blk_frozen h 1, blk_frozen h 2, blk_frozen h 3, blk_frozen h 4, blk_frozen h 5, blk_frozen h 6, blk_frozen h 7⟩
theorem cz16 {c0 c1 c2 c3 c4 c5 c6 c7 c8 c9 c10 c11 c12 c13 c14 c15 : Value} (h : w.heap[g]? = some (.cells #[c0, c1, c2, c3, c4, c5, c6, c7, c8, c9, c10, c11, c12, c13, c14, c15] t (0, 0))) : w.cell? ⟨g, 0, none⟩ = some c0 ∧ w.cell? ⟨g, 1, none⟩ = some c1 ∧ w.cell? ⟨g, 2, none⟩ = some c2 ∧ w.cell? ⟨g, 3, none⟩ = some c3 ∧ w.cell? ⟨g, 4, none⟩ = some c4 ∧ w.cell? ⟨g, 5, none⟩ = some c5 ∧ w.cell? ⟨g, 6, none⟩ = some c6 ∧ w.cell? ⟨g, 7, none⟩ = some c7 ∧ w.cell? ⟨g, 8, none⟩ = some c8 ∧ w.cell? ⟨g, 9, none⟩ = some c9 ∧ w.cell? ⟨g, 10, none⟩ = some c10 ∧ w.cell? ⟨g, 11, none⟩ = some c11 ∧ w.cell? ⟨g, 12, none⟩ = some c12 ∧ w.cell? ⟨g, 13, none⟩ = some c13 ∧ w.cell? ⟨g, 14, none⟩ = some c14 ∧ w.cell? ⟨g, 15, none⟩ = some c15 := ⟨(blk_cell h 0).trans rfl, (blk_cell h 1).trans rfl, (blk_cell h 2).trans rfl, (blk_cell h 3).trans rfl, (blk_cell h 4).trans rfl, (blk_cell h 5).trans rfl, (blk_cell h 6).trans rfl, (blk_cell h 7).trans rfl, (blk_cell h 8).trans rfl, (blk_cell h 9).trans rfl, (blk_cell h 10).trans rfl, (blk_cell h 11).trans rfl, (blk_cell h 12).trans rfl, (blk_cell h 13).trans rfl, (blk_cell h 14).trans rfl, (blk_cell h 15).trans rfl⟩
theorem cw16 {c0 c1 c2 c3 c4 c5 c6 c7 c8 c9 c10 c11 c12 c13 c14 c15 : Value} {r : Prop} (h : w.heap[g]? = some (.cells #[c0, c1, c2, c3, c4, c5, c6, c7, c8, c9, c10, c11, c12, c13, c14, c15] t (0, 0))) (q : r) : w.cell? ⟨g, 0, none⟩ = some c0 ∧ w.cell? ⟨g, 1, none⟩ = some c1 ∧ w.cell? ⟨g, 2, none⟩ = some c2 ∧ w.cell? ⟨g, 3, none⟩ = some c3 ∧ w.cell? ⟨g, 4, none⟩ = some c4 ∧ w.cell? ⟨g, 5, none⟩ = some c5 ∧ w.cell? ⟨g, 6, none⟩ = some c6 ∧ w.cell? ⟨g, 7, none⟩ = some c7 ∧ w.cell? ⟨g, 8, none⟩ = some c8 ∧ w.cell? ⟨g, 9, none⟩ = some c9 ∧ w.cell? ⟨g, 10, none⟩ = some c10 ∧ w.cell? ⟨g, 11, none⟩ = some c11 ∧ w.cell? ⟨g, 12, none⟩ = some c12 ∧ w.cell? ⟨g, 13, none⟩ = some c13 ∧ w.cell? ⟨g, 14, none⟩ = some c14 ∧ w.cell? ⟨g, 15, none⟩ = some c15 ∧ r := ⟨(blk_cell h 0).trans rfl, (blk_cell h 1).trans rfl, (blk_cell h 2).trans rfl, (blk_cell h 3).trans rfl, (blk_cell h 4).trans rfl, (blk_cell h 5).trans rfl, (blk_cell h 6).trans rfl, (blk_cell h 7).trans rfl, (blk_cell h 8).trans rfl, (blk_cell h 9).trans rfl, (blk_cell h 10).trans rfl, (blk_cell h 11).trans rfl, (blk_cell h 12).trans rfl, (blk_cell h 13).trans rfl, (blk_cell h 14).trans rfl, (blk_cell h 15).trans rfl, q⟩
theorem fz16 (h : w.heap[g]? = some (.cells cs t (0, 0))) : w.frozen? ⟨g, 0, none⟩ = false ∧ w.frozen? ⟨g, 1, none⟩ = false ∧ w.frozen? ⟨g, 2, none⟩ = false ∧ w.frozen? ⟨g, 3, none⟩ = false ∧ w.frozen? ⟨g, 4, none⟩ = false ∧ w.frozen? ⟨g, 5, none⟩ = false ∧ w.frozen? ⟨g, 6, none⟩ = false ∧ w.frozen? ⟨g, 7, none⟩ = false ∧ w.frozen? ⟨g, 8, none⟩ = false ∧ w.frozen? ⟨g, 9, none⟩ = false ∧ w.frozen? ⟨g, 10, none⟩ = false ∧ w.frozen? ⟨g, 11, none⟩ = false ∧ w.frozen? ⟨g, 12, none⟩ = false ∧ w.frozen? ⟨g, 13, none⟩ = false ∧ w.frozen? ⟨g, 14, none⟩ = false ∧ w.frozen? ⟨g, 15, none⟩ = false := ⟨blk_frozen h 0, blk_frozen h 1, blk_frozen h 2, blk_frozen h 3, blk_frozen h 4, blk_frozen h 5, blk_frozen h 6, blk_frozen h 7, blk_frozen h 8, blk_frozen h 9, blk_frozen h 10, blk_frozen h 11, blk_frozen h 12, blk_frozen h 13, blk_frozen h 14, blk_frozen h 15⟩
theorem cf7 {c0 c1 c2 c3 c4 c5 c6 : Value} (h : w.heap[g]? = some (.cells #[c0, c1, c2, c3, c4, c5, c6] t (0, 0))) : w.cell? ⟨g, 0, none⟩ = some c0 ∧ w.cell? ⟨g, 1, none⟩ = some c1 ∧ w.cell? ⟨g, 2, none⟩ = some c2 ∧ w.cell? ⟨g, 3, none⟩ = some c3 ∧ w.cell? ⟨g, 4, none⟩ = some c4 ∧ w.cell? ⟨g, 5, none⟩ = some c5 ∧ w.cell? ⟨g, 6, none⟩ = some c6 ∧ w.frozen? ⟨g, 0, none⟩ = false ∧ w.frozen? ⟨g, 1, none⟩ = false ∧ w.frozen? ⟨g, 2, none⟩ = false ∧ w.frozen? ⟨g, 3, none⟩ = false ∧ w.frozen? ⟨g, 4, none⟩ = false ∧ w.frozen? ⟨g, 5, none⟩ = false ∧ w.frozen? ⟨g, 6, none⟩ = false := cw7 h (fz7 h)
theorem cf8 {c0 c1 c2 c3 c4 c5 c6 c7 : Value} (h : w.heap[g]? = some (.cells #[c0, c1, c2, c3, c4, c5, c6, c7] t (0, 0))) : w.cell? ⟨g, 0, none⟩ = some c0 ∧ w.cell? ⟨g, 1, none⟩ = some c1 ∧ w.cell? ⟨g, 2, none⟩ = some c2 ∧ w.cell? ⟨g, 3, none⟩ = some c3 ∧ w.cell? ⟨g, 4, none⟩ = some c4 ∧ w.cell? ⟨g, 5, none⟩ = some c5 ∧ w.cell? ⟨g, 6, none⟩ = some c6 ∧ w.cell? ⟨g, 7, none⟩ = some c7 ∧ w.frozen? ⟨g, 0, none⟩ = false ∧ w.frozen? ⟨g, 1, none⟩ = false ∧ w.frozen? ⟨g, 2, none⟩ = false ∧ w.frozen? ⟨g, 3, none⟩ = false ∧ w.frozen? ⟨g, 4, none⟩ = false ∧ w.frozen? ⟨g, 5, none⟩ = false ∧ w.frozen? ⟨g, 6, none⟩ = false ∧ w.frozen? ⟨g, 7, none⟩ = false := cw8 h (fz8 h)
theorem cf16 {c0 c1 c2 c3 c4 c5 c6 c7 c8 c9 c10 c11 c12 c13 c14 c15 : Value} (h : w.heap[g]? = some (.cells #[c0, c1, c2, c3, c4, c5, c6, c7, c8, c9, c10, c11, c12, c13, c14, c15] t (0, 0))) : w.cell? ⟨g, 0, none⟩ = some c0 ∧ w.cell? ⟨g, 1, none⟩ = some c1 ∧ w.cell? ⟨g, 2, none⟩ = some c2 ∧ w.cell? ⟨g, 3, none⟩ = some c3 ∧ w.cell? ⟨g, 4, none⟩ = some c4 ∧ w.cell? ⟨g, 5, none⟩ = some c5 ∧ w.cell? ⟨g, 6, none⟩ = some c6 ∧ w.cell? ⟨g, 7, none⟩ = some c7 ∧ w.cell? ⟨g, 8, none⟩ = some c8 ∧ w.cell? ⟨g, 9, none⟩ = some c9 ∧ w.cell? ⟨g, 10, none⟩ = some c10 ∧ w.cell? ⟨g, 11, none⟩ = some c11 ∧ w.cell? ⟨g, 12, none⟩ = some c12 ∧ w.cell? ⟨g, 13, none⟩ = some c13 ∧ w.cell? ⟨g, 14, none⟩ = some c14 ∧ w.cell? ⟨g, 15, none⟩ = some c15 ∧ w.frozen? ⟨g, 0, none⟩ = false ∧ w.frozen? ⟨g, 1, none⟩ = false ∧ w.frozen? ⟨g, 2, none⟩ = false ∧ w.frozen? ⟨g, 3, none⟩ = false ∧ w.frozen? ⟨g, 4, none⟩ = false ∧ w.frozen? ⟨g, 5, none⟩ = false ∧ w.frozen? ⟨g, 6, none⟩ = false ∧ w.frozen? ⟨g, 7, none⟩ = false ∧ w.frozen? ⟨g, 8, none⟩ = false ∧ w.frozen? ⟨g, 9, none⟩ = false ∧ w.frozen? ⟨g, 10, none⟩ = false ∧ w.frozen? ⟨g, 11, none⟩ = false ∧ w.frozen? ⟨g, 12, none⟩ = false ∧ w.frozen? ⟨g, 13, none⟩ = false ∧ w.frozen? ⟨g, 14, none⟩ = false ∧ w.frozen? ⟨g, 15, none⟩ = false := cw16 h (fz16 h)
end
def rlg : Bool → List Nat → List Bool
  | _, [] => []
  | b, n :: r => List.replicate n b ++ rlg (!b) r
def rl (l : List Nat) : Array Bool := (rlg true l).toArray
section
variable {P : Program} {ops : Array Oper} {Q : Exit → Act → World → Prop} {md : Region.Mode} {S : World → Prop} {ds : List Nat} {T : Bool × List (List Nat × List Nat)} {i : Nat} {N : Option Tmp} {oi : Oper} {v : Value} {fuel : Nat} {l : Array Bool} {a a' : Act} {w : World}
theorem nm_ {a0 : Act} (N : Option Tmp) (h : wpAnyLast P md ops Q S ds fuel l a' w) (ha : a0.put N v = a' := by simp only [Act.put, List.setIfInBounds_toArray, List.set_cons_zero, List.set_cons_succ, i64_w, i32_w]; rfl) : wpAnyLast P md ops Q S ds fuel l (a0.put N v) w := norm_ ha h
theorem on_ (HT : Aside0 (rtab md ops = T)) (l' : Array Bool)
    (h : ∀ K : Act → World → Prop, Shut (∀ a' w', S w' → (S w' → wpAnyLast P md ops Q S ds fuel l' a' w') → K a' w') → if Region.wanted oi (yielded ops a.tmps) = true then Oper.wp P oi a w K Q else K (a.put N undef) w) (hi : ops[i]? = some oi := by rfl) (hN : oi.dst = N := by rfl)
    (hc : (readyT T.2 l.toList == [i] && l.toList.set i true == l'.toList) = true := by kernel_rfl) (hd : i ∉ ds := by decide) : wpAnyLast P md ops Q S ds (fuel + 1) l a w := one_ l' hi hN (one_of HT.out hc) hd h
theorem pv_ (i n : Nat) (HT : Aside0 (rtab md ops = T)) (l' : Array Bool) (h : wpAnyLast P md ops Q S ds fuel l' a' w) (hi : ops[i]? = some oi := by rfl) (hN : oi.dst = some n := by rfl) (hc : anyT T l.toList l'.toList i = true := by kernel_rfl) (hQ : ∀ c a w, Q (.panic c) (a.put oi.dst undef) w → Q (.panic c) a w := by exact fun _ _ _ h => h) (hw : Region.wanted oi (yielded ops a.tmps) = false := by rfl) (ha : a.put (some n) undef = a' := by simp only [Act.put, List.setIfInBounds_toArray, List.set_cons_zero, List.set_cons_succ, i64_w, i32_w]; rfl) : wpAnyLast P md ops Q S ds (fuel + 1) l a w := pure_ l' hi hN (any_of HT.out hc) hQ (Or.inr ⟨hw, rfl⟩) ha h
theorem pq_ (i n : Nat) (HT : Aside0 (rtab md ops = T)) (l' : Array Bool) (h : wpAnyLast P md ops Q S ds fuel l' a' w) (hi : ops[i]? = some oi := by rfl) (hN : oi.dst = some n := by rfl) (hc : anyT T l.toList l'.toList i = true := by kernel_rfl) (hQ : ∀ c a w, Q (.panic c) (a.put oi.dst v) w → Q (.panic c) a w := by exact fun _ _ _ h => h) (hw : Region.wanted oi (yielded ops a.tmps) = true := by rfl) (hy : ∀ w', (execOp a.eval oi).run P w' = .ok (.value v) w' := by intro w'; go_simp; with_reducible rfl) (ha : a.put (some n) v = a' := by simp only [Act.put, List.setIfInBounds_toArray, List.set_cons_zero, List.set_cons_succ, i64_w, i32_w]; rfl) : wpAnyLast P md ops Q S ds (fuel + 1) l a w := pure_ l' hi hN (any_of HT.out hc) hQ (Or.inl ⟨hw, hy⟩) ha h
theorem tz_ {B : List Nat} (HT : Aside0 (rtab md ops = T)) (HW : Aside0 (waitsOk T.2 B = true)) (l' : Array Bool) (hi : ops[i]? = some oi) (hN : oi.dst = N) (hS : S w) (h : wpAnyLast P md ops Q S ds fuel l' a' w) (hy : ∀ w', S w' → (execOp a.eval oi).run P w' = .ok (.value v) w' := by intro w' hS_; (try dsimp only at hS_); go_simp; with_reducible rfl) (hc : takeW T B ds l.toList l'.toList i = true := by kernel_rfl) (hQ : ∀ c a w, Q (.panic c) (a.put oi.dst v) w → Q (.panic c) a w := by exact fun _ _ _ h => h) (hw : Region.wanted oi (yielded ops a.tmps) = true := by rfl) (ha : a.put N v = a' := by simp only [Act.put, List.setIfInBounds_toArray, List.set_cons_zero, List.set_cons_succ, i64_w, i32_w]; rfl) : wpAnyLast P md ops Q S ds (fuel + 1) l a w := take_ l' hi hN (take_ofW HT.out HW.out hc) hQ (Or.inl ⟨hw, hy⟩) hS ha h
end
section
variable {α : Type} {d : Kd α} {e b : Nat} {W : World} {ok : Nat → Prop} {v : Value} {xs : List α}
end
section
variable {P : Program} {ops : Array Oper} {rest : List Oper} {o : Oper} {a : Act} {Q : Exit → Act → World → Prop}
end
theorem mo_ {α : Type} {a b : Option α} (h : LeO a b := by
    repeat' first
      | (with_reducible exact ih0 ..)
      | (with_reducible exact ih1 ..)
      | (with_reducible exact ih2 ..)
      | (with_reducible exact ih3 ..)
      | (with_reducible exact ih4 ..)
      | (with_reducible exact ih5 ..)
      | (with_reducible exact m0 ..)
      | (with_reducible exact m1 ..)
      | (with_reducible exact m2 ..)
      | (with_reducible exact m3 ..)
      | (with_reducible exact m4 ..)
      | (with_reducible exact m5 ..)
      | (with_reducible exact m6 ..)
      | (with_reducible exact m7 ..)
      | (with_reducible exact m8 ..)
      | (with_reducible exact m9 ..)
      | (with_reducible exact LeO.refl _)
      | (with_reducible exact LeO.none _)
      | (with_reducible refine LeO.ite ?_ ?_)
      | (with_reducible refine LeO.bind ?_ (fun _ => ?_))) : LeO a b := h
theorem gl_ {P : Program} {Q : Exit → Act → World → Prop} {ops : Array Oper} {rest : List Oper} {oi : Oper} {a : Act} {w : World} (N : Option Tmp) {f : FuncId} {fn : Func} {as : Array Operand} {ts : Array TypeId} (hf : P.funcs[f]? = some fn) (args : Array Value)
    (h : Calls P f args w fun e w' => ∃ v, e = .returned v ∧ wpList P ops Q rest (a.put N v) w') (hd : oi.dst = N := by rfl) (hg : oi.guard = none := by rfl) (hname : (fn.name == "runtime.NumGoroutine") = false := by kernel_rfl) (hb : fn.body.isSome = true := by rfl)
    (hop : oi.op = .call { callee := .value (.func f), args := as, argTypes := ts } := by rfl) (hargs : as.map a.eval = args := by (try simp only [List.map_toArray, List.map_cons, List.map_nil]); first | done | rfl | (simp only [List.length_drop, List.length_take]; rfl)) : wpList P ops Q (oi :: rest) a w := goesL_ N hd hg hf hname hb args hop hargs h
theorem bx_ {P : Program} {Q : Exit → Act → World → Prop} {ops : Array Oper} {rest : List Oper} {o : Oper} {a : Act} {W : World} {N : Tmp} {cs : Array Value} {t : TypeId}
    (h : ∀ g, g = W.heap.size → ∀ w1, w1.heap[g]? = some (.cells cs t (0, 0)) → Below W.heap.size W w1 → wpList P ops Q rest (a.put o.dst (.pointer (some ⟨g, 0, none⟩))) w1)
    (hd : o.dst = some N := by rfl) (hgd : o.guard = none := by rfl) (hrun : (execOp a.eval o).run P W = .ok (.value (.pointer (some ⟨W.heap.size, 0, none⟩))) (W.alloc (.cells cs t (0, 0))) := by first | (go_simp; done) | (go_simp; rfl)) : wpList P ops Q (o :: rest) a W := box_event hgd hd hrun h
abbrev nb (A : Option Addr) (n c k : Nat) : Prop := some k ≠ (Value.slice A n c).ownBlock
abbrev nv (v : Value) (k : Nat) : Prop := some k ≠ v.ownBlock
section
variable {α : Type} {d : Kd α} {e base : Nat} {ok : Nat → Prop} {w W w1 : World} {u v v1 : Value} {xs : List α}
theorem aR_ (h : Aside0 (d.R e w base (fun k => ok k ∧ some k ≠ v.ownBlock) u xs)) [s : Stp w W] (hg : W.grownBy w1 v.ownBlock) (hat : v1.ownBlock = v.ownBlock ∨ ∃ b, v1.ownBlock = some b ∧ W.heap.size ≤ b) : Aside0 (d.R e w1 base (fun k => ok k ∧ some k ≠ v1.ownBlock) u xs) := ⟨Kd.R_after (Kd.R_below h.out s.out) hg hat⟩
end
section
variable {α : Type} {d : Kd α} {e base g t : Nat} {ok ok' : Nat → Prop} {w W w1 : World} {u v v1 : Value} {xs : List α} {cells : Array Value}
theorem xR_ (h : Aside0 (d.R e w base ok v xs)) [s : Stp w W] (hok : ∀ k, ok k → ok' k := by
    intro k_
    (try dsimp only)
    (try simp only [and_imp])
    intros
    repeat' first | with_reducible assumption | with_reducible apply And.intro | assumption | trivial) : Aside0 (d.R e W base ok' v xs) := ⟨Kd.R_mono (Kd.R_below h.out s.out) hok⟩
class Stf (g : Nat) (w w' : World) : Prop where
  out : w.heap.size ≤ w'.heap.size ∧ ∀ k, k ≠ g → k < w.heap.size → w'.heap[k]? = w.heap[k]?
instance (g : Nat) (w : World) : Stf g w w := ⟨Nat.le_refl _, fun _ _ _ => rfl⟩
instance (g j : Nat) (u : Value) (w w' : World) [h : Stf g w w'] : Stf g w (w'.setCell ⟨g, j, none⟩ u) := ⟨by rw [show (w'.setCell ⟨g, j, none⟩ u).heap.size = w'.heap.size from (setCells_same g [u] j w').2.2.2]; exact h.out.1, fun k hk hl => (Below.heap_setCell w' ⟨g, j, none⟩ u k hk).trans (h.out.2 k hk hl)⟩
instance (g : Nat) (w w' : World) (o : Obj) [h : Stf g w w'] : Stf g w (w'.alloc o) := ⟨Nat.le_trans h.out.1 (by simp), fun k hk hl => ((below_alloc (Below.refl _ w') o).block k (Nat.lt_of_lt_of_le hl h.out.1)).trans (h.out.2 k hk hl)⟩
instance (g : Nat) (w w' : World) [h : Stf g w w'] : Stf g w w'.drew := ⟨h.out.1, fun k hk hl => ((below_drew (Below.refl _ w')).block k (Nat.lt_of_lt_of_le hl h.out.1)).trans (h.out.2 k hk hl)⟩
instance (g m : Nat) (w w' : World) [h : Stf g w w'] : Stf g w (w'.drewN m) := ⟨Nat.le_trans h.out.1 (Below.size (pw_below_drewN (Below.refl w'.heap.size w') m)), fun k hk hl => ((pw_below_drewN (Below.refl _ w') m).block k (Nat.lt_of_lt_of_le hl h.out.1)).trans (h.out.2 k hk hl)⟩
instance (g j : Nat) (cs : List Value) (w w' : World) [h : Stf g w w'] : Stf g w (w'.setCells g j cs) := ⟨by rw [(setCells_same g cs j w').2.2.2]; exact h.out.1, fun k hk hl => (setCells_far cs j k hk).trans (h.out.2 k hk hl)⟩
theorem fR_ (h : Aside0 (d.R e w base ok v xs)) (hb : Aside0 (w.heap[g]? = some (.cells cells t (0, 0)))) [s : Stf g w W] (ht : ∀ q, q ∈ e :: d.E → q ≠ t := by decide) (hok : ∀ k, ok k → ok' k := by
    intro k_
    (try dsimp only)
    (try simp only [and_imp])
    intros
    repeat' first | with_reducible assumption | with_reducible apply And.intro | assumption | trivial) : Aside0 (d.R e W base ok' v xs) := ⟨Kd.R_mono (Kd.R_step (Kd.R_types h.out hb.out ht) (fun k hk hl => s.out.2 k hk.2 hl)) (fun k hk => hok k hk.1)⟩
theorem gR_ (h : Aside0 (d.R e w base ok v xs)) [s : Stf g w W] (hne : ∀ k, ok k → k ≠ g := by
    intro k_
    (try dsimp only)
    (try simp only [and_imp])
    intros
    repeat' first | with_reducible assumption | with_reducible apply And.intro | assumption | trivial) (hok : ∀ k, ok k → ok' k := by
    intro k_
    (try dsimp only)
    (try simp only [and_imp])
    intros
    repeat' first | with_reducible assumption | with_reducible apply And.intro | assumption | trivial) : Aside0 (d.R e W base ok' v xs) := ⟨Kd.R_mono (Kd.R_step h.out (fun k hk hl => s.out.2 k (hne k hk) hl)) hok⟩
theorem fR2_ (h : Aside0 (d.R e w base ok v xs)) (hb : Aside0 (w.heap[g]? = some (.cells cells t (0, 0)))) [s : Stf g w W] (ht : ∀ q, q ∈ e :: d.E → q ≠ t := by decide) : d.R e W base ok v xs := (fR_ h hb ht (fun _ h => h)).out
theorem xR1_ (h : Aside0 (d.R e w base ok v xs)) [s : Stp w W] (hok : ∀ k, ok k → ok' k := by
    intro k_
    (try dsimp only)
    (try simp only [and_imp])
    intros
    repeat' first | with_reducible assumption | with_reducible apply And.intro | assumption | trivial) : d.R e W base ok' v xs := (xR_ h (s := s) hok).out
theorem fR1_ (h : Aside0 (d.R e w base ok v xs)) (hb : Aside0 (w.heap[g]? = some (.cells cells t (0, 0)))) [s : Stf g w W] (ht : ∀ q, q ∈ e :: d.E → q ≠ t := by decide) (hok : ∀ k, ok k → ok' k := by
    intro k_
    (try dsimp only)
    (try simp only [and_imp])
    intros
    repeat' first | with_reducible assumption | with_reducible apply And.intro | assumption | trivial) : d.R e W base ok' v xs := (fR_ h hb (s := s) ht hok).out
theorem gR1_ (h : Aside0 (d.R e w base ok v xs)) [s : Stf g w W] (hne : ∀ k, ok k → k ≠ g := by
    intro k_
    (try dsimp only)
    (try simp only [and_imp])
    intros
    repeat' first | with_reducible assumption | with_reducible apply And.intro | assumption | trivial) (hok : ∀ k, ok k → ok' k := by
    intro k_
    (try dsimp only)
    (try simp only [and_imp])
    intros
    repeat' first | with_reducible assumption | with_reducible apply And.intro | assumption | trivial) : d.R e W base ok' v xs := (gR_ h (s := s) hne hok).out
theorem fR0_ (hw : w1 = W) (h : Aside0 (d.R e w base ok v xs)) (hb : Aside0 (w.heap[g]? = some (.cells cells t (0, 0)))) [s : Stf g w W] (ht : ∀ q, q ∈ e :: d.E → q ≠ t := by decide) : Aside0 (d.R e w1 base ok v xs) := hw ▸ fR_ h hb ht (fun _ h => h)
theorem kG_ (h : Aside0 (w.heap[g]? = some (.cells cells t (0, 0)))) (hr : Aside0 (d.R e w base ok v xs)) [s : Stp w W] (hg : W.grownBy w1 v.ownBlock) (ht : e ≠ t := by decide) : Aside0 (w1.heap[g]? = some (.cells cells t (0, 0))) := ⟨blk_grown (blk_below h.out s.out) hg (Kd.R_ne hr.out h.out ht)⟩
end
section
variable {β : Type} {p : Prop} {i : Decidable p} {x y t : β}
theorem ie_ {α : Type} [BEq α] [LawfulBEq α] {a b : α} {i : Decidable (a = b)} (h : (if a = b then x else y) = t) : (a = b ∧ x = t ∧ (a == b) = true ∧ (a != b) = false) ∨ (¬ a = b ∧ y = t ∧ (a == b) = false ∧ (a != b) = true) := by
  by_cases c : a = b
  · exact .inl ⟨c, (if_pos c).symm.trans h, beq_iff_eq.mpr c, bne_eq_false_iff_eq.mpr c⟩
  · exact .inr ⟨c, (if_neg c).symm.trans h, beq_eq_false_iff_ne.mpr c, bne_iff_ne.mpr c⟩
theorem id_ (h : (if p then x else y) = t) : (p ∧ x = t ∧ decide p = true) ∨ (¬ p ∧ y = t ∧ decide p = false) := by
  by_cases c : p
  · exact .inl ⟨c, (if_pos c).symm.trans h, decide_eq_true c⟩
  · exact .inr ⟨c, (if_neg c).symm.trans h, decide_eq_false c⟩
theorem ip_ {x : Option β} {r : β} (h : (if p then x else none) = some r) : p ∧ x = some r ∧ decide p = true := by
  by_cases c : p
  · exact ⟨c, (if_pos c).symm.trans h, decide_eq_true c⟩
  · exact nn_ c h
end
section
variable {w W w2 : World} {g g' g2 : Nat} {o : Obj} {r : Option Nat}
theorem farO {j : Nat} {u : Value} (h : w.heap[g]? = some o) (hp : g ≠ g') : (w.setCell ⟨g', j, none⟩ u).heap[g]? = some o := (Below.heap_setCell w ⟨g', j, none⟩ u g hp).trans h
theorem alO (u : Obj) (h : w.heap[g]? = some o) : (w.alloc u).heap[g]? = some o := blk_below h (below_alloc (Below.refl _ _) u)
theorem drO (h : w.heap[g]? = some o) : w.drew.heap[g]? = some o := h
theorem dnO (n : Nat) (h : w.heap[g]? = some o) : (w.drewN n).heap[g]? = some o := h
theorem fb_ (h : Aside0 (w.heap[g]? = some o)) (hb : Below W.heap.size W w2) (hs : w.heap[g]? = some o → W.heap[g]? = some o := by
  intro h_
  repeat (first | with_reducible exact h_ | with_reducible refine farO ?_ (Aside0.out (by with_reducible assumption)) | with_reducible refine alO _ ?_ | with_reducible refine drO ?_ | with_reducible refine dnO _ ?_)) : Aside0 (w2.heap[g]? = some o) := ⟨blk_below (hs h.out) hb⟩
theorem fk_ (h : Aside0 (w.heap[g]? = some o)) (hk : KeepBut W w2 g2 none) (hn : Aside0 (g ≠ g2)) (hs : w.heap[g]? = some o → W.heap[g]? = some o := by
  intro h_
  repeat (first | with_reducible exact h_ | with_reducible refine farO ?_ (Aside0.out (by with_reducible assumption)) | with_reducible refine alO _ ?_ | with_reducible refine drO ?_ | with_reducible refine dnO _ ?_)) : Aside0 (w2.heap[g]? = some o) := ⟨KeepBut.blk hk (hs h.out) hn.out (by simp)⟩
theorem fg_ {cs : Array Value} {t : TypeId} (h : Aside0 (w.heap[g]? = some (.cells cs t (0, 0)))) (hg : W.grownBy w2 r) (hn : some g ≠ r) (hs : w.heap[g]? = some (.cells cs t (0, 0)) → W.heap[g]? = some (.cells cs t (0, 0)) := by
  intro h_
  repeat (first | with_reducible exact h_ | with_reducible refine farO ?_ (Aside0.out (by with_reducible assumption)) | with_reducible refine alO _ ?_ | with_reducible refine drO ?_ | with_reducible refine dnO _ ?_)) : Aside0 (w2.heap[g]? = some (.cells cs t (0, 0))) := ⟨blk_grown (hs h.out) hg hn⟩
end
section
variable {P : Program} {ops : Array Oper} {rest : List Oper} {o : Oper} {a : Act} {Q : Exit → Act → World → Prop} {Kc : Act → World → Prop} {W : World}
theorem l8_ (e N : Nat) (xs : List Int) (inner : List Value) (h : ∀ v1 w1, (Kd.int .u8).R e w1 W.heap.size (fun _ => True) v1 xs → Below W.heap.size W w1 → W.grownBy w1 none → (∃ b, v1.ownBlock = some b ∧ W.heap.size ≤ b) → wpList P ops Q rest (a.put o.dst v1) w1)
    (hgd : o.guard = none := by rfl) (hd : o.dst = some N := by rfl)
    (hrun : (execOp a.eval o).run P W = .ok (.value (.slice (some ⟨W.heap.size, 0, none⟩) xs.length xs.length)) (W.alloc (.cells inner.toArray e)) := by first | (go_simp; done) | (go_simp; rfl))
    (hrep : Reps ((Kd.int .u8).M W W.heap.size (fun _ => True)) 1 xs inner := by repeat (first | exact Reps.none _ _ | refine Reps.one (show Kd.M (Kd.int .u8) _ _ _ _ _ from rfl) ?_)) (hm : xs.length ≤ 9223372036854775807 := by simp) : wpList P ops Q (o :: rest) a W :=
  Kd.R_lit (Kd.int .u8) (w0 := W) W.heap.size e hgd hd hrun hrep (fun _ hk => hk) trivial (Below.refl _ _) (Nat.le_refl _) hm h
theorem l8s_ (e N : Nat) (xs : List Int) (inner : List Value) (h : ∀ v1 w1, (Kd.int .u8).R e w1 W.heap.size (fun _ => True) v1 xs → Below W.heap.size W w1 → W.grownBy w1 none → (∃ b, v1.ownBlock = some b ∧ W.heap.size ≤ b) → Kc (a.put o.dst v1) w1)
    (hw : Region.wanted o (yielded ops a.tmps) = true := by rfl) (hd : o.dst = some N := by rfl)
    (hrun : (execOp a.eval o).run P W = .ok (.value (.slice (some ⟨W.heap.size, 0, none⟩) xs.length xs.length)) (W.alloc (.cells inner.toArray e)) := by first | (go_simp; done) | (go_simp; rfl))
    (hrep : Reps ((Kd.int .u8).M W W.heap.size (fun _ => True)) 1 xs inner := by repeat (first | exact Reps.none _ _ | refine Reps.one (show Kd.M (Kd.int .u8) _ _ _ _ _ from rfl) ?_)) (hm : xs.length ≤ 9223372036854775807 := by simp) : if Region.wanted o (yielded ops a.tmps) = true then Oper.wp P o a W Kc Q else Kc (a.put o.dst undef) W :=
  Kd.R_lit_step (Kd.int .u8) (w0 := W) W.heap.size e hw hd hrun hrep (fun _ hk => hk) trivial (Below.refl _ _) (Nat.le_refl _) hm h
end
theorem ea_ {p : Prop} (h : p := by first | rfl | (simp; done) | (simp [*]; done)) : p := h
theorem dn_ {w w' : World} (h : Drawn0 w w' := by repeat (first | exact Drawn0.refl _ | apply Drawn0.step)) : Drawn0 w w' := h
theorem my_ {α β : Type} {f : α → Option β} {r : β} (e : α) (h : (some e).bind f = some r) : ∃ y, Aside0 (y = e) ∧ f y = some r := ⟨e, ⟨rfl⟩, h⟩
theorem nx_ {a b : Nat} (h : Aside0 (a ≠ b)) : a ≠ b ∧ b ≠ a := ⟨h.out, h.out.symm⟩
theorem nr_ {P : Program} {md : Region.Mode} {ops : Array Oper} {Q : Exit → Act → World → Prop} {S : World → Prop} {ds : List Nat} {fuel : Nat} {l : Array Bool} {a a' : Act} {w : World} (h : wpAnyLast P md ops Q S ds fuel l a' w) (ha : a = a' := by simp only [putAll, Act.put, List.setIfInBounds_toArray, List.set_cons_zero, List.set_cons_succ]) : wpAnyLast P md ops Q S ds fuel l a w := norm_ ha h
section
variable {P : Program} {ops : Array Oper} {rest : List Oper} {o : Oper} {a : Act} {Q : Exit → Act → World → Prop} {W : World}
theorem gc_ (f : FuncId) {as : Array Operand} {ts : Array TypeId} (_ho : o.op = .call { callee := .value (.func f), args := as, argTypes := ts }) (h : wpList P ops Q (o :: rest) a W) : wpList P ops Q (o :: rest) a W := h
theorem gd_ (N : Tmp) (_hN : o.dst = some N) (h : wpList P ops Q (o :: rest) a W) : wpList P ops Q (o :: rest) a W := h
end
theorem nf_ {b : Bool} (h : ¬ b = true) : b = false := Bool.eq_false_iff.mpr h
theorem si_ {α : Type} {a b : α} (h : some a = some b) : a = b := Option.some.inj h
theorem rC_ {α : Type} {d : Kd α} {e base n c : Nat} {ok : Nat → Prop} {w w' : World} {A : Option Addr} {xs : List α} (h : Aside0 (d.R e w base ok (.slice A n c) xs)) [s : Stp w w'] : d.C w' A xs.length xs := qC ((Kd.R_reads' h.out).2.2)
theorem rL_ {α : Type} {d : Kd α} {e base n c : Nat} {ok : Nat → Prop} {w : World} {A : Option Addr} {xs : List α} (h : Aside0 (d.R e w base ok (.slice A n c) xs)) : n ≤ c := (Kd.R_reads' h.out).2.1
end Go.Proofs.YtiffahfpfgnjnaaV
