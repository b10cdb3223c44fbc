-- Part of the print's words: what this session's texts name (trim.py)
import Derived.Test.YtiffahfpfgnjnabWWords
import Derived.ChangeArms
import Derived.WideShapes
import Derived.DataReads
import Derived.ChangeShapes
namespace Go.Proofs.YtiffahfpfgnjnabV
open Go.RowKit Go.Proofs.YtiffahfpfgnjnabW.PrintWords Go.WideShapes
set_option linter.unusedVariables false
structure Opn (P : Program) (W : World) (t : TypeId) {α : Type} (d : Kd α) (G : α → Prop) : Prop where
  sz : P.cellsOf t = d.sz
  op : ∀ {H : Type} {enc : TypeId × Value → H} {base : Nat} {spare : Nat → Bool} {held : Bool} {fuel : Nat} {cs : List Value} {x : DataW H × List MemPlace},
    DataW.trod enc P W base spare held fuel t cs = some x → ∃ a : α, d.K W a cs ∧ G a
section
variable {P : Program} {W : World} {t e : TypeId}
theorem Opn.int {k : IntKind} (ht : P.underlying t = some (.int k)) (hs : P.cellsOf t = 1) : Opn P W t (Kd.int k) (fun n => (Lit.int k n).wf = true) :=
  ⟨hs, fun h => by
    obtain ⟨n, rfl, _, hw⟩ := DataW.trod_int ht h
    exact ⟨n, rfl, hw⟩⟩
theorem Opn.bool (ht : P.underlying t = some .bool) (hs : P.cellsOf t = 1) : Opn P W t Kd.bool (fun _ => True) :=
  ⟨hs, fun h => by
    obtain ⟨n, rfl, _⟩ := DataW.trod_bool ht h
    exact ⟨n, rfl, trivial⟩⟩
theorem Opn.string (ht : P.underlying t = some .string) (hs : P.cellsOf t = 1) : Opn P W t Kd.string (fun s => s.size ≤ 9223372036854775807) :=
  ⟨hs, fun h => by
    obtain ⟨s, rfl, _, hl⟩ := DataW.trod_string ht h
    exact ⟨s, rfl, by simpa [maxLen] using hl⟩⟩
theorem add_add (a : Addr) (m i : Nat) : (a.add m).add i = a.add (m + i) := by
  unfold Addr.add
  by_cases h1 : m = 0 <;> by_cases h2 : i = 0 <;> simp [h1, h2, Nat.add_assoc]
theorem Opn.slice {α : Type} {d : Kd α} {G : α → Prop} (ht : P.underlying t = some (.slice e)) (hs : P.cellsOf t = 1) (hd : Opn P W e d G) :
    Opn P W t (Kd.slice e d) (fun xs => xs.length ≤ 9223372036854775807 ∧ ∀ x ∈ xs, G x) :=
  ⟨hs, fun {H enc base spare held fuel cs x} h => by
    rcases DataW.trod_slice ht h with ⟨rfl, _⟩ | ⟨a, len, cap, elems, rest, n, _, rfl, _, _, hl, hm, he, hel, _, _⟩
    · exact ⟨[], ⟨none, 0, rfl, Nat.le_refl _, Kd.C_nil _ _⟩, by simp, fun x hx => by simp at hx⟩
    · have hm' : cap ≤ 9223372036854775807 := by simpa [maxLen] using hm
      have each : ∀ i : Fin len, ∃ p : α, G p ∧ ∃ c : List Value, c.length = d.sz ∧ d.K W p c ∧ ∀ j u, c[j]? = some u → W.cell? (a.add (i.val * d.sz + j)) = some u := by
        intro i
        have h1 := hel i.val i.isLt
        rw [List.getElem?_eq_getElem (show i.val < elems.length by omega)] at h1
        obtain ⟨c, hc, ho⟩ := Option.bind_eq_some_iff.1 h1
        obtain ⟨p, hK, hG⟩ := hd.op ho
        obtain ⟨_, hcl, hcc⟩ := World.cells?_some hc
        refine ⟨p, hG, c, by rw [hcl, hd.sz], hK, fun j u hu => ?_⟩
        have hj : j < P.cellsOf e := by
          rw [← hcl]
          exact (List.getElem?_eq_some_iff.1 hu).1
        have h2 := hcc j hj
        rw [add_add, hu, hd.sz] at h2
        exact h2
      obtain ⟨f, hf⟩ := Classical.axiomOfChoice each
      have hlen : (List.ofFn f).length = len := by simp
      refine ⟨List.ofFn f, ⟨some a, cap, by rw [hlen], by rw [hlen]; exact hl, ?_⟩, by rw [hlen]; omega, fun x hx => ?_⟩
      · refine ⟨rfl, by rw [hlen]; omega, fun _ => ⟨a, rfl, fun j p hp => ?_⟩⟩
        obtain ⟨hj, hp'⟩ := List.getElem?_eq_some_iff.1 hp
        rw [hlen] at hj
        simp only [List.getElem_ofFn] at hp'
        subst hp'
        obtain ⟨_, c, h1, h2, h3⟩ := hf ⟨j, hj⟩
        exact ⟨c, h1, h2, h3⟩
      · obtain ⟨i, rfl⟩ := List.mem_ofFn.1 hx
        exact (hf i).1⟩
structure OpnF (P : Program) (W : World) (fs : List Field) (off : Nat) {β : Type} (d : Kd β) (G : β → Prop) : Prop where
  op : ∀ {H : Type} {enc : TypeId × Value → H} {base : Nat} {spare : Nat → Bool} {held : Bool} {fuel : Nat} {cs : List Value},
    cs.length = off + d.sz → (∀ f ∈ fs, ∃ y, DataW.trod enc P W base spare held fuel f.type ((cs.drop f.offset).take (P.cellsOf f.type)) = some y) → ∃ a : β, d.K W a (cs.drop off) ∧ G a
theorem OpnF.one {f : Field} {off : Nat} {β : Type} {d : Kd β} {G : β → Prop} (ho : f.offset = off) (hd : Opn P W f.type d G) : OpnF P W [f] off d G :=
  ⟨fun {H enc base spare held fuel cs} hl h => by
    obtain ⟨y, hy⟩ := h f List.mem_cons_self
    rw [ho, List.take_of_length_le (by rw [List.length_drop, hl, hd.sz]; omega)] at hy
    exact hd.op hy⟩
theorem OpnF.cons {f : Field} {fs : List Field} {off : Nat} {β γ : Type} {d : Kd β} {G : β → Prop} {d' : Kd γ} {G' : γ → Prop} (ho : f.offset = off) (hd : Opn P W f.type d G) (hr : OpnF P W fs (off + d.sz) d' G') :
    OpnF P W (f :: fs) off (Kd.pair d d') (fun x => G x.1 ∧ G' x.2) :=
  ⟨fun {H enc base spare held fuel cs} hl h => by
    obtain ⟨y, hy⟩ := h f List.mem_cons_self
    rw [ho] at hy
    obtain ⟨a, ha, hg⟩ := hd.op hy
    have hl' : cs.length = off + d.sz + d'.sz := by rw [hl]; show off + (d.sz + d'.sz) = _; omega
    obtain ⟨b, hb, hg'⟩ := hr.op (fuel := fuel) hl' (fun g hg => h g (List.mem_cons_of_mem _ hg))
    refine ⟨(a, b), ⟨(cs.drop off).take (P.cellsOf f.type), cs.drop (off + d.sz), ?_, ha, hb⟩, hg, hg'⟩
    rw [hd.sz, ← List.drop_drop, List.take_append_drop]⟩
theorem Opn.struct {α β : Type} {fs : Array Field} {d : Kd β} {G : β → Prop} (f : α → β) (g : β → α) (hfg : ∀ b, f (g b) = b) (ht : P.underlying t = some (.struct fs)) (hs : P.cellsOf t = d.sz) (hf : OpnF P W fs.toList 0 d G) :
    Opn P W t (Kd.iso d f) (fun x => G (f x)) :=
  ⟨hs, fun {H enc base spare held fuel cs x} h => by
    obtain ⟨xs, n, rfl, _, hl, hn, hx⟩ := DataW.trod_struct ht h
    obtain ⟨a, ha, hg⟩ := hf.op (fuel := n) (enc := enc) (base := base) (spare := spare) (held := held) (cs := cs) (by rw [hl, hs]; omega) (fun fd hfd => by
      obtain ⟨i, hi, rfl⟩ := List.mem_iff_getElem.1 hfd
      have hi' : i < fs.size := by simpa using hi
      have h1 := hx i fs[i] (by simp [hi'])
      rw [List.getElem?_eq_getElem (show i < xs.length by omega)] at h1
      exact ⟨_, by simpa using h1⟩)
    rw [List.drop_zero] at ha
    exact ⟨g a, by show d.K W (f (g a)) cs; rw [hfg]; exact ha, by show G (f (g a)); rw [hfg]; exact hg⟩⟩
theorem Opn.imp {α : Type} {d : Kd α} {G G' : α → Prop} (h : Opn P W t d G) (hg : ∀ a, G a → G' a) : Opn P W t d G' :=
  ⟨h.sz, fun ho => by
    obtain ⟨a, ha, hq⟩ := h.op ho
    exact ⟨a, ha, hg a hq⟩⟩
theorem Opn.agg {α : Type} {d : Kd α} {G : α → Prop} {fs : Array Field} {H : Type} {enc : TypeId × Value → H} {base b0 : Nat} {spare : Nat → Bool} {held : Bool} {r : Reach} {v : Value} {x : DataW H} {ps : List MemPlace} (ho : Opn P W t d G)
    (ht : P.underlying t = some (.struct fs)) {w0 : World} (hv : Value.okWide P w0 r b0 t v) (h : DataW.Trod enc P W base spare held t v x ps) : ∃ (a : α) (cs : List Value), v = .agg cs.toArray ∧ d.K W a cs ∧ G a := by
  obtain ⟨cs, rfl, _⟩ := okWide_struct ht hv
  obtain ⟨fuel, hf⟩ := h
  obtain ⟨a, ha, hg⟩ := ho.op hf
  exact ⟨a, cs.toList, by simp, by simpa [Value.cells] using ha, hg⟩
theorem Opn.row {α : Type} {d : Kd α} {G : List α → Prop} {H : Type} {enc : TypeId × Value → H} {base b0 : Nat} {spare : Nat → Bool} {held : Bool} {r : Reach} {v : Value} {x : DataW H} {ps : List MemPlace} (ho : Opn P W t (Kd.slice e d) G)
    (ht : P.underlying t = some (.slice e)) {w0 : World} (hv : Value.okWide P w0 r b0 t v) (h : DataW.Trod enc P W base spare held t v x ps) : ∃ (l : List α) (A : Option Addr) (c : Nat), v = .slice A l.length c ∧ d.C W A l.length l ∧ l.length ≤ c ∧ G l := by
  obtain ⟨A, len, cap, rfl⟩ := okWide_slice ht hv
  obtain ⟨fuel, hf⟩ := h
  obtain ⟨l, ⟨A', c, hc, hl, hC⟩, hg⟩ := ho.op hf
  simp only [Value.cells, List.cons.injEq, and_true] at hc
  injection hc with h1 h2 h3
  subst h1 h2 h3
  exact ⟨l, A, cap, rfl, hC, hl, hg⟩
end
end Go.Proofs.YtiffahfpfgnjnabV
