-- Written by a program of this session: the law's row, with its own words and its plain law
import Derived.Test.YtahfemlfdpbkkaaPFnExactHouseOkx27
import Derived.Test.YtahfemlfdpbkkaaVOpen
import Derived.KernelRfl
import Derived.Test.YtahfemlfdpbkkaaVBase
import Derived.Test.YtahfemlfdpbkkaaVExt
import Derived.Test.YtahfemlfdpbkkaaRows
import Derived.WalkKit
import Derived.ProofKit
import Derived.OpenShut
import Derived.ShutString
import Derived.ChangeOld
import Derived.Below
import Derived.SizedLaws
namespace Go.Proofs.Ytahfemlfdpbkkaa.VFnExactHouseOk
open Go.RowKit Go.Proofs.Ytahfemlfdpbkkaa.PFnExactHouseOk Go.Proofs.YtahfemlfdpbkkaaW.PrintWords Go.Proofs.YtahfemlfdpbkkaaV
set_option maxRecDepth 100000
set_option linter.unusedVariables false
structure S57 where
  f0 : Int
  f1 : Int
  f2 : Int
  f3 : Int
def z57 : S57 := ⟨(0 : Int), (0 : Int), (0 : Int), (0 : Int)⟩
def k57 : Kd S57 := Kd.iso (Kd.pair (Kd.int .i64) (Kd.pair (Kd.int .i64) (Kd.pair (Kd.int .i64) (Kd.int .i64)))) (fun x : S57 => (x.f0, x.f1, x.f2, x.f3))
theorem k57_open {w : World} {x : S57} {cs : List Value} (h : k57.K w x cs) : cs = [.int .i64 x.f0, .int .i64 x.f1, .int .i64 x.f2, .int .i64 x.f3] := by
  obtain ⟨_, _, rfl, rfl, ⟨_, _, rfl, rfl, ⟨_, _, rfl, rfl, rfl⟩⟩⟩ := h
  exact rfl
theorem k57_openM {w : World} {base : Nat} {ok : Nat → Prop} {x : S57} {cs : List Value} (h : k57.M w base ok x cs) : cs = [.int .i64 x.f0, .int .i64 x.f1, .int .i64 x.f2, .int .i64 x.f3] := by
  obtain ⟨_, _, rfl, rfl, ⟨_, _, rfl, rfl, ⟨_, _, rfl, rfl, rfl⟩⟩⟩ := h
  exact rfl
theorem k57_mk (w : World) (x : S57)  : k57.K w x [.int .i64 x.f0, .int .i64 x.f1, .int .i64 x.f2, .int .i64 x.f3] := ⟨[.int .i64 x.f0], [.int .i64 x.f1, .int .i64 x.f2, .int .i64 x.f3], rfl, rfl, ⟨[.int .i64 x.f1], [.int .i64 x.f2, .int .i64 x.f3], rfl, rfl, ⟨[.int .i64 x.f2], [.int .i64 x.f3], rfl, rfl, rfl⟩⟩⟩
theorem k57_mkM (w : World) (base : Nat) (ok : Nat → Prop) (x : S57)  : k57.M w base ok x [.int .i64 x.f0, .int .i64 x.f1, .int .i64 x.f2, .int .i64 x.f3] := ⟨[.int .i64 x.f0], [.int .i64 x.f1, .int .i64 x.f2, .int .i64 x.f3], rfl, rfl, ⟨[.int .i64 x.f1], [.int .i64 x.f2, .int .i64 x.f3], rfl, rfl, ⟨[.int .i64 x.f2], [.int .i64 x.f3], rfl, rfl, rfl⟩⟩⟩
def rd_T57 (xs : List S57) (i : Int) : S57 := xs.getD i.toNat z57
theorem at_T57 {w : World} {A : Option Addr} {n : Nat} {xs : List S57} (h : Kd.C k57 w A n xs) (i : Int) (h0 : 0 ≤ i) (h1 : i < n) : ∃ ad , A = some ad ∧ w.cell? (ad.add (i.toNat * 4)) = some (.int .i64 (rd_T57 xs i).f0) ∧ w.cell? ⟨(ad.add (i.toNat * 4)).block, (ad.add (i.toNat * 4)).off + 1, none⟩ = some (.int .i64 (rd_T57 xs i).f1) ∧ w.cell? ⟨(ad.add (i.toNat * 4)).block, (ad.add (i.toNat * 4)).off + 2, none⟩ = some (.int .i64 (rd_T57 xs i).f2) ∧ w.cell? ⟨(ad.add (i.toNat * 4)).block, (ad.add (i.toNat * 4)).off + 3, none⟩ = some (.int .i64 (rd_T57 xs i).f3) := by
  obtain ⟨ad, c, e, _, hK, hc0⟩ := Kd.C_get h z57 i h0 h1
  have hc : ∀ j u, c[j]? = some u → w.cell? (ad.add (i.toNat * 4 + j)) = some u := hc0
  obtain rfl := k57_open hK
  exact ⟨ad, e, hc 0 _ rfl, by rw [← add_field _ _ 1 (by omega)]; exact hc 1 _ rfl, by rw [← add_field _ _ 2 (by omega)]; exact hc 2 _ rfl, by rw [← add_field _ _ 3 (by omega)]; exact hc 3 _ rfl⟩
structure S59 where
  f0 : Int
  f1 : Int
  f2 : Int
  f3 : (List S163)
  f4 : Bool
  f5 : (List S38)
  f6 : (List S40)
  f7 : Int
  f8 : S57
def z59 : S59 := ⟨(0 : Int), (0 : Int), (0 : Int), ([] : List S163), false, ([] : List S38), ([] : List S40), (0 : Int), z57⟩
def k59 : Kd S59 := Kd.iso (Kd.pair (Kd.int .i64) (Kd.pair (Kd.int .i64) (Kd.pair (Kd.int .i64) (Kd.pair (Kd.slice 163 k163) (Kd.pair Kd.bool (Kd.pair (Kd.slice 38 k38) (Kd.pair (Kd.slice 40 k40) (Kd.pair (Kd.int .i64) k57)))))))) (fun x : S59 => (x.f0, x.f1, x.f2, x.f3, x.f4, x.f5, x.f6, x.f7, x.f8))
theorem k59_open {w : World} {x : S59} {cs : List Value} (h : k59.K w x cs) : ∃ A3 c3 A5 c5 A6 c6, cs = [.int .i64 x.f0, .int .i64 x.f1, .int .i64 x.f2, .slice A3 x.f3.length c3, .bool x.f4, .slice A5 x.f5.length c5, .slice A6 x.f6.length c6, .int .i64 x.f7, .int .i64 x.f8.f0, .int .i64 x.f8.f1, .int .i64 x.f8.f2, .int .i64 x.f8.f3] ∧ x.f3.length ≤ c3 ∧ k163.C w A3 x.f3.length x.f3 ∧ x.f5.length ≤ c5 ∧ k38.C w A5 x.f5.length x.f5 ∧ x.f6.length ≤ c6 ∧ k40.C w A6 x.f6.length x.f6 := by
  obtain ⟨_, _, rfl, rfl, ⟨_, _, rfl, rfl, ⟨_, _, rfl, rfl, ⟨_, _, rfl, ⟨A3, c3, rfl, l3, g3⟩, ⟨_, _, rfl, rfl, ⟨_, _, rfl, ⟨A5, c5, rfl, l5, g5⟩, ⟨_, _, rfl, ⟨A6, c6, rfl, l6, g6⟩, ⟨_, _, rfl, rfl, s8⟩⟩⟩⟩⟩⟩⟩⟩ := h
  obtain rfl := k57_open s8
  exact ⟨A3, c3, A5, c5, A6, c6, rfl, l3, g3, l5, g5, l6, g6⟩
theorem k59_openM {w : World} {base : Nat} {ok : Nat → Prop} {x : S59} {cs : List Value} (h : k59.M w base ok x cs) : ∃ v3 v5 v6, cs = [.int .i64 x.f0, .int .i64 x.f1, .int .i64 x.f2, v3, .bool x.f4, v5, v6, .int .i64 x.f7, .int .i64 x.f8.f0, .int .i64 x.f8.f1, .int .i64 x.f8.f2, .int .i64 x.f8.f3] ∧ k163.R 163 w base ok v3 x.f3 ∧ k38.R 38 w base ok v5 x.f5 ∧ k40.R 40 w base ok v6 x.f6 := by
  obtain ⟨_, _, rfl, rfl, ⟨_, _, rfl, rfl, ⟨_, _, rfl, rfl, ⟨_, _, rfl, ⟨v3, rfl, g3⟩, ⟨_, _, rfl, rfl, ⟨_, _, rfl, ⟨v5, rfl, g5⟩, ⟨_, _, rfl, ⟨v6, rfl, g6⟩, ⟨_, _, rfl, rfl, s8⟩⟩⟩⟩⟩⟩⟩⟩ := h
  obtain rfl := k57_openM s8
  exact ⟨v3, v5, v6, rfl, g3, g5, g6⟩
theorem k59_mk (w : World) (x : S59) {A3 : Option Addr} {c3 : Nat} (l3 : x.f3.length ≤ c3) (g3 : k163.C w A3 x.f3.length x.f3) {A5 : Option Addr} {c5 : Nat} (l5 : x.f5.length ≤ c5) (g5 : k38.C w A5 x.f5.length x.f5) {A6 : Option Addr} {c6 : Nat} (l6 : x.f6.length ≤ c6) (g6 : k40.C w A6 x.f6.length x.f6) : k59.K w x [.int .i64 x.f0, .int .i64 x.f1, .int .i64 x.f2, .slice A3 x.f3.length c3, .bool x.f4, .slice A5 x.f5.length c5, .slice A6 x.f6.length c6, .int .i64 x.f7, .int .i64 x.f8.f0, .int .i64 x.f8.f1, .int .i64 x.f8.f2, .int .i64 x.f8.f3] := ⟨[.int .i64 x.f0], [.int .i64 x.f1, .int .i64 x.f2, .slice A3 x.f3.length c3, .bool x.f4, .slice A5 x.f5.length c5, .slice A6 x.f6.length c6, .int .i64 x.f7, .int .i64 x.f8.f0, .int .i64 x.f8.f1, .int .i64 x.f8.f2, .int .i64 x.f8.f3], rfl, rfl, ⟨[.int .i64 x.f1], [.int .i64 x.f2, .slice A3 x.f3.length c3, .bool x.f4, .slice A5 x.f5.length c5, .slice A6 x.f6.length c6, .int .i64 x.f7, .int .i64 x.f8.f0, .int .i64 x.f8.f1, .int .i64 x.f8.f2, .int .i64 x.f8.f3], rfl, rfl, ⟨[.int .i64 x.f2], [.slice A3 x.f3.length c3, .bool x.f4, .slice A5 x.f5.length c5, .slice A6 x.f6.length c6, .int .i64 x.f7, .int .i64 x.f8.f0, .int .i64 x.f8.f1, .int .i64 x.f8.f2, .int .i64 x.f8.f3], rfl, rfl, ⟨[.slice A3 x.f3.length c3], [.bool x.f4, .slice A5 x.f5.length c5, .slice A6 x.f6.length c6, .int .i64 x.f7, .int .i64 x.f8.f0, .int .i64 x.f8.f1, .int .i64 x.f8.f2, .int .i64 x.f8.f3], rfl, ⟨A3, c3, rfl, l3, g3⟩, ⟨[.bool x.f4], [.slice A5 x.f5.length c5, .slice A6 x.f6.length c6, .int .i64 x.f7, .int .i64 x.f8.f0, .int .i64 x.f8.f1, .int .i64 x.f8.f2, .int .i64 x.f8.f3], rfl, rfl, ⟨[.slice A5 x.f5.length c5], [.slice A6 x.f6.length c6, .int .i64 x.f7, .int .i64 x.f8.f0, .int .i64 x.f8.f1, .int .i64 x.f8.f2, .int .i64 x.f8.f3], rfl, ⟨A5, c5, rfl, l5, g5⟩, ⟨[.slice A6 x.f6.length c6], [.int .i64 x.f7, .int .i64 x.f8.f0, .int .i64 x.f8.f1, .int .i64 x.f8.f2, .int .i64 x.f8.f3], rfl, ⟨A6, c6, rfl, l6, g6⟩, ⟨[.int .i64 x.f7], [.int .i64 x.f8.f0, .int .i64 x.f8.f1, .int .i64 x.f8.f2, .int .i64 x.f8.f3], rfl, rfl, (k57_mk w x.f8 )⟩⟩⟩⟩⟩⟩⟩⟩
theorem k59_mkM (w : World) (base : Nat) (ok : Nat → Prop) (x : S59) {v3 : Value} (g3 : k163.R 163 w base ok v3 x.f3) {v5 : Value} (g5 : k38.R 38 w base ok v5 x.f5) {v6 : Value} (g6 : k40.R 40 w base ok v6 x.f6) : k59.M w base ok x [.int .i64 x.f0, .int .i64 x.f1, .int .i64 x.f2, v3, .bool x.f4, v5, v6, .int .i64 x.f7, .int .i64 x.f8.f0, .int .i64 x.f8.f1, .int .i64 x.f8.f2, .int .i64 x.f8.f3] := ⟨[.int .i64 x.f0], [.int .i64 x.f1, .int .i64 x.f2, v3, .bool x.f4, v5, v6, .int .i64 x.f7, .int .i64 x.f8.f0, .int .i64 x.f8.f1, .int .i64 x.f8.f2, .int .i64 x.f8.f3], rfl, rfl, ⟨[.int .i64 x.f1], [.int .i64 x.f2, v3, .bool x.f4, v5, v6, .int .i64 x.f7, .int .i64 x.f8.f0, .int .i64 x.f8.f1, .int .i64 x.f8.f2, .int .i64 x.f8.f3], rfl, rfl, ⟨[.int .i64 x.f2], [v3, .bool x.f4, v5, v6, .int .i64 x.f7, .int .i64 x.f8.f0, .int .i64 x.f8.f1, .int .i64 x.f8.f2, .int .i64 x.f8.f3], rfl, rfl, ⟨[v3], [.bool x.f4, v5, v6, .int .i64 x.f7, .int .i64 x.f8.f0, .int .i64 x.f8.f1, .int .i64 x.f8.f2, .int .i64 x.f8.f3], rfl, ⟨v3, rfl, g3⟩, ⟨[.bool x.f4], [v5, v6, .int .i64 x.f7, .int .i64 x.f8.f0, .int .i64 x.f8.f1, .int .i64 x.f8.f2, .int .i64 x.f8.f3], rfl, rfl, ⟨[v5], [v6, .int .i64 x.f7, .int .i64 x.f8.f0, .int .i64 x.f8.f1, .int .i64 x.f8.f2, .int .i64 x.f8.f3], rfl, ⟨v5, rfl, g5⟩, ⟨[v6], [.int .i64 x.f7, .int .i64 x.f8.f0, .int .i64 x.f8.f1, .int .i64 x.f8.f2, .int .i64 x.f8.f3], rfl, ⟨v6, rfl, g6⟩, ⟨[.int .i64 x.f7], [.int .i64 x.f8.f0, .int .i64 x.f8.f1, .int .i64 x.f8.f2, .int .i64 x.f8.f3], rfl, rfl, (k57_mkM w base ok x.f8 )⟩⟩⟩⟩⟩⟩⟩⟩
def rd_T59 (xs : List S59) (i : Int) : S59 := xs.getD i.toNat z59
theorem at_T59 {w : World} {A : Option Addr} {n : Nat} {xs : List S59} (h : Kd.C k59 w A n xs) (i : Int) (h0 : 0 ≤ i) (h1 : i < n) : ∃ ad A3 c3 A5 c5 A6 c6, A = some ad ∧ w.cell? (ad.add (i.toNat * 12)) = some (.int .i64 (rd_T59 xs i).f0) ∧ w.cell? ⟨(ad.add (i.toNat * 12)).block, (ad.add (i.toNat * 12)).off + 1, none⟩ = some (.int .i64 (rd_T59 xs i).f1) ∧ w.cell? ⟨(ad.add (i.toNat * 12)).block, (ad.add (i.toNat * 12)).off + 2, none⟩ = some (.int .i64 (rd_T59 xs i).f2) ∧ w.cell? ⟨(ad.add (i.toNat * 12)).block, (ad.add (i.toNat * 12)).off + 3, none⟩ = some (.slice A3 (rd_T59 xs i).f3.length c3) ∧ w.cell? ⟨(ad.add (i.toNat * 12)).block, (ad.add (i.toNat * 12)).off + 4, none⟩ = some (.bool (rd_T59 xs i).f4) ∧ w.cell? ⟨(ad.add (i.toNat * 12)).block, (ad.add (i.toNat * 12)).off + 5, none⟩ = some (.slice A5 (rd_T59 xs i).f5.length c5) ∧ w.cell? ⟨(ad.add (i.toNat * 12)).block, (ad.add (i.toNat * 12)).off + 6, none⟩ = some (.slice A6 (rd_T59 xs i).f6.length c6) ∧ w.cell? ⟨(ad.add (i.toNat * 12)).block, (ad.add (i.toNat * 12)).off + 7, none⟩ = some (.int .i64 (rd_T59 xs i).f7) ∧ w.cell? ⟨(ad.add (i.toNat * 12)).block, (ad.add (i.toNat * 12)).off + 8, none⟩ = some (.int .i64 (rd_T59 xs i).f8.f0) ∧ w.cell? ⟨(ad.add (i.toNat * 12)).block, (ad.add (i.toNat * 12)).off + 9, none⟩ = some (.int .i64 (rd_T59 xs i).f8.f1) ∧ w.cell? ⟨(ad.add (i.toNat * 12)).block, (ad.add (i.toNat * 12)).off + 10, none⟩ = some (.int .i64 (rd_T59 xs i).f8.f2) ∧ w.cell? ⟨(ad.add (i.toNat * 12)).block, (ad.add (i.toNat * 12)).off + 11, none⟩ = some (.int .i64 (rd_T59 xs i).f8.f3) ∧ (rd_T59 xs i).f3.length ≤ c3 ∧ k163.C w A3 (rd_T59 xs i).f3.length (rd_T59 xs i).f3 ∧ (rd_T59 xs i).f5.length ≤ c5 ∧ k38.C w A5 (rd_T59 xs i).f5.length (rd_T59 xs i).f5 ∧ (rd_T59 xs i).f6.length ≤ c6 ∧ k40.C w A6 (rd_T59 xs i).f6.length (rd_T59 xs i).f6 := by
  obtain ⟨ad, c, e, _, hK, hc0⟩ := Kd.C_get h z59 i h0 h1
  have hc : ∀ j u, c[j]? = some u → w.cell? (ad.add (i.toNat * 12 + j)) = some u := hc0
  obtain ⟨A3, c3, A5, c5, A6, c6, rfl, l3, g3, l5, g5, l6, g6⟩ := k59_open hK
  exact ⟨ad, A3, c3, A5, c5, A6, c6, e, hc 0 _ rfl, by rw [← add_field _ _ 1 (by omega)]; exact hc 1 _ rfl, by rw [← add_field _ _ 2 (by omega)]; exact hc 2 _ rfl, by rw [← add_field _ _ 3 (by omega)]; exact hc 3 _ rfl, by rw [← add_field _ _ 4 (by omega)]; exact hc 4 _ rfl, by rw [← add_field _ _ 5 (by omega)]; exact hc 5 _ rfl, by rw [← add_field _ _ 6 (by omega)]; exact hc 6 _ rfl, by rw [← add_field _ _ 7 (by omega)]; exact hc 7 _ rfl, by rw [← add_field _ _ 8 (by omega)]; exact hc 8 _ rfl, by rw [← add_field _ _ 9 (by omega)]; exact hc 9 _ rfl, by rw [← add_field _ _ 10 (by omega)]; exact hc 10 _ rfl, by rw [← add_field _ _ 11 (by omega)]; exact hc 11 _ rfl, l3, g3, l5, g5, l6, g6⟩
structure S65 where
  f0 : Int
  f1 : Int
  f2 : Int
  f3 : Int
def z65 : S65 := ⟨(0 : Int), (0 : Int), (0 : Int), (0 : Int)⟩
def k65 : Kd S65 := Kd.iso (Kd.pair (Kd.int .i64) (Kd.pair (Kd.int .i64) (Kd.pair (Kd.int .i64) (Kd.int .i64)))) (fun x : S65 => (x.f0, x.f1, x.f2, x.f3))
theorem k65_open {w : World} {x : S65} {cs : List Value} (h : k65.K w x cs) : cs = [.int .i64 x.f0, .int .i64 x.f1, .int .i64 x.f2, .int .i64 x.f3] := by
  obtain ⟨_, _, rfl, rfl, ⟨_, _, rfl, rfl, ⟨_, _, rfl, rfl, rfl⟩⟩⟩ := h
  exact rfl
theorem k65_openM {w : World} {base : Nat} {ok : Nat → Prop} {x : S65} {cs : List Value} (h : k65.M w base ok x cs) : cs = [.int .i64 x.f0, .int .i64 x.f1, .int .i64 x.f2, .int .i64 x.f3] := by
  obtain ⟨_, _, rfl, rfl, ⟨_, _, rfl, rfl, ⟨_, _, rfl, rfl, rfl⟩⟩⟩ := h
  exact rfl
theorem k65_mk (w : World) (x : S65)  : k65.K w x [.int .i64 x.f0, .int .i64 x.f1, .int .i64 x.f2, .int .i64 x.f3] := ⟨[.int .i64 x.f0], [.int .i64 x.f1, .int .i64 x.f2, .int .i64 x.f3], rfl, rfl, ⟨[.int .i64 x.f1], [.int .i64 x.f2, .int .i64 x.f3], rfl, rfl, ⟨[.int .i64 x.f2], [.int .i64 x.f3], rfl, rfl, rfl⟩⟩⟩
theorem k65_mkM (w : World) (base : Nat) (ok : Nat → Prop) (x : S65)  : k65.M w base ok x [.int .i64 x.f0, .int .i64 x.f1, .int .i64 x.f2, .int .i64 x.f3] := ⟨[.int .i64 x.f0], [.int .i64 x.f1, .int .i64 x.f2, .int .i64 x.f3], rfl, rfl, ⟨[.int .i64 x.f1], [.int .i64 x.f2, .int .i64 x.f3], rfl, rfl, ⟨[.int .i64 x.f2], [.int .i64 x.f3], rfl, rfl, rfl⟩⟩⟩
def rd_T65 (xs : List S65) (i : Int) : S65 := xs.getD i.toNat z65
theorem at_T65 {w : World} {A : Option Addr} {n : Nat} {xs : List S65} (h : Kd.C k65 w A n xs) (i : Int) (h0 : 0 ≤ i) (h1 : i < n) : ∃ ad , A = some ad ∧ w.cell? (ad.add (i.toNat * 4)) = some (.int .i64 (rd_T65 xs i).f0) ∧ w.cell? ⟨(ad.add (i.toNat * 4)).block, (ad.add (i.toNat * 4)).off + 1, none⟩ = some (.int .i64 (rd_T65 xs i).f1) ∧ w.cell? ⟨(ad.add (i.toNat * 4)).block, (ad.add (i.toNat * 4)).off + 2, none⟩ = some (.int .i64 (rd_T65 xs i).f2) ∧ w.cell? ⟨(ad.add (i.toNat * 4)).block, (ad.add (i.toNat * 4)).off + 3, none⟩ = some (.int .i64 (rd_T65 xs i).f3) := by
  obtain ⟨ad, c, e, _, hK, hc0⟩ := Kd.C_get h z65 i h0 h1
  have hc : ∀ j u, c[j]? = some u → w.cell? (ad.add (i.toNat * 4 + j)) = some u := hc0
  obtain rfl := k65_open hK
  exact ⟨ad, e, hc 0 _ rfl, by rw [← add_field _ _ 1 (by omega)]; exact hc 1 _ rfl, by rw [← add_field _ _ 2 (by omega)]; exact hc 2 _ rfl, by rw [← add_field _ _ 3 (by omega)]; exact hc 3 _ rfl⟩
structure S67 where
  f0 : Int
  f1 : Int
  f2 : Int
  f3 : (List S125)
  f4 : Bool
  f5 : (List S45)
  f6 : (List S46)
  f7 : Int
  f8 : S65
def z67 : S67 := ⟨(0 : Int), (0 : Int), (0 : Int), ([] : List S125), false, ([] : List S45), ([] : List S46), (0 : Int), z65⟩
def k67 : Kd S67 := Kd.iso (Kd.pair (Kd.int .i64) (Kd.pair (Kd.int .i64) (Kd.pair (Kd.int .i64) (Kd.pair (Kd.slice 125 k125) (Kd.pair Kd.bool (Kd.pair (Kd.slice 45 k45) (Kd.pair (Kd.slice 46 k46) (Kd.pair (Kd.int .i64) k65)))))))) (fun x : S67 => (x.f0, x.f1, x.f2, x.f3, x.f4, x.f5, x.f6, x.f7, x.f8))
theorem k67_open {w : World} {x : S67} {cs : List Value} (h : k67.K w x cs) : ∃ A3 c3 A5 c5 A6 c6, cs = [.int .i64 x.f0, .int .i64 x.f1, .int .i64 x.f2, .slice A3 x.f3.length c3, .bool x.f4, .slice A5 x.f5.length c5, .slice A6 x.f6.length c6, .int .i64 x.f7, .int .i64 x.f8.f0, .int .i64 x.f8.f1, .int .i64 x.f8.f2, .int .i64 x.f8.f3] ∧ x.f3.length ≤ c3 ∧ k125.C w A3 x.f3.length x.f3 ∧ x.f5.length ≤ c5 ∧ k45.C w A5 x.f5.length x.f5 ∧ x.f6.length ≤ c6 ∧ k46.C w A6 x.f6.length x.f6 := by
  obtain ⟨_, _, rfl, rfl, ⟨_, _, rfl, rfl, ⟨_, _, rfl, rfl, ⟨_, _, rfl, ⟨A3, c3, rfl, l3, g3⟩, ⟨_, _, rfl, rfl, ⟨_, _, rfl, ⟨A5, c5, rfl, l5, g5⟩, ⟨_, _, rfl, ⟨A6, c6, rfl, l6, g6⟩, ⟨_, _, rfl, rfl, s8⟩⟩⟩⟩⟩⟩⟩⟩ := h
  obtain rfl := k65_open s8
  exact ⟨A3, c3, A5, c5, A6, c6, rfl, l3, g3, l5, g5, l6, g6⟩
theorem k67_openM {w : World} {base : Nat} {ok : Nat → Prop} {x : S67} {cs : List Value} (h : k67.M w base ok x cs) : ∃ v3 v5 v6, cs = [.int .i64 x.f0, .int .i64 x.f1, .int .i64 x.f2, v3, .bool x.f4, v5, v6, .int .i64 x.f7, .int .i64 x.f8.f0, .int .i64 x.f8.f1, .int .i64 x.f8.f2, .int .i64 x.f8.f3] ∧ k125.R 125 w base ok v3 x.f3 ∧ k45.R 45 w base ok v5 x.f5 ∧ k46.R 46 w base ok v6 x.f6 := by
  obtain ⟨_, _, rfl, rfl, ⟨_, _, rfl, rfl, ⟨_, _, rfl, rfl, ⟨_, _, rfl, ⟨v3, rfl, g3⟩, ⟨_, _, rfl, rfl, ⟨_, _, rfl, ⟨v5, rfl, g5⟩, ⟨_, _, rfl, ⟨v6, rfl, g6⟩, ⟨_, _, rfl, rfl, s8⟩⟩⟩⟩⟩⟩⟩⟩ := h
  obtain rfl := k65_openM s8
  exact ⟨v3, v5, v6, rfl, g3, g5, g6⟩
theorem k67_mk (w : World) (x : S67) {A3 : Option Addr} {c3 : Nat} (l3 : x.f3.length ≤ c3) (g3 : k125.C w A3 x.f3.length x.f3) {A5 : Option Addr} {c5 : Nat} (l5 : x.f5.length ≤ c5) (g5 : k45.C w A5 x.f5.length x.f5) {A6 : Option Addr} {c6 : Nat} (l6 : x.f6.length ≤ c6) (g6 : k46.C w A6 x.f6.length x.f6) : k67.K w x [.int .i64 x.f0, .int .i64 x.f1, .int .i64 x.f2, .slice A3 x.f3.length c3, .bool x.f4, .slice A5 x.f5.length c5, .slice A6 x.f6.length c6, .int .i64 x.f7, .int .i64 x.f8.f0, .int .i64 x.f8.f1, .int .i64 x.f8.f2, .int .i64 x.f8.f3] := ⟨[.int .i64 x.f0], [.int .i64 x.f1, .int .i64 x.f2, .slice A3 x.f3.length c3, .bool x.f4, .slice A5 x.f5.length c5, .slice A6 x.f6.length c6, .int .i64 x.f7, .int .i64 x.f8.f0, .int .i64 x.f8.f1, .int .i64 x.f8.f2, .int .i64 x.f8.f3], rfl, rfl, ⟨[.int .i64 x.f1], [.int .i64 x.f2, .slice A3 x.f3.length c3, .bool x.f4, .slice A5 x.f5.length c5, .slice A6 x.f6.length c6, .int .i64 x.f7, .int .i64 x.f8.f0, .int .i64 x.f8.f1, .int .i64 x.f8.f2, .int .i64 x.f8.f3], rfl, rfl, ⟨[.int .i64 x.f2], [.slice A3 x.f3.length c3, .bool x.f4, .slice A5 x.f5.length c5, .slice A6 x.f6.length c6, .int .i64 x.f7, .int .i64 x.f8.f0, .int .i64 x.f8.f1, .int .i64 x.f8.f2, .int .i64 x.f8.f3], rfl, rfl, ⟨[.slice A3 x.f3.length c3], [.bool x.f4, .slice A5 x.f5.length c5, .slice A6 x.f6.length c6, .int .i64 x.f7, .int .i64 x.f8.f0, .int .i64 x.f8.f1, .int .i64 x.f8.f2, .int .i64 x.f8.f3], rfl, ⟨A3, c3, rfl, l3, g3⟩, ⟨[.bool x.f4], [.slice A5 x.f5.length c5, .slice A6 x.f6.length c6, .int .i64 x.f7, .int .i64 x.f8.f0, .int .i64 x.f8.f1, .int .i64 x.f8.f2, .int .i64 x.f8.f3], rfl, rfl, ⟨[.slice A5 x.f5.length c5], [.slice A6 x.f6.length c6, .int .i64 x.f7, .int .i64 x.f8.f0, .int .i64 x.f8.f1, .int .i64 x.f8.f2, .int .i64 x.f8.f3], rfl, ⟨A5, c5, rfl, l5, g5⟩, ⟨[.slice A6 x.f6.length c6], [.int .i64 x.f7, .int .i64 x.f8.f0, .int .i64 x.f8.f1, .int .i64 x.f8.f2, .int .i64 x.f8.f3], rfl, ⟨A6, c6, rfl, l6, g6⟩, ⟨[.int .i64 x.f7], [.int .i64 x.f8.f0, .int .i64 x.f8.f1, .int .i64 x.f8.f2, .int .i64 x.f8.f3], rfl, rfl, (k65_mk w x.f8 )⟩⟩⟩⟩⟩⟩⟩⟩
theorem k67_mkM (w : World) (base : Nat) (ok : Nat → Prop) (x : S67) {v3 : Value} (g3 : k125.R 125 w base ok v3 x.f3) {v5 : Value} (g5 : k45.R 45 w base ok v5 x.f5) {v6 : Value} (g6 : k46.R 46 w base ok v6 x.f6) : k67.M w base ok x [.int .i64 x.f0, .int .i64 x.f1, .int .i64 x.f2, v3, .bool x.f4, v5, v6, .int .i64 x.f7, .int .i64 x.f8.f0, .int .i64 x.f8.f1, .int .i64 x.f8.f2, .int .i64 x.f8.f3] := ⟨[.int .i64 x.f0], [.int .i64 x.f1, .int .i64 x.f2, v3, .bool x.f4, v5, v6, .int .i64 x.f7, .int .i64 x.f8.f0, .int .i64 x.f8.f1, .int .i64 x.f8.f2, .int .i64 x.f8.f3], rfl, rfl, ⟨[.int .i64 x.f1], [.int .i64 x.f2, v3, .bool x.f4, v5, v6, .int .i64 x.f7, .int .i64 x.f8.f0, .int .i64 x.f8.f1, .int .i64 x.f8.f2, .int .i64 x.f8.f3], rfl, rfl, ⟨[.int .i64 x.f2], [v3, .bool x.f4, v5, v6, .int .i64 x.f7, .int .i64 x.f8.f0, .int .i64 x.f8.f1, .int .i64 x.f8.f2, .int .i64 x.f8.f3], rfl, rfl, ⟨[v3], [.bool x.f4, v5, v6, .int .i64 x.f7, .int .i64 x.f8.f0, .int .i64 x.f8.f1, .int .i64 x.f8.f2, .int .i64 x.f8.f3], rfl, ⟨v3, rfl, g3⟩, ⟨[.bool x.f4], [v5, v6, .int .i64 x.f7, .int .i64 x.f8.f0, .int .i64 x.f8.f1, .int .i64 x.f8.f2, .int .i64 x.f8.f3], rfl, rfl, ⟨[v5], [v6, .int .i64 x.f7, .int .i64 x.f8.f0, .int .i64 x.f8.f1, .int .i64 x.f8.f2, .int .i64 x.f8.f3], rfl, ⟨v5, rfl, g5⟩, ⟨[v6], [.int .i64 x.f7, .int .i64 x.f8.f0, .int .i64 x.f8.f1, .int .i64 x.f8.f2, .int .i64 x.f8.f3], rfl, ⟨v6, rfl, g6⟩, ⟨[.int .i64 x.f7], [.int .i64 x.f8.f0, .int .i64 x.f8.f1, .int .i64 x.f8.f2, .int .i64 x.f8.f3], rfl, rfl, (k65_mkM w base ok x.f8 )⟩⟩⟩⟩⟩⟩⟩⟩
def rd_T67 (xs : List S67) (i : Int) : S67 := xs.getD i.toNat z67
theorem at_T67 {w : World} {A : Option Addr} {n : Nat} {xs : List S67} (h : Kd.C k67 w A n xs) (i : Int) (h0 : 0 ≤ i) (h1 : i < n) : ∃ ad A3 c3 A5 c5 A6 c6, A = some ad ∧ w.cell? (ad.add (i.toNat * 12)) = some (.int .i64 (rd_T67 xs i).f0) ∧ w.cell? ⟨(ad.add (i.toNat * 12)).block, (ad.add (i.toNat * 12)).off + 1, none⟩ = some (.int .i64 (rd_T67 xs i).f1) ∧ w.cell? ⟨(ad.add (i.toNat * 12)).block, (ad.add (i.toNat * 12)).off + 2, none⟩ = some (.int .i64 (rd_T67 xs i).f2) ∧ w.cell? ⟨(ad.add (i.toNat * 12)).block, (ad.add (i.toNat * 12)).off + 3, none⟩ = some (.slice A3 (rd_T67 xs i).f3.length c3) ∧ w.cell? ⟨(ad.add (i.toNat * 12)).block, (ad.add (i.toNat * 12)).off + 4, none⟩ = some (.bool (rd_T67 xs i).f4) ∧ w.cell? ⟨(ad.add (i.toNat * 12)).block, (ad.add (i.toNat * 12)).off + 5, none⟩ = some (.slice A5 (rd_T67 xs i).f5.length c5) ∧ w.cell? ⟨(ad.add (i.toNat * 12)).block, (ad.add (i.toNat * 12)).off + 6, none⟩ = some (.slice A6 (rd_T67 xs i).f6.length c6) ∧ w.cell? ⟨(ad.add (i.toNat * 12)).block, (ad.add (i.toNat * 12)).off + 7, none⟩ = some (.int .i64 (rd_T67 xs i).f7) ∧ w.cell? ⟨(ad.add (i.toNat * 12)).block, (ad.add (i.toNat * 12)).off + 8, none⟩ = some (.int .i64 (rd_T67 xs i).f8.f0) ∧ w.cell? ⟨(ad.add (i.toNat * 12)).block, (ad.add (i.toNat * 12)).off + 9, none⟩ = some (.int .i64 (rd_T67 xs i).f8.f1) ∧ w.cell? ⟨(ad.add (i.toNat * 12)).block, (ad.add (i.toNat * 12)).off + 10, none⟩ = some (.int .i64 (rd_T67 xs i).f8.f2) ∧ w.cell? ⟨(ad.add (i.toNat * 12)).block, (ad.add (i.toNat * 12)).off + 11, none⟩ = some (.int .i64 (rd_T67 xs i).f8.f3) ∧ (rd_T67 xs i).f3.length ≤ c3 ∧ k125.C w A3 (rd_T67 xs i).f3.length (rd_T67 xs i).f3 ∧ (rd_T67 xs i).f5.length ≤ c5 ∧ k45.C w A5 (rd_T67 xs i).f5.length (rd_T67 xs i).f5 ∧ (rd_T67 xs i).f6.length ≤ c6 ∧ k46.C w A6 (rd_T67 xs i).f6.length (rd_T67 xs i).f6 := by
  obtain ⟨ad, c, e, _, hK, hc0⟩ := Kd.C_get h z67 i h0 h1
  have hc : ∀ j u, c[j]? = some u → w.cell? (ad.add (i.toNat * 12 + j)) = some u := hc0
  obtain ⟨A3, c3, A5, c5, A6, c6, rfl, l3, g3, l5, g5, l6, g6⟩ := k67_open hK
  exact ⟨ad, A3, c3, A5, c5, A6, c6, e, hc 0 _ rfl, by rw [← add_field _ _ 1 (by omega)]; exact hc 1 _ rfl, by rw [← add_field _ _ 2 (by omega)]; exact hc 2 _ rfl, by rw [← add_field _ _ 3 (by omega)]; exact hc 3 _ rfl, by rw [← add_field _ _ 4 (by omega)]; exact hc 4 _ rfl, by rw [← add_field _ _ 5 (by omega)]; exact hc 5 _ rfl, by rw [← add_field _ _ 6 (by omega)]; exact hc 6 _ rfl, by rw [← add_field _ _ 7 (by omega)]; exact hc 7 _ rfl, by rw [← add_field _ _ 8 (by omega)]; exact hc 8 _ rfl, by rw [← add_field _ _ 9 (by omega)]; exact hc 9 _ rfl, by rw [← add_field _ _ 10 (by omega)]; exact hc 10 _ rfl, by rw [← add_field _ _ 11 (by omega)]; exact hc 11 _ rfl, l3, g3, l5, g5, l6, g6⟩
def G163 (x : S163) : Prop := x.f0.size ≤ 9223372036854775807 ∧ (Lit.int .i64 x.f1).wf = true ∧ (Lit.int .i64 x.f2).wf = true ∧ (Lit.int .i64 x.f3).wf = true ∧ (Lit.int .i64 x.f4).wf = true
theorem opn163 (W : World) : Opn Try.prog W 163 k163 G163 :=
  (Opn.struct (α := S163) (fun x : S163 => (x.f0, x.f1, x.f2, x.f3, x.f4)) (fun p => ⟨p.1, p.2.1, p.2.2.1, p.2.2.2.1, p.2.2.2.2⟩) (fun _ => rfl) Try.underlying163 (by kernel_rfl) (OpnF.cons rfl (Opn.string Try.underlying9 (by kernel_rfl)) (OpnF.cons rfl (Opn.int Try.underlying3 (by kernel_rfl)) (OpnF.cons rfl (Opn.int Try.underlying3 (by kernel_rfl)) (OpnF.cons rfl (Opn.int Try.underlying3 (by kernel_rfl)) (OpnF.one rfl (Opn.int Try.underlying3 (by kernel_rfl)))))))).imp (fun _ h => h)
def G38 (x : S38) : Prop := (Lit.int .i64 x.f0).wf = true ∧ x.f1.size ≤ 9223372036854775807 ∧ (Lit.int .i64 x.f2).wf = true ∧ (Lit.int .i64 x.f3).wf = true ∧ (Lit.int .i64 x.f4).wf = true ∧ x.f5.size ≤ 9223372036854775807 ∧ (Lit.int .i64 x.f6).wf = true ∧ (Lit.int .i64 x.f7).wf = true
theorem opn38 (W : World) : Opn Try.prog W 38 k38 G38 :=
  (Opn.struct (α := S38) (fun x : S38 => (x.f0, x.f1, x.f2, x.f3, x.f4, x.f5, x.f6, x.f7)) (fun p => ⟨p.1, p.2.1, p.2.2.1, p.2.2.2.1, p.2.2.2.2.1, p.2.2.2.2.2.1, p.2.2.2.2.2.2.1, p.2.2.2.2.2.2.2⟩) (fun _ => rfl) Try.underlying38 (by kernel_rfl) (OpnF.cons rfl (Opn.int Try.underlying3 (by kernel_rfl)) (OpnF.cons rfl (Opn.string Try.underlying9 (by kernel_rfl)) (OpnF.cons rfl (Opn.int Try.underlying3 (by kernel_rfl)) (OpnF.cons rfl (Opn.int Try.underlying3 (by kernel_rfl)) (OpnF.cons rfl (Opn.int Try.underlying3 (by kernel_rfl)) (OpnF.cons rfl (Opn.string Try.underlying9 (by kernel_rfl)) (OpnF.cons rfl (Opn.int Try.underlying3 (by kernel_rfl)) (OpnF.one rfl (Opn.int Try.underlying3 (by kernel_rfl))))))))))).imp (fun _ h => h)
def G40 (x : S40) : Prop := (Lit.int .i64 x.f0).wf = true ∧ x.f1.size ≤ 9223372036854775807 ∧ (Lit.int .i64 x.f2).wf = true ∧ (Lit.int .i64 x.f3).wf = true ∧ (Lit.int .i64 x.f4).wf = true ∧ (Lit.int .i64 x.f5).wf = true ∧ (Lit.int .i64 x.f6).wf = true
theorem opn40 (W : World) : Opn Try.prog W 40 k40 G40 :=
  (Opn.struct (α := S40) (fun x : S40 => (x.f0, x.f1, x.f2, x.f3, x.f4, x.f5, x.f6)) (fun p => ⟨p.1, p.2.1, p.2.2.1, p.2.2.2.1, p.2.2.2.2.1, p.2.2.2.2.2.1, p.2.2.2.2.2.2⟩) (fun _ => rfl) Try.underlying40 (by kernel_rfl) (OpnF.cons rfl (Opn.int Try.underlying3 (by kernel_rfl)) (OpnF.cons rfl (Opn.string Try.underlying9 (by kernel_rfl)) (OpnF.cons rfl (Opn.int Try.underlying3 (by kernel_rfl)) (OpnF.cons rfl (Opn.int Try.underlying3 (by kernel_rfl)) (OpnF.cons rfl (Opn.int Try.underlying3 (by kernel_rfl)) (OpnF.cons rfl (Opn.int Try.underlying3 (by kernel_rfl)) (OpnF.one rfl (Opn.int Try.underlying3 (by kernel_rfl)))))))))).imp (fun _ h => h)
def G57 (x : S57) : Prop := (Lit.int .i64 x.f0).wf = true ∧ (Lit.int .i64 x.f1).wf = true ∧ (Lit.int .i64 x.f2).wf = true ∧ (Lit.int .i64 x.f3).wf = true
theorem opn57 (W : World) : Opn Try.prog W 57 k57 G57 :=
  (Opn.struct (α := S57) (fun x : S57 => (x.f0, x.f1, x.f2, x.f3)) (fun p => ⟨p.1, p.2.1, p.2.2.1, p.2.2.2⟩) (fun _ => rfl) Try.underlying57 (by kernel_rfl) (OpnF.cons rfl (Opn.int Try.underlying3 (by kernel_rfl)) (OpnF.cons rfl (Opn.int Try.underlying3 (by kernel_rfl)) (OpnF.cons rfl (Opn.int Try.underlying3 (by kernel_rfl)) (OpnF.one rfl (Opn.int Try.underlying3 (by kernel_rfl))))))).imp (fun _ h => h)
def G59 (x : S59) : Prop := (Lit.int .i64 x.f0).wf = true ∧ (Lit.int .i64 x.f1).wf = true ∧ (Lit.int .i64 x.f2).wf = true ∧ (x.f3.length ≤ 9223372036854775807 ∧ ∀ y_ ∈ x.f3, G163 y_) ∧ True ∧ (x.f5.length ≤ 9223372036854775807 ∧ ∀ y_ ∈ x.f5, G38 y_) ∧ (x.f6.length ≤ 9223372036854775807 ∧ ∀ y_ ∈ x.f6, G40 y_) ∧ (Lit.int .i64 x.f7).wf = true ∧ G57 x.f8
theorem opn59 (W : World) : Opn Try.prog W 59 k59 G59 :=
  (Opn.struct (α := S59) (fun x : S59 => (x.f0, x.f1, x.f2, x.f3, x.f4, x.f5, x.f6, x.f7, x.f8)) (fun p => ⟨p.1, p.2.1, p.2.2.1, p.2.2.2.1, p.2.2.2.2.1, p.2.2.2.2.2.1, p.2.2.2.2.2.2.1, p.2.2.2.2.2.2.2.1, p.2.2.2.2.2.2.2.2⟩) (fun _ => rfl) Try.underlying59 (by kernel_rfl) (OpnF.cons rfl (Opn.int Try.underlying3 (by kernel_rfl)) (OpnF.cons rfl (Opn.int Try.underlying3 (by kernel_rfl)) (OpnF.cons rfl (Opn.int Try.underlying3 (by kernel_rfl)) (OpnF.cons rfl (Opn.slice Try.underlying53 (by kernel_rfl) (opn163 W)) (OpnF.cons rfl (Opn.bool Try.underlying4 (by kernel_rfl)) (OpnF.cons rfl (Opn.slice Try.underlying54 (by kernel_rfl) (opn38 W)) (OpnF.cons rfl (Opn.slice Try.underlying55 (by kernel_rfl) (opn40 W)) (OpnF.cons rfl (Opn.int Try.underlying3 (by kernel_rfl)) (OpnF.one rfl (opn57 W))))))))))).imp (fun _ h => h)
def Pure : Prop := ∀ (x0 : S59), G59 x0 → ∃ k, laws_FnExactHouseOk.f k x0.f0 x0.f1 x0.f2 x0.f3 x0.f4 x0.f5 x0.f6 x0.f7 x0.f8.f0 x0.f8.f1 x0.f8.f2 x0.f8.f3 = some true
end Go.Proofs.Ytahfemlfdpbkkaa.VFnExactHouseOk
namespace Go.Proofs.Ytahfemlfdpbkkaa.Pure
open Go.RowKit Go.Proofs.Ytahfemlfdpbkkaa.PFnExactHouseOk Go.Proofs.Ytahfemlfdpbkkaa.VFnExactHouseOk Go.Proofs.YtahfemlfdpbkkaaW.PrintWords Go.Proofs.YtahfemlfdpbkkaaW.PrintLast Go.Proofs.YtahfemlfdpbkkaaV
set_option linter.unusedVariables false
set_option linter.unusedSimpArgs false
set_option maxRecDepth 20000
def szv_Db (x : S163) : Nat := x.f0.size
theorem sz_Db (x : S163) (hG : G163 x) (left : Int) (h0 : 0 ≤ left) (h1 : left ≤ 1048576) :
    ∃ t, Ev (fun k => laws_szDb.f x.f0 x.f1 x.f2 x.f3 x.f4 left) t ∧ (t < 0 ∨ 0 ≤ t ∧ t + (szv_Db x : Int) = left) := by
  obtain ⟨g0, g1, g2, g3, g4⟩ := hG
  unfold laws_szDb.f szv_Db
  have e0 : wrap64 (left - (x.f0.size : Int)) = left - (x.f0.size : Int) := w64 (by omega) (by omega)
  simp only [e0]
  by_cases c0 : left - (x.f0.size : Int) < 0
  · exact ⟨-1, ev_pos c0 (ev_now _), .inl (by omega)⟩
  exact ⟨_, ev_neg c0 (ev_now _), .inr ⟨by omega, by omega⟩⟩
def szl_DbS (l : List S163) : Nat := l.length + (l.map szv_Db).sum
theorem sz_DbS_l0 (l : List S163) (hG : ∀ x ∈ l, G163 x) (hl : l.length ≤ 9223372036854775807) (d : Nat) : ∀ (i : Nat) (left : Int), i + d = l.length → 0 ≤ left → left ≤ 1048576 →
    ∃ t, Ev (fun k => laws_szDbS.l0 k l left (i : Int)) t ∧ (t < 0 ∨ 0 ≤ t ∧ t + (((l.drop i).map szv_Db).sum : Nat) = left) := by
  induction d with
  | zero =>
    intro i left hi h0 h1
    refine ⟨left, ev_step (fun k => laws_szDbS.l0.eq_2 ..) (ev_neg (by omega) (ev_now _)), .inr ⟨h0, ?_⟩⟩
    rw [List.drop_of_length_le (by omega)]
    simp
  | succ d ih =>
    intro i left hi h0 h1
    have hlt : i < l.length := by omega
    have hg := hG l[i] (List.getElem_mem hlt)
    have hd : l.drop i = l[i] :: l.drop (i + 1) := List.drop_eq_getElem_cons hlt
    have hr : rd_T163 l (i : Int) = l[i] := getD_nth _ l i hlt
    obtain ⟨t1, et1, ct1⟩ := sz_Db l[i] hg left h0 h1
    rcases ct1 with ct1 | ⟨ct1, dt1⟩
    · refine ⟨-1, ev_step (fun k => laws_szDbS.l0.eq_2 ..) (ev_pos (by omega) (ev_pos (by omega) ?_)), .inl (by omega)⟩
      simp only [hr]
      exact ev_bind et1 (ev_pos ct1 (ev_now _))
    · obtain ⟨t, et, ct⟩ := ih (i + 1) t1 (by omega) ct1 (by omega)
      refine ⟨t, ev_step (fun k => laws_szDbS.l0.eq_2 ..) (ev_pos (by omega) (ev_pos (by omega) ?_)), ?_⟩
      · simp only [hr]
        rw [w64 (by omega) (by omega)]
        exact ev_bind et1 (ev_neg (by omega) et)
      · rw [hd, List.map_cons, List.sum_cons]
        omega
theorem sz_DbS (l : List S163) (hl : l.length ≤ 9223372036854775807) (hG : ∀ x ∈ l, G163 x) (left : Int) (h0 : 0 ≤ left) (h1 : left ≤ 1048576) :
    ∃ t, Ev (fun k => laws_szDbS.f k l left) t ∧ (t < 0 ∨ 0 ≤ t ∧ t + (szl_DbS l : Int) = left) := by
  unfold laws_szDbS.f szl_DbS
  have e : wrap64 (left - (l.length : Int)) = left - (l.length : Int) := w64 (by omega) (by omega)
  simp only [e]
  by_cases hc : left - (l.length : Int) < 0
  · exact ⟨-1, ev_pos hc (ev_now _), .inl (by omega)⟩
  · obtain ⟨t, et, ct⟩ := sz_DbS_l0 l hG hl l.length 0 (left - (l.length : Int)) (by omega) (by omega) (by omega)
    refine ⟨t, ev_neg hc et, ?_⟩
    rw [List.drop_zero] at ct
    omega
def szv_Asker (x : S38) : Nat := x.f1.size + x.f5.size
theorem sz_Asker (x : S38) (hG : G38 x) (left : Int) (h0 : 0 ≤ left) (h1 : left ≤ 1048576) :
    ∃ t, Ev (fun k => laws_szAsker.f x.f0 x.f1 x.f2 x.f3 x.f4 x.f5 x.f6 x.f7 left) t ∧ (t < 0 ∨ 0 ≤ t ∧ t + (szv_Asker x : Int) = left) := by
  obtain ⟨g0, g1, g2, g3, g4, g5, g6, g7⟩ := hG
  unfold laws_szAsker.f szv_Asker
  have e1 : wrap64 (left - (x.f1.size : Int)) = left - (x.f1.size : Int) := w64 (by omega) (by omega)
  simp only [e1]
  by_cases c1 : left - (x.f1.size : Int) < 0
  · exact ⟨-1, ev_pos c1 (ev_now _), .inl (by omega)⟩
  have e5 : wrap64 ((left - (x.f1.size : Int)) - (x.f5.size : Int)) = (left - (x.f1.size : Int)) - (x.f5.size : Int) := w64 (by omega) (by omega)
  simp only [e5]
  by_cases c5 : (left - (x.f1.size : Int)) - (x.f5.size : Int) < 0
  · exact ⟨-1, ev_neg c1 (ev_pos c5 (ev_now _)), .inl (by omega)⟩
  exact ⟨_, ev_neg c1 (ev_neg c5 (ev_now _)), .inr ⟨by omega, by omega⟩⟩
def szl_AskerS (l : List S38) : Nat := l.length + (l.map szv_Asker).sum
theorem sz_AskerS_l0 (l : List S38) (hG : ∀ x ∈ l, G38 x) (hl : l.length ≤ 9223372036854775807) (d : Nat) : ∀ (i : Nat) (left : Int), i + d = l.length → 0 ≤ left → left ≤ 1048576 →
    ∃ t, Ev (fun k => laws_szAskerS.l0 k l left (i : Int)) t ∧ (t < 0 ∨ 0 ≤ t ∧ t + (((l.drop i).map szv_Asker).sum : Nat) = left) := by
  induction d with
  | zero =>
    intro i left hi h0 h1
    refine ⟨left, ev_step (fun k => laws_szAskerS.l0.eq_2 ..) (ev_neg (by omega) (ev_now _)), .inr ⟨h0, ?_⟩⟩
    rw [List.drop_of_length_le (by omega)]
    simp
  | succ d ih =>
    intro i left hi h0 h1
    have hlt : i < l.length := by omega
    have hg := hG l[i] (List.getElem_mem hlt)
    have hd : l.drop i = l[i] :: l.drop (i + 1) := List.drop_eq_getElem_cons hlt
    have hr : rd_T38 l (i : Int) = l[i] := getD_nth _ l i hlt
    obtain ⟨t1, et1, ct1⟩ := sz_Asker l[i] hg left h0 h1
    rcases ct1 with ct1 | ⟨ct1, dt1⟩
    · refine ⟨-1, ev_step (fun k => laws_szAskerS.l0.eq_2 ..) (ev_pos (by omega) (ev_pos (by omega) ?_)), .inl (by omega)⟩
      simp only [hr]
      exact ev_bind et1 (ev_pos ct1 (ev_now _))
    · obtain ⟨t, et, ct⟩ := ih (i + 1) t1 (by omega) ct1 (by omega)
      refine ⟨t, ev_step (fun k => laws_szAskerS.l0.eq_2 ..) (ev_pos (by omega) (ev_pos (by omega) ?_)), ?_⟩
      · simp only [hr]
        rw [w64 (by omega) (by omega)]
        exact ev_bind et1 (ev_neg (by omega) et)
      · rw [hd, List.map_cons, List.sum_cons]
        omega
theorem sz_AskerS (l : List S38) (hl : l.length ≤ 9223372036854775807) (hG : ∀ x ∈ l, G38 x) (left : Int) (h0 : 0 ≤ left) (h1 : left ≤ 1048576) :
    ∃ t, Ev (fun k => laws_szAskerS.f k l left) t ∧ (t < 0 ∨ 0 ≤ t ∧ t + (szl_AskerS l : Int) = left) := by
  unfold laws_szAskerS.f szl_AskerS
  have e : wrap64 (left - (l.length : Int)) = left - (l.length : Int) := w64 (by omega) (by omega)
  simp only [e]
  by_cases hc : left - (l.length : Int) < 0
  · exact ⟨-1, ev_pos hc (ev_now _), .inl (by omega)⟩
  · obtain ⟨t, et, ct⟩ := sz_AskerS_l0 l hG hl l.length 0 (left - (l.length : Int)) (by omega) (by omega) (by omega)
    refine ⟨t, ev_neg hc et, ?_⟩
    rw [List.drop_zero] at ct
    omega
def szv_Line (x : S40) : Nat := x.f1.size
theorem sz_Line (x : S40) (hG : G40 x) (left : Int) (h0 : 0 ≤ left) (h1 : left ≤ 1048576) :
    ∃ t, Ev (fun k => laws_szLine.f x.f0 x.f1 x.f2 x.f3 x.f4 x.f5 x.f6 left) t ∧ (t < 0 ∨ 0 ≤ t ∧ t + (szv_Line x : Int) = left) := by
  obtain ⟨g0, g1, g2, g3, g4, g5, g6⟩ := hG
  unfold laws_szLine.f szv_Line
  have e1 : wrap64 (left - (x.f1.size : Int)) = left - (x.f1.size : Int) := w64 (by omega) (by omega)
  simp only [e1]
  by_cases c1 : left - (x.f1.size : Int) < 0
  · exact ⟨-1, ev_pos c1 (ev_now _), .inl (by omega)⟩
  exact ⟨_, ev_neg c1 (ev_now _), .inr ⟨by omega, by omega⟩⟩
def szl_LineS (l : List S40) : Nat := l.length + (l.map szv_Line).sum
theorem sz_LineS_l0 (l : List S40) (hG : ∀ x ∈ l, G40 x) (hl : l.length ≤ 9223372036854775807) (d : Nat) : ∀ (i : Nat) (left : Int), i + d = l.length → 0 ≤ left → left ≤ 1048576 →
    ∃ t, Ev (fun k => laws_szLineS.l0 k l left (i : Int)) t ∧ (t < 0 ∨ 0 ≤ t ∧ t + (((l.drop i).map szv_Line).sum : Nat) = left) := by
  induction d with
  | zero =>
    intro i left hi h0 h1
    refine ⟨left, ev_step (fun k => laws_szLineS.l0.eq_2 ..) (ev_neg (by omega) (ev_now _)), .inr ⟨h0, ?_⟩⟩
    rw [List.drop_of_length_le (by omega)]
    simp
  | succ d ih =>
    intro i left hi h0 h1
    have hlt : i < l.length := by omega
    have hg := hG l[i] (List.getElem_mem hlt)
    have hd : l.drop i = l[i] :: l.drop (i + 1) := List.drop_eq_getElem_cons hlt
    have hr : rd_T40 l (i : Int) = l[i] := getD_nth _ l i hlt
    obtain ⟨t1, et1, ct1⟩ := sz_Line l[i] hg left h0 h1
    rcases ct1 with ct1 | ⟨ct1, dt1⟩
    · refine ⟨-1, ev_step (fun k => laws_szLineS.l0.eq_2 ..) (ev_pos (by omega) (ev_pos (by omega) ?_)), .inl (by omega)⟩
      simp only [hr]
      exact ev_bind et1 (ev_pos ct1 (ev_now _))
    · obtain ⟨t, et, ct⟩ := ih (i + 1) t1 (by omega) ct1 (by omega)
      refine ⟨t, ev_step (fun k => laws_szLineS.l0.eq_2 ..) (ev_pos (by omega) (ev_pos (by omega) ?_)), ?_⟩
      · simp only [hr]
        rw [w64 (by omega) (by omega)]
        exact ev_bind et1 (ev_neg (by omega) et)
      · rw [hd, List.map_cons, List.sum_cons]
        omega
theorem sz_LineS (l : List S40) (hl : l.length ≤ 9223372036854775807) (hG : ∀ x ∈ l, G40 x) (left : Int) (h0 : 0 ≤ left) (h1 : left ≤ 1048576) :
    ∃ t, Ev (fun k => laws_szLineS.f k l left) t ∧ (t < 0 ∨ 0 ≤ t ∧ t + (szl_LineS l : Int) = left) := by
  unfold laws_szLineS.f szl_LineS
  have e : wrap64 (left - (l.length : Int)) = left - (l.length : Int) := w64 (by omega) (by omega)
  simp only [e]
  by_cases hc : left - (l.length : Int) < 0
  · exact ⟨-1, ev_pos hc (ev_now _), .inl (by omega)⟩
  · obtain ⟨t, et, ct⟩ := sz_LineS_l0 l hG hl l.length 0 (left - (l.length : Int)) (by omega) (by omega) (by omega)
    refine ⟨t, ev_neg hc et, ?_⟩
    rw [List.drop_zero] at ct
    omega
def szv_House (x : S59) : Nat := szl_DbS x.f3 + szl_AskerS x.f5 + szl_LineS x.f6
theorem sz_House (x : S59) (hG : G59 x) (left : Int) (h0 : 0 ≤ left) (h1 : left ≤ 1048576) :
    ∃ t, Ev (fun k => laws_szHouse.f k x.f0 x.f1 x.f2 x.f3 x.f4 x.f5 x.f6 x.f7 x.f8.f0 x.f8.f1 x.f8.f2 x.f8.f3 left) t ∧ (t < 0 ∨ 0 ≤ t ∧ t + (szv_House x : Int) = left) := by
  obtain ⟨g0, g1, g2, g3, g4, g5, g6, g7, g8⟩ := hG
  unfold laws_szHouse.f szv_House
  obtain ⟨t3, et3, ct3⟩ := sz_DbS x.f3 g3.1 g3.2 (left) (by omega) (by omega)
  rcases ct3 with ct3 | ⟨ct3, dt3⟩
  · exact ⟨-1, ev_bind et3 (ev_pos ct3 (ev_now _)), .inl (by omega)⟩
  obtain ⟨t5, et5, ct5⟩ := sz_AskerS x.f5 g5.1 g5.2 (t3) (by omega) (by omega)
  rcases ct5 with ct5 | ⟨ct5, dt5⟩
  · exact ⟨-1, ev_bind et3 (ev_neg (by omega) (ev_bind et5 (ev_pos ct5 (ev_now _)))), .inl (by omega)⟩
  obtain ⟨t6, et6, ct6⟩ := sz_LineS x.f6 g6.1 g6.2 (t5) (by omega) (by omega)
  rcases ct6 with ct6 | ⟨ct6, dt6⟩
  · exact ⟨-1, ev_bind et3 (ev_neg (by omega) (ev_bind et5 (ev_neg (by omega) (ev_bind et6 (ev_pos ct6 (ev_now _)))))), .inl (by omega)⟩
  exact ⟨_, ev_bind et3 (ev_neg (by omega) (ev_bind et5 (ev_neg (by omega) (ev_bind et6 (ev_neg (by omega) (ev_now _)))))), .inr ⟨by omega, by omega⟩⟩
def cv_Db (x : S163) : S125 := ⟨x.f0, x.f1, x.f2, x.f3, x.f4⟩
theorem to_Db (x : S163) (hs : szv_Db x ≤ 1048576) : Ev (fun k => laws_toDb.f x.f0 x.f1 x.f2 x.f3 x.f4) ((cv_Db x).f0, (cv_Db x).f1, (cv_Db x).f2, (cv_Db x).f3, (cv_Db x).f4) := by
  unfold szv_Db at hs
  unfold laws_toDb.f
  exact ev_now _
theorem to_DbS_l0 (l : List S163) (hs : szl_DbS l ≤ 1048576) (d : Nat) : ∀ (i : Nat) (x : List S125), i + d = l.length → x.length = l.length → x.take i = (l.map cv_Db).take i → Ev (fun k => laws_toDbS.l0 k l x (i : Int)) (l.map cv_Db) := by
  have hl : l.length ≤ 1048576 := by unfold szl_DbS at hs; omega
  induction d with
  | zero =>
    intro i x hi hx ht
    refine ev_as (ev_step (fun k => laws_toDbS.l0.eq_2 ..) (ev_neg (by omega) (ev_now _))) ?_
    rw [List.take_of_length_le (by omega), List.take_of_length_le (by first | omega | (simp; omega))] at ht
    exact ht
  | succ d ih =>
    intro i x hi hx ht
    have hlt : i < l.length := by omega
    have hr : rd_T163 l (i : Int) = l[i] := getD_nth _ l i hlt
    refine ev_step (fun k => laws_toDbS.l0.eq_2 ..) (ev_pos (by omega) (ev_pos (by omega) ?_))
    have he := to_Db l[i] (by have := mem_sum szv_Db l l[i] (List.getElem_mem hlt); unfold szl_DbS at hs; omega)
    simp only [hr]
    refine ev_bind he ?_
    refine ev_pos (by omega) ?_
    rw [Int.toNat_natCast, w64 (by omega) (by omega)]
    exact ih (i + 1) _ (by omega) (by simp; omega) (take_set x (l.map cv_Db) i _ (by first | omega | (simp; omega)) (by first | omega | (simp; omega)) ht (by first | (simp; done) | (simp; rfl) | rfl))
theorem to_DbS (l : List S163) (hs : szl_DbS l ≤ 1048576) : Ev (fun k => laws_toDbS.f k l) (l.map cv_Db) := by
  have hl : l.length ≤ 1048576 := by unfold szl_DbS at hs; omega
  unfold laws_toDbS.f
  refine ev_pos (by omega) (ev_pos (by simp; omega) ?_)
  exact to_DbS_l0 l hs l.length 0 _ (by omega) (by simp) (by simp)
def cv_Asker (x : S38) : S45 := ⟨x.f0, x.f1, x.f2, x.f3, x.f4, x.f5, x.f6, x.f7⟩
theorem to_Asker (x : S38) (hs : szv_Asker x ≤ 1048576) : Ev (fun k => laws_toAsker.f x.f0 x.f1 x.f2 x.f3 x.f4 x.f5 x.f6 x.f7) ((cv_Asker x).f0, (cv_Asker x).f1, (cv_Asker x).f2, (cv_Asker x).f3, (cv_Asker x).f4, (cv_Asker x).f5, (cv_Asker x).f6, (cv_Asker x).f7) := by
  unfold szv_Asker at hs
  unfold laws_toAsker.f
  exact ev_now _
theorem to_AskerS_l0 (l : List S38) (hs : szl_AskerS l ≤ 1048576) (d : Nat) : ∀ (i : Nat) (x : List S45), i + d = l.length → x.length = l.length → x.take i = (l.map cv_Asker).take i → Ev (fun k => laws_toAskerS.l0 k l x (i : Int)) (l.map cv_Asker) := by
  have hl : l.length ≤ 1048576 := by unfold szl_AskerS at hs; omega
  induction d with
  | zero =>
    intro i x hi hx ht
    refine ev_as (ev_step (fun k => laws_toAskerS.l0.eq_2 ..) (ev_neg (by omega) (ev_now _))) ?_
    rw [List.take_of_length_le (by omega), List.take_of_length_le (by first | omega | (simp; omega))] at ht
    exact ht
  | succ d ih =>
    intro i x hi hx ht
    have hlt : i < l.length := by omega
    have hr : rd_T38 l (i : Int) = l[i] := getD_nth _ l i hlt
    refine ev_step (fun k => laws_toAskerS.l0.eq_2 ..) (ev_pos (by omega) (ev_pos (by omega) ?_))
    have he := to_Asker l[i] (by have := mem_sum szv_Asker l l[i] (List.getElem_mem hlt); unfold szl_AskerS at hs; omega)
    simp only [hr]
    refine ev_bind he ?_
    refine ev_pos (by omega) ?_
    rw [Int.toNat_natCast, w64 (by omega) (by omega)]
    exact ih (i + 1) _ (by omega) (by simp; omega) (take_set x (l.map cv_Asker) i _ (by first | omega | (simp; omega)) (by first | omega | (simp; omega)) ht (by first | (simp; done) | (simp; rfl) | rfl))
theorem to_AskerS (l : List S38) (hs : szl_AskerS l ≤ 1048576) : Ev (fun k => laws_toAskerS.f k l) (l.map cv_Asker) := by
  have hl : l.length ≤ 1048576 := by unfold szl_AskerS at hs; omega
  unfold laws_toAskerS.f
  refine ev_pos (by omega) (ev_pos (by simp; omega) ?_)
  exact to_AskerS_l0 l hs l.length 0 _ (by omega) (by simp) (by simp)
def cv_Line (x : S40) : S46 := ⟨x.f0, x.f1, x.f2, x.f3, x.f4, x.f5, x.f6⟩
theorem to_Line (x : S40) (hs : szv_Line x ≤ 1048576) : Ev (fun k => laws_toLine.f x.f0 x.f1 x.f2 x.f3 x.f4 x.f5 x.f6) ((cv_Line x).f0, (cv_Line x).f1, (cv_Line x).f2, (cv_Line x).f3, (cv_Line x).f4, (cv_Line x).f5, (cv_Line x).f6) := by
  unfold szv_Line at hs
  unfold laws_toLine.f
  exact ev_now _
theorem to_LineS_l0 (l : List S40) (hs : szl_LineS l ≤ 1048576) (d : Nat) : ∀ (i : Nat) (x : List S46), i + d = l.length → x.length = l.length → x.take i = (l.map cv_Line).take i → Ev (fun k => laws_toLineS.l0 k l x (i : Int)) (l.map cv_Line) := by
  have hl : l.length ≤ 1048576 := by unfold szl_LineS at hs; omega
  induction d with
  | zero =>
    intro i x hi hx ht
    refine ev_as (ev_step (fun k => laws_toLineS.l0.eq_2 ..) (ev_neg (by omega) (ev_now _))) ?_
    rw [List.take_of_length_le (by omega), List.take_of_length_le (by first | omega | (simp; omega))] at ht
    exact ht
  | succ d ih =>
    intro i x hi hx ht
    have hlt : i < l.length := by omega
    have hr : rd_T40 l (i : Int) = l[i] := getD_nth _ l i hlt
    refine ev_step (fun k => laws_toLineS.l0.eq_2 ..) (ev_pos (by omega) (ev_pos (by omega) ?_))
    have he := to_Line l[i] (by have := mem_sum szv_Line l l[i] (List.getElem_mem hlt); unfold szl_LineS at hs; omega)
    simp only [hr]
    refine ev_bind he ?_
    refine ev_pos (by omega) ?_
    rw [Int.toNat_natCast, w64 (by omega) (by omega)]
    exact ih (i + 1) _ (by omega) (by simp; omega) (take_set x (l.map cv_Line) i _ (by first | omega | (simp; omega)) (by first | omega | (simp; omega)) ht (by first | (simp; done) | (simp; rfl) | rfl))
theorem to_LineS (l : List S40) (hs : szl_LineS l ≤ 1048576) : Ev (fun k => laws_toLineS.f k l) (l.map cv_Line) := by
  have hl : l.length ≤ 1048576 := by unfold szl_LineS at hs; omega
  unfold laws_toLineS.f
  refine ev_pos (by omega) (ev_pos (by simp; omega) ?_)
  exact to_LineS_l0 l hs l.length 0 _ (by omega) (by simp) (by simp)
def cv_Hand (x : S57) : S65 := ⟨x.f0, x.f1, x.f2, x.f3⟩
theorem to_Hand (x : S57) : Ev (fun k => laws_toHand.f x.f0 x.f1 x.f2 x.f3) ((cv_Hand x).f0, (cv_Hand x).f1, (cv_Hand x).f2, (cv_Hand x).f3) := by
  unfold laws_toHand.f
  exact ev_now _
def cv_House (x : S59) : S67 := ⟨x.f0, x.f1, x.f2, (x.f3.map cv_Db), x.f4, (x.f5.map cv_Asker), (x.f6.map cv_Line), x.f7, (cv_Hand x.f8)⟩
theorem to_House (x : S59) (hs : szv_House x ≤ 1048576) : Ev (fun k => laws_toHouse.f k x.f0 x.f1 x.f2 x.f3 x.f4 x.f5 x.f6 x.f7 x.f8.f0 x.f8.f1 x.f8.f2 x.f8.f3) ((cv_House x).f0, (cv_House x).f1, (cv_House x).f2, (cv_House x).f3, (cv_House x).f4, (cv_House x).f5, (cv_House x).f6, (cv_House x).f7, (cv_House x).f8.f0, (cv_House x).f8.f1, (cv_House x).f8.f2, (cv_House x).f8.f3) := by
  unfold szv_House at hs
  unfold laws_toHouse.f
  refine ev_bind (to_DbS x.f3 (by omega)) ?_
  refine ev_bind (to_AskerS x.f5 (by omega)) ?_
  refine ev_bind (to_LineS x.f6 (by omega)) ?_
  refine ev_bind (to_Hand x.f8) ?_
  exact ev_now _
theorem eq_Db (x : S125) : Ev (fun k => laws_eqDb.f x.f0 x.f1 x.f2 x.f3 x.f4 x.f0 x.f1 x.f2 x.f3 x.f4) true := by
  unfold laws_eqDb.f
  exact ev_pos rfl (ev_pos rfl (ev_pos rfl (ev_pos rfl (ev_pos rfl (ev_now _)))))
def eqcl_DbS (l : List S125) : Prop := l.length ≤ 4611686018427387904
theorem eq_DbS_l0 (l : List S125) (hq : eqcl_DbS l) (d : Nat) : ∀ i : Nat, i + d = l.length → Ev (fun k => laws_eqDbS.l0 k l l (i : Int)) true := by
  have hl : l.length ≤ 4611686018427387904 := hq
  induction d with
  | zero =>
    intro i hi
    exact ev_step (fun k => laws_eqDbS.l0.eq_2 ..) (ev_neg (by omega) (ev_now _))
  | succ d ih =>
    intro i hi
    have hn := ih (i + 1) (by omega)
    have hlt : i < l.length := by omega
    refine ev_step (fun k => laws_eqDbS.l0.eq_2 ..) (ev_pos (by omega) (ev_pos (by omega) (ev_pos (by omega) ?_)))
    rw [w64 (by omega) (by omega)]
    exact ev_bind (eq_Db _) (ev_pos rfl hn)
theorem eq_DbS (l : List S125) (hq : eqcl_DbS l) : Ev (fun k => laws_eqDbS.f k l l) true := by
  unfold laws_eqDbS.f
  exact ev_pos rfl (eq_DbS_l0 l hq l.length 0 (by omega))
theorem eq_Asker (x : S45) : Ev (fun k => laws_eqAsker.f x.f0 x.f1 x.f2 x.f3 x.f4 x.f5 x.f6 x.f7 x.f0 x.f1 x.f2 x.f3 x.f4 x.f5 x.f6 x.f7) true := by
  unfold laws_eqAsker.f
  exact ev_pos rfl (ev_pos rfl (ev_pos rfl (ev_pos rfl (ev_pos rfl (ev_pos rfl (ev_pos rfl (ev_pos rfl (ev_now _))))))))
def eqcl_AskerS (l : List S45) : Prop := l.length ≤ 4611686018427387904
theorem eq_AskerS_l0 (l : List S45) (hq : eqcl_AskerS l) (d : Nat) : ∀ i : Nat, i + d = l.length → Ev (fun k => laws_eqAskerS.l0 k l l (i : Int)) true := by
  have hl : l.length ≤ 4611686018427387904 := hq
  induction d with
  | zero =>
    intro i hi
    exact ev_step (fun k => laws_eqAskerS.l0.eq_2 ..) (ev_neg (by omega) (ev_now _))
  | succ d ih =>
    intro i hi
    have hn := ih (i + 1) (by omega)
    have hlt : i < l.length := by omega
    refine ev_step (fun k => laws_eqAskerS.l0.eq_2 ..) (ev_pos (by omega) (ev_pos (by omega) (ev_pos (by omega) ?_)))
    rw [w64 (by omega) (by omega)]
    exact ev_bind (eq_Asker _) (ev_pos rfl hn)
theorem eq_AskerS (l : List S45) (hq : eqcl_AskerS l) : Ev (fun k => laws_eqAskerS.f k l l) true := by
  unfold laws_eqAskerS.f
  exact ev_pos rfl (eq_AskerS_l0 l hq l.length 0 (by omega))
theorem eq_Line (x : S46) : Ev (fun k => laws_eqLine.f x.f0 x.f1 x.f2 x.f3 x.f4 x.f5 x.f6 x.f0 x.f1 x.f2 x.f3 x.f4 x.f5 x.f6) true := by
  unfold laws_eqLine.f
  exact ev_pos rfl (ev_pos rfl (ev_pos rfl (ev_pos rfl (ev_pos rfl (ev_pos rfl (ev_pos rfl (ev_now _)))))))
def eqcl_LineS (l : List S46) : Prop := l.length ≤ 4611686018427387904
theorem eq_LineS_l0 (l : List S46) (hq : eqcl_LineS l) (d : Nat) : ∀ i : Nat, i + d = l.length → Ev (fun k => laws_eqLineS.l0 k l l (i : Int)) true := by
  have hl : l.length ≤ 4611686018427387904 := hq
  induction d with
  | zero =>
    intro i hi
    exact ev_step (fun k => laws_eqLineS.l0.eq_2 ..) (ev_neg (by omega) (ev_now _))
  | succ d ih =>
    intro i hi
    have hn := ih (i + 1) (by omega)
    have hlt : i < l.length := by omega
    refine ev_step (fun k => laws_eqLineS.l0.eq_2 ..) (ev_pos (by omega) (ev_pos (by omega) (ev_pos (by omega) ?_)))
    rw [w64 (by omega) (by omega)]
    exact ev_bind (eq_Line _) (ev_pos rfl hn)
theorem eq_LineS (l : List S46) (hq : eqcl_LineS l) : Ev (fun k => laws_eqLineS.f k l l) true := by
  unfold laws_eqLineS.f
  exact ev_pos rfl (eq_LineS_l0 l hq l.length 0 (by omega))
theorem eq_Hand (x : S65) : Ev (fun k => laws_eqHand.f x.f0 x.f1 x.f2 x.f3 x.f0 x.f1 x.f2 x.f3) true := by
  unfold laws_eqHand.f
  exact ev_pos rfl (ev_pos rfl (ev_pos rfl (ev_pos rfl (ev_now _))))
def eqc_House (x : S67) : Prop := eqcl_DbS x.f3 ∧ eqcl_AskerS x.f5 ∧ eqcl_LineS x.f6
theorem eq_House (x : S67) (hq : eqc_House x) : Ev (fun k => laws_eqHouse.f k x.f0 x.f1 x.f2 x.f3 x.f4 x.f5 x.f6 x.f7 x.f8.f0 x.f8.f1 x.f8.f2 x.f8.f3 x.f0 x.f1 x.f2 x.f3 x.f4 x.f5 x.f6 x.f7 x.f8.f0 x.f8.f1 x.f8.f2 x.f8.f3) true := by
  unfold laws_eqHouse.f
  exact ev_pos rfl (ev_pos rfl (ev_pos rfl (ev_bind (eq_DbS x.f3 (hq.1)) (ev_pos rfl (ev_neg (by simp) (ev_bind (eq_AskerS x.f5 (hq.2.1)) (ev_pos rfl (ev_bind (eq_LineS x.f6 (hq.2.2)) (ev_pos rfl (ev_pos rfl (ev_bind (eq_Hand x.f8) (ev_pos rfl (ev_now _)))))))))))))
theorem spec_l1In_eq (a b c : Int) : spec_l1In.f a b c = some (inB a b c) := by
  unfold spec_l1In.f inB
  by_cases h : b ≤ a <;> simp [h]
theorem spec_l9Time_eq (a : Int) : spec_l9Time.f a = some (inB a 0 100000) := by
  unfold spec_l9Time.f
  rw [spec_l1In_eq]
  rfl
theorem spec_l1Name_l0 (s : ByteArray) (hs : s.size ≤ 4611686018427387904) (d : Nat) : ∀ i : Int, 0 ≤ i → i + d = s.size → Ev (fun k => spec_l1Name.l0 k s i) (allF (byteIn s 97 122) i d && inB s.size 1 8) := by
  induction d with
  | zero =>
    intro i h0 h1
    refine ev_step (fun k => spec_l1Name.l0.eq_2 ..) ?_
    refine ev_neg (by omega) ?_
    rw [spec_l1In_eq]
    exact ev_now _
  | succ d ih =>
    intro i h0 h1
    refine ev_step (fun k => spec_l1Name.l0.eq_2 ..) ?_
    refine ev_pos (by omega) (ev_pos (by omega) ?_)
    refine ev_ite (fun c1 => ?_) (fun c1 => ev_ite (fun c2 => ?_) (fun c2 => ?_))
    · refine ev_as (ev_now _) ?_
      have : byteIn s 97 122 i = false := by rw [byteIn_false]; omega
      simp [allF, this]
    · refine ev_as (ev_now _) ?_
      have : byteIn s 97 122 i = false := by rw [byteIn_false]; omega
      simp [allF, this]
    · have : byteIn s 97 122 i = true := by rw [byteIn_iff]; omega
      rw [w64 (by omega) (by omega), allF, this, Bool.true_and]
      exact ih (i + 1) (by omega) (by omega)
theorem spec_l1Name_ev (s : ByteArray) (hs : s.size ≤ 4611686018427387904) : Ev (fun k => spec_l1Name.f k s) (nameB s) := spec_l1Name_l0 s hs s.size 0 (by omega) (by omega)
theorem spec_TextOk_l0 (s : ByteArray) (hs : s.size ≤ 4611686018427387904) (d : Nat) : ∀ i : Int, 0 ≤ i → i + d = s.size → i ≤ 101 → Ev (fun k => spec_TextOk.l0 k s i) (allF (byteIn s 32 126) i d && decide ((s.size : Int) ≤ 100)) := by
  induction d with
  | zero =>
    intro i h0 h1 h2
    refine ev_step (fun k => spec_TextOk.l0.eq_2 ..) ?_
    refine ev_neg (by omega) ?_
    refine ev_step (fun k => spec_TextOk.j1.eq_2 ..) ?_
    refine ev_neg (by decide) ?_
    exact ev_now _
  | succ d ih =>
    intro i h0 h1 h2
    refine ev_step (fun k => spec_TextOk.l0.eq_2 ..) ?_
    refine ev_pos (by omega) ?_
    refine ev_step (fun k => spec_TextOk.j1.eq_2 ..) ?_
    refine ev_ite (fun c0 => ?_) (fun c0 => ?_)
    · have c0' := of_decide_eq_true c0
      refine ev_pos (by omega) (ev_pos (by omega) ?_)
      refine ev_ite (fun c1 => ?_) (fun c1 => ev_ite (fun c2 => ?_) (fun c2 => ?_))
      · refine ev_as (ev_now _) ?_
        have : byteIn s 32 126 i = false := by rw [byteIn_false]; omega
        simp [allF, this]
      · refine ev_as (ev_now _) ?_
        have : byteIn s 32 126 i = false := by rw [byteIn_false]; omega
        simp [allF, this]
      · have : byteIn s 32 126 i = true := by rw [byteIn_iff]; omega
        rw [w64 (by omega) (by omega), allF, this, Bool.true_and]
        exact ih (i + 1) (by omega) (by omega) (by omega)
    · have c0' : ¬ i ≤ 100 := fun h => c0 (decide_eq_true h)
      refine ev_as (ev_now _) ?_
      have : decide ((s.size : Int) ≤ 100) = false := decide_eq_false (by omega)
      rw [this, Bool.and_false]
theorem spec_TextOk_ev (s : ByteArray) (hs : s.size ≤ 4611686018427387904) : Ev (fun k => spec_TextOk.f k s) (textB s) := spec_TextOk_l0 s hs s.size 0 (by omega) (by omega) (by omega)
def askerB (so : Int) (db : ByteArray) (st ti si : Int) (q : ByteArray) (li le : Int) : Bool :=
  inB so 1 9999 &&
    (if st = 0 then db.toList == ([] : List UInt8) && (ti == 0 && (si == 0 && (q.toList == ([] : List UInt8) && (li == 0 && le == 0))))
    else nameB db &&
      (if st = 1 then ti == 0 && (si == 0 && (q.toList == ([] : List UInt8) && (li == 0 && le == 0)))
      else if st = 2 then (li == 0 && le == 0) && (inB ti 0 65535 && (inB si 0 100000 && textB q))
      else if st = 3 ∨ st = 4 then (ti == 0 && (si == 0 && q.toList == ([] : List UInt8))) && (inB li 1 9999 && decide (le ≥ 1))
      else false))
theorem spec_AskerOk_j2 (b : Bool) (x0 : Int) (x1 : ByteArray) (x2 x3 x4 : Int) (x5 : ByteArray) (x6 x7 : Int) (h1 : x1.size ≤ 4611686018427387904) :
    Ev (fun k => spec_AskerOk.j2 k b x0 x1 x2 x3 x4 x5 x6 x7) (b && (nameB x1 && (inB x6 1 9999 && decide (x7 ≥ 1)))) := by
  refine ev_step (fun k => spec_AskerOk.j2.eq_2 ..) ?_
  refine ev_ite (fun c => ?_) (fun c => ?_)
  · refine ev_bind (spec_l1Name_ev _ h1) ?_
    refine ev_ite (fun c2 => ?_) (fun c2 => ?_)
    · refine ev_bind1 (spec_l1In_eq _ _ _) ?_
      refine ev_ite (fun c3 => ?_) (fun c3 => ?_)
      all_goals exact ev_as (ev_now _) (by simp_all)
    · exact ev_as (ev_now _) (by simp_all)
  · exact ev_as (ev_now _) (by simp_all)
theorem spec_AskerOk_j1 (b : Bool) (x0 : Int) (x1 : ByteArray) (x2 x3 x4 : Int) (x5 : ByteArray) (x6 x7 : Int) (h1 : x1.size ≤ 4611686018427387904) (h5 : x5.size ≤ 4611686018427387904) :
    Ev (fun k => spec_AskerOk.j1 k b x0 x1 x2 x3 x4 x5 x6 x7)
      (!b && (if x2 = 0 then x1.toList == ([] : List UInt8) else nameB x1 && (if x2 = 1 then true else if x2 = 2 then inB x3 0 65535 && (inB x4 0 100000 && textB x5) else if x2 = 3 ∨ x2 = 4 then inB x6 1 9999 && decide (x7 ≥ 1) else false))) := by
  refine ev_step (fun k => spec_AskerOk.j1.eq_2 ..) ?_
  refine ev_ite (fun c => ?_) (fun c => ?_)
  · exact ev_as (ev_now _) (by simp [c])
  have hb : b = false := by simpa using c
  subst hb
  refine ev_ite (fun c0 => ?_) (fun c0 => ev_ite (fun c1 => ?_) (fun c1 => ev_ite (fun c2 => ?_) (fun c2 => ev_ite (fun c3 => ?_) (fun c3 => ?_))))
  · exact ev_as (ev_now _) (by simp [c0])
  · exact ev_bind (spec_l1Name_ev _ h1) (ev_as (ev_now _) (by simp [c1]))
  · refine ev_bind (spec_l1Name_ev _ h1) ?_
    refine ev_ite (fun c3 => ?_) (fun c3 => ?_)
    · refine ev_bind1 (spec_l1In_eq _ _ _) ?_
      refine ev_ite (fun c4 => ?_) (fun c4 => ?_)
      · refine ev_bind1 (spec_l9Time_eq _) ?_
        refine ev_ite (fun c5 => ?_) (fun c5 => ?_)
        · exact ev_bind (spec_TextOk_ev _ h5) (ev_as (ev_now _) (by simp [c2, c3, c4, c5]))
        · exact ev_as (ev_now _) (by simp [c2, c5])
      · exact ev_as (ev_now _) (by simp [c2, c4])
    · exact ev_as (ev_now _) (by simp [c2, c3])
  · exact ev_as (spec_AskerOk_j2 _ _ _ _ _ _ _ _ _ h1) (by simp [c3])
  · refine ev_as (spec_AskerOk_j2 _ _ _ _ _ _ _ _ _ h1) ?_
    by_cases c4 : x2 = 4
    · simp [c4]
    · simp [c0, c1, c2, c3, c4]
theorem spec_AskerOk_j0 (b : Bool) (x0 : Int) (x1 : ByteArray) (x2 x3 x4 : Int) (x5 : ByteArray) (x6 x7 : Int) (h1 : x1.size ≤ 4611686018427387904) (h5 : x5.size ≤ 4611686018427387904) :
    Ev (fun k => spec_AskerOk.j0 k b x0 x1 x2 x3 x4 x5 x6 x7)
      (!b && (!(decide (x2 < 3) && !(x6 == 0 && x7 == 0)) && (if x2 = 0 then x1.toList == ([] : List UInt8) else nameB x1 && (if x2 = 1 then true else if x2 = 2 then inB x3 0 65535 && (inB x4 0 100000 && textB x5) else if x2 = 3 ∨ x2 = 4 then inB x6 1 9999 && decide (x7 ≥ 1) else false)))) := by
  refine ev_step (fun k => spec_AskerOk.j0.eq_2 ..) ?_
  refine ev_ite (fun c => ?_) (fun c => ?_)
  · exact ev_as (ev_now _) (by simp [c])
  have hb : b = false := by simpa using c
  subst hb
  refine ev_ite (fun c0 => ev_ite (fun c1 => ?_) (fun c1 => ?_)) (fun c0 => ?_)
  · refine ev_as (spec_AskerOk_j1 _ _ _ _ _ _ _ _ _ h1 h5) ?_
    subst c1
    by_cases c2 : x7 = 0
    · simp [c2]
    · simp [c0, c2, bne]
  · refine ev_as (spec_AskerOk_j1 _ _ _ _ _ _ _ _ _ h1 h5) ?_
    simp [c0, c1]
  · refine ev_as (spec_AskerOk_j1 _ _ _ _ _ _ _ _ _ h1 h5) ?_
    simp [c0]
theorem spec_AskerOk_core (x0 : Int) (x1 : ByteArray) (x2 x3 x4 : Int) (x5 : ByteArray) (x6 x7 : Int) (h1 : x1.size ≤ 4611686018427387904) (h5 : x5.size ≤ 4611686018427387904) : Ev (fun k => spec_AskerOk.f k x0 x1 x2 x3 x4 x5 x6 x7) (askerB x0 x1 x2 x3 x4 x5 x6 x7) := by
  unfold spec_AskerOk.f askerB
  refine ev_bind1 (spec_l1In_eq _ _ _) ?_
  have key : ∀ b : Bool, (b = !(decide (x2 = 2) || (x3 == 0 && (x4 == 0 && x5.toList == ([] : List UInt8))))) → inB x0 1 9999 = true →
      Ev (fun k => spec_AskerOk.j0 k b x0 x1 x2 x3 x4 x5 x6 x7) (inB x0 1 9999 &&
    (if x2 = 0 then x1.toList == ([] : List UInt8) && (x3 == 0 && (x4 == 0 && (x5.toList == ([] : List UInt8) && (x6 == 0 && x7 == 0))))
    else nameB x1 &&
      (if x2 = 1 then x3 == 0 && (x4 == 0 && (x5.toList == ([] : List UInt8) && (x6 == 0 && x7 == 0)))
      else if x2 = 2 then (x6 == 0 && x7 == 0) && (inB x3 0 65535 && (inB x4 0 100000 && textB x5))
      else if x2 = 3 ∨ x2 = 4 then (x3 == 0 && (x4 == 0 && x5.toList == ([] : List UInt8))) && (inB x6 1 9999 && decide (x7 ≥ 1))
      else false))) := by
    intro b hb h0
    refine ev_as (spec_AskerOk_j0 _ _ _ _ _ _ _ _ _ h1 h5) ?_
    rw [hb, h0]
    generalize (x5.toList == ([] : List UInt8)) = e5
    generalize (x1.toList == ([] : List UInt8)) = e1
    generalize nameB x1 = n1
    generalize textB x5 = t5
    generalize inB x3 0 65535 = i3
    generalize inB x4 0 100000 = i4
    generalize inB x6 1 9999 = i6
    by_cases s0 : x2 = 0
    · subst s0
      cases (x3 == 0) <;> cases (x4 == 0) <;> cases e5 <;> cases (x6 == 0) <;> cases (x7 == 0) <;> cases e1 <;> rfl
    · by_cases s1 : x2 = 1
      · subst s1
        cases (x3 == 0) <;> cases (x4 == 0) <;> cases e5 <;> cases (x6 == 0) <;> cases (x7 == 0) <;> cases n1 <;> rfl
      · by_cases s2 : x2 = 2
        · subst s2
          cases (x6 == 0) <;> cases (x7 == 0) <;> cases n1 <;> cases i3 <;> cases i4 <;> cases t5 <;> rfl
        · by_cases s3 : x2 = 3 ∨ x2 = 4
          · have hn : ¬ x2 < 3 := by omega
            simp only [s0, s1, s2, s3, hn, decide_false, if_true, if_false]
            cases (x3 == 0) <;> cases (x4 == 0) <;> cases e5 <;> cases n1 <;> simp
          · simp only [s0, s1, s2, s3, if_false, Bool.and_false]
  refine ev_ite (fun c => ?_) (fun c => ?_)
  · refine ev_ite (fun c2 => ?_) (fun c2 => ev_ite (fun c3 => ev_ite (fun c4 => ?_) (fun c4 => ?_)) (fun c3 => ?_))
    · exact key _ (by simp [c2]) c
    · exact key _ (by simp only [c2, c3, c4, bne]; simp) c
    · exact key _ (by simp [c2, c3, c4]) c
    · exact key _ (by simp [c2, c3]) c
  · exact ev_as (ev_now _) (by simp [c])
theorem spec_AskerOk_ev (x : S45) (h1 : x.f1.size ≤ 4611686018427387904) (h5 : x.f5.size ≤ 4611686018427387904) : Ev (fun k => spec_AskerOk.f k x.f0 x.f1 x.f2 x.f3 x.f4 x.f5 x.f6 x.f7) (askerB x.f0 x.f1 x.f2 x.f3 x.f4 x.f5 x.f6 x.f7) := spec_AskerOk_core _ _ _ _ _ _ _ _ h1 h5
def lineB (so : Int) (db : ByteArray) (ge st si asn le : Int) : Bool :=
  inB so 1 9999 && (nameB db && (inB ge 1 60000 &&
    (if st = 0 then inB si 0 100000 && (asn == 0 && le == 0)
    else if st = 1 ∨ st = 2 then si == 0 && (inB asn 1 9999 && decide (le ≥ 1))
    else false)))
theorem spec_LineOk_j0 (b : Bool) (x0 : Int) (x1 : ByteArray) (x2 x3 x4 x5 x6 : Int) : Ev (fun k => spec_LineOk.j0 k b x0 x1 x2 x3 x4 x5 x6)
    (!b && (if x3 = 0 then inB x4 0 100000 && (x5 == 0 && x6 == 0) else if x3 = 1 ∨ x3 = 2 then x4 == 0 && (inB x5 1 9999 && decide (x6 ≥ 1)) else false)) := by
  refine ev_step (fun k => spec_LineOk.j0.eq_2 ..) ?_
  refine ev_ite (fun c => ?_) (fun c => ?_)
  · exact ev_as (ev_now _) (by simp [c])
  · have hb : b = false := by simpa using c
    refine ev_ite (fun c1 => ?_) (fun c1 => ?_)
    · refine ev_bind1 (spec_l9Time_eq x4) ?_
      refine ev_ite (fun c2 => ev_ite (fun c3 => ?_) (fun c3 => ?_)) (fun c2 => ?_)
      all_goals exact ev_as (ev_now _) (by simp_all)
    · refine ev_bind1 (spec_l1In_eq x3 1 2) ?_
      refine ev_ite (fun c2 => ?_) (fun c2 => ?_)
      · have h3 : x3 = 1 ∨ x3 = 2 := by have := (inB_iff _ _ _).1 c2; omega
        refine ev_ite (fun c3 => ?_) (fun c3 => ?_)
        · refine ev_bind1 (spec_l1In_eq x5 1 9999) ?_
          refine ev_ite (fun c4 => ?_) (fun c4 => ?_)
          all_goals exact ev_as (ev_now _) (by simp_all)
        · exact ev_as (ev_now _) (by simp_all)
      · have h3 : ¬ (x3 = 1 ∨ x3 = 2) := by
          intro h
          exact c2 ((inB_iff _ _ _).2 (by omega))
        exact ev_as (ev_now _) (by simp [c1, h3])
theorem spec_LineOk_ev (x : S46) (hs : x.f1.size ≤ 4611686018427387904) : Ev (fun k => spec_LineOk.f k x.f0 x.f1 x.f2 x.f3 x.f4 x.f5 x.f6) (lineB x.f0 x.f1 x.f2 x.f3 x.f4 x.f5 x.f6) := by
  unfold spec_LineOk.f lineB
  refine ev_bind1 (spec_l1In_eq _ _ _) ?_
  refine ev_ite (fun c => ?_) (fun c => ?_)
  · refine ev_bind (spec_l1Name_ev _ hs) ?_
    refine ev_ite (fun c2 => ?_) (fun c2 => ?_)
    · refine ev_bind1 (spec_l1In_eq _ _ _) ?_
      exact ev_as (spec_LineOk_j0 ..) (by rw [c, c2]; simp)
    · exact ev_as (spec_LineOk_j0 ..) (by simp [c2])
  · exact ev_as (spec_LineOk_j0 ..) (by simp [c])
theorem spec_LineAt_l0 (l : List S46) (a : Int) (hl : l.length ≤ 4611686018427387904) (d : Nat) : ∀ i : Nat, i + d = l.length → Ev (fun k => spec_LineAt.l0 k l a (i : Int)) (idxF (fun x => x.f0 == a) (l.drop i) (i : Int)) := by
  induction d with
  | zero =>
    intro i hi
    refine ev_step (fun k => spec_LineAt.l0.eq_2 ..) (ev_neg (by omega) ?_)
    rw [List.drop_of_length_le (by omega)]
    exact ev_now _
  | succ d ih =>
    intro i hi
    have hlt : i < l.length := by omega
    have hr : rd_T46 l (i : Int) = l[i] := getD_nth _ l i hlt
    have hd : l.drop i = l[i] :: l.drop (i + 1) := List.drop_eq_getElem_cons hlt
    have hn := ih (i + 1) (by omega)
    refine ev_step (fun k => spec_LineAt.l0.eq_2 ..) (ev_pos (by omega) (ev_pos (by omega) ?_))
    simp only [hr]
    rw [w64 (by omega) (by omega), hd, idxF]
    refine ev_ite (fun c => ?_) (fun c => ?_)
    · exact ev_as (ev_now _) (by rw [if_pos (by simpa using c)])
    · exact ev_as hn (by rw [if_neg (by simpa using c)]; rfl)
theorem spec_LineAt_ev (l : List S46) (a : Int) (hl : l.length ≤ 4611686018427387904) : Ev (fun k => spec_LineAt.f k l a) (idxF (fun x => x.f0 == a) l 0) := spec_LineAt_l0 l a hl l.length 0 (by omega)
def hT (la : List S45) (t k : Int) : Bool := !((rd_T45 la k).f2 == 2 && (rd_T45 la k).f3 == t)
def hA (la : List S45) (ll : List S46) (tk i : Int) : Bool :=
  askerB (rd_T45 la i).f0 (rd_T45 la i).f1 (rd_T45 la i).f2 (rd_T45 la i).f3 (rd_T45 la i).f4 (rd_T45 la i).f5 (rd_T45 la i).f6 (rd_T45 la i).f7 &&
  (!((decide (i > 0) && decide ((rd_T45 la (i - 1)).f0 ≥ (rd_T45 la i).f0)) || decide (idxF (fun x => x.f0 == (rd_T45 la i).f0) ll 0 ≥ 0)) &&
  (if (rd_T45 la i).f2 = 2 then decide ((rd_T45 la i).f3 < tk) && allF (hT la (rd_T45 la i).f3) 0 i.toNat else true))
def hL (ll : List S46) (i : Int) : Bool :=
  lineB (rd_T46 ll i).f0 (rd_T46 ll i).f1 (rd_T46 ll i).f2 (rd_T46 ll i).f3 (rd_T46 ll i).f4 (rd_T46 ll i).f5 (rd_T46 ll i).f6 && !(decide (i > 0) && decide ((rd_T46 ll (i - 1)).f0 ≥ (rd_T46 ll i).f0))
def szA (la : List S45) : Prop := ∀ i : Nat, i < la.length → (rd_T45 la i).f1.size ≤ 4611686018427387904 ∧ (rd_T45 la i).f5.size ≤ 4611686018427387904
def szL (ll : List S46) : Prop := ∀ i : Nat, i < ll.length → (rd_T46 ll i).f1.size ≤ 4611686018427387904
theorem spec_l10Lists_l2 (y0 y1 y2 : Int) (y3 : List S125) (y4 : Bool) (la : List S45) (ll : List S46) (tk y8 y9 y10 y11 : Int) (hll : ll.length ≤ 4611686018427387904) (hz : szL ll) (d : Nat) : ∀ i : Nat, i + d = ll.length → Ev (fun k => spec_l10Lists.l2 k (i : Int) y0 y1 y2 y3 y4 la ll tk y8 y9 y10 y11) (allF (hL ll) (i : Int) d && (decide ((la.length : Int) ≤ 6) && (decide ((ll.length : Int) ≤ 9) && inB tk 0 65535))) := by
  induction d with
  | zero =>
    intro i hi
    refine ev_step (fun k => spec_l10Lists.l2.eq_2 ..) (ev_neg (by omega) (ev_ite (fun c => ev_ite (fun c2 => ?_) (fun c2 => ?_)) (fun c => ?_)))
    · exact ev_bind1 (spec_l1In_eq _ _ _) (ev_as (ev_now _) (by simp [allF, c, c2]))
    · exact ev_as (ev_now _) (by simp [allF, c2])
    · exact ev_as (ev_now _) (by simp [allF, c])
  | succ d ih =>
    intro i hi
    have w : wrap64 ((i : Int) + 1) = (i : Int) + 1 := w64 (by omega) (by omega)
    have w2 : wrap64 ((i : Int) - 1) = (i : Int) - 1 := w64 (by omega) (by omega)
    have hn := ih (i + 1) (by omega)
    rw [show ((i + 1 : Nat) : Int) = (i : Int) + 1 by omega] at hn
    refine ev_step (fun k => spec_l10Lists.l2.eq_2 ..) (ev_pos (by omega) (ev_pos (by omega) (ev_bind (spec_LineOk_ev (rd_T46 ll i) (hz i (by omega))) (ev_ite (fun c => ev_ite (fun c0 => ev_pos (by rw [w2]; omega) (ev_pos (by rw [w2]; omega) (ev_ite (fun c1 => ?_) (fun c1 => ?_)))) (fun c0 => ?_)) (fun c => ?_)))))
    · rw [w2] at c1
      exact ev_as (ev_now _) (by simp [allF, hL, show 0 < i by omega, show (rd_T46 ll i).f0 ≤ (rd_T46 ll ((i : Int) - 1)).f0 from c1])
    · rw [w2] at c1
      rw [w]
      exact ev_as hn (by simp [allF, hL, c, show ¬ (rd_T46 ll i).f0 ≤ (rd_T46 ll ((i : Int) - 1)).f0 from c1])
    · rw [w]
      exact ev_as hn (by simp [allF, hL, c, show ¬ 0 < i by omega])
    · exact ev_as (ev_now _) (by simp [allF, hL, c])
theorem spec_l10Lists_l1 (y0 y1 y2 : Int) (y3 : List S125) (y4 : Bool) (la : List S45) (ll : List S46) (tk y8 y9 y10 y11 : Int) (hla : la.length ≤ 4611686018427387904) (z0 : Int) (z1 : ByteArray) (z2 t z4 : Int) (z5 : ByteArray) (z6 z7 : Int) (i : Nat) (hi : i < la.length) (v : Bool)
    (hv : Ev (fun k => spec_l10Lists.l0 k ((i : Int) + 1) y0 y1 y2 y3 y4 la ll tk y8 y9 y10 y11) v) (d : Nat) : ∀ j : Nat, j + d = i → Ev (fun k => spec_l10Lists.l1 k (i : Int) (j : Int) y0 y1 y2 y3 y4 la ll tk y8 y9 y10 y11 z0 z1 z2 t z4 z5 z6 z7) (allF (hT la t) (j : Int) d && v) := by
  induction d with
  | zero =>
    intro j hj
    have w : wrap64 ((i : Int) + 1) = (i : Int) + 1 := w64 (by omega) (by omega)
    refine ev_step (fun k => spec_l10Lists.l1.eq_2 ..) (ev_neg (by omega) ?_)
    rw [w]
    exact ev_as hv (by simp [allF])
  | succ d ih =>
    intro j hj
    have w : wrap64 ((j : Int) + 1) = (j : Int) + 1 := w64 (by omega) (by omega)
    have hn := ih (j + 1) (by omega)
    rw [show ((j + 1 : Nat) : Int) = (j : Int) + 1 by omega] at hn
    refine ev_step (fun k => spec_l10Lists.l1.eq_2 ..) (ev_pos (by omega) (ev_pos (by omega) (ev_pos (by omega) (ev_ite (fun c => ev_ite (fun e => ?_) (fun e => ?_)) (fun c => ?_)))))
    · exact ev_as (ev_now _) (by simp [allF, hT, c, e])
    · rw [w]
      exact ev_as hn (by simp [allF, hT, beq_eq_false_iff_ne.2 e])
    · rw [w]
      exact ev_as hn (by simp [allF, hT, beq_eq_false_iff_ne.2 c])
theorem spec_l10Lists_j1 (b : Bool) (y0 y1 y2 : Int) (y3 : List S125) (y4 : Bool) (la : List S45) (ll : List S46) (tk y8 y9 y10 y11 : Int) (hla : la.length ≤ 4611686018427387904) (z0 : Int) (z1 : ByteArray) (z2 t z4 : Int) (z5 : ByteArray) (z6 z7 : Int) (i : Nat) (hi : i < la.length) (v : Bool)
    (hv : Ev (fun k => spec_l10Lists.l0 k ((i : Int) + 1) y0 y1 y2 y3 y4 la ll tk y8 y9 y10 y11) v) : Ev (fun k => spec_l10Lists.j1 k (i : Int) b y0 y1 y2 y3 y4 la ll tk y8 y9 y10 y11 z0 z1 z2 t z4 z5 z6 z7) (!b && ((if z2 = 2 then decide (t < tk) && allF (hT la t) 0 i else true) && v)) := by
  have w : wrap64 ((i : Int) + 1) = (i : Int) + 1 := w64 (by omega) (by omega)
  refine ev_step (fun k => spec_l10Lists.j1.eq_2 ..) (ev_ite (fun c => ?_) (fun c => ev_ite (fun c2 => ev_ite (fun c3 => ?_) (fun c3 => ?_)) (fun c2 => ?_)))
  · exact ev_as (ev_now _) (by simp [c])
  · exact ev_as (ev_now _) (by simp [c2, show ¬ t < tk by omega])
  · exact ev_as (spec_l10Lists_l1 y0 y1 y2 y3 y4 la ll tk y8 y9 y10 y11 hla z0 z1 z2 t z4 z5 z6 z7 i hi v hv i 0 (by omega)) (by simp [c, c2, show t < tk by omega])
  · rw [w]
    exact ev_as hv (by simp [c, c2])
theorem spec_l10Lists_l0 (y0 y1 y2 : Int) (y3 : List S125) (y4 : Bool) (la : List S45) (ll : List S46) (tk y8 y9 y10 y11 : Int) (hla : la.length ≤ 4611686018427387904) (hll : ll.length ≤ 4611686018427387904) (hza : szA la) (R : Bool)
    (hR : Ev (fun k => spec_l10Lists.l2 k 0 y0 y1 y2 y3 y4 la ll tk y8 y9 y10 y11) R) (d : Nat) : ∀ i : Nat, i + d = la.length → Ev (fun k => spec_l10Lists.l0 k (i : Int) y0 y1 y2 y3 y4 la ll tk y8 y9 y10 y11) (allF (hA la ll tk) (i : Int) d && R) := by
  induction d with
  | zero =>
    intro i hi
    exact ev_step (fun k => spec_l10Lists.l0.eq_2 ..) (ev_neg (by omega) (ev_as hR (by simp [allF])))
  | succ d ih =>
    intro i hi
    have w2 : wrap64 ((i : Int) - 1) = (i : Int) - 1 := w64 (by omega) (by omega)
    have hn := ih (i + 1) (by omega)
    rw [show ((i + 1 : Nat) : Int) = (i : Int) + 1 by omega] at hn
    have hJ := fun b z0 z1 z2 t z4 z5 z6 z7 => spec_l10Lists_j1 b y0 y1 y2 y3 y4 la ll tk y8 y9 y10 y11 hla z0 z1 z2 t z4 z5 z6 z7 i (by omega) _ hn
    have hat := spec_LineAt_ev ll (rd_T45 la i).f0 hll
    refine ev_step (fun k => spec_l10Lists.l0.eq_2 ..) (ev_pos (by omega) (ev_pos (by omega) (ev_bind (spec_AskerOk_ev (rd_T45 la i) (hza i (by omega)).1 (hza i (by omega)).2) (ev_ite (fun c => ev_ite (fun c0 => ev_pos (by rw [w2]; omega) (ev_pos (by rw [w2]; omega) (ev_ite (fun c1 => ?_) (fun c1 => ?_)))) (fun c0 => ?_)) (fun c => ?_)))))
    · rw [w2] at c1
      exact ev_as (hJ true _ _ _ _ _ _ _ _) (by simp [allF, hA, show 0 < i by omega, show (rd_T45 la i).f0 ≤ (rd_T45 la ((i : Int) - 1)).f0 from c1])
    · rw [w2] at c1
      exact ev_bind hat (ev_as (hJ _ _ _ _ _ _ _ _ _) (by simp [allF, hA, c, show ¬ (rd_T45 la i).f0 ≤ (rd_T45 la ((i : Int) - 1)).f0 from c1, Bool.and_assoc]))
    · exact ev_bind hat (ev_as (hJ _ _ _ _ _ _ _ _ _) (by simp [allF, hA, c, show ¬ 0 < i by omega, Bool.and_assoc]))
    · exact ev_as (hJ true _ _ _ _ _ _ _ _) (by simp [allF, hA, c])
def listsB (la : List S45) (ll : List S46) (tk : Int) : Bool := allF (hA la ll tk) 0 la.length && (allF (hL ll) 0 ll.length && (decide ((la.length : Int) ≤ 6) && (decide ((ll.length : Int) ≤ 9) && inB tk 0 65535)))
theorem spec_l10Lists_ev (y0 y1 y2 : Int) (y3 : List S125) (y4 : Bool) (la : List S45) (ll : List S46) (tk y8 y9 y10 y11 : Int) (hla : la.length ≤ 4611686018427387904) (hll : ll.length ≤ 4611686018427387904) (hza : szA la) (hzl : szL ll) : Ev (fun k => spec_l10Lists.f k y0 y1 y2 y3 y4 la ll tk y8 y9 y10 y11) (listsB la ll tk) :=
  spec_l10Lists_l0 y0 y1 y2 y3 y4 la ll tk y8 y9 y10 y11 hla hll hza _ (spec_l10Lists_l2 y0 y1 y2 y3 y4 la ll tk y8 y9 y10 y11 hll hzl ll.length 0 (by omega)) la.length 0 (by omega)
def dbB (x : S125) : Bool := nameB x.f0 && (inB x.f1 1 3 && (inB x.f2 0 4 && (inB x.f3 1 20 && inB x.f4 1 20)))
theorem spec_l3Db_ev (x : S125) (hs : x.f0.size ≤ 4611686018427387904) : Ev (fun k => spec_l3Db.f k x.f0 x.f1 x.f2 x.f3 x.f4) (dbB x) := by
  unfold dbB
  refine ev_bind (spec_l1Name_ev x.f0 hs) (ev_ite (fun c => ev_bind1 (spec_l1In_eq _ _ _) (ev_ite (fun c1 => ev_bind1 (spec_l1In_eq _ _ _) (ev_ite (fun c2 => ev_bind1 (spec_l1In_eq _ _ _) (ev_ite (fun c3 => ev_bind1 (spec_l1In_eq _ _ _) (ev_as (ev_now _) ?_)) (fun c3 => ev_as (ev_now _) ?_))) (fun c2 => ev_as (ev_now _) ?_))) (fun c1 => ev_as (ev_now _) ?_))) (fun c => ev_as (ev_now _) ?_))
  · simp [c, c1, c2, c3]
  · simp [c3]
  · simp [c2]
  · simp [c1]
  · simp [c]
def hD (l : List S125) (s : ByteArray) (j : Int) : Bool := !((rd_T125 l j).f0.toList == s.toList)
def hC (l : List S125) (i : Int) : Bool := dbB (rd_T125 l i) && allF (hD l (rd_T125 l i).f0) 0 i.toNat
def confB (l : List S125) : Bool := allF (hC l) 0 l.length && inB l.length 1 3
def szD (l : List S125) : Prop := ∀ i : Nat, i < l.length → (rd_T125 l i).f0.size ≤ 4611686018427387904
theorem spec_ConfOk_l1 (l : List S125) (hl : l.length ≤ 4611686018427387904) (i : Nat) (hi : i < l.length) (v : Bool) (hv : Ev (fun k => spec_ConfOk.l0 k l ((i : Int) + 1)) v) (d : Nat) : ∀ j : Nat, j + d = i → Ev (fun k => spec_ConfOk.l1 k l (i : Int) (j : Int)) (allF (hD l (rd_T125 l i).f0) (j : Int) d && v) := by
  induction d with
  | zero =>
    intro j hj
    have w : wrap64 ((i : Int) + 1) = (i : Int) + 1 := w64 (by omega) (by omega)
    refine ev_step (fun k => spec_ConfOk.l1.eq_2 ..) (ev_neg (by omega) ?_)
    rw [w]
    exact ev_as hv (by simp [allF])
  | succ d ih =>
    intro j hj
    have w : wrap64 ((j : Int) + 1) = (j : Int) + 1 := w64 (by omega) (by omega)
    have hn := ih (j + 1) (by omega)
    rw [show ((j + 1 : Nat) : Int) = (j : Int) + 1 by omega] at hn
    refine ev_step (fun k => spec_ConfOk.l1.eq_2 ..) (ev_pos (by omega) (ev_pos (by omega) (ev_pos (by omega) (ev_pos (by omega) (ev_pos (by omega) (ev_ite (fun e => ?_) (fun e => ?_)))))))
    · exact ev_as (ev_now _) (by simp [allF, hD, e])
    · rw [w]
      exact ev_as hn (by simp [allF, hD, beq_eq_false_iff_ne.2 e])
theorem spec_ConfOk_l0 (l : List S125) (hl : l.length ≤ 4611686018427387904) (hz : szD l) (d : Nat) : ∀ i : Nat, i + d = l.length → Ev (fun k => spec_ConfOk.l0 k l (i : Int)) (allF (hC l) (i : Int) d && inB l.length 1 3) := by
  induction d with
  | zero =>
    intro i hi
    exact ev_step (fun k => spec_ConfOk.l0.eq_2 ..) (ev_neg (by omega) (ev_bind1 (spec_l1In_eq _ _ _) (ev_as (ev_now _) (by simp [allF]))))
  | succ d ih =>
    intro i hi
    have hn := ih (i + 1) (by omega)
    rw [show ((i + 1 : Nat) : Int) = (i : Int) + 1 by omega] at hn
    refine ev_step (fun k => spec_ConfOk.l0.eq_2 ..) (ev_pos (by omega) (ev_pos (by omega) (ev_bind (spec_l3Db_ev (rd_T125 l i) (hz i (by omega))) (ev_ite (fun c => ?_) (fun c => ?_)))))
    · exact ev_as (spec_ConfOk_l1 l hl i (by omega) _ hn i 0 (by omega)) (by simp [allF, hC, c, Bool.and_assoc])
    · exact ev_as (ev_now _) (by simp [allF, hC, c])
theorem spec_ConfOk_ev (l : List S125) (hl : l.length ≤ 4611686018427387904) (hz : szD l) : Ev (fun k => spec_ConfOk.f k l) (confB l) := spec_ConfOk_l0 l hl hz l.length 0 (by omega)
def lentB (a : S45) (x : S46) : Bool := a.f6 == x.f0 && (x.f5 == a.f0 && (a.f7 == x.f6 && (a.f1.toList == x.f1.toList && (a.f2 == 3 && x.f3 == 1 || a.f2 == 4 && x.f3 == 2))))
theorem spec_l10Lent_eq (a : S45) (x : S46) : spec_l10Lent.f a.f0 a.f1 a.f2 a.f3 a.f4 a.f5 a.f6 a.f7 x.f0 x.f1 x.f2 x.f3 x.f4 x.f5 x.f6 = some (lentB a x) := by
  unfold spec_l10Lent.f lentB
  by_cases h1 : a.f6 = x.f0 <;> by_cases h2 : x.f5 = a.f0 <;> by_cases h3 : a.f7 = x.f6 <;> by_cases h4 : a.f1.toList = x.f1.toList <;> by_cases h5 : a.f2 = 3 <;> by_cases h6 : x.f3 = 1 <;> by_cases h7 : a.f2 = 4 <;> simp [h1, h2, h3, h4, h5, h6, h7] <;> omega
theorem spec_AskerAt_l0 (l : List S45) (a : Int) (hl : l.length ≤ 4611686018427387904) (d : Nat) : ∀ i : Nat, i + d = l.length → Ev (fun k => spec_AskerAt.l0 k l a (i : Int)) (idxF (fun x => x.f0 == a) (l.drop i) (i : Int)) := by
  induction d with
  | zero =>
    intro i hi
    refine ev_step (fun k => spec_AskerAt.l0.eq_2 ..) (ev_neg (by omega) ?_)
    rw [List.drop_of_length_le (by omega)]
    exact ev_now _
  | succ d ih =>
    intro i hi
    have hlt : i < l.length := by omega
    have hr : rd_T45 l (i : Int) = l[i] := getD_nth _ l i hlt
    have hd : l.drop i = l[i] :: l.drop (i + 1) := List.drop_eq_getElem_cons hlt
    have hn := ih (i + 1) (by omega)
    refine ev_step (fun k => spec_AskerAt.l0.eq_2 ..) (ev_pos (by omega) (ev_pos (by omega) ?_))
    simp only [hr]
    rw [w64 (by omega) (by omega), hd, idxF]
    refine ev_ite (fun c => ?_) (fun c => ?_)
    · exact ev_as (ev_now _) (by rw [if_pos (by simpa using c)])
    · exact ev_as hn (by rw [if_neg (by simpa using c)]; rfl)
theorem spec_AskerAt_ev (l : List S45) (a : Int) (hl : l.length ≤ 4611686018427387904) : Ev (fun k => spec_AskerAt.f k l a) (idxF (fun x => x.f0 == a) l 0) := spec_AskerAt_l0 l a hl l.length 0 (by omega)
theorem idxF_lt {α : Type} (p : α → Bool) : ∀ (l : List α) (i : Int), idxF p l i < 0 ∨ idxF p l i < i + l.length ∨ i < 0
  | [], i => by left; simp [idxF]
  | x :: l, i => by
    unfold idxF
    split
    · simp only [List.length_cons]; omega
    · have := idxF_lt p l (i + 1)
      simp only [List.length_cons]
      omega
def hP (la : List S45) (ll : List S46) (i : Int) : Bool := if (rd_T45 la i).f2 ≥ 3 then (!decide (idxF (fun x => x.f0 == (rd_T45 la i).f6) ll 0 < 0)) && lentB (rd_T45 la i) (rd_T46 ll (idxF (fun x => x.f0 == (rd_T45 la i).f6) ll 0)) else true
def hQ (la : List S45) (ll : List S46) (i : Int) : Bool := if (rd_T46 ll i).f3 = 0 then true else (!decide (idxF (fun x => x.f0 == (rd_T46 ll i).f5) la 0 < 0)) && lentB (rd_T45 la (idxF (fun x => x.f0 == (rd_T46 ll i).f5) la 0)) (rd_T46 ll i)
def pairsB (la : List S45) (ll : List S46) : Bool := allF (hP la ll) 0 la.length && allF (hQ la ll) 0 ll.length
theorem spec_l10Pairs_l1 (y0 y1 y2 : Int) (y3 : List S125) (y4 : Bool) (la : List S45) (ll : List S46) (tk y8 y9 y10 y11 : Int) (hla : la.length ≤ 4611686018427387904) (hll : ll.length ≤ 4611686018427387904) (d : Nat) : ∀ i : Nat, i + d = ll.length → Ev (fun k => spec_l10Pairs.l1 k (i : Int) y0 y1 y2 y3 y4 la ll tk y8 y9 y10 y11) (allF (hQ la ll) (i : Int) d) := by
  induction d with
  | zero =>
    intro i hi
    exact ev_step (fun k => spec_l10Pairs.l1.eq_2 ..) (ev_neg (by omega) (ev_as (ev_now _) (by simp [allF])))
  | succ d ih =>
    intro i hi
    have w : wrap64 ((i : Int) + 1) = (i : Int) + 1 := w64 (by omega) (by omega)
    have hn := ih (i + 1) (by omega)
    rw [show ((i + 1 : Nat) : Int) = (i : Int) + 1 by omega, ← w] at hn
    have hb := idxF_lt (fun x => x.f0 == (rd_T46 ll i).f5) la 0
    refine ev_step (fun k => spec_l10Pairs.l1.eq_2 ..) (ev_pos (by omega) (ev_pos (by omega) (ev_ite (fun c => ?_) (fun c => ev_bind (spec_AskerAt_ev la _ hla) (ev_ite (fun c1 => ?_) (fun c1 => ev_pos (by omega) (ev_pos (by omega) (ev_bind1 (spec_l10Lent_eq _ _) (ev_ite (fun c2 => ?_) (fun c2 => ?_))))))))))
    · exact ev_as hn (by rw [w]; simp [allF, hQ, c])
    · exact ev_as (ev_now _) (by simp [allF, hQ, c, c1])
    · exact ev_as hn (by rw [w]; simp [allF, hQ, c, c1, c2])
    · exact ev_as (ev_now _) (by simp [allF, hQ, c, c1, c2])
theorem spec_l10Pairs_l0 (y0 y1 y2 : Int) (y3 : List S125) (y4 : Bool) (la : List S45) (ll : List S46) (tk y8 y9 y10 y11 : Int) (hla : la.length ≤ 4611686018427387904) (hll : ll.length ≤ 4611686018427387904) (d : Nat) : ∀ i : Nat, i + d = la.length → Ev (fun k => spec_l10Pairs.l0 k (i : Int) y0 y1 y2 y3 y4 la ll tk y8 y9 y10 y11) (allF (hP la ll) (i : Int) d && allF (hQ la ll) 0 ll.length) := by
  induction d with
  | zero =>
    intro i hi
    exact ev_step (fun k => spec_l10Pairs.l0.eq_2 ..) (ev_neg (by omega) (ev_as (spec_l10Pairs_l1 y0 y1 y2 y3 y4 la ll tk y8 y9 y10 y11 hla hll ll.length 0 (by omega)) (by simp [allF])))
  | succ d ih =>
    intro i hi
    have w : wrap64 ((i : Int) + 1) = (i : Int) + 1 := w64 (by omega) (by omega)
    have hn := ih (i + 1) (by omega)
    rw [show ((i + 1 : Nat) : Int) = (i : Int) + 1 by omega, ← w] at hn
    have hb := idxF_lt (fun x => x.f0 == (rd_T45 la i).f6) ll 0
    refine ev_step (fun k => spec_l10Pairs.l0.eq_2 ..) (ev_pos (by omega) (ev_pos (by omega) (ev_ite (fun c => ev_bind (spec_LineAt_ev ll _ hll) (ev_ite (fun c1 => ?_) (fun c1 => ev_pos (by omega) (ev_pos (by omega) (ev_bind1 (spec_l10Lent_eq _ _) (ev_ite (fun c2 => ?_) (fun c2 => ?_))))))) (fun c => ?_))))
    · exact ev_as (ev_now _) (by simp [allF, hP, c, c1])
    · exact ev_as hn (by rw [w]; simp [allF, hP, c, c1, c2])
    · exact ev_as (ev_now _) (by simp [allF, hP, c, c1, c2])
    · exact ev_as hn (by rw [w]; simp [allF, hP, c])
theorem spec_l10Pairs_ev (y0 y1 y2 : Int) (y3 : List S125) (y4 : Bool) (la : List S45) (ll : List S46) (tk y8 y9 y10 y11 : Int) (hla : la.length ≤ 4611686018427387904) (hll : ll.length ≤ 4611686018427387904) : Ev (fun k => spec_l10Pairs.f k y0 y1 y2 y3 y4 la ll tk y8 y9 y10 y11) (pairsB la ll) := spec_l10Pairs_l0 y0 y1 y2 y3 y4 la ll tk y8 y9 y10 y11 hla hll la.length 0 (by omega)
def handB (y8 y9 y10 y11 : Int) : Bool := y8 == 0 && (y9 == 0 && (y10 == 0 && (y11 == 0)))
def idleB (y1 y2 : Int) (y3 : List S125) (y4 : Bool) (la : List S45) (ll : List S46) (tk y8 y9 y10 y11 : Int) : Bool := y1 == 0 && (y2 == 0 && (decide ((y3.length : Int) = 0) && (!y4 && (decide ((la.length : Int) = 0) && (decide ((ll.length : Int) = 0) && (tk == 0 && handB y8 y9 y10 y11))))))
def takeB (y1 y2 : Int) (y3 : List S125) (y8 y9 y10 y11 : Int) : Bool := y1 == 0 && (y2 == 0 && (decide ((y3.length : Int) = 0) && (inB y8 1 60000 && (inB y9 1 20 && (inB y10 0 (y9 - 1) && inB y11 0 100000)))))
def ownB (y1 y2 : Int) (y3 : List S125) (la : List S45) (ll : List S46) : Bool := inB y1 1 60000 && (inB y2 0 60000 && (!(decide (y2 = 0) && decide ((y3.length : Int) > 0)) && ((if y2 > 0 then confB y3 else true) && pairsB la ll)))
def freezeB (y1 y8 y9 y10 y11 : Int) : Bool := y8 == y1 && (inB y9 1 20 && (inB y10 0 y9 && inB y11 0 100000))
def houseB (y0 y1 y2 : Int) (y3 : List S125) (y4 : Bool) (la : List S45) (ll : List S46) (tk y8 y9 y10 y11 : Int) : Bool :=
  listsB la ll tk && (if y0 = 0 ∨ y0 = 1 then idleB y1 y2 y3 y4 la ll tk y8 y9 y10 y11 else if y0 = 4 then takeB y1 y2 y3 y8 y9 y10 y11 else if y0 = 2 then ownB y1 y2 y3 la ll && handB y8 y9 y10 y11 else if y0 = 3 then ownB y1 y2 y3 la ll && freezeB y1 y8 y9 y10 y11 else false)
theorem w_pred (a : Int) (h : inB a 1 20 = true) : wrap64 (a - 1) = a - 1 := by
  have := (inB_iff _ _ _).1 h
  exact w64 (by omega) (by omega)
theorem spec_HouseOk_j2 (b : Bool) (y0 y1 y2 : Int) (y3 : List S125) (y4 : Bool) (la : List S45) (ll : List S46) (tk y8 y9 y10 y11 : Int) : Ev (fun k => spec_HouseOk.j2 k b y0 y1 y2 y3 y4 la ll tk y8 y9 y10 y11) (!b && (if y0 = 2 then handB y8 y9 y10 y11 else freezeB y1 y8 y9 y10 y11)) := by
  refine ev_step (fun k => spec_HouseOk.j2.eq_2 ..) (ev_ite (fun c => ev_as (ev_now _) (by simp [c])) (fun c => ev_ite (fun c2 => ev_bind1 rfl (ev_as (ev_now _) (by simp [c, c2, handB]))) (fun c2 => ev_ite (fun c3 => ev_bind1 (spec_l1In_eq _ _ _) (ev_ite (fun c4 => ev_bind1 (spec_l1In_eq _ _ _) (ev_ite (fun c5 => ev_bind1 (spec_l9Time_eq _) (ev_as (ev_now _) ?_)) (fun c5 => ev_as (ev_now _) ?_))) (fun c4 => ev_as (ev_now _) ?_))) (fun c3 => ev_as (ev_now _) ?_))))
  · simp [c, c2, freezeB, c3, c4, c5]
  · simp [c2, freezeB, c5]
  · simp [c2, freezeB, c4]
  · simp [c2, freezeB, c3]
theorem spec_HouseOk_j1 (b : Bool) (y0 y1 y2 : Int) (y3 : List S125) (y4 : Bool) (la : List S45) (ll : List S46) (tk y8 y9 y10 y11 : Int) (h3 : y3.length ≤ 4611686018427387904) (hz : szD y3) (hla : la.length ≤ 4611686018427387904) (hll : ll.length ≤ 4611686018427387904) : Ev (fun k => spec_HouseOk.j1 k b y0 y1 y2 y3 y4 la ll tk y8 y9 y10 y11) (b && (ownB y1 y2 y3 la ll && (if y0 = 2 then handB y8 y9 y10 y11 else freezeB y1 y8 y9 y10 y11))) := by
  have J := fun b => spec_HouseOk_j2 b y0 y1 y2 y3 y4 la ll tk y8 y9 y10 y11
  have P := spec_l10Pairs_ev y0 y1 y2 y3 y4 la ll tk y8 y9 y10 y11 hla hll
  have C := spec_ConfOk_ev y3 h3 hz
  refine ev_step (fun k => spec_HouseOk.j1.eq_2 ..) (ev_ite (fun c => ev_bind1 (spec_l1In_eq _ _ _) (ev_ite (fun c1 => ev_bind1 (spec_l1In_eq _ _ _) (ev_ite (fun c2 => ev_ite (fun c3 => ev_ite (fun c4 => ?_) (fun c4 => ev_neg (by omega) (ev_bind P ?_))) (fun c3 => ev_ite (fun c5 => ev_bind C (ev_ite (fun c6 => ev_bind P ?_) (fun c6 => ?_))) (fun c5 => ev_bind P ?_))) (fun c2 => ?_))) (fun c1 => ?_))) (fun c => ev_as (ev_now _) (by simp [c])))
  · exact ev_as (J true) (by unfold ownB; rw [decide_eq_true c3, decide_eq_true c4]; simp)
  · exact ev_as (J _) (by unfold ownB; rw [decide_eq_false c4, if_neg (show ¬ y2 > 0 by omega)]; simp [c, c1, c2])
  · exact ev_as (J _) (by simp [ownB, c, c1, c2, c3, c5, c6])
  · exact ev_as (J true) (by simp [ownB, c5, c6])
  · exact ev_as (J _) (by simp [ownB, c, c1, c2, c3, c5])
  · exact ev_as (J true) (by simp [ownB, c2])
  · exact ev_as (J true) (by simp [ownB, c1])
theorem spec_HouseOk_j0 (b : Bool) (y0 y1 y2 : Int) (y3 : List S125) (y4 : Bool) (la : List S45) (ll : List S46) (tk y8 y9 y10 y11 : Int) (h3 : y3.length ≤ 4611686018427387904) (hz : szD y3) (hla : la.length ≤ 4611686018427387904) (hll : ll.length ≤ 4611686018427387904) : Ev (fun k => spec_HouseOk.j0 k y0 b y0 y1 y2 y3 y4 la ll tk y8 y9 y10 y11) (if b = true then idleB y1 y2 y3 y4 la ll tk y8 y9 y10 y11 else if y0 = 4 then takeB y1 y2 y3 y8 y9 y10 y11 else if y0 = 2 then ownB y1 y2 y3 la ll && handB y8 y9 y10 y11 else if y0 = 3 then ownB y1 y2 y3 la ll && freezeB y1 y8 y9 y10 y11 else false) := by
  have J := fun b => spec_HouseOk_j1 b y0 y1 y2 y3 y4 la ll tk y8 y9 y10 y11 h3 hz hla hll
  refine ev_step (fun k => spec_HouseOk.j0.eq_2 ..) (ev_ite (fun c => ?_) (fun c => ev_ite (fun c4 => ?_) (fun c4 => ev_ite (fun c2 => ?_) (fun c2 => ?_))))
  · rw [if_pos c]
    refine ev_ite (fun d1 => ev_ite (fun d2 => ev_ite (fun d3 => ev_ite (fun d4 => ?_) (fun d4 => ev_ite (fun d5 => ev_ite (fun d6 => ev_ite (fun d7 => ev_bind1 rfl (ev_as (ev_now _) ?_)) (fun d7 => ev_as (ev_now _) ?_)) (fun d6 => ev_as (ev_now _) ?_)) (fun d5 => ev_as (ev_now _) ?_))) (fun d3 => ev_as (ev_now _) ?_)) (fun d2 => ev_as (ev_now _) ?_)) (fun d1 => ev_as (ev_now _) ?_)
    · exact ev_as (ev_now _) (by simp [idleB, d4])
    · simp only [idleB, handB, d1, d2, d3, d4, d5, d6, d7, decide_true, Bool.true_and, BEq.rfl, Bool.not_false]
    · simp [idleB, d7]
    · simp only [idleB, d6, decide_false, Bool.false_and, Bool.and_false]
    · simp only [idleB, d5, decide_false, Bool.false_and, Bool.and_false]
    · simp only [idleB, d3, decide_false, Bool.false_and, Bool.and_false]
    · simp [idleB, d2]
    · simp [idleB, d1]
  · rw [if_neg c, if_pos c4]
    refine ev_ite (fun d1 => ev_ite (fun d2 => ev_ite (fun d3 => ev_bind1 (spec_l1In_eq _ _ _) (ev_ite (fun d4 => ev_bind1 (spec_l1In_eq _ _ _) (ev_ite (fun d5 => ev_bind1 (spec_l1In_eq _ _ _) (ev_ite (fun d6 => ev_bind1 (spec_l9Time_eq _) (ev_as (ev_now _) ?_)) (fun d6 => ev_as (ev_now _) ?_))) (fun d5 => ev_as (ev_now _) ?_))) (fun d4 => ev_as (ev_now _) ?_))) (fun d3 => ev_as (ev_now _) ?_)) (fun d2 => ev_as (ev_now _) ?_)) (fun d1 => ev_as (ev_now _) ?_)
    · rw [w_pred y9 d5] at d6
      simp only [takeB, d1, d2, d3, d4, d5, d6, decide_true, Bool.true_and, BEq.rfl]
    · rw [w_pred y9 d5] at d6
      simp [takeB, d6]
    · simp [takeB, d5]
    · simp [takeB, d4]
    · simp only [takeB, d3, decide_false, Bool.false_and, Bool.and_false]
    · simp [takeB, d2]
    · simp [takeB, d1]
  · exact ev_as (J _) (by simp [c, c2])
  · exact ev_as (J _) (by by_cases c3 : y0 = 3 <;> simp [c, c4, c2, c3])
theorem spec_HouseOk_ev (y0 y1 y2 : Int) (y3 : List S125) (y4 : Bool) (la : List S45) (ll : List S46) (tk y8 y9 y10 y11 : Int) (h3 : y3.length ≤ 4611686018427387904) (hz : szD y3) (hla : la.length ≤ 4611686018427387904) (hll : ll.length ≤ 4611686018427387904) (hza : szA la) (hzl : szL ll) : Ev (fun k => spec_HouseOk.f k y0 y1 y2 y3 y4 la ll tk y8 y9 y10 y11) (houseB y0 y1 y2 y3 y4 la ll tk y8 y9 y10 y11) := by
  have J := fun b => spec_HouseOk_j0 b y0 y1 y2 y3 y4 la ll tk y8 y9 y10 y11 h3 hz hla hll
  unfold houseB
  refine ev_bind (spec_l10Lists_ev y0 y1 y2 y3 y4 la ll tk y8 y9 y10 y11 hla hll hza hzl) (ev_ite (fun c => ev_ite (fun c0 => ev_as (J _) ?_) (fun c0 => ev_as (J _) ?_)) (fun c => ev_as (ev_now _) (by simp [c])))
  · simp [c, c0]
  · by_cases c1 : y0 = 1 <;> simp [c, c0, c1]
theorem impl_isIn_eq (a b c : Int) : impl_isIn.f a b c = some (inB a b c) := by
  unfold impl_isIn.f inB
  by_cases h : b ≤ a <;> simp [h]
theorem impl_wordOk_eq (a : Int) : impl_wordOk.f a = some (inB a 0 65535) := by
  unfold impl_wordOk.f
  rw [impl_isIn_eq]
  rfl
theorem impl_sinceOk_eq (a : Int) : impl_sinceOk.f a = some (inB a 0 100000) := by
  unfold impl_sinceOk.f
  rw [impl_isIn_eq]
  rfl
theorem impl_sockIdOk_eq (a : Int) : impl_sockIdOk.f a = some (inB a 1 9999) := by
  unfold impl_sockIdOk.f
  rw [impl_isIn_eq]
  rfl
theorem impl_nameOk_l0 (s : ByteArray) (hs : s.size ≤ 4611686018427387904) (d : Nat) : ∀ i : Int, 0 ≤ i → i + d = s.size → Ev (fun k => impl_nameOk.l0 k s (s.size : Int) i) (allF (byteIn s 97 122) i d && inB s.size 1 8) := by
  induction d with
  | zero =>
    intro i h0 h1
    refine ev_step (fun k => impl_nameOk.l0.eq_2 ..) ?_
    refine ev_neg (by omega) ?_
    rw [impl_isIn_eq]
    exact ev_now _
  | succ d ih =>
    intro i h0 h1
    refine ev_step (fun k => impl_nameOk.l0.eq_2 ..) ?_
    refine ev_pos (by omega) (ev_pos (by omega) (ev_pos (by omega) ?_))
    refine ev_ite (fun c1 => ?_) (fun c1 => ev_ite (fun c2 => ?_) (fun c2 => ?_))
    · refine ev_as (ev_now _) ?_
      have : byteIn s 97 122 i = false := by rw [byteIn_false]; omega
      simp [allF, this]
    · refine ev_as (ev_now _) ?_
      have : byteIn s 97 122 i = false := by rw [byteIn_false]; omega
      simp [allF, this]
    · have : byteIn s 97 122 i = true := by rw [byteIn_iff]; omega
      rw [w64 (by omega) (by omega), allF, this, Bool.true_and]
      exact ih (i + 1) (by omega) (by omega)
theorem impl_nameOk_ev (s : ByteArray) (hs : s.size ≤ 4611686018427387904) : Ev (fun k => impl_nameOk.f k s) (nameB s) := impl_nameOk_l0 s hs s.size 0 (by omega) (by omega)
theorem impl_TextOk_l0 (s : ByteArray) (hs : s.size ≤ 4611686018427387904) (d : Nat) : ∀ i : Int, 0 ≤ i → i + d = s.size → Ev (fun k => impl_TextOk.l0 k s (s.size : Int) i) (allF (byteIn s 32 126) i d && decide ((s.size : Int) ≤ 100)) := by
  induction d with
  | zero =>
    intro i h0 h1
    refine ev_step (fun k => impl_TextOk.l0.eq_2 ..) ?_
    refine ev_neg (by omega) ?_
    exact ev_now _
  | succ d ih =>
    intro i h0 h1
    refine ev_step (fun k => impl_TextOk.l0.eq_2 ..) ?_
    refine ev_pos (by omega) (ev_pos (by omega) (ev_pos (by omega) ?_))
    refine ev_ite (fun c1 => ?_) (fun c1 => ev_ite (fun c2 => ?_) (fun c2 => ?_))
    · refine ev_as (ev_now _) ?_
      have : byteIn s 32 126 i = false := by rw [byteIn_false]; omega
      simp [allF, this]
    · refine ev_as (ev_now _) ?_
      have : byteIn s 32 126 i = false := by rw [byteIn_false]; omega
      simp [allF, this]
    · have : byteIn s 32 126 i = true := by rw [byteIn_iff]; omega
      rw [w64 (by omega) (by omega), allF, this, Bool.true_and]
      exact ih (i + 1) (by omega) (by omega)
theorem impl_TextOk_ev (s : ByteArray) (hs : s.size ≤ 4611686018427387904) : Ev (fun k => impl_TextOk.f k s) (textB s) := impl_TextOk_l0 s hs s.size 0 (by omega) (by omega)
theorem impl_AskerOk_core (x0 : Int) (x1 : ByteArray) (x2 x3 x4 : Int) (x5 : ByteArray) (x6 x7 : Int) (h1 : x1.size ≤ 4611686018427387904) (h5 : x5.size ≤ 4611686018427387904) : Ev (fun k => impl_AskerOk.f k x0 x1 x2 x3 x4 x5 x6 x7) (askerB x0 x1 x2 x3 x4 x5 x6 x7) := by
  unfold impl_AskerOk.f askerB
  refine ev_step (fun k => impl_AskerOk.j0.eq_2 ..) ?_
  have e0 : (⟨#[]⟩ : ByteArray).toList = [] := by unfold ByteArray.toList; unfold ByteArray.toList.loop; rfl
  simp only [beq_self_eq_true, Bool.true_and, Bool.and_true, e0]
  refine ev_bind1 (impl_sockIdOk_eq _) ?_
  refine ev_ite (fun c => ?_) (fun c => ?_)
  · refine ev_ite (fun s0 => ?_) (fun s0 => ?_)
    · exact ev_as (ev_now _) (by simp [c, s0])
    · refine ev_bind (impl_nameOk_ev _ h1) ?_
      refine ev_ite (fun cn => ?_) (fun cn => ?_)
      · refine ev_ite (fun s1 => ?_) (fun s1 => ev_ite (fun s2 => ?_) (fun s2 => ev_ite (fun s3 => ?_) (fun s3 => ev_ite (fun s4 => ?_) (fun s4 => ?_))))
        · exact ev_as (ev_now _) (by simp [c, s1, cn])
        · refine ev_ite (fun c1 => ?_) (fun c1 => ?_)
          · refine ev_bind1 (impl_wordOk_eq _) ?_
            refine ev_ite (fun c3 => ?_) (fun c3 => ?_)
            · refine ev_bind1 (impl_sinceOk_eq _) ?_
              refine ev_ite (fun c4 => ?_) (fun c4 => ?_)
              · exact ev_bind (impl_TextOk_ev _ h5) (ev_as (ev_now _) (by rw [c, cn, c3, c4, c1]; simp [s2]))
              · exact ev_as (ev_now _) (by simp [s2, c4])
            · exact ev_as (ev_now _) (by simp [s2, c3])
          · have c1' := Bool.eq_false_iff.2 c1
            exact ev_as (ev_now _) (by rw [c1']; simp [s2])
        · refine ev_ite (fun c1 => ?_) (fun c1 => ?_)
          · refine ev_bind1 (impl_sockIdOk_eq _) ?_
            refine ev_ite (fun c3 => ?_) (fun c3 => ?_)
            · exact ev_as (ev_now _) (by rw [c, cn, c3, c1]; simp [s3])
            · exact ev_as (ev_now _) (by simp [s3, c3])
          · have c1' := Bool.eq_false_iff.2 c1
            exact ev_as (ev_now _) (by rw [c1']; simp [s3])
        · refine ev_ite (fun c1 => ?_) (fun c1 => ?_)
          · refine ev_bind1 (impl_sockIdOk_eq _) ?_
            refine ev_ite (fun c3 => ?_) (fun c3 => ?_)
            · exact ev_as (ev_now _) (by rw [c, cn, c3, c1]; simp [s4])
            · exact ev_as (ev_now _) (by simp [s4, c3])
          · have c1' := Bool.eq_false_iff.2 c1
            exact ev_as (ev_now _) (by rw [c1']; simp [s4])
        · exact ev_as (ev_now _) (by simp [s0, s1, s2, s3, s4])
      · exact ev_as (ev_now _) (by simp [s0, cn])
  · exact ev_as (ev_now _) (by simp [c])
theorem impl_AskerOk_ev (x : S45) (h1 : x.f1.size ≤ 4611686018427387904) (h5 : x.f5.size ≤ 4611686018427387904) : Ev (fun k => impl_AskerOk.f k x.f0 x.f1 x.f2 x.f3 x.f4 x.f5 x.f6 x.f7) (askerB x.f0 x.f1 x.f2 x.f3 x.f4 x.f5 x.f6 x.f7) := impl_AskerOk_core _ _ _ _ _ _ _ _ h1 h5
theorem impl_LineOk_j0 (b : Bool) (x0 : Int) (x1 : ByteArray) (x2 x3 x4 x5 x6 : Int) : Ev (fun k => impl_LineOk.j0 k b x0 x1 x2 x3 x4 x5 x6)
    (!b && (if x3 = 0 then inB x4 0 100000 && (x5 == 0 && x6 == 0) else if x3 = 1 ∨ x3 = 2 then x4 == 0 && (inB x5 1 9999 && decide (x6 ≥ 1)) else false)) := by
  refine ev_step (fun k => impl_LineOk.j0.eq_2 ..) ?_
  refine ev_ite (fun c => ?_) (fun c => ?_)
  · exact ev_as (ev_now _) (by simp [c])
  · have hb : b = false := by simpa using c
    refine ev_ite (fun c1 => ?_) (fun c1 => ev_ite (fun c2 => ?_) (fun c2 => ev_ite (fun c3 => ?_) (fun c3 => ?_)))
    · refine ev_bind1 (impl_sinceOk_eq x4) ?_
      refine ev_ite (fun c2 => ev_ite (fun c3 => ?_) (fun c3 => ?_)) (fun c2 => ?_)
      all_goals exact ev_as (ev_now _) (by simp_all)
    · refine ev_ite (fun c3 => ?_) (fun c3 => ?_)
      · refine ev_bind1 (impl_sockIdOk_eq x5) ?_
        refine ev_ite (fun c4 => ?_) (fun c4 => ?_)
        all_goals exact ev_as (ev_now _) (by simp_all)
      · exact ev_as (ev_now _) (by simp_all)
    · refine ev_ite (fun c3 => ?_) (fun c3 => ?_)
      · refine ev_bind1 (impl_sockIdOk_eq x5) ?_
        refine ev_ite (fun c4 => ?_) (fun c4 => ?_)
        all_goals exact ev_as (ev_now _) (by simp_all)
      · exact ev_as (ev_now _) (by simp_all)
    · exact ev_as (ev_now _) (by simp [c1, c2, c3])
theorem impl_LineOk_ev (x : S46) (hs : x.f1.size ≤ 4611686018427387904) : Ev (fun k => impl_LineOk.f k x.f0 x.f1 x.f2 x.f3 x.f4 x.f5 x.f6) (lineB x.f0 x.f1 x.f2 x.f3 x.f4 x.f5 x.f6) := by
  unfold impl_LineOk.f lineB
  refine ev_bind1 (impl_sockIdOk_eq _) ?_
  refine ev_ite (fun c => ?_) (fun c => ?_)
  · refine ev_bind (impl_nameOk_ev _ hs) ?_
    refine ev_ite (fun c2 => ?_) (fun c2 => ?_)
    · refine ev_bind1 (impl_isIn_eq _ _ _) ?_
      exact ev_as (impl_LineOk_j0 ..) (by rw [c, c2]; simp)
    · exact ev_as (impl_LineOk_j0 ..) (by simp [c2])
  · exact ev_as (impl_LineOk_j0 ..) (by simp [c])
theorem impl_LineAt_eq (l : List S46) (a : Int) : impl_LineAt.f l a = some (idxF (fun x => x.f0 == a) l 0) := rfl
theorem slices_Index_int_l0 (l : List Int) (a : Int) (hl : l.length ≤ 4611686018427387904) (d : Nat) : ∀ i : Nat, i + d = l.length → ∃ r : Int, Ev (fun k => slices_Index_int.l0 k l a (l.length : Int) (i : Int)) r ∧ (0 ≤ r ↔ a ∈ l.drop i) := by
  induction d with
  | zero =>
    intro i hi
    exact ⟨_, ev_step (fun k => slices_Index_int.l0.eq_2 ..) (ev_neg (by omega) (ev_now _)), by rw [List.drop_eq_nil_of_le (by omega)]; simp⟩
  | succ d ih =>
    intro i hi
    have w : wrap64 ((i : Int) + 1) = (i : Int) + 1 := w64 (by omega) (by omega)
    obtain ⟨r, h1, h2⟩ := ih (i + 1) (by omega)
    have hr : rd l (i : Int) = l[i]'(by omega) := by
      unfold rd
      rw [Int.toNat_natCast, List.getD_eq_getElem?_getD, List.getElem?_eq_getElem (by omega)]
      rfl
    by_cases c : a = rd l (i : Int)
    · exact ⟨_, ev_step (fun k => slices_Index_int.l0.eq_2 ..) (ev_pos (by omega) (ev_pos (by omega) (ev_pos (by omega) (ev_pos c (ev_now _))))), ⟨fun _ => by rw [List.drop_eq_getElem_cons (by omega), c, hr]; exact List.mem_cons_self, fun _ => by omega⟩⟩
    · refine ⟨r, ev_step (fun k => slices_Index_int.l0.eq_2 ..) (ev_pos (by omega) (ev_pos (by omega) (ev_pos (by omega) (ev_neg c ?_)))), ?_⟩
      · rw [w]
        exact h1
      · rw [List.drop_eq_getElem_cons (by omega), List.mem_cons, h2, ← hr]
        simp [c]
theorem slices_Contains_int_ev (l : List Int) (a : Int) (hl : l.length ≤ 4611686018427387904) : Ev (fun k => slices_Contains_int.f k l a) (decide (a ∈ l)) := by
  obtain ⟨r, h1, h2⟩ := slices_Index_int_l0 l a hl l.length 0 (by omega)
  exact ev_bind h1 (ev_as (ev_now _) (by rw [List.drop_zero] at h2; exact decide_eq_decide.2 h2))
theorem allF_snoc (p : Int → Bool) (d : Nat) : ∀ i : Int, allF p i (d + 1) = (allF p i d && p (i + (d : Int))) := by
  induction d with
  | zero => intro i; simp [allF]
  | succ d ih =>
    intro i
    rw [allF, ih (i + 1), allF, Bool.and_assoc, show i + 1 + (d : Int) = i + ((d + 1 : Nat) : Int) by omega]
theorem impl_listsOk_l1 (y0 y1 y2 : Int) (y3 : List S125) (y4 : Bool) (la : List S45) (ll : List S46) (tk y8 y9 y10 y11 : Int) (hll : ll.length ≤ 4611686018427387904) (hz : szL ll) (d : Nat) : ∀ i : Nat, i + d = ll.length → Ev (fun k => impl_listsOk.l1 k ll (ll.length : Int) (i : Int) y0 y1 y2 y3 y4 la ll tk y8 y9 y10 y11) (allF (hL ll) (i : Int) d) := by
  induction d with
  | zero =>
    intro i hi
    exact ev_step (fun k => impl_listsOk.l1.eq_2 ..) (ev_neg (by omega) (ev_as (ev_now _) (by simp [allF])))
  | succ d ih =>
    intro i hi
    have w : wrap64 ((i : Int) + 1) = (i : Int) + 1 := w64 (by omega) (by omega)
    have w2 : wrap64 ((i : Int) - 1) = (i : Int) - 1 := w64 (by omega) (by omega)
    have hn := ih (i + 1) (by omega)
    rw [show ((i + 1 : Nat) : Int) = (i : Int) + 1 by omega] at hn
    refine ev_step (fun k => impl_listsOk.l1.eq_2 ..) (ev_pos (by omega) (ev_pos (by omega) (ev_pos (by omega) (ev_bind (impl_LineOk_ev (rd_T46 ll i) (hz i (by omega))) (ev_ite (fun c => ev_ite (fun c0 => ev_pos (by rw [w2]; omega) (ev_pos (by rw [w2]; omega) (ev_ite (fun c1 => ?_) (fun c1 => ?_)))) (fun c0 => ?_)) (fun c => ?_))))))
    · rw [w2] at c1
      exact ev_as (ev_now _) (by simp [allF, hL, show 0 < i by omega, show (rd_T46 ll i).f0 ≤ (rd_T46 ll ((i : Int) - 1)).f0 from c1])
    · rw [w2] at c1
      rw [w]
      exact ev_as hn (by simp [allF, hL, c, show ¬ (rd_T46 ll i).f0 ≤ (rd_T46 ll ((i : Int) - 1)).f0 from c1])
    · rw [w]
      exact ev_as hn (by simp [allF, hL, c, show ¬ 0 < i by omega])
    · exact ev_as (ev_now _) (by simp [allF, hL, c])
theorem impl_listsOk_j2 (b : Bool) (xs : List Int) (y0 y1 y2 : Int) (y3 : List S125) (y4 : Bool) (la : List S45) (ll : List S46) (tk y8 y9 y10 y11 : Int) (hla : la.length ≤ 1048576) (z0 : Int) (z1 : ByteArray) (z4 : Int) (z5 : ByteArray) (z6 z7 : Int) (i : Nat) (hi : i < la.length) (hl : xs.length ≤ i) (hx : ∀ t : Int, decide (t ∈ xs) = !(allF (hT la t) 0 i)) (v : Bool)
    (hv : ∀ xs : List Int, xs.length ≤ i + 1 → (∀ t : Int, decide (t ∈ xs) = !(allF (hT la t) 0 (i + 1))) → Ev (fun k => impl_listsOk.l0 k xs la (la.length : Int) ((i : Int) + 1) y0 y1 y2 y3 y4 la ll tk y8 y9 y10 y11) v) :
    Ev (fun k => impl_listsOk.j2 k xs la (la.length : Int) (i : Int) b y0 y1 y2 y3 y4 la ll tk y8 y9 y10 y11 z0 z1 (rd_T45 la i).f2 (rd_T45 la i).f3 z4 z5 z6 z7) (!b && ((if (rd_T45 la i).f2 = 2 then decide ((rd_T45 la i).f3 < tk) && allF (hT la (rd_T45 la i).f3) 0 i else true) && v)) := by
  have w : wrap64 ((i : Int) + 1) = (i : Int) + 1 := w64 (by omega) (by omega)
  refine ev_step (fun k => impl_listsOk.j2.eq_2 ..) (ev_ite (fun c => ?_) (fun c => ev_ite (fun c2 => ev_ite (fun c3 => ?_) (fun c3 => ev_bind (slices_Contains_int_ev xs _ (by omega)) (ev_ite (fun c4 => ?_) (fun c4 => ev_pos (by omega) ?_)))) (fun c2 => ?_)))
  · exact ev_as (ev_now _) (by simp [c])
  · exact ev_as (ev_now _) (by simp [c2, show ¬ (rd_T45 la i).f3 < tk by omega])
  · rw [hx] at c4
    exact ev_as (ev_now _) (by simp only [Bool.not_eq_true'] at c4; simp [c2, c4])
  · rw [hx] at c4
    rw [w]
    refine ev_as (hv _ (by rw [List.length_append]; simp; omega) (fun t => ?_)) (by simp only [Bool.not_eq_true', Bool.not_eq_false] at c4; simp [c, c2, c4, show (rd_T45 la i).f3 < tk by omega])
    rw [allF_snoc, Bool.not_and, ← hx, Int.zero_add]
    simp only [hT, Bool.not_not, c2, List.mem_append, List.mem_singleton, Bool.decide_or]
    congr 1
    simp only [BEq.rfl, Bool.true_and]
    rw [Bool.beq_eq_decide_eq]
    exact decide_eq_decide.2 eq_comm
  · rw [w]
    refine ev_as (hv xs (by omega) (fun t => ?_)) (by simp [c, c2])
    rw [allF_snoc, Bool.not_and, ← hx, Int.zero_add]
    simp [hT, c2]
theorem impl_listsOk_l0 (y0 y1 y2 : Int) (y3 : List S125) (y4 : Bool) (la : List S45) (ll : List S46) (tk y8 y9 y10 y11 : Int) (hla : la.length ≤ 1048576) (hza : szA la) (R : Bool)
    (hR : Ev (fun k => impl_listsOk.l1 k ll (ll.length : Int) 0 y0 y1 y2 y3 y4 la ll tk y8 y9 y10 y11) R) (d : Nat) : ∀ (i : Nat) (xs : List Int), i + d = la.length → xs.length ≤ i → (∀ t : Int, decide (t ∈ xs) = !(allF (hT la t) 0 i)) → Ev (fun k => impl_listsOk.l0 k xs la (la.length : Int) (i : Int) y0 y1 y2 y3 y4 la ll tk y8 y9 y10 y11) (allF (hA la ll tk) (i : Int) d && R) := by
  induction d with
  | zero =>
    intro i xs hi hl hx
    exact ev_step (fun k => impl_listsOk.l0.eq_2 ..) (ev_neg (by omega) (ev_as hR (by simp [allF])))
  | succ d ih =>
    intro i xs hi hl hx
    have w2 : wrap64 ((i : Int) - 1) = (i : Int) - 1 := w64 (by omega) (by omega)
    have hn := fun xs => ih (i + 1) xs (by omega)
    rw [show ((i + 1 : Nat) : Int) = (i : Int) + 1 by omega] at hn
    have hJ := fun b z0 z1 z4 z5 z6 z7 => impl_listsOk_j2 b xs y0 y1 y2 y3 y4 la ll tk y8 y9 y10 y11 hla z0 z1 z4 z5 z6 z7 i (by omega) hl hx _ hn
    have hat := impl_LineAt_eq ll (rd_T45 la i).f0
    refine ev_step (fun k => impl_listsOk.l0.eq_2 ..) (ev_pos (by omega) (ev_pos (by omega) (ev_pos (by omega) (ev_bind (impl_AskerOk_ev (rd_T45 la i) (hza i (by omega)).1 (hza i (by omega)).2) (ev_ite (fun c => ev_ite (fun c0 => ev_pos (by rw [w2]; omega) (ev_pos (by rw [w2]; omega) (ev_ite (fun c1 => ?_) (fun c1 => ?_)))) (fun c0 => ?_)) (fun c => ?_))))))
    · rw [w2] at c1
      exact ev_as (hJ true _ _ _ _ _ _) (by simp [allF, hA, show 0 < i by omega, show (rd_T45 la i).f0 ≤ (rd_T45 la ((i : Int) - 1)).f0 from c1])
    · rw [w2] at c1
      exact ev_bind1 hat (ev_as (hJ _ _ _ _ _ _ _) (by simp [allF, hA, c, show ¬ (rd_T45 la i).f0 ≤ (rd_T45 la ((i : Int) - 1)).f0 from c1, Bool.and_assoc]))
    · exact ev_bind1 hat (ev_as (hJ _ _ _ _ _ _ _) (by simp [allF, hA, c, show ¬ 0 < i by omega, Bool.and_assoc]))
    · exact ev_as (hJ true _ _ _ _ _ _) (by simp [allF, hA, c])
theorem impl_listsOk_ev (y0 y1 y2 : Int) (y3 : List S125) (y4 : Bool) (la : List S45) (ll : List S46) (tk y8 y9 y10 y11 : Int) (hla : la.length ≤ 1048576) (hll : ll.length ≤ 4611686018427387904) (hza : szA la) (hzl : szL ll) : Ev (fun k => impl_listsOk.f k y0 y1 y2 y3 y4 la ll tk y8 y9 y10 y11) (listsB la ll tk) := by
  have h := impl_listsOk_l0 y0 y1 y2 y3 y4 la ll tk y8 y9 y10 y11 hla hza _ (impl_listsOk_l1 y0 y1 y2 y3 y4 la ll tk y8 y9 y10 y11 hll hzl ll.length 0 (by omega)) la.length 0 [] (by omega) (by simp) (fun t => by simp [allF])
  have hj : ∀ b : Bool, Ev (fun k => impl_listsOk.j0 k b y0 y1 y2 y3 y4 la ll tk y8 y9 y10 y11) (!b && (allF (hA la ll tk) 0 la.length && allF (hL ll) 0 ll.length)) := fun b => ev_step (fun k => impl_listsOk.j0.eq_2 ..) (ev_ite (fun c => ev_as (ev_now _) (by simp [c])) (fun c => ev_as h (by simp [c])))
  unfold impl_listsOk.f listsB
  refine ev_ite (fun c => ev_as (hj true) ?_) (fun c => ev_ite (fun c2 => ev_as (hj true) ?_) (fun c2 => ev_bind1 (impl_wordOk_eq _) (ev_as (hj _) ?_)))
  · simp [show ¬ (la.length : Int) ≤ 6 by omega]
  · simp [show ¬ (ll.length : Int) ≤ 9 by omega]
  · simp only [Bool.not_not, show (la.length : Int) ≤ 6 by omega, show (ll.length : Int) ≤ 9 by omega, decide_true, Bool.true_and]
    cases inB tk 0 65535 <;> simp
theorem slices_Equal_Db_nil (l : List S125) : Ev (fun k => slices_Equal_Db.f k l []) (decide ((l.length : Int) = 0)) := by
  unfold slices_Equal_Db.f
  refine ev_ite (fun c => ?_) (fun c => ?_)
  · rw [List.length_nil] at c
    exact ev_step (fun k => slices_Equal_Db.l0.eq_2 ..) (ev_neg (by omega) (ev_as (ev_now _) (decide_eq_true (by omega)).symm))
  · rw [List.length_nil] at c
    exact ev_as (ev_now _) (decide_eq_false (by omega)).symm
theorem impl_SameConf_nil (l : List S125) : Ev (fun k => impl_SameConf.f k l []) (decide ((l.length : Int) = 0)) := ev_bind (slices_Equal_Db_nil l) (ev_now _)
theorem slices_Equal_Asker_nil (l : List S45) : Ev (fun k => slices_Equal_Asker.f k l []) (decide ((l.length : Int) = 0)) := by
  unfold slices_Equal_Asker.f
  refine ev_ite (fun c => ?_) (fun c => ?_)
  · rw [List.length_nil] at c
    exact ev_step (fun k => slices_Equal_Asker.l0.eq_2 ..) (ev_neg (by omega) (ev_as (ev_now _) (decide_eq_true (by omega)).symm))
  · rw [List.length_nil] at c
    exact ev_as (ev_now _) (decide_eq_false (by omega)).symm
theorem slices_Equal_Line_nil (l : List S46) : Ev (fun k => slices_Equal_Line.f k l []) (decide ((l.length : Int) = 0)) := by
  unfold slices_Equal_Line.f
  refine ev_ite (fun c => ?_) (fun c => ?_)
  · rw [List.length_nil] at c
    exact ev_step (fun k => slices_Equal_Line.l0.eq_2 ..) (ev_neg (by omega) (ev_as (ev_now _) (decide_eq_true (by omega)).symm))
  · rw [List.length_nil] at c
    exact ev_as (ev_now _) (decide_eq_false (by omega)).symm
theorem impl_SameHouse_idle (y0 y1 y2 : Int) (y3 : List S125) (y4 : Bool) (la : List S45) (ll : List S46) (tk y8 y9 y10 y11 : Int) : Ev (fun k => impl_SameHouse.f k y0 y1 y2 y3 y4 la ll tk y8 y9 y10 y11 y0 0 0 [] false [] [] 0 0 0 0 0) (idleB y1 y2 y3 y4 la ll tk y8 y9 y10 y11) := by
  unfold impl_SameHouse.f
  refine ev_pos rfl (ev_ite (fun d1 => ev_ite (fun d2 => ev_ite (fun d4 => ev_ite (fun d7 => ev_ite (fun d8 => ev_bind (impl_SameConf_nil y3) (ev_ite (fun d3 => ev_bind (slices_Equal_Asker_nil la) (ev_ite (fun d5 => ev_bind (slices_Equal_Line_nil ll) (ev_as (ev_now _) ?_)) (fun d5 => ev_as (ev_now _) ?_))) (fun d3 => ev_as (ev_now _) ?_))) (fun d8 => ev_as (ev_now _) ?_)) (fun d7 => ev_as (ev_now _) ?_)) (fun d4 => ev_as (ev_now _) ?_)) (fun d2 => ev_as (ev_now _) ?_)) (fun d1 => ev_as (ev_now _) ?_))
  · simp only [beq_iff_eq] at d4
    simp only [idleB, handB, d1, d2, d3, d4, d5, d7, d8, Bool.true_and, BEq.rfl, Bool.not_false, Bool.and_true]
  · simp only [idleB, eq_false_of_ne_true d5, Bool.false_and, Bool.and_false]
  · simp only [idleB, eq_false_of_ne_true d3, Bool.false_and, Bool.and_false]
  · simp only [idleB, handB, eq_false_of_ne_true d8, Bool.and_false]
  · simp [idleB, d7]
  · have : y4 = true := by cases y4 <;> simp_all
    simp [idleB, this]
  · simp [idleB, d2]
  · simp [idleB, d1]
theorem impl_dbPlace_eq (l : List S125) (a : ByteArray) : impl_dbPlace.f l a = some (idxF (fun x => x.f0.toList == a.toList) l 0) := rfl
theorem idxF_first {α : Type} (p : α → Bool) : ∀ (l : List α) (b : Int) (i : Nat) (hi : i < l.length), p l[i] = true → (idxF p l b = b + (i : Int) ↔ ∀ (j : Nat) (hj : j < i), p (l[j]'(by omega)) = false)
  | x :: l, b, 0, _, hp => by
    unfold idxF
    rw [if_pos (by simpa using hp)]
    exact ⟨fun _ j hj => absurd hj (by omega), fun _ => by omega⟩
  | x :: l, b, i + 1, hi, hp => by
    unfold idxF
    have ih := idxF_first p l (b + 1) i (by simpa using hi) (by simpa using hp)
    by_cases c : p x = true
    · rw [if_pos c]
      refine ⟨fun h => absurd h (by omega), fun h => ?_⟩
      have := h 0 (by omega)
      simp [c] at this
    · rw [if_neg c, show b + ((i + 1 : Nat) : Int) = b + 1 + (i : Int) by omega, ih]
      refine ⟨fun h j hj => ?_, fun h j hj => ?_⟩
      · match j with
        | 0 => simpa using c
        | j + 1 => exact h j (by omega)
      · exact h (j + 1) (by omega)
theorem rd_db (l : List S125) (j : Nat) (h : j < l.length) : rd_T125 l j = l[j] := by
  unfold rd_T125
  rw [Int.toNat_natCast, List.getD_eq_getElem?_getD, List.getElem?_eq_getElem h]
  rfl
theorem db_first (l : List S125) (i : Nat) (hi : i < l.length) : (idxF (fun x => x.f0.toList == (rd_T125 l i).f0.toList) l 0 = (i : Int)) ↔ allF (hD l (rd_T125 l i).f0) 0 i = true := by
  have h := idxF_first (fun x => x.f0.toList == (rd_T125 l i).f0.toList) l 0 i hi (by rw [rd_db l i hi]; simp)
  rw [Int.zero_add] at h
  rw [h, allF_iff]
  refine ⟨fun h j h0 h1 => ?_, fun h j hj => ?_⟩
  · have hj := h j.toNat (by omega)
    have e : rd_T125 l j = l[j.toNat]'(by omega) := by rw [← rd_db l j.toNat (by omega)]; congr 1; omega
    simp only [hD, e, hj, Bool.not_false]
  · have hj' := h (j : Int) (by omega) (by omega)
    simp only [hD, rd_db l j (by omega), Bool.not_eq_true'] at hj'
    exact hj'
theorem impl_ConfOk_l0 (l : List S125) (hl : l.length ≤ 4611686018427387904) (hz : szD l) (d : Nat) : ∀ i : Nat, i + d = l.length → Ev (fun k => impl_ConfOk.l0 k l l (l.length : Int) (i : Int)) (allF (hC l) (i : Int) d && inB l.length 1 3) := by
  induction d with
  | zero =>
    intro i hi
    exact ev_step (fun k => impl_ConfOk.l0.eq_2 ..) (ev_neg (by omega) (ev_bind1 (impl_isIn_eq _ _ _) (ev_as (ev_now _) (by simp [allF]))))
  | succ d ih =>
    intro i hi
    have w : wrap64 ((i : Int) + 1) = (i : Int) + 1 := w64 (by omega) (by omega)
    have hn := ih (i + 1) (by omega)
    rw [show ((i + 1 : Nat) : Int) = (i : Int) + 1 by omega] at hn
    have hf := db_first l i (by omega)
    refine ev_step (fun k => impl_ConfOk.l0.eq_2 ..) (ev_pos (by omega) (ev_pos (by omega) (ev_pos (by omega) (ev_bind (impl_nameOk_ev (rd_T125 l i).f0 (hz i (by omega))) (ev_ite (fun c => ev_bind1 (impl_dbPlace_eq l _) (ev_ite (fun c0 => ev_bind1 (impl_isIn_eq _ _ _) (ev_ite (fun c1 => ev_bind1 (impl_isIn_eq _ _ _) (ev_ite (fun c2 => ev_bind1 (impl_isIn_eq _ _ _) (ev_ite (fun c3 => ev_bind1 (impl_isIn_eq _ _ _) (ev_ite (fun c4 => ?_) (fun c4 => ev_as (ev_now _) ?_))) (fun c3 => ev_as (ev_now _) ?_))) (fun c2 => ev_as (ev_now _) ?_))) (fun c1 => ev_as (ev_now _) ?_))) (fun c0 => ev_as (ev_now _) ?_))) (fun c => ev_as (ev_now _) ?_))))))
    · rw [w]
      exact ev_as hn (by simp [allF, hC, dbB, c, hf.1 c0, c1, c2, c3, c4])
    · simp [allF, hC, dbB, c4]
    · simp [allF, hC, dbB, c3]
    · simp [allF, hC, dbB, c2]
    · simp [allF, hC, dbB, c1]
    · have : allF (hD l (rd_T125 l i).f0) 0 i = false := by rw [← Bool.not_eq_true, ← hf]; exact c0
      simp [allF, hC, this]
    · simp [allF, hC, dbB, c]
theorem impl_ConfOk_ev (l : List S125) (hl : l.length ≤ 4611686018427387904) (hz : szD l) : Ev (fun k => impl_ConfOk.f k l) (confB l) := impl_ConfOk_l0 l hl hz l.length 0 (by omega)
theorem impl_leased_eq (a : S45) (x : S46) : impl_leased.f a.f0 a.f1 a.f2 a.f3 a.f4 a.f5 a.f6 a.f7 x.f0 x.f1 x.f2 x.f3 x.f4 x.f5 x.f6 = some (lentB a x) := by
  unfold impl_leased.f lentB
  by_cases h1 : a.f6 = x.f0 <;> by_cases h2 : x.f5 = a.f0 <;> by_cases h3 : a.f7 = x.f6 <;> by_cases h4 : a.f1.toList = x.f1.toList <;> by_cases h5 : a.f2 = 3 <;> by_cases h6 : x.f3 = 1 <;> by_cases h7 : a.f2 = 4 <;> by_cases h8 : x.f3 = 2 <;> simp [h1, h2, h3, h4, h5, h6, h7, h8] <;> omega
theorem impl_AskerAt_eq (l : List S45) (a : Int) : impl_AskerAt.f l a = some (idxF (fun x => x.f0 == a) l 0) := rfl
theorem impl_pairsOk_l1 (y0 y1 y2 : Int) (y3 : List S125) (y4 : Bool) (la : List S45) (ll : List S46) (tk y8 y9 y10 y11 : Int) (hla : la.length ≤ 4611686018427387904) (hll : ll.length ≤ 4611686018427387904) (d : Nat) : ∀ i : Nat, i + d = ll.length → Ev (fun k => impl_pairsOk.l1 k ll (ll.length : Int) (i : Int) y0 y1 y2 y3 y4 la ll tk y8 y9 y10 y11) (allF (hQ la ll) (i : Int) d) := by
  induction d with
  | zero =>
    intro i hi
    exact ev_step (fun k => impl_pairsOk.l1.eq_2 ..) (ev_neg (by omega) (ev_as (ev_now _) (by simp [allF])))
  | succ d ih =>
    intro i hi
    have w : wrap64 ((i : Int) + 1) = (i : Int) + 1 := w64 (by omega) (by omega)
    have hn := ih (i + 1) (by omega)
    rw [show ((i + 1 : Nat) : Int) = (i : Int) + 1 by omega, ← w] at hn
    have hb := idxF_lt (fun x => x.f0 == (rd_T46 ll i).f5) la 0
    refine ev_step (fun k => impl_pairsOk.l1.eq_2 ..) (ev_pos (by omega) (ev_pos (by omega) (ev_pos (by omega) (ev_ite (fun c => ?_) (fun c => ev_bind1 (impl_AskerAt_eq la _) (ev_ite (fun c1 => ?_) (fun c1 => ev_pos (by omega) (ev_pos (by omega) (ev_bind1 (impl_leased_eq _ _) (ev_ite (fun c2 => ?_) (fun c2 => ?_)))))))))))
    · exact ev_as hn (by rw [w]; simp [allF, hQ, c])
    · exact ev_as (ev_now _) (by simp [allF, hQ, c, c1])
    · exact ev_as hn (by rw [w]; simp [allF, hQ, c, c1, c2])
    · exact ev_as (ev_now _) (by simp [allF, hQ, c, c1, c2])
theorem impl_pairsOk_j1 (b : Bool) (y0 y1 y2 : Int) (y3 : List S125) (y4 : Bool) (la : List S45) (ll : List S46) (tk y8 y9 y10 y11 : Int) (x : S45) (i : Nat) (v : Bool) (hi : i < la.length) (hla : la.length ≤ 4611686018427387904) (hn : Ev (fun k => impl_pairsOk.l0 k la (la.length : Int) ((i : Int) + 1) y0 y1 y2 y3 y4 la ll tk y8 y9 y10 y11) v) : Ev (fun k => impl_pairsOk.j1 k la (la.length : Int) (i : Int) b y0 y1 y2 y3 y4 la ll tk y8 y9 y10 y11 x.f0 x.f1 x.f2 x.f3 x.f4 x.f5 x.f6 x.f7) ((if b = true then (!decide (idxF (fun z => z.f0 == x.f6) ll 0 < 0)) && lentB x (rd_T46 ll (idxF (fun z => z.f0 == x.f6) ll 0)) else true) && v) := by
  have w : wrap64 ((i : Int) + 1) = (i : Int) + 1 := w64 (by omega) (by omega)
  have hb := idxF_lt (fun z => z.f0 == x.f6) ll 0
  refine ev_step (fun k => impl_pairsOk.j1.eq_2 ..) (ev_ite (fun c => ev_bind1 (impl_LineAt_eq ll _) (ev_ite (fun c1 => ?_) (fun c1 => ev_pos (by omega) (ev_pos (by omega) (ev_bind1 (impl_leased_eq _ _) (ev_ite (fun c2 => ?_) (fun c2 => ?_))))))) (fun c => ?_))
  · exact ev_as (ev_now _) (by simp [c, c1])
  · rw [w]
    exact ev_as hn (by simp [c, c1, c2])
  · exact ev_as (ev_now _) (by simp [c, c1, c2])
  · rw [w]
    exact ev_as hn (by simp [c])
theorem askerB_st (a : S45) (h : askerB a.f0 a.f1 a.f2 a.f3 a.f4 a.f5 a.f6 a.f7 = true) : a.f2 ≤ 4 := by
  unfold askerB at h
  by_cases h0 : a.f2 ≤ 4
  · exact h0
  · simp [show ¬ a.f2 = 0 by omega, show ¬ a.f2 = 1 by omega, show ¬ a.f2 = 2 by omega, show ¬ a.f2 = 3 by omega, show ¬ a.f2 = 4 by omega] at h
theorem impl_pairsOk_l0 (y0 y1 y2 : Int) (y3 : List S125) (y4 : Bool) (la : List S45) (ll : List S46) (tk y8 y9 y10 y11 : Int) (hla : la.length ≤ 4611686018427387904) (hll : ll.length ≤ 4611686018427387904) (hst : ∀ i : Nat, i < la.length → (rd_T45 la i).f2 ≤ 4) (d : Nat) : ∀ i : Nat, i + d = la.length → Ev (fun k => impl_pairsOk.l0 k la (la.length : Int) (i : Int) y0 y1 y2 y3 y4 la ll tk y8 y9 y10 y11) (allF (hP la ll) (i : Int) d && allF (hQ la ll) 0 ll.length) := by
  induction d with
  | zero =>
    intro i hi
    exact ev_step (fun k => impl_pairsOk.l0.eq_2 ..) (ev_neg (by omega) (ev_as (impl_pairsOk_l1 y0 y1 y2 y3 y4 la ll tk y8 y9 y10 y11 hla hll ll.length 0 (by omega)) (by simp [allF])))
  | succ d ih =>
    intro i hi
    have hs := hst i (by omega)
    have hn := ih (i + 1) (by omega)
    rw [show ((i + 1 : Nat) : Int) = (i : Int) + 1 by omega] at hn
    refine ev_step (fun k => impl_pairsOk.l0.eq_2 ..) (ev_pos (by omega) (ev_pos (by omega) (ev_pos (by omega) (ev_ite (fun c => ?_) (fun c => ?_)))))
    · exact ev_as (impl_pairsOk_j1 true y0 y1 y2 y3 y4 la ll tk y8 y9 y10 y11 (rd_T45 la i) i _ (by omega) hla hn) (by simp [allF, hP, c, Bool.and_assoc])
    · refine ev_as (impl_pairsOk_j1 _ y0 y1 y2 y3 y4 la ll tk y8 y9 y10 y11 (rd_T45 la i) i _ (by omega) hla hn) ?_
      by_cases c4 : (rd_T45 la i).f2 = 4
      · simp [allF, hP, c4, Bool.and_assoc]
      · simp [allF, hP, c4, show ¬ (rd_T45 la i).f2 ≥ 3 by omega]
theorem impl_pairsOk_ev (y0 y1 y2 : Int) (y3 : List S125) (y4 : Bool) (la : List S45) (ll : List S46) (tk y8 y9 y10 y11 : Int) (hla : la.length ≤ 4611686018427387904) (hll : ll.length ≤ 4611686018427387904) (hst : ∀ i : Nat, i < la.length → (rd_T45 la i).f2 ≤ 4) : Ev (fun k => impl_pairsOk.f k y0 y1 y2 y3 y4 la ll tk y8 y9 y10 y11) (pairsB la ll) := impl_pairsOk_l0 y0 y1 y2 y3 y4 la ll tk y8 y9 y10 y11 hla hll hst la.length 0 (by omega)
theorem impl_owningOk_ev (y0 y1 y2 : Int) (y3 : List S125) (y4 : Bool) (la : List S45) (ll : List S46) (tk y8 y9 y10 y11 : Int) (h3 : y3.length ≤ 4611686018427387904) (hz : szD y3) (hla : la.length ≤ 4611686018427387904) (hll : ll.length ≤ 4611686018427387904) (hst : ∀ i : Nat, i < la.length → (rd_T45 la i).f2 ≤ 4) : Ev (fun k => impl_owningOk.f k y0 y1 y2 y3 y4 la ll tk y8 y9 y10 y11) (ownB y1 y2 y3 la ll) := by
  have P := impl_pairsOk_ev y0 y1 y2 y3 y4 la ll tk y8 y9 y10 y11 hla hll hst
  have C := impl_ConfOk_ev y3 h3 hz
  have J : ∀ b : Bool, Ev (fun k => impl_owningOk.j0 k b y0 y1 y2 y3 y4 la ll tk y8 y9 y10 y11) (!b && (!(decide (y2 = 0) && decide ((y3.length : Int) > 0)) && ((if y2 > 0 then confB y3 else true) && pairsB la ll))) := fun b => by
    refine ev_step (fun k => impl_owningOk.j0.eq_2 ..) (ev_ite (fun c => ev_as (ev_now _) (by simp [c])) (fun c => ev_ite (fun c3 => ev_ite (fun c4 => ev_as (ev_now _) (by rw [decide_eq_true c3, decide_eq_true c4]; simp)) (fun c4 => ev_neg (by omega) (ev_bind P (ev_as (ev_now _) (by rw [decide_eq_false c4, if_neg (show ¬ y2 > 0 by omega)]; simp [c]))))) (fun c3 => ev_ite (fun c5 => ev_bind C (ev_ite (fun c6 => ev_bind P (ev_as (ev_now _) (by simp [c, c3, c5, c6]))) (fun c6 => ev_as (ev_now _) (by simp [c5, c6])))) (fun c5 => ev_bind P (ev_as (ev_now _) (by simp [c, c3, c5]))))))
  unfold impl_owningOk.f ownB
  exact ev_bind1 (impl_isIn_eq _ _ _) (ev_ite (fun c => ev_bind1 (impl_isIn_eq _ _ _) (ev_as (J _) (by simp [c]))) (fun c => ev_as (J true) (by simp [c])))
theorem impl_HouseOk_j0 (b : Bool) (y0 y1 y2 : Int) (y3 : List S125) (y4 : Bool) (la : List S45) (ll : List S46) (tk y8 y9 y10 y11 : Int) (h3 : y3.length ≤ 4611686018427387904) (hz : szD y3) (hla : la.length ≤ 4611686018427387904) (hll : ll.length ≤ 4611686018427387904) (hst : ∀ i : Nat, i < la.length → (rd_T45 la i).f2 ≤ 4) : Ev (fun k => impl_HouseOk.j0 k y0 b y0 y1 y2 y3 y4 la ll tk y8 y9 y10 y11) (if b = true then idleB y1 y2 y3 y4 la ll tk y8 y9 y10 y11 else if y0 = 4 then takeB y1 y2 y3 y8 y9 y10 y11 else if y0 = 2 then ownB y1 y2 y3 la ll && handB y8 y9 y10 y11 else if y0 = 3 then ownB y1 y2 y3 la ll && freezeB y1 y8 y9 y10 y11 else false) := by
  have O := impl_owningOk_ev y0 y1 y2 y3 y4 la ll tk y8 y9 y10 y11 h3 hz hla hll hst
  refine ev_step (fun k => impl_HouseOk.j0.eq_2 ..) (ev_ite (fun c => ?_) (fun c => ev_ite (fun c2 => ev_bind O (ev_ite (fun o => ev_as (ev_now _) ?_) (fun o => ev_as (ev_now _) ?_))) (fun c2 => ev_ite (fun c3 => ev_bind O (ev_ite (fun o => ?_) (fun o => ev_as (ev_now _) ?_))) (fun c3 => ev_ite (fun c4 => ?_) (fun c4 => ev_as (ev_now _) ?_)))))
  · rw [if_pos c]
    exact ev_bind (impl_SameHouse_idle y0 y1 y2 y3 y4 la ll tk y8 y9 y10 y11) (ev_now _)
  · simp [c, c2, o, handB]
  · simp [c, c2, o]
  · refine ev_ite (fun d3 => ev_bind1 (impl_isIn_eq _ _ _) (ev_ite (fun d4 => ev_bind1 (impl_isIn_eq _ _ _) (ev_ite (fun d5 => ev_bind1 (impl_sinceOk_eq _) (ev_as (ev_now _) ?_)) (fun d5 => ev_as (ev_now _) ?_))) (fun d4 => ev_as (ev_now _) ?_))) (fun d3 => ev_as (ev_now _) ?_)
    · simp [c, c3, o, freezeB, d3, d4, d5]
    · simp [c, c3, freezeB, d5]
    · simp [c, c3, freezeB, d4]
    · simp [c, c3, freezeB, d3]
  · simp [c, c3, o]
  · rw [if_neg c, if_pos c4]
    refine ev_ite (fun d1 => ev_ite (fun d2 => ev_ite (fun d3 => ev_bind1 (impl_isIn_eq _ _ _) (ev_ite (fun d4 => ev_bind1 (impl_isIn_eq _ _ _) (ev_ite (fun d5 => ev_bind1 (impl_isIn_eq _ _ _) (ev_ite (fun d6 => ev_bind1 (impl_sinceOk_eq _) (ev_as (ev_now _) ?_)) (fun d6 => ev_as (ev_now _) ?_))) (fun d5 => ev_as (ev_now _) ?_))) (fun d4 => ev_as (ev_now _) ?_))) (fun d3 => ev_as (ev_now _) ?_)) (fun d2 => ev_as (ev_now _) ?_)) (fun d1 => ev_as (ev_now _) ?_)
    · rw [w_pred y9 d5] at d6
      simp only [takeB, d1, d2, d3, d4, d5, d6, decide_true, Bool.true_and, BEq.rfl]
    · rw [w_pred y9 d5] at d6
      simp [takeB, d6]
    · simp [takeB, d5]
    · simp [takeB, d4]
    · simp only [takeB, d3, decide_false, Bool.false_and, Bool.and_false]
    · simp [takeB, d2]
    · simp [takeB, d1]
  · simp [c, c2, c3, c4]
theorem impl_HouseOk_ev (y0 y1 y2 : Int) (y3 : List S125) (y4 : Bool) (la : List S45) (ll : List S46) (tk y8 y9 y10 y11 : Int) (h3 : y3.length ≤ 4611686018427387904) (hz : szD y3) (hla : la.length ≤ 1048576) (hll : ll.length ≤ 4611686018427387904) (hza : szA la) (hzl : szL ll) : Ev (fun k => impl_HouseOk.f k y0 y1 y2 y3 y4 la ll tk y8 y9 y10 y11) (houseB y0 y1 y2 y3 y4 la ll tk y8 y9 y10 y11) := by
  unfold houseB
  refine ev_bind (impl_listsOk_ev y0 y1 y2 y3 y4 la ll tk y8 y9 y10 y11 hla hll hza hzl) (ev_ite (fun c => ?_) (fun c => ev_as (ev_now _) (by simp [c])))
  have hst : ∀ i : Nat, i < la.length → (rd_T45 la i).f2 ≤ 4 := fun i hi => by
    have hA' := c
    unfold listsB at hA'
    rw [Bool.and_eq_true, allF_iff] at hA'
    have h := hA'.1 (i : Int) (by omega) (by omega)
    unfold hA at h
    rw [Bool.and_eq_true] at h
    exact askerB_st _ h.1
  have J := fun b => impl_HouseOk_j0 b y0 y1 y2 y3 y4 la ll tk y8 y9 y10 y11 h3 hz (by omega) hll hst
  refine ev_ite (fun c0 => ev_as (J _) ?_) (fun c0 => ev_as (J _) ?_)
  · simp [c, c0]
  · by_cases c1 : y0 = 1 <;> simp [c, c0, c1]
theorem FnExactHouseOk : VFnExactHouseOk.Pure := by
  intro x hG
  refine ev_rounds ?_
  unfold laws_FnExactHouseOk.f
  obtain ⟨t, et, ct⟩ := sz_House x hG 1048576 (by omega) (by omega)
  rcases ct with ct | ⟨ct, dt⟩
  · exact ev_bind et (ev_pos ct (ev_now _))
  have hs : szv_House x ≤ 1048576 := by omega
  have hto := to_House x hs
  have hlen : x.f3.length ≤ 1048576 ∧ x.f5.length ≤ 1048576 ∧ x.f6.length ≤ 1048576 := by
    unfold szv_House szl_DbS szl_AskerS szl_LineS at hs
    omega
  have hq : eqc_House (cv_House x) := by
    show (x.f3.map cv_Db).length ≤ _ ∧ (x.f5.map cv_Asker).length ≤ _ ∧ (x.f6.map cv_Line).length ≤ _
    simp only [List.length_map]
    omega
  have hD : szD (cv_House x).f3 := by
    intro i hi
    have hi' : i < x.f3.length := by simpa using (show i < (x.f3.map cv_Db).length from hi)
    have e : rd_T125 (x.f3.map cv_Db) i = cv_Db x.f3[i] := by
      unfold rd_T125
      simp [List.getD_eq_getElem?_getD, hi']
    show (rd_T125 (x.f3.map cv_Db) i).f0.size ≤ _
    rw [e]
    have hm := mem_sum szv_Db x.f3 x.f3[i] (List.getElem_mem hi')
    unfold szv_House szl_DbS at hs
    have : szv_Db x.f3[i] ≤ 1048576 := by omega
    unfold szv_Db at this
    show x.f3[i].f0.size ≤ _
    omega
  have hAs : szA (cv_House x).f5 := by
    intro i hi
    have hi' : i < x.f5.length := by simpa using (show i < (x.f5.map cv_Asker).length from hi)
    have e : rd_T45 (x.f5.map cv_Asker) i = cv_Asker x.f5[i] := by
      unfold rd_T45
      simp [List.getD_eq_getElem?_getD, hi']
    show (rd_T45 (x.f5.map cv_Asker) i).f1.size ≤ _ ∧ (rd_T45 (x.f5.map cv_Asker) i).f5.size ≤ _
    rw [e]
    have hm := mem_sum szv_Asker x.f5 x.f5[i] (List.getElem_mem hi')
    unfold szv_House szl_AskerS at hs
    have : szv_Asker x.f5[i] ≤ 1048576 := by omega
    unfold szv_Asker at this
    exact ⟨show x.f5[i].f1.size ≤ _ by omega, show x.f5[i].f5.size ≤ _ by omega⟩
  have hLs : szL (cv_House x).f6 := by
    intro i hi
    have hi' : i < x.f6.length := by simpa using (show i < (x.f6.map cv_Line).length from hi)
    have e : rd_T46 (x.f6.map cv_Line) i = cv_Line x.f6[i] := by
      unfold rd_T46
      simp [List.getD_eq_getElem?_getD, hi']
    show (rd_T46 (x.f6.map cv_Line) i).f1.size ≤ _
    rw [e]
    have hm := mem_sum szv_Line x.f6 x.f6[i] (List.getElem_mem hi')
    unfold szv_House szl_LineS at hs
    have : szv_Line x.f6[i] ≤ 1048576 := by omega
    unfold szv_Line at this
    show x.f6[i].f1.size ≤ _
    omega
  have l3 : (cv_House x).f3.length ≤ 1048576 := by show (x.f3.map cv_Db).length ≤ _; rw [List.length_map]; exact hlen.1
  have l5 : (cv_House x).f5.length ≤ 1048576 := by show (x.f5.map cv_Asker).length ≤ _; rw [List.length_map]; exact hlen.2.1
  have l6 : (cv_House x).f6.length ≤ 1048576 := by show (x.f6.map cv_Line).length ≤ _; rw [List.length_map]; exact hlen.2.2
  have e1 := spec_HouseOk_ev (cv_House x).f0 (cv_House x).f1 (cv_House x).f2 (cv_House x).f3 (cv_House x).f4 (cv_House x).f5 (cv_House x).f6 (cv_House x).f7 (cv_House x).f8.f0 (cv_House x).f8.f1 (cv_House x).f8.f2 (cv_House x).f8.f3 (by omega) hD (by omega) (by omega) hAs hLs
  have e2 := impl_HouseOk_ev (cv_House x).f0 (cv_House x).f1 (cv_House x).f2 (cv_House x).f3 (cv_House x).f4 (cv_House x).f5 (cv_House x).f6 (cv_House x).f7 (cv_House x).f8.f0 (cv_House x).f8.f1 (cv_House x).f8.f2 (cv_House x).f8.f3 (by omega) hD l5 (by omega) hAs hLs
  exact ev_bind et (ev_neg (by omega) (ev_bind hto (ev_bind e1 (ev_bind hto (ev_bind e2 (ev_neg (by simp) (ev_bind hto (ev_bind (eq_House (cv_House x) hq) (ev_pos rfl (ev_now _))))))))))
end Go.Proofs.Ytahfemlfdpbkkaa.Pure
namespace Go.Proofs.Ytahfemlfdpbkkaa.fnExactHouseOk
open Go.ChangeShapes Go.WideShapes Go.ChangeAt Go.RowKit Go.Proofs.Ytahfemlfdpbkkaa.PFnExactHouseOk Go.Proofs.Ytahfemlfdpbkkaa.VFnExactHouseOk Go.Proofs.YtahfemlfdpbkkaaV Go.Proofs.YtahfemlfdpbkkaaW.PrintWords
open Go.ChangeMaps (open_string shut_string)
set_option linter.unusedVariables false
theorem own : ownKnob Try.prog.godebug = none := by kernel_rfl
theorem laidOut : laidOutB Try.prog = true := by kernel_rfl
set_option maxRecDepth 100000 in
theorem lifted (os : Os) (started : os.Started) (H : Type) (enc : TypeId × Value → H) :
    ReturnsInHanded {} Try.checked os 13 .any (Rows.fnExactHouseOkSpec.pre6 enc Try.prog Try.f13 Rows.fnExactHouseOkRow.domain false) (Rows.fnExactHouseOkSpec.post enc Try.prog Try.f13 false true false false) := by
  refine returnsInHanded_of_change_sized (C := Try.checked) own started (by kernel_rfl) Try.func13
    (ChangeSpec.witness6 (enc := enc) (C := Try.checked) false ⟨#[], #[.agg #[(.int .i64 0), (.int .i64 0), (.int .i64 0), (.slice none 0 0), (.bool false), (.slice none 0 0), (.slice none 0 0), (.int .i64 0), (.int .i64 0), (.int .i64 0), (.int .i64 0), (.int .i64 0)]], []⟩ 8 (by kernel_rfl) (by kernel_rfl) (by kernel_rfl) (by kernel_rfl)) ?_
  intro W base args ds gs before hval0 hW hcnd hsz0 _
  have hsz : (DataW.weightsEach Try.prog (Try.f13.params.toList ++ Rows.fnExactHouseOkSpec.plain.varTypes Try.prog) (ds ++ gs)).all (· ≤ reachBytes) = true := hsz0
  have hval : ∀ (j : Nat) t v, Try.f13.params[j]? = some t → args[j]? = some v → Value.okWide Try.prog W .any base t v := hval0
  have hW' := hW
  obtain ⟨p, q, hA0, hV, rfl, hfz, hnd⟩ := hW
  have hA : DataW.TrodAll enc Try.prog W 0 (fun _ => true) true Try.f13.params.toList args.toList ds p := hA0
  rw [Try.params13] at hA hval hsz
  obtain ⟨v0, vs0, d0, ds0, p0, q0, hargs, rfl, rfl, h0, r0⟩ := trodAll_cons hA
  obtain ⟨rfl, rfl, rfl⟩ := trodAll_nil r0
  obtain rfl : args = #[v0] := by cases args; simp_all
  obtain ⟨rfl, rfl⟩ := trodVars_none hV
  have k0 := h0
  have lt0 : ∀ x ∈ p0, x.block < W.heap.size := by obtain ⟨m, hm⟩ := k0; exact DataW.trod_lt m _ _ _ hm
  obtain ⟨x0, cs0, rfl, hK0, hG0⟩ := (opn59 W).agg Try.underlying59 (hval 0 59 v0 rfl rfl) h0
  obtain ⟨A0_3, c0_3, A0_5, c0_5, A0_6, c0_6, rfl, l0_3, g0_3, l0_5, g0_5, l0_6, g0_6⟩ := k59_open hK0
  clear hA0 hval0 hsz0 hsz
  obtain ⟨k, hk⟩ := Pure.FnExactHouseOk x0 hG0
  refine (laws_FnExactHouseOk.calls k x0.f0 x0.f1 x0.f2 _ _ x0.f3 x0.f4 _ _ x0.f5 _ _ x0.f6 x0.f7 x0.f8.f0 x0.f8.f1 x0.f8.f2 x0.f8.f3 true W g0_3 l0_3 g0_5 l0_5 g0_6 l0_6 ⟨rfl⟩ hk).mono fun e W' ⟨he, bel⟩ => ?_
  subst he
  exact ⟨_, rfl, _, _, _, [], _, [], hW', trodAll_mk1 (shut_bool Try.underlying4 _), (trodAll_cons_mk (Below.trod laidOut (by kernel_rfl) (of_decide_eq_true (by kernel_rfl)) k0 bel lt0) trodAll_mk0), rfl, bel.frame _, fun h => by cases h⟩
theorem over : Rows.fnExactHouseOkRow.holds Try.pinned (OpenSpec.ofChange Rows.fnExactHouseOkSpec) :=
  OpenClaim.holds_of_wide 13 Try.f13 rfl rfl rfl rfl rfl rfl rfl ⟨rfl, rfl, rfl, rfl, rfl⟩ rfl rfl rfl rfl rfl (by kernel_rfl) Try.func13 (by kernel_rfl)
    (of_decide_eq_true (by kernel_rfl)) (by unfold Func.isWrapper; first | (rw [if_pos (by decide +kernel)]; kernel_rfl) | (rw [if_neg (by decide +kernel)]; exact ⟨rfl, rfl⟩))
    (fun os started H enc _ => lifted os started H enc)
theorem proved : Rows.FnExactHouseOkSaid := over
#print axioms proved
end Go.Proofs.Ytahfemlfdpbkkaa.fnExactHouseOk
namespace Go.Proofs.Ytahfemlfdpbkkaa
theorem fnExactHouseOk_holds : Rows.FnExactHouseOkSaid := fnExactHouseOk.proved
end Go.Proofs.Ytahfemlfdpbkkaa
