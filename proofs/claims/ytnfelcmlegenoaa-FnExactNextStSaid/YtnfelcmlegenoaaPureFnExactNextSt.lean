/- The program's NextSt answers as the reference's, whatever the two numbers. -/
import Derived.Test.YtnfelcmlegenoaaPFnExactNextStx1
import Derived.Test.YtnfelcmlegenoaaVBase
namespace Go.Proofs.Ytnfelcmlegenoaa.Pure
open Go.RowKit Go.Proofs.Ytnfelcmlegenoaa.PFnExactNextSt Go.Proofs.YtnfelcmlegenoaaW.PrintWords Go.Proofs.YtnfelcmlegenoaaW.PrintLast Go.Proofs.YtnfelcmlegenoaaV
set_option linter.unusedVariables false
set_option linter.unusedSimpArgs false
set_option maxRecDepth 20000

/-! ### spec_NextSt -/
/-- The status that a word leads to. -/
def nextV (st w : Int) : Int := if st = 0 then (if w = 1 then 1 else 0) else if st = 1 then (if w = 4 then 2 else if w = 2 ∨ w = 3 then 0 else 1) else if st = 2 then (if w = 2 ∨ w = 3 then 0 else 2) else 0
theorem spec_NextSt_ev (st w : Int) : Ev (fun k => spec_NextSt.f k st w) (nextV st w) := by
  have key : ∀ b : Bool, b = decide (w = 2 ∨ w = 3) → Ev (fun k => spec_NextSt.j0 k st w b) (nextV st w) := by
    intro b hb
    refine ev_step (fun k => spec_NextSt.j0.eq_2 ..) ?_
    refine ev_as (ev_eq (r := nextV st w) ?_) rfl
    unfold nextV
    by_cases s0 : st = 0
    · simp only [s0, if_true]
      split <;> rfl
    · simp only [s0, if_false]
      by_cases s1 : st = 1
      · simp only [s1, if_true]
        by_cases h4 : w = 4
        · simp [h4]
        · by_cases h2 : w = 2 ∨ w = 3 <;> simp [h4, h2, hb]
      · simp only [s1, if_false]
        by_cases s2 : st = 2
        · by_cases h2 : w = 2 ∨ w = 3 <;> simp [s2, h2, hb]
        · simp [s2]
  unfold spec_NextSt.f
  refine ev_ite (fun c => ?_) (fun c => ?_)
  · exact key true (by simp [c])
  · exact key _ (by simp only [c, false_or]; rfl)

/-! ### impl_NextSt -/
theorem impl_NextSt_ev (st w : Int) : Ev (fun k => impl_NextSt.f k st w) (nextV st w) := by
  have k2 : ∀ b c : Bool, Ev (fun k => impl_NextSt.j2 k st b c) (if c = true then 2 else if st = 1 ∨ st = 2 then (if b = true then 0 else st) else 0) := by
    intro b c
    refine ev_step (fun k => impl_NextSt.j2.eq_2 ..) ?_
    refine ev_as (ev_eq (r := (if c = true then 2 else if st = 1 ∨ st = 2 then (if b = true then 0 else st) else 0)) ?_) rfl
    by_cases hc : c = true
    · simp [hc]
    · by_cases s1 : st = 1
      · by_cases hb : b = true <;> simp [hc, s1, hb]
      · by_cases s2 : st = 2
        · by_cases hb : b = true <;> simp [hc, s2, hb]
        · simp [hc, s1, s2]
  have k1 : ∀ b c : Bool, Ev (fun k => impl_NextSt.j1 k st w b c) (if c = true then 1 else if st = 1 ∧ w = 4 then 2 else if st = 1 ∨ st = 2 then (if b = true then 0 else st) else 0) := by
    intro b c
    refine ev_step (fun k => impl_NextSt.j1.eq_2 ..) ?_
    refine ev_ite (fun hc => ?_) (fun hc => ev_ite (fun s1 => ?_) (fun s1 => ?_))
    · exact ev_as (ev_now _) (by simp [hc])
    · refine ev_as (k2 _ _) ?_
      by_cases h4 : w = 4 <;> simp [hc, s1, h4]
    · refine ev_as (k2 _ _) ?_
      simp [hc, s1]
  have key : ∀ b : Bool, b = decide (w = 2 ∨ w = 3) → Ev (fun k => impl_NextSt.j0 k st w b) (nextV st w) := by
    intro b hb
    refine ev_step (fun k => impl_NextSt.j0.eq_2 ..) ?_
    refine ev_ite (fun s0 => ?_) (fun s0 => ?_)
    · refine ev_as (k1 _ _) ?_
      by_cases h1 : w = 1 <;> simp [nextV, s0, h1]
    · refine ev_as (k1 _ _) ?_
      unfold nextV
      by_cases s1 : st = 1
      · by_cases h4 : w = 4
        · simp [s1, h4]
        · by_cases h2 : w = 2 ∨ w = 3 <;> simp [s1, h4, h2, hb]
      · by_cases s2 : st = 2
        · by_cases h2 : w = 2 ∨ w = 3 <;> simp [s2, h2, hb]
        · simp [s0, s1, s2]
  unfold impl_NextSt.f
  refine ev_ite (fun c => ?_) (fun c => ?_)
  · exact key true (by simp [c])
  · exact key _ (by simp only [c, false_or]; rfl)

theorem FnExactNextSt : laws_FnExactNextSt.Pure := by
  intro a0 a1 _ _
  refine ⟨4, ?_⟩
  unfold laws_FnExactNextSt.f spec_NextSt.f impl_NextSt.f
  by_cases h2 : a1 = 2
  · subst h2
    by_cases s0 : a0 = 0
    · subst s0; rfl
    · by_cases s1 : a0 = 1
      · subst s1; rfl
      · by_cases s2 : a0 = 2
        · subst s2; rfl
        · simp [spec_NextSt.j0, impl_NextSt.j0, impl_NextSt.j1, impl_NextSt.j2, s0, s1, s2]
  · by_cases h1 : a1 = 1
    · subst h1
      by_cases s0 : a0 = 0
      · subst s0; rfl
      · by_cases s1 : a0 = 1
        · subst s1; rfl
        · by_cases s2 : a0 = 2
          · subst s2; rfl
          · simp [spec_NextSt.j0, impl_NextSt.j0, impl_NextSt.j1, impl_NextSt.j2, s0, s1, s2]
    · by_cases h3 : a1 = 3
      · subst h3
        by_cases s0 : a0 = 0
        · subst s0; rfl
        · by_cases s1 : a0 = 1
          · subst s1; rfl
          · by_cases s2 : a0 = 2
            · subst s2; rfl
            · simp [spec_NextSt.j0, impl_NextSt.j0, impl_NextSt.j1, impl_NextSt.j2, s0, s1, s2]
      · by_cases h4 : a1 = 4
        · subst h4
          by_cases s0 : a0 = 0
          · subst s0; rfl
          · by_cases s1 : a0 = 1
            · subst s1; rfl
            · by_cases s2 : a0 = 2
              · subst s2; rfl
              · simp [spec_NextSt.j0, impl_NextSt.j0, impl_NextSt.j1, impl_NextSt.j2, s0, s1, s2]
        · by_cases s0 : a0 = 0
          · subst s0; simp [spec_NextSt.j0, impl_NextSt.j0, impl_NextSt.j1, impl_NextSt.j2, h1, h2, h3, h4]
          · by_cases s1 : a0 = 1
            · subst s1; simp [spec_NextSt.j0, impl_NextSt.j0, impl_NextSt.j1, impl_NextSt.j2, h1, h2, h3, h4]
            · by_cases s2 : a0 = 2
              · subst s2; simp [spec_NextSt.j0, impl_NextSt.j0, impl_NextSt.j1, impl_NextSt.j2, h1, h2, h3, h4]
              · simp [spec_NextSt.j0, impl_NextSt.j0, impl_NextSt.j1, impl_NextSt.j2, s0, s1, s2, h1, h2, h3, h4]
end Go.Proofs.Ytnfelcmlegenoaa.Pure
