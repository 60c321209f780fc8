/- FnExactArityOf: the program's ArityOf answers what the reference's answers, for every number. Conditions: none. -/
import Derived.Test.YtbhjkheedhlelaaXFnExactArityOfx1
namespace Go.Proofs.Ytbhjkheedhlelaa.Pure
open Go.RowKit Go.Proofs.Ytbhjkheedhlelaa.XFnExactArityOf Go.Proofs.YtbhjkheedhlelaaW.PrintWords
set_option linter.unusedVariables false
set_option linter.unusedSimpArgs false
theorem in2 (x y z : Int) : impl_InRange.f x y z = some (decide (y ≤ x ∧ x ≤ z)) := by
  unfold impl_InRange.f
  by_cases h : y ≤ x
  · rw [if_pos h]; simp [h]
  · rw [if_neg h]; simp; omega
theorem FnExactArityOf : laws_FnExactArityOf.Pure := by
  intro a _
  refine ⟨1, ?_⟩
  simp only [laws_FnExactArityOf.f, spec_ArityOf.f, spec_ArityOf.j0, impl_ArityOf.f, impl_ArityOf.j0, in2, Option.bind_some]
  by_cases h1 : a = 1
  · subst h1; rfl
  by_cases h2 : a = 2
  · subst h2; rfl
  by_cases h3 : a = 3
  · subst h3; rfl
  by_cases h4 : a = 4
  · subst h4; rfl
  by_cases h5 : a = 5
  · subst h5; rfl
  by_cases h6 : a = 6
  · subst h6; rfl
  by_cases h7 : a = 7
  · subst h7; rfl
  by_cases h8 : a = 8
  · subst h8; rfl
  by_cases h9 : a = 9
  · subst h9; rfl
  have h : ¬ (1 ≤ a ∧ a ≤ 6) := by omega
  simp [h1, h2, h3, h4, h5, h6, h7, h8, h9, h]
end Go.Proofs.Ytbhjkheedhlelaa.Pure
