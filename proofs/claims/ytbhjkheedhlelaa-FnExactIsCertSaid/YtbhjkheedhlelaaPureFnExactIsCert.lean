/- FnExactIsCert: the program's IsCert answers what the reference's answers, for every certificate. Conditions: none. -/
import Derived.Test.YtbhjkheedhlelaaXFnExactIsCertx1
namespace Go.Proofs.Ytbhjkheedhlelaa.Pure
open Go.RowKit Go.Proofs.Ytbhjkheedhlelaa.XFnExactIsCert Go.Proofs.YtbhjkheedhlelaaW.PrintWords
set_option linter.unusedVariables false
set_option linter.unusedSimpArgs false
theorem in1 (x y z : Int) : spec_l1In.f x y z = some (decide (y ≤ x ∧ x ≤ z)) := by
  unfold spec_l1In.f
  by_cases h : x ≥ y
  · rw [if_pos h]; simp [show y ≤ x from h]
  · rw [if_neg h]; simp; omega
theorem in2 (x y z : Int) : impl_InRange.f x y z = some (decide (y ≤ x ∧ x ≤ z)) := by
  unfold impl_InRange.f
  by_cases h : y ≤ x
  · rw [if_pos h]; simp [h]
  · rw [if_neg h]; simp; omega
theorem FnExactIsCert : laws_FnExactIsCert.Pure := by
  intro a b c d e f _ _ _ _ _ _
  simp only [laws_FnExactIsCert.f, laws_toCert.f, spec_IsCert.f, impl_IsCert.f, spec_IsName.f, spec_IsValidKey.f, spec_IsTime.f, impl_IsName.f, impl_IsValidKey.f, impl_IsTime.f, in1, in2, Option.bind_some, decide_eq_true_eq]
  by_cases h1 : 1 ≤ a ∧ a ≤ 9999
  · by_cases h2 : 10 ≤ b ∧ b ≤ 49
    · by_cases h3 : 1 ≤ c ∧ c ≤ 2147483646
      · by_cases h4 : 0 ≤ d ∧ d ≤ 10000
        · by_cases h5 : 0 ≤ e ∧ e ≤ 10000
          · have hw : wrap64 (e - d) = e - d := by unfold wrap64; omega
            rw [hw]
            by_cases h6 : d ≤ e
            · simp [h1, h2, h3, h4, h5, h6]
            · simp [h1, h2, h3, h4, h5, h6]; try omega
          · simp [h1, h2, h3, h4, h5]
        · simp [h1, h2, h3, h4]
      · simp [h1, h2, h3]
    · simp [h1, h2]
  · simp [h1]
end Go.Proofs.Ytbhjkheedhlelaa.Pure
