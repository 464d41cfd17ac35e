/- The law FnExactLawOk is true: for every law (a row of four whole numbers and a truth) the program's LawOk returns what the reference's returns. Conditions: none. -/
import Derived.Test.YthlaohiomepobaaQFnExactLawOkx1
namespace Go.Proofs.Ythlaohiomepobaa.Pure
open Go.RowKit Go.Proofs.Ythlaohiomepobaa.QFnExactLawOk Go.Proofs.YthlaohiomepobaaW.PrintWords Go.Proofs.YthlaohiomepobaaW.PrintLast
set_option linter.unusedVariables false
set_option linter.unusedSimpArgs false

/-- What a law's row must say to be one. -/
def LawB (a b c d : Int) : Bool := decide (0 ≤ a ∧ a < 3 ∧ 0 ≤ b ∧ b < 8 ∧ 1 ≤ c ∧ c ≤ 3 ∧ 0 ≤ d ∧ d ≤ 99)
theorem impl_isLaw_eq (a b c d : Int) (y : Bool) : impl_isLaw.f a b c d y = some (LawB a b c d) := by
  unfold impl_isLaw.f impl_isCase.f LawB
  by_cases h1 : a ≥ 0
  · by_cases h2 : a < 3
    · by_cases h3 : b ≥ 0
      · by_cases h4 : b < 8
        · by_cases h5 : c ≥ 1
          · by_cases h6 : c ≤ 3
            · by_cases h7 : d ≥ 0
              · by_cases h8 : d ≤ 99 <;> simp [h1, h2, h3, h4, h5, h6, h7, h8] <;> omega
              · simp [h1, h2, h3, h4, h5, h6, h7] <;> omega
            · simp [h1, h2, h3, h4, h5, h6] <;> omega
          · simp [h1, h2, h3, h4, h5] <;> omega
        · simp [h1, h2, h3, h4]
      · simp [h1, h2, h3] <;> omega
    · simp [h1, h2]
  · simp [h1] <;> omega
theorem impl_LawOk_eq (a b c d : Int) (y : Bool) : impl_LawOk.f a b c d y = some (LawB a b c d) := by
  unfold impl_LawOk.f
  rw [impl_isLaw_eq]; rfl
theorem l1In_eq (a b c : Int) : spec_l1In.f a b c = some (decide (b ≤ a ∧ a ≤ c)) := by
  unfold spec_l1In.f
  by_cases h : b ≤ a
  · simp [h]
  · simp [h]
theorem spec_LawOk_eq (a b c d : Int) (y : Bool) : spec_LawOk.f a b c d y = some (LawB a b c d) := by
  unfold spec_LawOk.f LawB
  simp only [l1In_eq, Option.bind_some]
  by_cases h1 : 0 ≤ a ∧ a ≤ 2
  · by_cases h2 : 0 ≤ b ∧ b ≤ 7
    · by_cases h3 : 1 ≤ c ∧ c ≤ 3
      · by_cases h4 : 0 ≤ d ∧ d ≤ 99 <;> simp [h1, h2, h3, h4] <;> omega
      · simp [h1, h2, h3] <;> omega
    · simp [h1, h2] <;> omega
  · simp [h1] <;> omega

theorem FnExactLawOk : laws_FnExactLawOk.Pure := by
  intro a b c d y _ _ _ _
  unfold laws_FnExactLawOk.f laws_toLaw.f
  simp only [Option.bind_some, impl_LawOk_eq, spec_LawOk_eq]
  simp

end Go.Proofs.Ythlaohiomepobaa.Pure
