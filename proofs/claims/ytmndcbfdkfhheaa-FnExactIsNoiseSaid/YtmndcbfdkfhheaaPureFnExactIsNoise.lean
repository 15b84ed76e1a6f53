/- The program's IsNoise returns what the reference's IsNoise returns, for every Noise. No condition. -/
import Derived.Test.YtmndcbfdkfhheaaPFnExactIsNoisex1
namespace Go.Proofs.Ytmndcbfdkfhheaa.Pure
open Go.RowKit Go.Proofs.Ytmndcbfdkfhheaa.PFnExactIsNoise Go.Proofs.YtmndcbfdkfhheaaW.PrintWords Go.Proofs.YtmndcbfdkfhheaaW.PrintLast
set_option linter.unusedVariables false
set_option linter.unusedSimpArgs false

/-! ### in -/
theorem in_eq (a b c : Int) : impl_in.f a b c = some (decide (b ≤ a ∧ a ≤ c)) := by
  unfold impl_in.f
  by_cases h : a ≥ b
  · rw [if_pos h]
    simp [show b ≤ a from h]
  · rw [if_neg h]
    simp [show ¬ b ≤ a from h]
theorem l1In_eq (a b c : Int) : spec_l1In.f a b c = some (decide (b ≤ a ∧ a ≤ c)) := by
  unfold spec_l1In.f
  by_cases h : a ≥ b
  · rw [if_pos h]
    simp [show b ≤ a from h]
  · rw [if_neg h]
    simp [show ¬ b ≤ a from h]

/-! ### noise -/
def good (n d : Int) : Bool := decide (1 ≤ d ∧ d ≤ 100 ∧ 0 ≤ n ∧ n ≤ d)
theorem specIsNoise_eq (n d : Int) : spec_l7Good.f n d = some (good n d) := by
  unfold spec_l7Good.f good
  simp only [l1In_eq, Option.bind_some, decide_eq_true_eq]
  by_cases h : 1 ≤ d ∧ d ≤ 100
  · rw [if_pos h]
    simp [h]
  · rw [if_neg h]
    simp
    omega
theorem implIsNoise_eq (n d : Int) : impl_IsNoise.f n d = some (good n d) := by
  unfold impl_IsNoise.f good
  simp only [in_eq, Option.bind_some, decide_eq_true_eq]
  by_cases h : 1 ≤ d ∧ d ≤ 100
  · rw [if_pos h]
    simp [h]
  · rw [if_neg h]
    simp
    omega

theorem FnExactIsNoise : laws_FnExactIsNoise.Pure := by
  intro n d _ _
  unfold laws_FnExactIsNoise.f laws_toNoise.f spec_IsNoise.f
  simp [specIsNoise_eq, implIsNoise_eq]
end Go.Proofs.Ytmndcbfdkfhheaa.Pure
