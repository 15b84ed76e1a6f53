/- The program's IsJob returns what the reference's IsJob returns, for all arguments. No condition. -/
import Derived.Test.YtmndcbfdkfhheaaPFnExactIsJobx1
namespace Go.Proofs.Ytmndcbfdkfhheaa.Pure
open Go.RowKit Go.Proofs.Ytmndcbfdkfhheaa.PFnExactIsJob Go.Proofs.YtmndcbfdkfhheaaW.PrintWords Go.Proofs.YtmndcbfdkfhheaaW.PrintLast
set_option linter.unusedVariables false
set_option linter.unusedSimpArgs false

/-! ### in -/
theorem in_eq (a b c : Int) : impl_in.f a b c = some (decide (b ≤ a ∧ a ≤ c)) := by
  unfold impl_in.f
  by_cases h : a ≥ b
  · rw [if_pos h]
    simp [show b ≤ a from h]
  · rw [if_neg h]
    simp [show ¬ b ≤ a from h]
theorem l1In_eq (a b c : Int) : spec_l1In.f a b c = some (decide (b ≤ a ∧ a ≤ c)) := by
  unfold spec_l1In.f
  by_cases h : a ≥ b
  · rw [if_pos h]
    simp [show b ≤ a from h]
  · rw [if_neg h]
    simp [show ¬ b ≤ a from h]

/-! ### job -/
def okJob (n a b s t : Int) : Bool := decide (0 ≤ a ∧ a ≤ wrap64 (n - 1)) && decide (0 ≤ b ∧ b ≤ wrap64 (n - 1)) && decide (a ≠ b) && decide (1 ≤ s ∧ s ≤ 60) && decide (0 ≤ t ∧ t ≤ 999)
theorem specJob_eq (n a b s t : Int) : spec_l10Job.f n a b s t = some (okJob n a b s t) := by
  unfold spec_l10Job.f okJob
  simp only [l1In_eq, Option.bind_some, decide_eq_true_eq]
  by_cases h1 : 0 ≤ a ∧ a ≤ wrap64 (n - 1) <;> by_cases h2 : 0 ≤ b ∧ b ≤ wrap64 (n - 1) <;> by_cases h3 : a = b <;> by_cases h4 : 1 ≤ s ∧ s ≤ 60 <;> simp [h1, h2, h3, h4]
theorem implJob_eq (n a b s t : Int) : impl_isJob.f n a b s t = some (okJob n a b s t) := by
  unfold impl_isJob.f okJob
  simp only [in_eq, Option.bind_some, decide_eq_true_eq]
  by_cases h1 : 0 ≤ a ∧ a ≤ wrap64 (n - 1) <;> by_cases h2 : 0 ≤ b ∧ b ≤ wrap64 (n - 1) <;> by_cases h3 : a = b <;> by_cases h4 : 1 ≤ s ∧ s ≤ 60 <;> simp [h1, h2, h3, h4]
def okRow (n : Int) : Bool := decide (2 ≤ n ∧ n ≤ 6)
theorem specRow_eq (n : Int) : spec_l10Row.f n = some (okRow n) := by
  unfold spec_l10Row.f okRow
  simp only [l1In_eq, Option.bind_some]
theorem implRow_eq (n : Int) : impl_areStations.f n = some (okRow n) := by
  unfold impl_areStations.f okRow
  simp only [in_eq, Option.bind_some]

theorem FnExactIsJob : laws_FnExactIsJob.Pure := by
  intro n a b s t _ _ _ _ _
  unfold laws_FnExactIsJob.f laws_toJob.f spec_IsJob.f impl_IsJob.f
  simp only [specRow_eq, implRow_eq, specJob_eq, implJob_eq, Option.bind_some]
  cases okRow n <;> simp
end Go.Proofs.Ytmndcbfdkfhheaa.Pure
