/- The program's CountTables returns what the reference's CountTables returns, for all arguments.
   No condition: outside the bounds (1..10 letters, 1..5 marks) both fail; inside, both are computed by the kernel. -/
import Derived.Test.YtmndcbfdkfhheaaPFnExactCountTablesx1
namespace Go.Proofs.Ytmndcbfdkfhheaa.Pure
open Go.RowKit Go.Proofs.Ytmndcbfdkfhheaa.PFnExactCountTables Go.Proofs.YtmndcbfdkfhheaaW.PrintWords Go.Proofs.YtmndcbfdkfhheaaW.PrintLast

theorem countTables_inside : ∀ n : Fin 10, ∀ m : Fin 5, laws_FnExactCountTables.f 20 ((n.val : Int) + 1) ((m.val : Int) + 1) = some true := by decide +kernel

theorem FnExactCountTables : laws_FnExactCountTables.Pure := by
  intro a b _ _
  by_cases h : (1 ≤ a ∧ a ≤ 10) ∧ (1 ≤ b ∧ b ≤ 5)
  · have := countTables_inside ⟨(a - 1).toNat, by omega⟩ ⟨(b - 1).toNat, by omega⟩
    have e : (((a - 1).toNat : Nat) : Int) + 1 = a := by omega
    have f : (((b - 1).toNat : Nat) : Int) + 1 = b := by omega
    simp only [e, f] at this
    exact ⟨20, this⟩
  · refine ⟨1, ?_⟩
    unfold laws_FnExactCountTables.f spec_CountTables.f impl_CountTables.f spec_l9Size.f impl_areFew.f spec_l1In.f impl_in.f
    by_cases h1 : a ≥ 1
    · by_cases h2 : a ≤ 10
      · by_cases h3 : b ≥ 1
        · have h4 : ¬ b ≤ 5 := by omega
          simp [h1, h2, h3, h4]
        · simp [h1, h2, h3]
      · simp [h1, h2]
    · simp [h1]

end Go.Proofs.Ytmndcbfdkfhheaa.Pure
