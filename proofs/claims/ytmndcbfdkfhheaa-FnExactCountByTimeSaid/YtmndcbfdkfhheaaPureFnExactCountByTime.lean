/- The program's CountByTime returns what the reference's CountByTime returns, for every argument.
   No condition: outside 1..30 both fail; inside, both are counted out by the kernel. -/
import Derived.Test.YtmndcbfdkfhheaaPFnExactCountByTimex2
namespace Go.Proofs.Ytmndcbfdkfhheaa.Pure
open Go.RowKit Go.Proofs.Ytmndcbfdkfhheaa.PFnExactCountByTime Go.Proofs.YtmndcbfdkfhheaaW.PrintWords Go.Proofs.YtmndcbfdkfhheaaW.PrintLast

theorem countByTime_inside : ∀ n : Fin 30, laws_FnExactCountByTime.f 200 ((n.val : Int) + 1) = some true := by decide +kernel

theorem FnExactCountByTime : laws_FnExactCountByTime.Pure := by
  intro a _
  by_cases h : 1 ≤ a ∧ a ≤ 30
  · have := countByTime_inside ⟨(a - 1).toNat, by omega⟩
    have e : (((a - 1).toNat : Nat) : Int) + 1 = a := by omega
    simp only [e] at this
    exact ⟨200, this⟩
  · refine ⟨1, ?_⟩
    unfold laws_FnExactCountByTime.f spec_CountByTime.f impl_CountByTime.f spec_l1In.f impl_in.f
    by_cases h1 : a ≥ 1
    · have h2 : ¬ a ≤ 30 := by omega
      simp [h1, h2]
    · simp [h1]

end Go.Proofs.Ytmndcbfdkfhheaa.Pure
