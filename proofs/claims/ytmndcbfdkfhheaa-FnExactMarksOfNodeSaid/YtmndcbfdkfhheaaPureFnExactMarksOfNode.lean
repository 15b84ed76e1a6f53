/- The program's MarksOfNode returns what the reference's MarksOfNode returns, for every argument.
   No condition: outside 1..63 both fail; inside, both are computed by the kernel. -/
import Derived.Test.YtmndcbfdkfhheaaPFnExactMarksOfNodex1
namespace Go.Proofs.Ytmndcbfdkfhheaa.Pure
open Go.RowKit Go.Proofs.Ytmndcbfdkfhheaa.PFnExactMarksOfNode Go.Proofs.YtmndcbfdkfhheaaW.PrintWords Go.Proofs.YtmndcbfdkfhheaaW.PrintLast

theorem marksOfNode_inside : ∀ n : Fin 63, laws_FnExactMarksOfNode.f 20 ((n.val : Int) + 1) = some true := by decide +kernel

theorem FnExactMarksOfNode : laws_FnExactMarksOfNode.Pure := by
  intro a _
  by_cases h : 1 ≤ a ∧ a ≤ 63
  · have := marksOfNode_inside ⟨(a - 1).toNat, by omega⟩
    have e : (((a - 1).toNat : Nat) : Int) + 1 = a := by omega
    simp only [e] at this
    exact ⟨20, this⟩
  · refine ⟨1, ?_⟩
    unfold laws_FnExactMarksOfNode.f spec_MarksOfNode.f impl_MarksOfNode.f spec_l1In.f impl_in.f
    by_cases h1 : a ≥ 1
    · have h2 : ¬ a ≤ 63 := by omega
      simp [h1, h2]
    · simp [h1]

end Go.Proofs.Ytmndcbfdkfhheaa.Pure
