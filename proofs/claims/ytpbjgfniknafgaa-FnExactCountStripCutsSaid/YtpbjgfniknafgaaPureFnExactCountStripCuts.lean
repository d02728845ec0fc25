/- The program's CountStripCuts returns what the reference's returns, for all arguments. No condition. -/
import Derived.Test.YtpbjgfniknafgaaPFnExactCountStripCutsx1
namespace Go.Proofs.Ytpbjgfniknafgaa.Pure
open Go.RowKit Go.Proofs.Ytpbjgfniknafgaa.PFnExactCountStripCuts Go.Proofs.YtpbjgfniknafgaaW.PrintWords Go.Proofs.YtpbjgfniknafgaaW.PrintLast

theorem in_eq (a lo hi : Int) : spec_l1In.f a lo hi = some (decide (lo ≤ a ∧ a ≤ hi)) := by
  unfold spec_l1In.f
  by_cases h : lo ≤ a
  · rw [if_pos h]; simp [h]
  · rw [if_neg h]; simp [h]

theorem within_eq (a lo hi : Int) : impl_within.f a lo hi = some (decide (lo ≤ a ∧ a ≤ hi)) := by
  unfold impl_within.f
  by_cases h : lo ≤ a
  · rw [if_pos h]; simp [h]
  · rw [if_neg h]; simp [h]

theorem inside : ∀ a : Fin 5, laws_FnExactCountStripCuts.f 7 ((a.val : Int) + 1) = some true := by decide +kernel

theorem FnExactCountStripCuts : laws_FnExactCountStripCuts.Pure := by
  intro a0 _
  refine ⟨7, ?_⟩
  by_cases c : 1 ≤ a0 ∧ a0 ≤ 5
  · have h1 := inside ⟨(a0 - 1).toNat, by omega⟩
    have e1 : (((a0 - 1).toNat : Nat) : Int) + 1 = a0 := by omega
    simpa only [e1] using h1
  · unfold laws_FnExactCountStripCuts.f spec_CountStripCuts.f impl_CountStripCuts.f
    simp only [in_eq, within_eq, Option.bind_some]
    simp [c]

end Go.Proofs.Ytpbjgfniknafgaa.Pure
