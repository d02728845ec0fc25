/- The program's GreatestTriangle returns what the reference's returns, for all arguments. No condition. -/
import Derived.Test.YtpbjgfniknafgaaPFnExactGreatestTrianglex1
namespace Go.Proofs.Ytpbjgfniknafgaa.Pure
open Go.RowKit Go.Proofs.Ytpbjgfniknafgaa.PFnExactGreatestTriangle Go.Proofs.YtpbjgfniknafgaaW.PrintWords Go.Proofs.YtpbjgfniknafgaaW.PrintLast

theorem in_eq (a lo hi : Int) : spec_l1In.f a lo hi = some (decide (lo ≤ a ∧ a ≤ hi)) := by
  unfold spec_l1In.f
  by_cases h : lo ≤ a
  · rw [if_pos h]; simp [h]
  · rw [if_neg h]; simp [h]

theorem within_eq (a lo hi : Int) : impl_within.f a lo hi = some (decide (lo ≤ a ∧ a ≤ hi)) := by
  unfold impl_within.f
  by_cases h : lo ≤ a
  · rw [if_pos h]; simp [h]
  · rw [if_neg h]; simp [h]

theorem ctBoard_eq (w h m : Int) : spec_ctBoard.f w h m = some (decide ((1 ≤ w ∧ w ≤ m) ∧ (1 ≤ h ∧ h ≤ m))) := by
  unfold spec_ctBoard.f
  simp only [in_eq, Option.bind_some]
  by_cases c : 1 ≤ w ∧ w ≤ m
  · simp [c]
  · simp [c]

theorem isBoard_eq (w h m : Int) : impl_isBoard.f w h m = some (decide ((1 ≤ w ∧ w ≤ m) ∧ (1 ≤ h ∧ h ≤ m))) := by
  unfold impl_isBoard.f
  simp only [within_eq, Option.bind_some]
  by_cases c : 1 ≤ w ∧ w ≤ m
  · simp [c]
  · simp [c]

theorem FnExactGreatestTriangle : laws_FnExactGreatestTriangle.Pure := by
  intro a0 a1 _ _
  unfold laws_FnExactGreatestTriangle.f spec_GreatestTriangle.f impl_GreatestTriangle.f
  simp only [ctBoard_eq, isBoard_eq, Option.bind_some]
  by_cases c : (1 ≤ a0 ∧ a0 ≤ 12) ∧ (1 ≤ a1 ∧ a1 ≤ 12)
  · simp [c]
  · simp [c]

end Go.Proofs.Ytpbjgfniknafgaa.Pure
