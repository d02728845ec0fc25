/- The program's ShearMove returns what the reference's returns, for all arguments. No condition. -/
import Derived.Test.YtpbjgfniknafgaaPFnExactShearMovex1
namespace Go.Proofs.Ytpbjgfniknafgaa.Pure
open Go.RowKit Go.Proofs.Ytpbjgfniknafgaa.PFnExactShearMove Go.Proofs.YtpbjgfniknafgaaW.PrintWords Go.Proofs.YtpbjgfniknafgaaW.PrintLast

theorem in_eq (a lo hi : Int) : spec_l1In.f a lo hi = some (decide (lo ≤ a ∧ a ≤ hi)) := by
  unfold spec_l1In.f
  by_cases h : lo ≤ a
  · rw [if_pos h]; simp [h]
  · rw [if_neg h]; simp [h]

theorem within_eq (a lo hi : Int) : impl_within.f a lo hi = some (decide (lo ≤ a ∧ a ≤ hi)) := by
  unfold impl_within.f
  by_cases h : lo ≤ a
  · rw [if_pos h]; simp [h]
  · rw [if_neg h]; simp [h]

theorem inside : ∀ a : Fin 41, laws_FnExactShearMove.f 6 ((a.val : Int) - 20) = some true := by decide +kernel

theorem FnExactShearMove : laws_FnExactShearMove.Pure := by
  intro a0 _
  refine ⟨6, ?_⟩
  by_cases c : -20 ≤ a0 ∧ a0 ≤ 20
  · have h1 := inside ⟨(a0 + 20).toNat, by omega⟩
    have e1 : (((a0 + 20).toNat : Nat) : Int) - 20 = a0 := by omega
    simpa only [e1] using h1
  · unfold laws_FnExactShearMove.f spec_ShearMove.f impl_ShearMove.f impl_checkedMove.f impl_IsMove.f
    simp only [in_eq, Option.bind_some]
    have h2 : impl_within.f a0 (-20) 20 = some false := by rw [within_eq]; simp [c]
    have h1 : impl_within.f 1 (-20) 20 = some true := by rw [within_eq]; simp
    have hl : ∀ x y : Int, impl_IsMove.l0 6 [1, a0, x, y] 4 0 1 a0 0 1 0 0 = some false := by
      intro x y
      simp [impl_IsMove.l0, rd, h1, h2, wrap64]
    simp [c, hl, laws_eqMove.f]

end Go.Proofs.Ytpbjgfniknafgaa.Pure
