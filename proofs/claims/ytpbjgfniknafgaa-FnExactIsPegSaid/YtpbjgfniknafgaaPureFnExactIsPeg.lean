/- The program's IsPeg returns what the reference's returns, for all arguments. No condition. -/
import Derived.Test.YtpbjgfniknafgaaMAx0
import Derived.Test.YtpbjgfniknafgaaMAx2
import Derived.Test.YtpbjgfniknafgaaV
namespace Go.Proofs.Ytpbjgfniknafgaa.Pure
open Go.RowKit Go.Proofs.YtpbjgfniknafgaaV Go.Proofs.Ytpbjgfniknafgaa.MA Go.Proofs.YtpbjgfniknafgaaW.PrintWords Go.Proofs.YtpbjgfniknafgaaW.PrintLast Go.Proofs.YtpbjgfniknafgaaW.PrintMore

theorem in_eq (a lo hi : Int) : spec_l1In.f a lo hi = some (decide (lo ≤ a ∧ a ≤ hi)) := by
  unfold spec_l1In.f
  by_cases h : lo ≤ a
  · rw [if_pos h]; simp [h]
  · rw [if_neg h]; simp [h]

theorem within_eq (a lo hi : Int) : impl_within.f a lo hi = some (decide (lo ≤ a ∧ a ≤ hi)) := by
  unfold impl_within.f
  by_cases h : lo ≤ a
  · rw [if_pos h]; simp [h]
  · rw [if_neg h]; simp [h]

/-- A peg's numbers. -/
def pegP (x y : Int) : Prop := (-40 ≤ x ∧ x ≤ 40) ∧ (-40 ≤ y ∧ y ≤ 40)
instance (x y : Int) : Decidable (pegP x y) := by unfold pegP; infer_instance

theorem pgIs_eq (x y : Int) : spec_pgIs.f x y = some (decide (pegP x y)) := by
  unfold spec_pgIs.f pegP
  simp only [in_eq, Option.bind_some]
  by_cases c : -40 ≤ x ∧ x ≤ 40
  · simp [c]
  · simp [c]

theorem implIsPeg_eq (x y : Int) : impl_IsPeg.f x y = some (decide (pegP x y)) := by
  unfold impl_IsPeg.f pegP
  simp only [within_eq, Option.bind_some]
  by_cases c : -40 ≤ x ∧ x ≤ 40
  · simp [c]
  · simp [c]

/-- The one pure statement of the law FnExactIsPeg. -/
def FnExactIsPeg.Pure : Prop :=
  ∀ (a0_0 : Int) (a0_1 : Int), I64 a0_0 → I64 a0_1 → laws_FnExactIsPeg.f a0_0 a0_1 = some true

theorem FnExactIsPeg : FnExactIsPeg.Pure := by
  intro x y _ _
  unfold laws_FnExactIsPeg.f laws_toPeg.f spec_IsPeg.f
  simp [pgIs_eq, implIsPeg_eq]

end Go.Proofs.Ytpbjgfniknafgaa.Pure
