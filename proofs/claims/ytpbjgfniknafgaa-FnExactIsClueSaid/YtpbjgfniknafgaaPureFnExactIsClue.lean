/- The program's IsClue returns what the reference's returns, for all arguments. No condition. -/
import Derived.Test.YtpbjgfniknafgaaMAx0
import Derived.Test.YtpbjgfniknafgaaMAx2
import Derived.Test.YtpbjgfniknafgaaMAx3
import Derived.Test.YtpbjgfniknafgaaMAx4
import Derived.Test.YtpbjgfniknafgaaMAx5
import Derived.Test.YtpbjgfniknafgaaMAx6
import Derived.Test.YtpbjgfniknafgaaV
namespace Go.Proofs.Ytpbjgfniknafgaa.Pure
open Go.RowKit Go.Proofs.YtpbjgfniknafgaaV Go.Proofs.Ytpbjgfniknafgaa.MA Go.Proofs.YtpbjgfniknafgaaW.PrintWords Go.Proofs.YtpbjgfniknafgaaW.PrintLast Go.Proofs.YtpbjgfniknafgaaW.PrintMore

theorem in_eq (a lo hi : Int) : spec_l1In.f a lo hi = some (decide (lo ≤ a ∧ a ≤ hi)) := by
  unfold spec_l1In.f
  by_cases h : lo ≤ a
  · rw [if_pos h]; simp [h]
  · rw [if_neg h]; simp [h]

theorem within_eq (a lo hi : Int) : impl_within.f a lo hi = some (decide (lo ≤ a ∧ a ≤ hi)) := by
  unfold impl_within.f
  by_cases h : lo ≤ a
  · rw [if_pos h]; simp [h]
  · rw [if_neg h]; simp [h]

theorem w64 {x : Int} (h0 : -9223372036854775808 ≤ x) (h1 : x ≤ 9223372036854775807) : wrap64 x = x := by
  unfold wrap64
  omega

/-- The one pure statement of the law FnExactIsClue. -/
def FnExactIsClue.Pure : Prop :=
  ∀ (a0 : Int) (a1_0 : Int) (a1_1 : Int) (a1_2 : Int) (a1_3 : Int), I64 a0 → I64 a1_0 → I64 a1_1 → I64 a1_2 → I64 a1_3 → ∃ k, laws_FnExactIsClue.f k a0 a1_0 a1_1 a1_2 a1_3 = some true

theorem FnExactIsClue : FnExactIsClue.Pure := by
  intro s kd a b c _ _ _ _ _
  refine ⟨5, ?_⟩
  unfold laws_FnExactIsClue.f laws_toClue.f spec_IsClue.f impl_IsClue.f spec_pzSide.f impl_isSide.f
  simp only [Option.bind_some, in_eq, within_eq]
  by_cases hs : 1 ≤ s ∧ s ≤ 12
  · have hs2 : wrap64 (2 * s) = 2 * s := w64 (by omega) (by omega)
    simp only [hs, hs2, and_self, decide_true, if_true, spec_pzClue.f, spec_pzClue.j0, impl_IsClue.j0, impl_IsClue.j1, in_eq, within_eq, Option.bind_some]
    generalize wrap64 (s * s) = q1
    generalize wrap64 (2 * s * s) = q2
    have hk : kd = 0 ∨ kd = 1 ∨ kd = 2 ∨ kd = 3 ∨ kd = 4 ∨ kd = 5 ∨ (kd ≠ 0 ∧ kd ≠ 1 ∧ kd ≠ 2 ∧ kd ≠ 3 ∧ kd ≠ 4 ∧ kd ≠ 5) := by omega
    have ha : (0 ≤ a ∧ a ≤ s) ∨ (¬ (0 ≤ a ∧ a ≤ s) ∧ (0 ≤ a ∧ a ≤ 2 * s) ∧ a > s) ∨ (¬ (0 ≤ a ∧ a ≤ s) ∧ ¬ (0 ≤ a ∧ a ≤ 2 * s)) := by omega
    have hb : b = 0 ∨ (b ≠ 0 ∧ 0 ≤ b ∧ b ≤ s) ∨ (b ≠ 0 ∧ ¬ (0 ≤ b ∧ b ≤ s)) := by omega
    rcases hk with rfl | rfl | rfl | rfl | rfl | rfl | ⟨k0, k1, k2, k3, k4, k5⟩ <;>
    rcases hb with rfl | ⟨b0, b1⟩ | ⟨b0, b1⟩ <;>
    rcases ha with a1 | ⟨a0, a1, a2⟩ | ⟨a0, a1⟩ <;>
    first
    | (have a2 : 0 ≤ a ∧ a ≤ 2 * s := by omega
       have a3 : ¬ a > s := by omega
       have s0 : 0 ≤ s := by omega
       simp [*]; done)
    | (have s0 : 0 ≤ s := by omega
       have a3 : ¬ a ≤ s := by omega
       simp [*]; done)
    | (have s0 : 0 ≤ s := by omega
       simp [*]; done)
  · simp [hs, impl_IsClue.j0]

end Go.Proofs.Ytpbjgfniknafgaa.Pure
