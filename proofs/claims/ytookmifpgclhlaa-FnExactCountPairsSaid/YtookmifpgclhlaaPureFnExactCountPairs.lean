/- The program's CountPairs returns what the reference's returns, for all arguments. No condition. -/
import Derived.Test.YtookmifpgclhlaaMSx0
import Derived.Test.YtookmifpgclhlaaMSx2
import Derived.Test.YtookmifpgclhlaaMSx3
import Derived.Test.YtookmifpgclhlaaMSx4
import Derived.Test.YtookmifpgclhlaaMSx5
import Derived.Test.YtookmifpgclhlaaV
namespace Go.Proofs.Ytookmifpgclhlaa.Pure
open Go.RowKit Go.Proofs.YtookmifpgclhlaaV Go.Proofs.Ytookmifpgclhlaa.MS Go.Proofs.YtookmifpgclhlaaW.PrintWords Go.Proofs.YtookmifpgclhlaaW.PrintLast Go.Proofs.YtookmifpgclhlaaW.PrintMore

theorem in_eq (a lo hi : Int) : spec_l1In.f a lo hi = some (decide (lo ≤ a ∧ a ≤ hi)) := by
  unfold spec_l1In.f
  by_cases h : lo ≤ a
  · rw [if_pos h]; simp [h]
  · rw [if_neg h]; simp [h]

theorem within_eq (a lo hi : Int) : impl_within.f a lo hi = some (decide (lo ≤ a ∧ a ≤ hi)) := by
  unfold impl_within.f
  by_cases h : lo ≤ a
  · rw [if_pos h]; simp [h]
  · rw [if_neg h]; simp [h]

theorem ctBoard_eq (w h m : Int) : spec_ctBoard.f w h m = some (decide ((1 ≤ w ∧ w ≤ m) ∧ (1 ≤ h ∧ h ≤ m))) := by
  unfold spec_ctBoard.f
  simp only [in_eq, Option.bind_some]
  by_cases c : 1 ≤ w ∧ w ≤ m
  · simp [c]
  · simp [c]

theorem isBoard_eq (w h m : Int) : impl_isBoard.f w h m = some (decide ((1 ≤ w ∧ w ≤ m) ∧ (1 ≤ h ∧ h ≤ m))) := by
  unfold impl_isBoard.f
  simp only [within_eq, Option.bind_some]
  by_cases c : 1 ≤ w ∧ w ≤ m
  · simp [c]
  · simp [c]

theorem all_boards (p : Int → Int → Prop) (h : ∀ a b : Fin 12, p ((a.val : Int) + 1) ((b.val : Int) + 1)) (w v : Int) (c : (1 ≤ w ∧ w ≤ 12) ∧ (1 ≤ v ∧ v ≤ 12)) : p w v := by
  have h1 := h ⟨(w - 1).toNat, by omega⟩ ⟨(v - 1).toNat, by omega⟩
  have e1 : (((w - 1).toNat : Nat) : Int) + 1 = w := by omega
  have e2 : (((v - 1).toNat : Nat) : Int) + 1 = v := by omega
  simpa only [e1, e2] using h1

/-- The one pure statement of the law FnExactCountPairs. -/
def FnExactCountPairs.Pure : Prop :=
  ∀ (a0 : Int) (a1 : Int) (a2 : Int), I64 a0 → I64 a1 → I64 a2 → ∃ k, laws_FnExactCountPairs.f k a0 a1 a2 = some true

theorem inside_pairs : ∀ s a b : Fin 12, laws_FnExactCountPairs.f 200 ((a.val : Int) + 1) ((b.val : Int) + 1) ((s.val : Int) + 1) = some true := by decide +kernel

theorem FnExactCountPairs : FnExactCountPairs.Pure := by
  intro a0 a1 s _ _ _
  refine ⟨200, ?_⟩
  by_cases c : (1 ≤ a0 ∧ a0 ≤ 12) ∧ (1 ≤ a1 ∧ a1 ≤ 12)
  · by_cases c2 : 1 ≤ s ∧ s ≤ 12
    · have h1 := inside_pairs ⟨(s - 1).toNat, by omega⟩
      have e1 : (((s - 1).toNat : Nat) : Int) + 1 = s := by omega
      have h2 := all_boards (fun w v => laws_FnExactCountPairs.f 200 w v ((((s - 1).toNat : Nat) : Int) + 1) = some true) h1 a0 a1 c
      rw [← e1]
      exact h2
    · unfold laws_FnExactCountPairs.f spec_CountPairs.f impl_CountPairs.f
      simp only [ctBoard_eq, isBoard_eq, in_eq, within_eq, Option.bind_some]
      simp [c, c2, impl_CountPairs.j0]
  · unfold laws_FnExactCountPairs.f spec_CountPairs.f impl_CountPairs.f
    simp only [ctBoard_eq, isBoard_eq, Option.bind_some]
    simp [c, impl_CountPairs.j0]

end Go.Proofs.Ytookmifpgclhlaa.Pure
