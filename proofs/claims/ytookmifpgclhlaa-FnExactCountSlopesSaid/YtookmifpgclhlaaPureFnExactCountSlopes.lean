/- The program's CountSlopes returns what the reference's returns, for all arguments. No condition. -/
import Derived.Test.YtookmifpgclhlaaMSx0
import Derived.Test.YtookmifpgclhlaaMSx2
import Derived.Test.YtookmifpgclhlaaMSx3
import Derived.Test.YtookmifpgclhlaaMSx4
import Derived.Test.YtookmifpgclhlaaV
namespace Go.Proofs.Ytookmifpgclhlaa.Pure
open Go.RowKit Go.Proofs.YtookmifpgclhlaaV Go.Proofs.Ytookmifpgclhlaa.MS Go.Proofs.YtookmifpgclhlaaW.PrintWords Go.Proofs.YtookmifpgclhlaaW.PrintLast Go.Proofs.YtookmifpgclhlaaW.PrintMore

theorem in_eq (a lo hi : Int) : spec_l1In.f a lo hi = some (decide (lo ≤ a ∧ a ≤ hi)) := by
  unfold spec_l1In.f
  by_cases h : lo ≤ a
  · rw [if_pos h]; simp [h]
  · rw [if_neg h]; simp [h]

theorem within_eq (a lo hi : Int) : impl_within.f a lo hi = some (decide (lo ≤ a ∧ a ≤ hi)) := by
  unfold impl_within.f
  by_cases h : lo ≤ a
  · rw [if_pos h]; simp [h]
  · rw [if_neg h]; simp [h]

theorem ctBoard_eq (w h m : Int) : spec_ctBoard.f w h m = some (decide ((1 ≤ w ∧ w ≤ m) ∧ (1 ≤ h ∧ h ≤ m))) := by
  unfold spec_ctBoard.f
  simp only [in_eq, Option.bind_some]
  by_cases c : 1 ≤ w ∧ w ≤ m
  · simp [c]
  · simp [c]

theorem isBoard_eq (w h m : Int) : impl_isBoard.f w h m = some (decide ((1 ≤ w ∧ w ≤ m) ∧ (1 ≤ h ∧ h ≤ m))) := by
  unfold impl_isBoard.f
  simp only [within_eq, Option.bind_some]
  by_cases c : 1 ≤ w ∧ w ≤ m
  · simp [c]
  · simp [c]

theorem all_boards (p : Int → Int → Prop) (h : ∀ a b : Fin 12, p ((a.val : Int) + 1) ((b.val : Int) + 1)) (w v : Int) (c : (1 ≤ w ∧ w ≤ 12) ∧ (1 ≤ v ∧ v ≤ 12)) : p w v := by
  have h1 := h ⟨(w - 1).toNat, by omega⟩ ⟨(v - 1).toNat, by omega⟩
  have e1 : (((w - 1).toNat : Nat) : Int) + 1 = w := by omega
  have e2 : (((v - 1).toNat : Nat) : Int) + 1 = v := by omega
  simpa only [e1, e2] using h1

/-- The one pure statement of the law FnExactCountSlopes. -/
def FnExactCountSlopes.Pure : Prop :=
  ∀ (a0 : Int) (a1 : Int), I64 a0 → I64 a1 → ∃ k, laws_FnExactCountSlopes.f k a0 a1 = some true

theorem inside_slopes : ∀ a b : Fin 12, laws_FnExactCountSlopes.f 400 ((a.val : Int) + 1) ((b.val : Int) + 1) = some true := by decide +kernel

theorem FnExactCountSlopes : FnExactCountSlopes.Pure := by
  intro a0 a1 _ _
  refine ⟨400, ?_⟩
  by_cases c : (1 ≤ a0 ∧ a0 ≤ 12) ∧ (1 ≤ a1 ∧ a1 ≤ 12)
  · exact all_boards (fun w v => laws_FnExactCountSlopes.f 400 w v = some true) inside_slopes a0 a1 c
  · unfold laws_FnExactCountSlopes.f spec_CountSlopes.f impl_CountSlopes.f
    simp only [ctBoard_eq, isBoard_eq, Option.bind_some]
    simp [c]

end Go.Proofs.Ytookmifpgclhlaa.Pure
