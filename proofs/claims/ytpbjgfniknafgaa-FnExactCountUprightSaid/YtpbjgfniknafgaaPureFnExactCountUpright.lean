/- The program's CountUpright returns what the reference's returns, for all arguments. No condition. -/
import Derived.Test.YtpbjgfniknafgaaPFnExactCountUprightx1
namespace Go.Proofs.Ytpbjgfniknafgaa.Pure
open Go.RowKit Go.Proofs.Ytpbjgfniknafgaa.PFnExactCountUpright Go.Proofs.YtpbjgfniknafgaaW.PrintWords Go.Proofs.YtpbjgfniknafgaaW.PrintLast

theorem in_eq (a lo hi : Int) : spec_l1In.f a lo hi = some (decide (lo ≤ a ∧ a ≤ hi)) := by
  unfold spec_l1In.f
  by_cases h : lo ≤ a
  · rw [if_pos h]; simp [h]
  · rw [if_neg h]; simp [h]

theorem within_eq (a lo hi : Int) : impl_within.f a lo hi = some (decide (lo ≤ a ∧ a ≤ hi)) := by
  unfold impl_within.f
  by_cases h : lo ≤ a
  · rw [if_pos h]; simp [h]
  · rw [if_neg h]; simp [h]

theorem ctBoard_eq (w h m : Int) : spec_ctBoard.f w h m = some (decide ((1 ≤ w ∧ w ≤ m) ∧ (1 ≤ h ∧ h ≤ m))) := by
  unfold spec_ctBoard.f
  simp only [in_eq, Option.bind_some]
  by_cases c : 1 ≤ w ∧ w ≤ m
  · simp [c]
  · simp [c]

theorem isBoard_eq (w h m : Int) : impl_isBoard.f w h m = some (decide ((1 ≤ w ∧ w ≤ m) ∧ (1 ≤ h ∧ h ≤ m))) := by
  unfold impl_isBoard.f
  simp only [within_eq, Option.bind_some]
  by_cases c : 1 ≤ w ∧ w ≤ m
  · simp [c]
  · simp [c]

theorem all_boards (p : Int → Int → Prop) (h : ∀ a b : Fin 12, p ((a.val : Int) + 1) ((b.val : Int) + 1)) (w v : Int) (c : (1 ≤ w ∧ w ≤ 12) ∧ (1 ≤ v ∧ v ≤ 12)) : p w v := by
  have h1 := h ⟨(w - 1).toNat, by omega⟩ ⟨(v - 1).toNat, by omega⟩
  have e1 : (((w - 1).toNat : Nat) : Int) + 1 = w := by omega
  have e2 : (((v - 1).toNat : Nat) : Int) + 1 = v := by omega
  simpa only [e1, e2] using h1

theorem inside : ∀ a b : Fin 12, laws_FnExactCountUpright.f 4 ((a.val : Int) + 1) ((b.val : Int) + 1) = some true := by decide +kernel

theorem FnExactCountUpright : laws_FnExactCountUpright.Pure := by
  intro a0 a1 _ _
  refine ⟨4, ?_⟩
  by_cases c : (1 ≤ a0 ∧ a0 ≤ 12) ∧ (1 ≤ a1 ∧ a1 ≤ 12)
  · exact all_boards (fun w v => laws_FnExactCountUpright.f 4 w v = some true) inside a0 a1 c
  · unfold laws_FnExactCountUpright.f spec_CountUpright.f impl_CountUpright.f
    simp only [ctBoard_eq, isBoard_eq, Option.bind_some]
    simp [c]

end Go.Proofs.Ytpbjgfniknafgaa.Pure
