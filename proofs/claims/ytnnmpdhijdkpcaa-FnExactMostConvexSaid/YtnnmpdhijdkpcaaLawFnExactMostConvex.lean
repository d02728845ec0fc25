-- Written by a program of this session (wip/print/myprint.py) over the kit's printer; Lean checks it.
import Derived.Test.YtnnmpdhijdkpcaaRows
import Derived.Test.YtnnmpdhijdkpcaaMWx22
import Derived.Test.YtnnmpdhijdkpcaaPureFnExactMostConvex
import Derived.Test.YtnnmpdhijdkpcaaV
import Derived.WalkKit
import Derived.ProofKit
import Derived.OpenShut
import Derived.ShutString
import Derived.ChangeOld
import Derived.Below
import Derived.SizedLaws
import Derived.Lib.SmallJoins
namespace Go.Proofs.Ytnnmpdhijdkpcaa.fnExactMostConvex
open Go.ChangeShapes Go.WideShapes Go.ChangeAt Go.RowKit Go.Joins
open Go.ChangeMaps (open_string shut_string)
open Go.Proofs.YtnnmpdhijdkpcaaW.PrintWords Go.Proofs.YtnnmpdhijdkpcaaW.PrintLast Go.Proofs.YtnnmpdhijdkpcaaV Go.Proofs.Ytnnmpdhijdkpcaa.MW
set_option linter.unusedVariables false
theorem own : ownKnob Try.prog.godebug = none := by kernel_rfl
theorem laidOut : laidOutB Try.prog = true := by kernel_rfl
set_option maxRecDepth 100000 in
set_option maxHeartbeats 1000000 in
theorem lifted (os : Os) (started : os.Started) (H : Type) (enc : TypeId × Value → H) :
    ReturnsInHanded {} Try.checked os 4 .any (Rows.fnExactMostConvexSpec.pre6 enc Try.prog Try.f4 Rows.fnExactMostConvexRow.domain false) (Rows.fnExactMostConvexSpec.post enc Try.prog Try.f4 false true false false) := by
  refine returnsInHanded_of_change_sized (C := Try.checked) own started (by kernel_rfl) Try.func4
    (ChangeSpec.witness6 (enc := enc) (C := Try.checked) false ⟨#[], #[.slice none 0 0], []⟩ 8 (by kernel_rfl) (by kernel_rfl) (by kernel_rfl) (by kernel_rfl)) ?_
  intro W base args ds gs before hval0 hW hcnd hsz0 _
  have hval : ∀ (j : Nat) t v, Try.f4.params[j]? = some t → args[j]? = some v → Value.okWide Try.prog W .any base t v := hval0
  have hW' := hW
  obtain ⟨p, q, hA0, hV, rfl, hfz, hnd⟩ := hW
  have hA : DataW.TrodAll enc Try.prog W 0 (fun _ => true) true Try.f4.params.toList args.toList ds p := hA0
  rw [Try.params4] at hA hval
  obtain ⟨v0, vs0, d0, ds0, p0, q0, hargs, rfl, rfl, h0, r0⟩ := trodAll_cons hA
  obtain ⟨rfl, rfl, rfl⟩ := trodAll_nil r0
  obtain rfl : args = #[v0] := by cases args; simp_all
  obtain ⟨rfl, rfl⟩ := trodVars_none hV
  have k0 := h0
  have lt0 : ∀ x ∈ p0, x.block < W.heap.size := by obtain ⟨m, hm⟩ := k0; exact DataW.trod_lt m _ _ _ hm
  obtain ⟨a0, len0, cap0, rfl⟩ := okWide_slice Try.underlying22 (hval 0 22 v0 rfl rfl)
  obtain ⟨F0, cl0, cm0, cc0, cw0⟩ := open_rows_int Try.underlying22 Try.underlying39 (by kernel_rfl) (by kernel_rfl) (fun j f hj => by match j, hj with | 0, hj => exact (Option.some.inj hj) ▸ Try.underlying3 | 1, hj => exact (Option.some.inj hj) ▸ Try.underlying3 | j + 2, hj => simp at hj) h0
  obtain ⟨l0, rfl, hr0, hm0, he0⟩ := row_of (d := k39) (sz := 2) rfl (fun i => (⟨F0 i 0, F0 i 1⟩ : S39)) (Nat.le_trans cl0 cm0) cc0 (fun i => k39_mk W _)
  have hw0 : ∀ x ∈ l0, I64 x.f0 ∧ I64 x.f1 := by
    intro x hx
    obtain ⟨i, hi, rfl⟩ := he0 x hx
    exact ⟨cw0 i hi 0 (by decide), cw0 i hi 1 (by decide)⟩
  clear hA0 hval0 hsz0
  obtain ⟨k, h⟩ := Pure.FnExactMostConvex l0 hm0 hw0
  refine (MW.laws_FnExactMostConvex.calls k _ _ l0 true W hr0 cl0 rfl h).mono fun e W' hq => ?_
  obtain ⟨rfl, hd⟩ := hq
  have bel : Below W.heap.size W W' := hd
  exact ⟨_, rfl, _, _, _, [], _, [], hW', trodAll_mk1 (shut_bool Try.underlying4 _), (trodAll_cons_mk (Below.trod laidOut (by kernel_rfl) (of_decide_eq_true (by kernel_rfl)) k0 bel lt0) trodAll_mk0), rfl, bel.frame _, fun h => by cases h⟩
theorem over : Rows.fnExactMostConvexRow.holds Try.pinned (OpenSpec.ofChange Rows.fnExactMostConvexSpec) :=
  OpenClaim.holds_of_wide 4 Try.f4 rfl rfl rfl rfl rfl rfl rfl ⟨rfl, rfl, rfl, rfl, rfl⟩ rfl rfl rfl rfl rfl (by kernel_rfl) Try.func4 (by kernel_rfl)
    (of_decide_eq_true (by kernel_rfl)) (by unfold Func.isWrapper; first | (rw [if_pos (by decide +kernel)]; kernel_rfl) | (rw [if_neg (by decide +kernel)]; exact ⟨rfl, rfl⟩))
    (fun os started H enc _ => lifted os started H enc)
theorem proved : Rows.FnExactMostConvexSaid := over
#print axioms proved
end Go.Proofs.Ytnnmpdhijdkpcaa.fnExactMostConvex
namespace Go.Proofs.Ytnnmpdhijdkpcaa
/-- The row, under a short name, for the claim. -/
theorem fnExactMostConvex_holds : Rows.FnExactMostConvexSaid := fnExactMostConvex.proved
end Go.Proofs.Ytnnmpdhijdkpcaa
