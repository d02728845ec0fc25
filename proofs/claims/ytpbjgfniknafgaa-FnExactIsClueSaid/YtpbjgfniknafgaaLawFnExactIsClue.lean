-- Written by a program of this session (wip/print/myprint.py) over the kit's printer; Lean checks it.
import Derived.Test.YtpbjgfniknafgaaRows
import Derived.Test.YtpbjgfniknafgaaMAx6
import Derived.Test.YtpbjgfniknafgaaPureFnExactIsClue
import Derived.Test.YtpbjgfniknafgaaV
import Derived.WalkKit
import Derived.ProofKit
import Derived.OpenShut
import Derived.ShutString
import Derived.ChangeOld
import Derived.Below
import Derived.SizedLaws
import Derived.Lib.SmallJoins
namespace Go.Proofs.Ytpbjgfniknafgaa.fnExactIsClue
open Go.ChangeShapes Go.WideShapes Go.ChangeAt Go.RowKit Go.Joins
open Go.ChangeMaps (open_string shut_string)
open Go.Proofs.YtpbjgfniknafgaaW.PrintWords Go.Proofs.YtpbjgfniknafgaaW.PrintLast Go.Proofs.YtpbjgfniknafgaaV Go.Proofs.Ytpbjgfniknafgaa.MA
set_option linter.unusedVariables false
theorem own : ownKnob Try.prog.godebug = none := by kernel_rfl
theorem laidOut : laidOutB Try.prog = true := by kernel_rfl
set_option maxRecDepth 100000 in
set_option maxHeartbeats 1000000 in
theorem lifted (os : Os) (started : os.Started) (H : Type) (enc : TypeId × Value → H) :
    ReturnsInHanded {} Try.checked os 10 .any (Rows.fnExactIsClueSpec.pre6 enc Try.prog Try.f10 Rows.fnExactIsClueRow.domain false) (Rows.fnExactIsClueSpec.post enc Try.prog Try.f10 false true false false) := by
  refine returnsInHanded_of_change_sized (C := Try.checked) own started (by kernel_rfl) Try.func10
    (ChangeSpec.witness6 (enc := enc) (C := Try.checked) false ⟨#[], #[.int .i64 0, .agg #[.int .i64 0, .int .i64 0, .int .i64 0, .int .i64 0]], []⟩ 8 (by kernel_rfl) (by kernel_rfl) (by kernel_rfl) (by kernel_rfl)) ?_
  intro W base args ds gs before hval0 hW hcnd hsz0 _
  have hval : ∀ (j : Nat) t v, Try.f10.params[j]? = some t → args[j]? = some v → Value.okWide Try.prog W .any base t v := hval0
  have hW' := hW
  obtain ⟨p, q, hA0, hV, rfl, hfz, hnd⟩ := hW
  have hA : DataW.TrodAll enc Try.prog W 0 (fun _ => true) true Try.f10.params.toList args.toList ds p := hA0
  rw [Try.params10] at hA hval
  obtain ⟨v0, vs0, d0, ds0, p0, q0, hargs, rfl, rfl, h0, r0⟩ := trodAll_cons hA
  obtain ⟨v1, vs1, d1, ds1, p1, q1, rfl, rfl, rfl, h1, r1⟩ := trodAll_cons r0
  obtain ⟨rfl, rfl, rfl⟩ := trodAll_nil r1
  obtain rfl : args = #[v0, v1] := by cases args; simp_all
  obtain ⟨rfl, rfl⟩ := trodVars_none hV
  have k0 := h0
  have lt0 : ∀ x ∈ p0, x.block < W.heap.size := by obtain ⟨m, hm⟩ := k0; exact DataW.trod_lt m _ _ _ hm
  obtain ⟨a0, rfl, rfl, rfl, w0⟩ := open_int Try.underlying3 (hval 0 3 v0 rfl rfl) h0
  have w0 := i64_of w0
  have k1 := h1
  have lt1 : ∀ x ∈ p1, x.block < W.heap.size := by obtain ⟨m, hm⟩ := k1; exact DataW.trod_lt m _ _ _ hm
  obtain ⟨v1_0, v1_1, v1_2, v1_3, y1_0, y1_1, y1_2, y1_3, n1, rfl, rfl, rfl, e1_0, e1_1, e1_2, e1_3⟩ := open_agg4 Try.underlying40 (by kernel_rfl) (by kernel_rfl) (hval 1 40 v1 rfl rfl) h1
  obtain ⟨a1_0, z1_0, _, w1_0⟩ := DataW.trod_int Try.underlying3 e1_0
  obtain rfl : v1_0 = .int .i64 a1_0 := by simpa using z1_0
  have w1_0 := i64_of w1_0
  obtain ⟨a1_1, z1_1, _, w1_1⟩ := DataW.trod_int Try.underlying3 e1_1
  obtain rfl : v1_1 = .int .i64 a1_1 := by simpa using z1_1
  have w1_1 := i64_of w1_1
  obtain ⟨a1_2, z1_2, _, w1_2⟩ := DataW.trod_int Try.underlying3 e1_2
  obtain rfl : v1_2 = .int .i64 a1_2 := by simpa using z1_2
  have w1_2 := i64_of w1_2
  obtain ⟨a1_3, z1_3, _, w1_3⟩ := DataW.trod_int Try.underlying3 e1_3
  obtain rfl : v1_3 = .int .i64 a1_3 := by simpa using z1_3
  have w1_3 := i64_of w1_3
  clear hA0 hval0 hsz0
  obtain ⟨k, h⟩ := Pure.FnExactIsClue a0 a1_0 a1_1 a1_2 a1_3 w0 w1_0 w1_1 w1_2 w1_3
  refine (MA.laws_FnExactIsClue.calls k a0 a1_0 a1_1 a1_2 a1_3 true W  h).mono fun e W' hq => ?_
  obtain ⟨rfl, hd⟩ := hq
  have bel : Below W.heap.size W W' := hd
  exact ⟨_, rfl, _, _, _, [], _, [], hW', trodAll_mk1 (shut_bool Try.underlying4 _), (trodAll_cons_mk (Below.trod laidOut (by kernel_rfl) (of_decide_eq_true (by kernel_rfl)) k0 bel lt0) (trodAll_cons_mk (Below.trod laidOut (by kernel_rfl) (of_decide_eq_true (by kernel_rfl)) k1 bel lt1) trodAll_mk0)), rfl, bel.frame _, fun h => by cases h⟩
theorem over : Rows.fnExactIsClueRow.holds Try.pinned (OpenSpec.ofChange Rows.fnExactIsClueSpec) :=
  OpenClaim.holds_of_wide 10 Try.f10 rfl rfl rfl rfl rfl rfl rfl ⟨rfl, rfl, rfl, rfl, rfl⟩ rfl rfl rfl rfl rfl (by kernel_rfl) Try.func10 (by kernel_rfl)
    (of_decide_eq_true (by kernel_rfl)) (by unfold Func.isWrapper; first | (rw [if_pos (by decide +kernel)]; kernel_rfl) | (rw [if_neg (by decide +kernel)]; exact ⟨rfl, rfl⟩))
    (fun os started H enc _ => lifted os started H enc)
theorem proved : Rows.FnExactIsClueSaid := over
#print axioms proved
end Go.Proofs.Ytpbjgfniknafgaa.fnExactIsClue
namespace Go.Proofs.Ytpbjgfniknafgaa
/-- The row, under a short name, for the claim. -/
theorem fnExactIsClue_holds : Rows.FnExactIsClueSaid := fnExactIsClue.proved
end Go.Proofs.Ytpbjgfniknafgaa
