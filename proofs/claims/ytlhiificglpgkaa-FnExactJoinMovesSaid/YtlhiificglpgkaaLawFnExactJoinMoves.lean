-- Written by a program of this session (wip/print/myprint.py) over the kit's printer; Lean checks it.
import Derived.Test.YtlhiificglpgkaaRows
import Derived.Test.YtlhiificglpgkaaMJx3
import Derived.Test.YtlhiificglpgkaaPureFnExactJoinMoves
import Derived.Test.YtlhiificglpgkaaV
import Derived.WalkKit
import Derived.ProofKit
import Derived.OpenShut
import Derived.ShutString
import Derived.ChangeOld
import Derived.Below
import Derived.SizedLaws
import Derived.Lib.SmallJoins
namespace Go.Proofs.Ytlhiificglpgkaa.fnExactJoinMoves
open Go.ChangeShapes Go.WideShapes Go.ChangeAt Go.RowKit Go.Joins
open Go.ChangeMaps (open_string shut_string)
open Go.Proofs.YtlhiificglpgkaaW.PrintWords Go.Proofs.YtlhiificglpgkaaW.PrintLast Go.Proofs.YtlhiificglpgkaaV Go.Proofs.Ytlhiificglpgkaa.MJ
set_option linter.unusedVariables false
theorem own : ownKnob Try.prog.godebug = none := by kernel_rfl
theorem laidOut : laidOutB Try.prog = true := by kernel_rfl
set_option maxRecDepth 100000 in
set_option maxHeartbeats 1000000 in
theorem lifted (os : Os) (started : os.Started) (H : Type) (enc : TypeId × Value → H) :
    ReturnsInHanded {} Try.checked os 13 .any (Rows.fnExactJoinMovesSpec.pre6 enc Try.prog Try.f13 Rows.fnExactJoinMovesRow.domain false) (Rows.fnExactJoinMovesSpec.post enc Try.prog Try.f13 false true false false) := by
  refine returnsInHanded_of_change_sized (C := Try.checked) own started (by kernel_rfl) Try.func13
    (ChangeSpec.witness6 (enc := enc) (C := Try.checked) false ⟨#[], #[.agg #[.int .i64 0, .int .i64 0, .int .i64 0, .int .i64 0, .int .i64 0, .int .i64 0], .agg #[.int .i64 0, .int .i64 0, .int .i64 0, .int .i64 0, .int .i64 0, .int .i64 0]], []⟩ 8 (by kernel_rfl) (by kernel_rfl) (by kernel_rfl) (by kernel_rfl)) ?_
  intro W base args ds gs before hval0 hW hcnd hsz0 _
  have hval : ∀ (j : Nat) t v, Try.f13.params[j]? = some t → args[j]? = some v → Value.okWide Try.prog W .any base t v := hval0
  have hW' := hW
  obtain ⟨p, q, hA0, hV, rfl, hfz, hnd⟩ := hW
  have hA : DataW.TrodAll enc Try.prog W 0 (fun _ => true) true Try.f13.params.toList args.toList ds p := hA0
  rw [Try.params13] at hA hval
  obtain ⟨v0, vs0, d0, ds0, p0, q0, hargs, rfl, rfl, h0, r0⟩ := trodAll_cons hA
  obtain ⟨v1, vs1, d1, ds1, p1, q1, rfl, rfl, rfl, h1, r1⟩ := trodAll_cons r0
  obtain ⟨rfl, rfl, rfl⟩ := trodAll_nil r1
  obtain rfl : args = #[v0, v1] := by cases args; simp_all
  obtain ⟨rfl, rfl⟩ := trodVars_none hV
  have k0 := h0
  have lt0 : ∀ x ∈ p0, x.block < W.heap.size := by obtain ⟨m, hm⟩ := k0; exact DataW.trod_lt m _ _ _ hm
  obtain ⟨v0_0, v0_1, v0_2, v0_3, v0_4, v0_5, y0_0, y0_1, y0_2, y0_3, y0_4, y0_5, n0, rfl, rfl, rfl, e0_0, e0_1, e0_2, e0_3, e0_4, e0_5⟩ := open_agg6 Try.underlying59 (by kernel_rfl) (by kernel_rfl) (hval 0 59 v0 rfl rfl) h0
  obtain ⟨a0_0, z0_0, _, w0_0⟩ := DataW.trod_int Try.underlying3 e0_0
  obtain rfl : v0_0 = .int .i64 a0_0 := by simpa using z0_0
  have w0_0 := i64_of w0_0
  obtain ⟨a0_1, z0_1, _, w0_1⟩ := DataW.trod_int Try.underlying3 e0_1
  obtain rfl : v0_1 = .int .i64 a0_1 := by simpa using z0_1
  have w0_1 := i64_of w0_1
  obtain ⟨a0_2, z0_2, _, w0_2⟩ := DataW.trod_int Try.underlying3 e0_2
  obtain rfl : v0_2 = .int .i64 a0_2 := by simpa using z0_2
  have w0_2 := i64_of w0_2
  obtain ⟨a0_3, z0_3, _, w0_3⟩ := DataW.trod_int Try.underlying3 e0_3
  obtain rfl : v0_3 = .int .i64 a0_3 := by simpa using z0_3
  have w0_3 := i64_of w0_3
  obtain ⟨a0_4, z0_4, _, w0_4⟩ := DataW.trod_int Try.underlying3 e0_4
  obtain rfl : v0_4 = .int .i64 a0_4 := by simpa using z0_4
  have w0_4 := i64_of w0_4
  obtain ⟨a0_5, z0_5, _, w0_5⟩ := DataW.trod_int Try.underlying3 e0_5
  obtain rfl : v0_5 = .int .i64 a0_5 := by simpa using z0_5
  have w0_5 := i64_of w0_5
  have k1 := h1
  have lt1 : ∀ x ∈ p1, x.block < W.heap.size := by obtain ⟨m, hm⟩ := k1; exact DataW.trod_lt m _ _ _ hm
  obtain ⟨v1_0, v1_1, v1_2, v1_3, v1_4, v1_5, y1_0, y1_1, y1_2, y1_3, y1_4, y1_5, n1, rfl, rfl, rfl, e1_0, e1_1, e1_2, e1_3, e1_4, e1_5⟩ := open_agg6 Try.underlying59 (by kernel_rfl) (by kernel_rfl) (hval 1 59 v1 rfl rfl) h1
  obtain ⟨a1_0, z1_0, _, w1_0⟩ := DataW.trod_int Try.underlying3 e1_0
  obtain rfl : v1_0 = .int .i64 a1_0 := by simpa using z1_0
  have w1_0 := i64_of w1_0
  obtain ⟨a1_1, z1_1, _, w1_1⟩ := DataW.trod_int Try.underlying3 e1_1
  obtain rfl : v1_1 = .int .i64 a1_1 := by simpa using z1_1
  have w1_1 := i64_of w1_1
  obtain ⟨a1_2, z1_2, _, w1_2⟩ := DataW.trod_int Try.underlying3 e1_2
  obtain rfl : v1_2 = .int .i64 a1_2 := by simpa using z1_2
  have w1_2 := i64_of w1_2
  obtain ⟨a1_3, z1_3, _, w1_3⟩ := DataW.trod_int Try.underlying3 e1_3
  obtain rfl : v1_3 = .int .i64 a1_3 := by simpa using z1_3
  have w1_3 := i64_of w1_3
  obtain ⟨a1_4, z1_4, _, w1_4⟩ := DataW.trod_int Try.underlying3 e1_4
  obtain rfl : v1_4 = .int .i64 a1_4 := by simpa using z1_4
  have w1_4 := i64_of w1_4
  obtain ⟨a1_5, z1_5, _, w1_5⟩ := DataW.trod_int Try.underlying3 e1_5
  obtain rfl : v1_5 = .int .i64 a1_5 := by simpa using z1_5
  have w1_5 := i64_of w1_5
  clear hA0 hval0 hsz0
  obtain ⟨k, h⟩ := Pure.FnExactJoinMoves a0_0 a0_1 a0_2 a0_3 a0_4 a0_5 a1_0 a1_1 a1_2 a1_3 a1_4 a1_5 w0_0 w0_1 w0_2 w0_3 w0_4 w0_5 w1_0 w1_1 w1_2 w1_3 w1_4 w1_5
  refine (MJ.laws_FnExactJoinMoves.calls k a0_0 a0_1 a0_2 a0_3 a0_4 a0_5 a1_0 a1_1 a1_2 a1_3 a1_4 a1_5 true W  rfl h).mono fun e W' hq => ?_
  obtain ⟨rfl, hd⟩ := hq
  have bel : Below W.heap.size W W' := hd
  exact ⟨_, rfl, _, _, _, [], _, [], hW', trodAll_mk1 (shut_bool Try.underlying4 _), (trodAll_cons_mk (Below.trod laidOut (by kernel_rfl) (of_decide_eq_true (by kernel_rfl)) k0 bel lt0) (trodAll_cons_mk (Below.trod laidOut (by kernel_rfl) (of_decide_eq_true (by kernel_rfl)) k1 bel lt1) trodAll_mk0)), rfl, bel.frame _, fun h => by cases h⟩
theorem over : Rows.fnExactJoinMovesRow.holds Try.pinned (OpenSpec.ofChange Rows.fnExactJoinMovesSpec) :=
  OpenClaim.holds_of_wide 13 Try.f13 rfl rfl rfl rfl rfl rfl rfl ⟨rfl, rfl, rfl, rfl, rfl⟩ rfl rfl rfl rfl rfl (by kernel_rfl) Try.func13 (by kernel_rfl)
    (of_decide_eq_true (by kernel_rfl)) (by unfold Func.isWrapper; first | (rw [if_pos (by decide +kernel)]; kernel_rfl) | (rw [if_neg (by decide +kernel)]; exact ⟨rfl, rfl⟩))
    (fun os started H enc _ => lifted os started H enc)
theorem proved : Rows.FnExactJoinMovesSaid := over
#print axioms proved
end Go.Proofs.Ytlhiificglpgkaa.fnExactJoinMoves
namespace Go.Proofs.Ytlhiificglpgkaa
/-- The row, under a short name, for the claim. -/
theorem fnExactJoinMoves_holds : Rows.FnExactJoinMovesSaid := fnExactJoinMoves.proved
end Go.Proofs.Ytlhiificglpgkaa
