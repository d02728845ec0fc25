-- Written by a program of this session (wip/print/myprint.py) over the kit's printer; Lean checks it.
import Derived.Test.YtlhiificglpgkaaRows
import Derived.Test.YtlhiificglpgkaaMWx12
import Derived.Test.YtlhiificglpgkaaPureFnExactDropClue
import Derived.Test.YtlhiificglpgkaaV
import Derived.WalkKit
import Derived.ProofKit
import Derived.OpenShut
import Derived.ShutString
import Derived.ChangeOld
import Derived.Below
import Derived.SizedLaws
import Derived.Lib.SmallJoins
namespace Go.Proofs.Ytlhiificglpgkaa.fnExactDropClue
open Go.ChangeShapes Go.WideShapes Go.ChangeAt Go.RowKit Go.Joins
open Go.ChangeMaps (open_string shut_string)
open Go.Proofs.YtlhiificglpgkaaW.PrintWords Go.Proofs.YtlhiificglpgkaaW.PrintLast Go.Proofs.YtlhiificglpgkaaV Go.Proofs.Ytlhiificglpgkaa.MW
set_option linter.unusedVariables false
theorem slice_of_trod {H : Type} {enc : TypeId × Value → H} {P : Program} {w : World} {base : Nat} {spare : Nat → Bool} {held : Bool} {t e : TypeId} {n : Nat} {v : Value} {y : DataW H × List MemPlace} (ht : P.underlying t = some (.slice e)) (h : DataW.trod enc P w base spare held n t [v] = some y) : ∃ a len cap, v = .slice a len cap := by
  rcases Go.Deep.open_slice ht h with ⟨h0, _⟩ | ⟨a, len, cap, m, n, D, Pl, hcs, _⟩
  · exact ⟨none, 0, 0, by simpa using h0⟩
  · exact ⟨some a, len, cap, by simpa using hcs⟩
theorem own : ownKnob Try.prog.godebug = none := by kernel_rfl
theorem laidOut : laidOutB Try.prog = true := by kernel_rfl
set_option maxRecDepth 100000 in
set_option maxHeartbeats 1000000 in
theorem lifted (os : Os) (started : os.Started) (H : Type) (enc : TypeId × Value → H) :
    ReturnsInHanded {} Try.checked os 7 .any (Rows.fnExactDropClueSpec.pre6 enc Try.prog Try.f7 Rows.fnExactDropClueRow.domain false) (Rows.fnExactDropClueSpec.post enc Try.prog Try.f7 false true false false) := by
  refine returnsInHanded_of_change_sized (C := Try.checked) own started (by kernel_rfl) Try.func7
    (ChangeSpec.witness6 (enc := enc) (C := Try.checked) false ⟨#[], #[.agg #[.int .i64 0, .slice none 0 0], .int .i64 0], []⟩ 8 (by kernel_rfl) (by kernel_rfl) (by kernel_rfl) (by kernel_rfl)) ?_
  intro W base args ds gs before hval0 hW hcnd hsz0 _
  have hval : ∀ (j : Nat) t v, Try.f7.params[j]? = some t → args[j]? = some v → Value.okWide Try.prog W .any base t v := hval0
  have hW' := hW
  obtain ⟨p, q, hA0, hV, rfl, hfz, hnd⟩ := hW
  have hA : DataW.TrodAll enc Try.prog W 0 (fun _ => true) true Try.f7.params.toList args.toList ds p := hA0
  rw [Try.params7] at hA hval
  obtain ⟨v0, vs0, d0, ds0, p0, q0, hargs, rfl, rfl, h0, r0⟩ := trodAll_cons hA
  obtain ⟨v1, vs1, d1, ds1, p1, q1, rfl, rfl, rfl, h1, r1⟩ := trodAll_cons r0
  obtain ⟨rfl, rfl, rfl⟩ := trodAll_nil r1
  obtain rfl : args = #[v0, v1] := by cases args; simp_all
  obtain ⟨rfl, rfl⟩ := trodVars_none hV
  have k0 := h0
  have lt0 : ∀ x ∈ p0, x.block < W.heap.size := by obtain ⟨m, hm⟩ := k0; exact DataW.trod_lt m _ _ _ hm
  obtain ⟨v0_0, v0_1, y0_0, y0_1, n0, rfl, rfl, rfl, e0_0, e0_1⟩ := open_agg2 Try.underlying24 (by kernel_rfl) (by kernel_rfl) (hval 0 24 v0 rfl rfl) h0
  obtain ⟨a0_0, z0_0, _, w0_0⟩ := DataW.trod_int Try.underlying3 e0_0
  obtain rfl : v0_0 = .int .i64 a0_0 := by simpa using z0_0
  have w0_0 := i64_of w0_0
  obtain ⟨a0_1, len0_1, cap0_1, rfl⟩ := slice_of_trod Try.underlying22 e0_1
  obtain ⟨F0_1, cl0_1, cm0_1, cc0_1, cw0_1⟩ := open_rows_int Try.underlying22 Try.underlying34 (by kernel_rfl) (by kernel_rfl) (fun j f hj => by match j, hj with | 0, hj => exact (Option.some.inj hj) ▸ Try.underlying3 | 1, hj => exact (Option.some.inj hj) ▸ Try.underlying3 | 2, hj => exact (Option.some.inj hj) ▸ Try.underlying3 | 3, hj => exact (Option.some.inj hj) ▸ Try.underlying3 | j + 4, hj => simp at hj) (⟨n0, e0_1⟩ : DataW.Trod enc Try.prog W 0 (fun _ => true) true 22 (.slice a0_1 len0_1 cap0_1) _ _)
  obtain ⟨l0_1, rfl, hr0_1, hm0_1, he0_1⟩ := row_of (d := k34) (sz := 4) rfl (fun i => (⟨F0_1 i 0, F0_1 i 1, F0_1 i 2, F0_1 i 3⟩ : S34)) (Nat.le_trans cl0_1 cm0_1) cc0_1 (fun i => k34_mk W _)
  have hw0_1 : ∀ x ∈ l0_1, I64 x.f0 ∧ I64 x.f1 ∧ I64 x.f2 ∧ I64 x.f3 := by
    intro x hx
    obtain ⟨i, hi, rfl⟩ := he0_1 x hx
    exact ⟨cw0_1 i hi 0 (by decide), cw0_1 i hi 1 (by decide), cw0_1 i hi 2 (by decide), cw0_1 i hi 3 (by decide)⟩
  have k1 := h1
  have lt1 : ∀ x ∈ p1, x.block < W.heap.size := by obtain ⟨m, hm⟩ := k1; exact DataW.trod_lt m _ _ _ hm
  obtain ⟨a1, rfl, rfl, rfl, w1⟩ := open_int Try.underlying3 (hval 1 3 v1 rfl rfl) h1
  have w1 := i64_of w1
  clear hA0 hval0 hsz0
  obtain ⟨k, h⟩ := Pure.FnExactDropClue a0_0 l0_1 a1 w0_0 hm0_1 hw0_1 w1
  refine (MW.laws_FnExactDropClue.calls k a0_0 _ _ l0_1 a1 true W hr0_1 cl0_1 rfl h).mono fun e W' hq => ?_
  obtain ⟨rfl, hd⟩ := hq
  have bel : Below W.heap.size W W' := hd
  exact ⟨_, rfl, _, _, _, [], _, [], hW', trodAll_mk1 (shut_bool Try.underlying4 _), (trodAll_cons_mk (Below.trod laidOut (by kernel_rfl) (of_decide_eq_true (by kernel_rfl)) k0 bel lt0) (trodAll_cons_mk (Below.trod laidOut (by kernel_rfl) (of_decide_eq_true (by kernel_rfl)) k1 bel lt1) trodAll_mk0)), rfl, bel.frame _, fun h => by cases h⟩
theorem over : Rows.fnExactDropClueRow.holds Try.pinned (OpenSpec.ofChange Rows.fnExactDropClueSpec) :=
  OpenClaim.holds_of_wide 7 Try.f7 rfl rfl rfl rfl rfl rfl rfl ⟨rfl, rfl, rfl, rfl, rfl⟩ rfl rfl rfl rfl rfl (by kernel_rfl) Try.func7 (by kernel_rfl)
    (of_decide_eq_true (by kernel_rfl)) (by unfold Func.isWrapper; first | (rw [if_pos (by decide +kernel)]; kernel_rfl) | (rw [if_neg (by decide +kernel)]; exact ⟨rfl, rfl⟩))
    (fun os started H enc _ => lifted os started H enc)
theorem proved : Rows.FnExactDropClueSaid := over
#print axioms proved
end Go.Proofs.Ytlhiificglpgkaa.fnExactDropClue
namespace Go.Proofs.Ytlhiificglpgkaa
/-- The row, under a short name, for the claim. -/
theorem fnExactDropClue_holds : Rows.FnExactDropClueSaid := fnExactDropClue.proved
end Go.Proofs.Ytlhiificglpgkaa
