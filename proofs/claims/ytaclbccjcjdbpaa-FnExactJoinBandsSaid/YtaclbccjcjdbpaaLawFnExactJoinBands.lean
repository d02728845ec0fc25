-- Written by a program of this session (wip/print/myprint.py) over the kit's printer; Lean checks it.
import Derived.Test.YtaclbccjcjdbpaaRows
import Derived.Test.YtaclbccjcjdbpaaMYx21
import Derived.Test.YtaclbccjcjdbpaaPureFnExactJoinBands
import Derived.Test.YtaclbccjcjdbpaaV
import Derived.WalkKit
import Derived.ProofKit
import Derived.OpenShut
import Derived.ShutString
import Derived.ChangeOld
import Derived.Below
import Derived.SizedLaws
import Derived.Lib.SmallJoins
namespace Go.Proofs.Ytaclbccjcjdbpaa.fnExactJoinBands
open Go.ChangeShapes Go.WideShapes Go.ChangeAt Go.RowKit Go.Joins
open Go.ChangeMaps (open_string shut_string)
open Go.Proofs.YtaclbccjcjdbpaaW.PrintWords Go.Proofs.YtaclbccjcjdbpaaW.PrintLast Go.Proofs.YtaclbccjcjdbpaaV Go.Proofs.Ytaclbccjcjdbpaa.MY
set_option linter.unusedVariables false
theorem own : ownKnob Try.prog.godebug = none := by kernel_rfl
theorem laidOut : laidOutB Try.prog = true := by kernel_rfl
set_option maxRecDepth 100000 in
set_option maxHeartbeats 1000000 in
theorem lifted (os : Os) (started : os.Started) (H : Type) (enc : TypeId × Value → H) :
    ReturnsInHanded {} Try.checked os 9 .any (Rows.fnExactJoinBandsSpec.pre6 enc Try.prog Try.f9 Rows.fnExactJoinBandsRow.domain false) (Rows.fnExactJoinBandsSpec.post enc Try.prog Try.f9 false true false false) := by
  refine returnsInHanded_of_change_sized (C := Try.checked) own started (by kernel_rfl) Try.func9
    (ChangeSpec.witness6 (enc := enc) (C := Try.checked) false ⟨#[], #[.slice none 0 0, .slice none 0 0], []⟩ 8 (by kernel_rfl) (by kernel_rfl) (by kernel_rfl) (by kernel_rfl)) ?_
  intro W base args ds gs before hval0 hW hcnd hsz0 _
  have hval : ∀ (j : Nat) t v, Try.f9.params[j]? = some t → args[j]? = some v → Value.okWide Try.prog W .any base t v := hval0
  have hW' := hW
  obtain ⟨p, q, hA0, hV, rfl, hfz, hnd⟩ := hW
  have hA : DataW.TrodAll enc Try.prog W 0 (fun _ => true) true Try.f9.params.toList args.toList ds p := hA0
  rw [Try.params9] at hA hval
  obtain ⟨v0, vs0, d0, ds0, p0, q0, hargs, rfl, rfl, h0, r0⟩ := trodAll_cons hA
  obtain ⟨v1, vs1, d1, ds1, p1, q1, rfl, rfl, rfl, h1, r1⟩ := trodAll_cons r0
  obtain ⟨rfl, rfl, rfl⟩ := trodAll_nil r1
  obtain rfl : args = #[v0, v1] := by cases args; simp_all
  obtain ⟨rfl, rfl⟩ := trodVars_none hV
  have k0 := h0
  have lt0 : ∀ x ∈ p0, x.block < W.heap.size := by obtain ⟨m, hm⟩ := k0; exact DataW.trod_lt m _ _ _ hm
  obtain ⟨a0, len0, cap0, rfl⟩ := okWide_slice Try.underlying22 (hval 0 22 v0 rfl rfl)
  obtain ⟨F0, cl0, cm0, cc0, cw0⟩ := open_rows_int Try.underlying22 Try.underlying43 (by kernel_rfl) (by kernel_rfl) (fun j f hj => by match j, hj with | 0, hj => exact (Option.some.inj hj) ▸ Try.underlying3 | 1, hj => exact (Option.some.inj hj) ▸ Try.underlying3 | j + 2, hj => simp at hj) h0
  obtain ⟨l0, rfl, hr0, hm0, he0⟩ := row_of (d := k43) (sz := 2) rfl (fun i => (⟨F0 i 0, F0 i 1⟩ : S43)) (Nat.le_trans cl0 cm0) cc0 (fun i => k43_mk W _)
  have hw0 : ∀ x ∈ l0, I64 x.f0 ∧ I64 x.f1 := by
    intro x hx
    obtain ⟨i, hi, rfl⟩ := he0 x hx
    exact ⟨cw0 i hi 0 (by decide), cw0 i hi 1 (by decide)⟩
  have k1 := h1
  have lt1 : ∀ x ∈ p1, x.block < W.heap.size := by obtain ⟨m, hm⟩ := k1; exact DataW.trod_lt m _ _ _ hm
  obtain ⟨a1, len1, cap1, rfl⟩ := okWide_slice Try.underlying22 (hval 1 22 v1 rfl rfl)
  obtain ⟨F1, cl1, cm1, cc1, cw1⟩ := open_rows_int Try.underlying22 Try.underlying43 (by kernel_rfl) (by kernel_rfl) (fun j f hj => by match j, hj with | 0, hj => exact (Option.some.inj hj) ▸ Try.underlying3 | 1, hj => exact (Option.some.inj hj) ▸ Try.underlying3 | j + 2, hj => simp at hj) h1
  obtain ⟨l1, rfl, hr1, hm1, he1⟩ := row_of (d := k43) (sz := 2) rfl (fun i => (⟨F1 i 0, F1 i 1⟩ : S43)) (Nat.le_trans cl1 cm1) cc1 (fun i => k43_mk W _)
  have hw1 : ∀ x ∈ l1, I64 x.f0 ∧ I64 x.f1 := by
    intro x hx
    obtain ⟨i, hi, rfl⟩ := he1 x hx
    exact ⟨cw1 i hi 0 (by decide), cw1 i hi 1 (by decide)⟩
  clear hA0 hval0 hsz0
  obtain ⟨k, h⟩ := Pure.FnExactJoinBands l0 l1 hm0 hw0 hm1 hw1
  refine (MY.laws_FnExactJoinBands.calls k _ _ l0 _ _ l1 true W hr0 cl0 hr1 cl1 rfl h).mono fun e W' hq => ?_
  obtain ⟨rfl, hd⟩ := hq
  have bel : Below W.heap.size W W' := hd
  exact ⟨_, rfl, _, _, _, [], _, [], hW', trodAll_mk1 (shut_bool Try.underlying4 _), (trodAll_cons_mk (Below.trod laidOut (by kernel_rfl) (of_decide_eq_true (by kernel_rfl)) k0 bel lt0) (trodAll_cons_mk (Below.trod laidOut (by kernel_rfl) (of_decide_eq_true (by kernel_rfl)) k1 bel lt1) trodAll_mk0)), rfl, bel.frame _, fun h => by cases h⟩
theorem over : Rows.fnExactJoinBandsRow.holds Try.pinned (OpenSpec.ofChange Rows.fnExactJoinBandsSpec) :=
  OpenClaim.holds_of_wide 9 Try.f9 rfl rfl rfl rfl rfl rfl rfl ⟨rfl, rfl, rfl, rfl, rfl⟩ rfl rfl rfl rfl rfl (by kernel_rfl) Try.func9 (by kernel_rfl)
    (of_decide_eq_true (by kernel_rfl)) (by unfold Func.isWrapper; first | (rw [if_pos (by decide +kernel)]; kernel_rfl) | (rw [if_neg (by decide +kernel)]; exact ⟨rfl, rfl⟩))
    (fun os started H enc _ => lifted os started H enc)
theorem proved : Rows.FnExactJoinBandsSaid := over
#print axioms proved
end Go.Proofs.Ytaclbccjcjdbpaa.fnExactJoinBands
namespace Go.Proofs.Ytaclbccjcjdbpaa
/-- The row, under a short name, for the claim. -/
theorem fnExactJoinBands_holds : Rows.FnExactJoinBandsSaid := fnExactJoinBands.proved
end Go.Proofs.Ytaclbccjcjdbpaa
