-- Written by a program of this session (wip/print/myprint.py) over the kit's printer; Lean checks it.
import Derived.Test.YtookmifpgclhlaaMRx0
import Derived.Test.YtookmifpgclhlaaMRx3
import Derived.Test.YtookmifpgclhlaaMRx5
namespace Go.Proofs.Ytookmifpgclhlaa.MR
open Go.RowKit Go.Proofs.YtookmifpgclhlaaW.PrintWords Go.Proofs.YtookmifpgclhlaaW.PrintLast Go.Proofs.YtookmifpgclhlaaW.PrintMore Go.Proofs.YtookmifpgclhlaaV
attribute [local go_sem] max2_int min2_int max_two min_two max_three min_three max_four min_four   -- for this text's walks alone
set_option linter.unusedVariables false
set_option linter.unusedSimpArgs false

/-! ### laws_FnExactCountRectangles: function 8 -/
def laws_FnExactCountRectangles.f (k : Nat) (a0 : Int) (a1 : Int) : Option (Bool) := (spec_CountRectangles.f k a0 a1).bind fun bt143 => ((impl_CountRectangles.f k a0 a1).bind fun bt145 => (if bt145.1 = bt143.1 then (if (bt145.2 != bt143.2) = true then (some false) else (some true)) else (some false)))
theorem laws_FnExactCountRectangles.mono : ∀ a0 a1 k, LeO (laws_FnExactCountRectangles.f k a0 a1) (laws_FnExactCountRectangles.f (k + 1) a0 a1) := by
  intro a0 a1 k
  unfold laws_FnExactCountRectangles.f
  repeat' first
      | (with_reducible exact impl_CountRectangles.mono _ _ _)
      | (with_reducible exact spec_CountRectangles.mono _ _ _)
      | (with_reducible exact LeO.refl _)
      | (with_reducible exact LeO.none _)
      | (with_reducible refine LeO.ite ?_ ?_)
      | (with_reducible refine LeO.bind ?_ (fun _ => ?_))
      | exact impl_CountRectangles.mono _ _ _
      | exact spec_CountRectangles.mono _ _ _
      | exact LeO.none _
      | refine LeO.ite ?_ ?_
      | refine LeO.bind ?_ (fun _ => ?_)
set_option maxHeartbeats 8000000 in
set_option maxRecDepth 100000 in
theorem laws_FnExactCountRectangles.calls (k : Nat) (a0 : Int) (a1 : Int) (r : Bool) (w : World) (hr_ : r = true) (h : laws_FnExactCountRectangles.f k a0 a1 = some r) :
    Calls Try.prog 8 #[.int .i64 a0, .int .i64 a1] w fun e w' => e = .returned (.bool r) ∧ Below w.heap.size w w' := by
  have HB := Aside0.mk (Below.refl w.heap.size w)
  have H : ((spec_CountRectangles.f k a0 a1).bind fun bt143 => ((impl_CountRectangles.f k a0 a1).bind fun bt145 => (if bt145.1 = bt143.1 then (if (bt145.2 != bt143.2) = true then (some false) else (some true)) else (some false)))) = some r := h
  clear h
  replace H := Option.bind_eq_some_iff.mp H
  obtain ⟨⟨t143, t144⟩, A30, H⟩ := H
  replace H : ((impl_CountRectangles.f k a0 a1).bind fun bt145 => (if bt145.1 = t143 then (if (bt145.2 != t144) = true then (some false) else (some true)) else (some false))) = some r := H
  have A3 := Aside0.mk A30
  clear A30
  replace H := Option.bind_eq_some_iff.mp H
  obtain ⟨⟨t145, t146⟩, A40, H⟩ := H
  replace H : (if t145 = t143 then (if (t146 != t144) = true then (some false) else (some true)) else (some false)) = some r := H
  have A4 := Aside0.mk A40
  clear A40
  by_cases c5 : t145 = t143
  · rw [if_pos c5] at H
    have c5b0 : (t145 == t143) = true := beq_iff_eq.mpr c5
    have c5b1 : (t145 != t143) = false := bne_eq_false_iff_eq.mpr c5
    clear c5
    by_cases c6 : (t146 != t144) = true
    · rw [if_pos c6] at H
      have c6b0 : (t146 != t144) = true := c6
      (try (have c6b1 : decide (t146 = t144) = false := by simpa using c6))
      (try (have c6b2 : (t146 == t144) = false := by simpa using c6))
      (try (have c6b3 : ¬ (t146 = t144) := by simpa using c6))
      clear c6
      exact absurd (Option.some.inj H) (by rw [hr_]; decide)
    · rw [if_neg c6] at H
      have c6b0 : (t146 != t144) = false := by simpa using c6
      (try (have c6b1 : decide (t146 = t144) = true := by simpa using c6))
      (try (have c6b2 : (t146 == t144) = true := by simpa using c6))
      clear c6
      obtain rfl := Option.some.inj H
      go_enter Try.func8, Try.ntmps8
      go_wp2_with (first | ((with_reducible refine gate_callee (f := 26) rfl ?_); refine goesL_ (some 12) rfl rfl Try.func26 (by kernel_rfl) rfl #[.int .i64 a0, .int .i64 a1] rfl ga_ ?_; (with_reducible refine (spec_CountRectangles.calls k a0 a1 t143 t144 _ A3.out).mono ?_); rintro e w7 ⟨rfl, hb⟩; refine ⟨_, rfl, ?_⟩; have n0_ := Aside0.mk (below_step (hb_) hb); clear HB; have HB := n0_; clear n0_; (try clear hb); (try clear hb2); (try clear hk); (try clear hi)) | ((with_reducible refine gate_callee (f := 27) rfl ?_); refine goesL_ (some 18) rfl rfl Try.func27 (by kernel_rfl) rfl #[.int .i64 a0, .int .i64 a1] rfl ga_ ?_; (with_reducible refine (impl_CountRectangles.calls k a0 a1 t145 t146 _ A4.out).mono ?_); rintro e w8 ⟨rfl, hb⟩; refine ⟨_, rfl, ?_⟩; have n0_ := Aside0.mk (below_step (hb_) hb); clear HB; have HB := n0_; clear n0_; (try clear hb); (try clear hb2); (try clear hk); (try clear hi)))
      go_ret
      exact ⟨by first | rfl | (simp [errW_none, errW_some] <;> rfl) | (simp [*, errW_none, errW_some] <;> rfl), hb_⟩
  · rw [if_neg c5] at H
    have c5b0 : (t145 == t143) = false := beq_eq_false_iff_ne.mpr c5
    have c5b1 : (t145 != t143) = true := bne_iff_ne.mpr c5
    exact absurd (Option.some.inj H) (by rw [hr_]; decide)

end Go.Proofs.Ytookmifpgclhlaa.MR
