-- Written by a program of this session (wip/print/myprint.py) over the kit's printer; Lean checks it.
import Derived.Test.YtogafcjfaicpgaaMAx0
import Derived.Test.YtogafcjfaicpgaaMAx7
import Derived.Test.YtogafcjfaicpgaaMAx14
namespace Go.Proofs.Ytogafcjfaicpgaa.MA
open Go.RowKit Go.Proofs.YtogafcjfaicpgaaW.PrintWords Go.Proofs.YtogafcjfaicpgaaW.PrintLast Go.Proofs.YtogafcjfaicpgaaW.PrintMore Go.Proofs.YtogafcjfaicpgaaV
attribute [local go_sem] max2_int min2_int max_two min_two max_three min_three max_four min_four   -- for this text's walks alone
set_option linter.unusedVariables false
set_option linter.unusedSimpArgs false

/-! ### impl_CountAround: function 12 -/
def impl_CountAround.f (k : Nat) (a0 : Int) : Option (Int × Bool) := (impl_AllAround.f k a0).bind fun bt221 => (some ((bt221.1.length : Int), bt221.2))
theorem impl_CountAround.mono : ∀ a0 k, LeO (impl_CountAround.f k a0) (impl_CountAround.f (k + 1) a0) := by
  intro a0 k
  unfold impl_CountAround.f
  repeat' first
      | (with_reducible exact impl_AllAround.mono _ _)
      | (with_reducible exact LeO.refl _)
      | (with_reducible exact LeO.none _)
      | (with_reducible refine LeO.ite ?_ ?_)
      | (with_reducible refine LeO.bind ?_ (fun _ => ?_))
      | exact impl_AllAround.mono _ _
      | exact LeO.none _
      | refine LeO.ite ?_ ?_
      | refine LeO.bind ?_ (fun _ => ?_)
set_option maxHeartbeats 8000000 in
set_option maxRecDepth 100000 in
theorem impl_CountAround.calls (k : Nat) (a0 : Int) (r1 : Int) (r2 : Bool) (w : World) (h : impl_CountAround.f k a0 = some (r1, r2)) :
    Calls Try.prog 12 #[.int .i64 a0] w fun e w' => e = .returned (.tuple #[.int .i64 r1, .bool r2]) ∧ Below w.heap.size w w' := by
  have HB := Aside0.mk (Below.refl w.heap.size w)
  have H : ((impl_AllAround.f k a0).bind fun bt221 => (some ((bt221.1.length : Int), bt221.2))) = some (r1, r2) := h
  clear h
  replace H := Option.bind_eq_some_iff.mp H
  obtain ⟨⟨t221, t222⟩, A20, H⟩ := H
  replace H : (some ((t221.length : Int), t222)) = some (r1, r2) := H
  have A2 := Aside0.mk A20
  clear A20
  simp only [Option.some.injEq, Prod.mk.injEq] at H
  obtain ⟨rfl, rfl⟩ := H
  go_enter Try.func12, Try.ntmps12
  go_wp2_with (first | ((with_reducible refine gate_callee (f := 7) rfl ?_); refine goesL_ (some 8) rfl rfl Try.func7 (by kernel_rfl) rfl #[.int .i64 a0] rfl ga_ ?_; (with_reducible refine (impl_AllAround.calls k a0 t221 t222 _ A2.out).mono ?_); rintro e w3 ⟨v223, rfl, ho0, hb⟩; refine ⟨_, rfl, ?_⟩; have n0_ := Aside0.mk (Kd.S_lower ho0 (below_size (hb_))); have n1_ := Aside0.mk (below_step (hb_) hb); clear HB; have HO224 := n0_; have HB := n1_; clear n0_ n1_; (try clear hb); (try clear hb2); (try clear hk); (try clear hi); (try clear ho0); obtain ⟨Ao4, co4, eo4⟩ := Kd.S_slice HO224.out; subst eo4))
  go_ret2
  exact ⟨by first | rfl | (simp [errW_none, errW_some] <;> rfl) | (simp [*, errW_none, errW_some] <;> rfl), hb_⟩

/-! ### laws_FnExactCountAround: function 4 -/
def laws_FnExactCountAround.f (k : Nat) (a0 : Int) : Option (Bool) := (spec_CountAround.f k a0).bind fun bt225 => ((impl_CountAround.f k a0).bind fun bt227 => (if bt227.1 = bt225.1 then (if (bt227.2 != bt225.2) = true then (some false) else (some true)) else (some false)))
theorem laws_FnExactCountAround.mono : ∀ a0 k, LeO (laws_FnExactCountAround.f k a0) (laws_FnExactCountAround.f (k + 1) a0) := by
  intro a0 k
  unfold laws_FnExactCountAround.f
  repeat' first
      | (with_reducible exact impl_CountAround.mono _ _)
      | (with_reducible exact spec_CountAround.mono _ _)
      | (with_reducible exact LeO.refl _)
      | (with_reducible exact LeO.none _)
      | (with_reducible refine LeO.ite ?_ ?_)
      | (with_reducible refine LeO.bind ?_ (fun _ => ?_))
      | exact impl_CountAround.mono _ _
      | exact spec_CountAround.mono _ _
      | exact LeO.none _
      | refine LeO.ite ?_ ?_
      | refine LeO.bind ?_ (fun _ => ?_)
set_option maxHeartbeats 8000000 in
set_option maxRecDepth 100000 in
theorem laws_FnExactCountAround.calls (k : Nat) (a0 : Int) (r : Bool) (w : World) (hr_ : r = true) (h : laws_FnExactCountAround.f k a0 = some r) :
    Calls Try.prog 4 #[.int .i64 a0] w fun e w' => e = .returned (.bool r) ∧ Below w.heap.size w w' := by
  have HB := Aside0.mk (Below.refl w.heap.size w)
  have H : ((spec_CountAround.f k a0).bind fun bt225 => ((impl_CountAround.f k a0).bind fun bt227 => (if bt227.1 = bt225.1 then (if (bt227.2 != bt225.2) = true then (some false) else (some true)) else (some false)))) = some r := h
  clear h
  replace H := Option.bind_eq_some_iff.mp H
  obtain ⟨⟨t225, t226⟩, A20, H⟩ := H
  replace H : ((impl_CountAround.f k a0).bind fun bt227 => (if bt227.1 = t225 then (if (bt227.2 != t226) = true then (some false) else (some true)) else (some false))) = some r := H
  have A2 := Aside0.mk A20
  clear A20
  replace H := Option.bind_eq_some_iff.mp H
  obtain ⟨⟨t227, t228⟩, A30, H⟩ := H
  replace H : (if t227 = t225 then (if (t228 != t226) = true then (some false) else (some true)) else (some false)) = some r := H
  have A3 := Aside0.mk A30
  clear A30
  by_cases c4 : t227 = t225
  · rw [if_pos c4] at H
    have c4b0 : (t227 == t225) = true := beq_iff_eq.mpr c4
    have c4b1 : (t227 != t225) = false := bne_eq_false_iff_eq.mpr c4
    clear c4
    by_cases c5 : (t228 != t226) = true
    · rw [if_pos c5] at H
      have c5b0 : (t228 != t226) = true := c5
      (try (have c5b1 : decide (t228 = t226) = false := by simpa using c5))
      (try (have c5b2 : (t228 == t226) = false := by simpa using c5))
      (try (have c5b3 : ¬ (t228 = t226) := by simpa using c5))
      clear c5
      exact absurd (Option.some.inj H) (by rw [hr_]; decide)
    · rw [if_neg c5] at H
      have c5b0 : (t228 != t226) = false := by simpa using c5
      (try (have c5b1 : decide (t228 = t226) = true := by simpa using c5))
      (try (have c5b2 : (t228 == t226) = true := by simpa using c5))
      clear c5
      obtain rfl := Option.some.inj H
      go_enter Try.func4, Try.ntmps4
      go_wp2_with (first | ((with_reducible refine gate_callee (f := 11) rfl ?_); refine goesL_ (some 9) rfl rfl Try.func11 (by kernel_rfl) rfl #[.int .i64 a0] rfl ga_ ?_; (with_reducible refine (spec_CountAround.calls k a0 t225 t226 _ A2.out).mono ?_); rintro e w6 ⟨rfl, hb⟩; refine ⟨_, rfl, ?_⟩; have n0_ := Aside0.mk (below_step (hb_) hb); clear HB; have HB := n0_; clear n0_; (try clear hb); (try clear hb2); (try clear hk); (try clear hi)) | ((with_reducible refine gate_callee (f := 12) rfl ?_); refine goesL_ (some 14) rfl rfl Try.func12 (by kernel_rfl) rfl #[.int .i64 a0] rfl ga_ ?_; (with_reducible refine (impl_CountAround.calls k a0 t227 t228 _ A3.out).mono ?_); rintro e w7 ⟨rfl, hb⟩; refine ⟨_, rfl, ?_⟩; have n0_ := Aside0.mk (below_step (hb_) hb); clear HB; have HB := n0_; clear n0_; (try clear hb); (try clear hb2); (try clear hk); (try clear hi)))
      go_ret
      exact ⟨by first | rfl | (simp [errW_none, errW_some] <;> rfl) | (simp [*, errW_none, errW_some] <;> rfl), hb_⟩
  · rw [if_neg c4] at H
    have c4b0 : (t227 == t225) = false := beq_eq_false_iff_ne.mpr c4
    have c4b1 : (t227 != t225) = true := bne_iff_ne.mpr c4
    exact absurd (Option.some.inj H) (by rw [hr_]; decide)

end Go.Proofs.Ytogafcjfaicpgaa.MA
