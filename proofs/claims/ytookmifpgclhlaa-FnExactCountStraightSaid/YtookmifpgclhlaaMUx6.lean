-- Written by a program of this session (wip/print/myprint.py) over the kit's printer; Lean checks it.
import Derived.Test.YtookmifpgclhlaaMUx0
import Derived.Test.YtookmifpgclhlaaMUx2
import Derived.Test.YtookmifpgclhlaaMUx4
import Derived.Test.YtookmifpgclhlaaMUx5
namespace Go.Proofs.Ytookmifpgclhlaa.MU
open Go.RowKit Go.Proofs.YtookmifpgclhlaaW.PrintWords Go.Proofs.YtookmifpgclhlaaW.PrintLast Go.Proofs.YtookmifpgclhlaaW.PrintMore Go.Proofs.YtookmifpgclhlaaV
attribute [local go_sem] max2_int min2_int max_two min_two max_three min_three max_four min_four   -- for this text's walks alone
set_option linter.unusedVariables false
set_option linter.unusedSimpArgs false

/-! ### impl_CountStraight: function 36 -/
def impl_CountStraight.f (k : Nat) (a0 : Int) (a1 : Int) : Option (Int × Bool) := (impl_isBoard.f a0 a1 12).bind fun t160 => (if t160 = true then ((impl_straight.f k a0 a1 0).bind fun t162 => (some (t162, true))) else (some (0, false)))
theorem impl_CountStraight.mono : ∀ a0 a1 k, LeO (impl_CountStraight.f k a0 a1) (impl_CountStraight.f (k + 1) a0 a1) := by
  intro a0 a1 k
  unfold impl_CountStraight.f
  repeat' first
      | (with_reducible exact impl_straight.mono _ _ _ _)
      | (with_reducible exact LeO.refl _)
      | (with_reducible exact LeO.none _)
      | (with_reducible refine LeO.ite ?_ ?_)
      | (with_reducible refine LeO.bind ?_ (fun _ => ?_))
      | exact impl_straight.mono _ _ _ _
      | exact LeO.none _
      | refine LeO.ite ?_ ?_
      | refine LeO.bind ?_ (fun _ => ?_)
set_option maxHeartbeats 8000000 in
set_option maxRecDepth 100000 in
theorem impl_CountStraight.calls (k : Nat) (a0 : Int) (a1 : Int) (r1 : Int) (r2 : Bool) (w : World) (h : impl_CountStraight.f k a0 a1 = some (r1, r2)) :
    Calls Try.prog 36 #[.int .i64 a0, .int .i64 a1] w fun e w' => e = .returned (.tuple #[.int .i64 r1, .bool r2]) ∧ Below w.heap.size w w' := by
  have HB := Aside0.mk (Below.refl w.heap.size w)
  have H : ((impl_isBoard.f a0 a1 12).bind fun t160 => (if t160 = true then ((impl_straight.f k a0 a1 0).bind fun t162 => (some (t162, true))) else (some (0, false)))) = some (r1, r2) := h
  clear h
  replace H := Option.bind_eq_some_iff.mp H
  obtain ⟨t160, A30, H⟩ := H
  replace H : (if t160 = true then ((impl_straight.f k a0 a1 0).bind fun t162 => (some (t162, true))) else (some (0, false))) = some (r1, r2) := H
  have A3 := Aside0.mk A30
  clear A30
  by_cases c4 : t160 = true
  · subst c4
    have H1 : ((impl_straight.f k a0 a1 0).bind fun t162 => (some (t162, true))) = some (r1, r2) := by rw [if_pos rfl] at H; exact H
    clear H
    have H := H1
    clear H1
    replace H := Option.bind_eq_some_iff.mp H
    obtain ⟨t162, A50, H⟩ := H
    replace H : (some (t162, true)) = some (r1, r2) := H
    have A5 := Aside0.mk A50
    clear A50
    simp only [Option.some.injEq, Prod.mk.injEq] at H
    obtain ⟨rfl, rfl⟩ := H
    go_enter Try.func36, Try.ntmps36
    go_wp2_with (first | ((with_reducible refine gate_callee (f := 45) rfl ?_); refine goesL_ (some 9) rfl rfl Try.func45 (by kernel_rfl) rfl #[.int .i64 a0, .int .i64 a1, .int .i64 12] rfl (by (try simp only [List.map_toArray, List.map_cons, List.map_nil]); first | done | rfl | (simp only [List.length_drop, List.length_take]; rfl)) ?_; (with_reducible refine (impl_isBoard.calls a0 a1 12 true _ A3.out).mono ?_); rintro e w' ⟨rfl, ⟨nd, rfl⟩⟩; refine ⟨_, rfl, ?_⟩) | ((with_reducible refine gate_dst (N := 6) rfl ?_); refine box_event ?hg (N := 6) ?hd (cs := #[.int .i64 0]) (t := 3) ?hr ?_; (case hd => rfl); (case hg => rfl); (case hr => first | (go_simp; done) | (go_simp; rfl)); intro gb161 hg w6 hbox hb; have n0_ := Aside0.mk (below_step (by repeat (first | (with_reducible first | exact HB.out | apply below_alloc | apply pw_below_drewN | apply below_drew1) | exact HB.out)) hb); have n1_ := Aside0.mk ((show IsS3 w w6 gb161 0 from ⟨hbox, (by rw [hg]; exact (below_size (by repeat (first | (with_reducible first | exact HB.out | apply below_alloc | apply pw_below_drewN | apply below_drew1) | exact HB.out))) : w.heap.size ≤ gb161)⟩)); clear HB; have HB := n0_; have HI161 := n1_; clear n0_ n1_; clear hb hbox hg; obtain ⟨HGz7, hgz7⟩ := HI161.out; have hcz7_0 := cellS3_0 HGz7; have hfz7_0 := blk_frozen HGz7 0; clear HGz7 hgz7) | ((with_reducible refine gate_callee (f := 73) rfl ?_); refine goesL_ (some 14) rfl rfl Try.func73 (by kernel_rfl) rfl #[.int .i64 a0, .int .i64 a1, .func (.func 74) #[] #[.pointer (some ⟨gb161, 0, none⟩)]] rfl (by (try simp only [List.map_toArray, List.map_cons, List.map_nil]); first | done | rfl | (simp only [List.length_drop, List.length_take]; rfl)) ?_; (with_reducible refine (impl_straight.calls k a0 a1 gb161 0 t162 w _ ?side1 ?side2 A5.out).mono ?_); (case side1 => repeat (first | (with_reducible first | exact HI161.out | apply IsS3.alloc | apply IsS3.drewN | apply IsS3.drew | apply IsS3.set_0) | exact HI161.out)); (case side2 => repeat (first | (with_reducible first | exact HB.out | apply below_alloc | apply pw_below_drewN | apply below_drew1 | refine below_set ?_ (IsS3.ge HI161.out)) | exact HB.out)); rintro e w8 ⟨rfl, hi, hb, hk⟩; refine ⟨_, rfl, ?_⟩; have n0_ := Aside0.mk (hb); have n1_ := Aside0.mk (hi); clear HB; clear HI161; have HB := n0_; have HI161 := n1_; clear n0_ n1_; (try clear hb); (try clear hb2); (try clear hk); (try clear hi); obtain ⟨HGz9, hgz9⟩ := HI161.out; have hcz9_0 := cellS3_0 HGz9; have hfz9_0 := blk_frozen HGz9 0; clear HGz9 hgz9))
    go_ret2
    exact ⟨by first | rfl | (simp [errW_none, errW_some] <;> rfl) | (simp [*, errW_none, errW_some] <;> rfl), by repeat (first | (with_reducible first | exact HB.out | apply below_alloc | apply pw_below_drewN | apply below_drew1 | refine below_set ?_ (IsS3.ge HI161.out)) | exact HB.out)⟩
  · replace c4 := Bool.eq_false_iff.mpr c4
    subst c4
    have H1 : (some (0, false)) = some (r1, r2) := by rw [if_neg (show ¬ (false = true) by decide)] at H; exact H
    clear H
    have H := H1
    clear H1
    simp only [Option.some.injEq, Prod.mk.injEq] at H
    obtain ⟨rfl, rfl⟩ := H
    go_enter Try.func36, Try.ntmps36
    go_wp2_with (first | ((with_reducible refine gate_callee (f := 45) rfl ?_); refine goesL_ (some 9) rfl rfl Try.func45 (by kernel_rfl) rfl #[.int .i64 a0, .int .i64 a1, .int .i64 12] rfl (by (try simp only [List.map_toArray, List.map_cons, List.map_nil]); first | done | rfl | (simp only [List.length_drop, List.length_take]; rfl)) ?_; (with_reducible refine (impl_isBoard.calls a0 a1 12 false _ A3.out).mono ?_); rintro e w' ⟨rfl, ⟨nd, rfl⟩⟩; refine ⟨_, rfl, ?_⟩))
    go_ret2
    exact ⟨by first | rfl | (simp [errW_none, errW_some] <;> rfl) | (simp [*, errW_none, errW_some] <;> rfl), by repeat (first | (with_reducible first | exact HB.out | apply below_alloc | apply pw_below_drewN | apply below_drew1) | exact HB.out)⟩

/-! ### laws_FnExactCountStraight: function 11 -/
def laws_FnExactCountStraight.f (k : Nat) (a0 : Int) (a1 : Int) : Option (Bool) := (spec_CountStraight.f k a0 a1).bind fun bt163 => ((impl_CountStraight.f k a0 a1).bind fun bt165 => (if bt165.1 = bt163.1 then (if (bt165.2 != bt163.2) = true then (some false) else (some true)) else (some false)))
theorem laws_FnExactCountStraight.mono : ∀ a0 a1 k, LeO (laws_FnExactCountStraight.f k a0 a1) (laws_FnExactCountStraight.f (k + 1) a0 a1) := by
  intro a0 a1 k
  unfold laws_FnExactCountStraight.f
  repeat' first
      | (with_reducible exact impl_CountStraight.mono _ _ _)
      | (with_reducible exact spec_CountStraight.mono _ _ _)
      | (with_reducible exact LeO.refl _)
      | (with_reducible exact LeO.none _)
      | (with_reducible refine LeO.ite ?_ ?_)
      | (with_reducible refine LeO.bind ?_ (fun _ => ?_))
      | exact impl_CountStraight.mono _ _ _
      | exact spec_CountStraight.mono _ _ _
      | exact LeO.none _
      | refine LeO.ite ?_ ?_
      | refine LeO.bind ?_ (fun _ => ?_)
set_option maxHeartbeats 8000000 in
set_option maxRecDepth 100000 in
theorem laws_FnExactCountStraight.calls (k : Nat) (a0 : Int) (a1 : Int) (r : Bool) (w : World) (hr_ : r = true) (h : laws_FnExactCountStraight.f k a0 a1 = some r) :
    Calls Try.prog 11 #[.int .i64 a0, .int .i64 a1] w fun e w' => e = .returned (.bool r) ∧ Below w.heap.size w w' := by
  have HB := Aside0.mk (Below.refl w.heap.size w)
  have H : ((spec_CountStraight.f k a0 a1).bind fun bt163 => ((impl_CountStraight.f k a0 a1).bind fun bt165 => (if bt165.1 = bt163.1 then (if (bt165.2 != bt163.2) = true then (some false) else (some true)) else (some false)))) = some r := h
  clear h
  replace H := Option.bind_eq_some_iff.mp H
  obtain ⟨⟨t163, t164⟩, A30, H⟩ := H
  replace H : ((impl_CountStraight.f k a0 a1).bind fun bt165 => (if bt165.1 = t163 then (if (bt165.2 != t164) = true then (some false) else (some true)) else (some false))) = some r := H
  have A3 := Aside0.mk A30
  clear A30
  replace H := Option.bind_eq_some_iff.mp H
  obtain ⟨⟨t165, t166⟩, A40, H⟩ := H
  replace H : (if t165 = t163 then (if (t166 != t164) = true then (some false) else (some true)) else (some false)) = some r := H
  have A4 := Aside0.mk A40
  clear A40
  by_cases c5 : t165 = t163
  · rw [if_pos c5] at H
    have c5b0 : (t165 == t163) = true := beq_iff_eq.mpr c5
    have c5b1 : (t165 != t163) = false := bne_eq_false_iff_eq.mpr c5
    clear c5
    by_cases c6 : (t166 != t164) = true
    · rw [if_pos c6] at H
      have c6b0 : (t166 != t164) = true := c6
      (try (have c6b1 : decide (t166 = t164) = false := by simpa using c6))
      (try (have c6b2 : (t166 == t164) = false := by simpa using c6))
      (try (have c6b3 : ¬ (t166 = t164) := by simpa using c6))
      clear c6
      exact absurd (Option.some.inj H) (by rw [hr_]; decide)
    · rw [if_neg c6] at H
      have c6b0 : (t166 != t164) = false := by simpa using c6
      (try (have c6b1 : decide (t166 = t164) = true := by simpa using c6))
      (try (have c6b2 : (t166 == t164) = true := by simpa using c6))
      clear c6
      obtain rfl := Option.some.inj H
      go_enter Try.func11, Try.ntmps11
      go_wp2_with (first | ((with_reducible refine gate_callee (f := 35) rfl ?_); refine goesL_ (some 12) rfl rfl Try.func35 (by kernel_rfl) rfl #[.int .i64 a0, .int .i64 a1] rfl (by (try simp only [List.map_toArray, List.map_cons, List.map_nil]); first | done | rfl | (simp only [List.length_drop, List.length_take]; rfl)) ?_; (with_reducible refine (spec_CountStraight.calls k a0 a1 t163 t164 _ A3.out).mono ?_); rintro e w' ⟨rfl, ⟨nd, rfl⟩⟩; refine ⟨_, rfl, ?_⟩) | ((with_reducible refine gate_callee (f := 36) rfl ?_); refine goesL_ (some 18) rfl rfl Try.func36 (by kernel_rfl) rfl #[.int .i64 a0, .int .i64 a1] rfl (by (try simp only [List.map_toArray, List.map_cons, List.map_nil]); first | done | rfl | (simp only [List.length_drop, List.length_take]; rfl)) ?_; (with_reducible refine (impl_CountStraight.calls k a0 a1 t165 t166 _ A4.out).mono ?_); rintro e w7 ⟨rfl, hb⟩; refine ⟨_, rfl, ?_⟩; have n0_ := Aside0.mk (below_step (by repeat (first | (with_reducible first | exact HB.out | apply below_alloc | apply pw_below_drewN | apply below_drew1) | exact HB.out)) hb); clear HB; have HB := n0_; clear n0_; (try clear hb); (try clear hb2); (try clear hk); (try clear hi)))
      go_ret
      exact ⟨by first | rfl | (simp [errW_none, errW_some] <;> rfl) | (simp [*, errW_none, errW_some] <;> rfl), by repeat (first | (with_reducible first | exact HB.out | apply below_alloc | apply pw_below_drewN | apply below_drew1) | exact HB.out)⟩
  · rw [if_neg c5] at H
    have c5b0 : (t165 == t163) = false := beq_eq_false_iff_ne.mpr c5
    have c5b1 : (t165 != t163) = true := bne_iff_ne.mpr c5
    exact absurd (Option.some.inj H) (by rw [hr_]; decide)

end Go.Proofs.Ytookmifpgclhlaa.MU
