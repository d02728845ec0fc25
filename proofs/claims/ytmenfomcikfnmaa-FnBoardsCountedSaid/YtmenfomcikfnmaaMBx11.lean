-- Written by a program of this session (wip/print/myprint.py) over the kit's printer; Lean checks it.
import Derived.Test.YtmenfomcikfnmaaMBx0
import Derived.Test.YtmenfomcikfnmaaMBx2
import Derived.Test.YtmenfomcikfnmaaMBx4
import Derived.Test.YtmenfomcikfnmaaMBx7
import Derived.Test.YtmenfomcikfnmaaMBx10
namespace Go.Proofs.Ytmenfomcikfnmaa.MB
open Go.RowKit Go.Proofs.YtmenfomcikfnmaaW.PrintWords Go.Proofs.YtmenfomcikfnmaaW.PrintLast Go.Proofs.YtmenfomcikfnmaaW.PrintMore Go.Proofs.YtmenfomcikfnmaaV
attribute [local go_sem] max2_int min2_int max_two min_two max_three min_three max_four min_four   -- for this text's walks alone
set_option linter.unusedVariables false
set_option linter.unusedSimpArgs false

/-! ### impl_CountStraight: function 33 -/
def impl_CountStraight.f (k : Nat) (a0 : Int) (a1 : Int) : Option (Int × Bool) := (impl_isBoard.f a0 a1 12).bind fun t232 => (if t232 = true then ((impl_straight_c1.f k a0 a1 0).bind fun t234 => (some (t234, true))) else (some (0, false)))
theorem impl_CountStraight.mono : ∀ a0 a1 k, LeO (impl_CountStraight.f k a0 a1) (impl_CountStraight.f (k + 1) a0 a1) := by
 intro a0 a1 k
 unfold impl_CountStraight.f
 repeat' first
   | (with_reducible exact impl_straight_c1.mono _ _ _ _)
   | (with_reducible exact LeO.refl _)
   | (with_reducible exact LeO.none _)
   | (with_reducible refine LeO.ite ?_ ?_)
   | (with_reducible refine LeO.bind ?_ (fun _ => ?_))
   | exact impl_straight_c1.mono _ _ _ _
   | exact LeO.none _
   | refine LeO.ite ?_ ?_
   | refine LeO.bind ?_ (fun _ => ?_)
set_option maxHeartbeats 8000000 in
set_option maxRecDepth 100000 in
theorem impl_CountStraight.calls (k : Nat) (a0 : Int) (a1 : Int) (r1 : Int) (r2 : Bool) (w : World) (h : impl_CountStraight.f k a0 a1 = some (r1, r2)) :
  Calls Try.prog 33 #[.int .i64 a0, .int .i64 a1] w fun e w' => e = .returned (.tuple #[.int .i64 r1, .bool r2]) ∧ Below w.heap.size w w' := by
 have HB := Aside0.mk (Below.refl w.heap.size w)
 have H : ((impl_isBoard.f a0 a1 12).bind fun t232 => (if t232 = true then ((impl_straight_c1.f k a0 a1 0).bind fun t234 => (some (t234, true))) else (some (0, false)))) = some (r1, r2) := h
 clear h
 replace H := Option.bind_eq_some_iff.mp H
 obtain ⟨t232, A30, H⟩ := H
 replace H : (if t232 = true then ((impl_straight_c1.f k a0 a1 0).bind fun t234 => (some (t234, true))) else (some (0, false))) = some (r1, r2) := H
 have A3 := Aside0.mk A30
 clear A30
 by_cases c4 : t232 = true
 ·subst c4
  have H1 : ((impl_straight_c1.f k a0 a1 0).bind fun t234 => (some (t234, true))) = some (r1, r2) := by rw [if_pos rfl] at H; exact H
  clear H
  have H := H1
  clear H1
  replace H := Option.bind_eq_some_iff.mp H
  obtain ⟨t234, A50, H⟩ := H
  replace H : (some (t234, true)) = some (r1, r2) := H
  have A5 := Aside0.mk A50
  clear A50
  simp only [Option.some.injEq, Prod.mk.injEq] at H
  obtain ⟨rfl, rfl⟩ := H
  go_enter Try.func33, Try.ntmps33
  go_wp2_with (first | ((with_reducible refine gate_callee (f := 51) rfl ?_); refine goesL_ (some 9) rfl rfl Try.func51 (by kernel_rfl) rfl #[.int .i64 a0, .int .i64 a1, .int .i64 12] rfl ga_ ?_; (with_reducible refine (impl_isBoard.calls a0 a1 12 true _ A3.out).mono ?_); rintro e w' ⟨rfl, ⟨nd, rfl⟩⟩; refine ⟨_, rfl, ?_⟩) | ((with_reducible refine gate_dst (N := 6) rfl ?_); refine box_event ?hg (N := 6) ?hd (cs := #[.int .i64 0]) (t := 3) ?hr ?_; (case hd => rfl); (case hg => rfl); (case hr => first | (go_simp; done) | (go_simp; rfl)); intro gb233 hg w6 hbox hb; have n0_ := Aside0.mk (below_step (hb_) hb); have n1_ := Aside0.mk ((show IsS3 w w6 gb233 0 from ⟨hbox, (by rw [hg]; exact (below_size (hb_)) : w.heap.size ≤ gb233)⟩)); clear HB; have HB := n0_; have HI233 := n1_; clear n0_ n1_; clear hb hbox hg; obtain ⟨HGz7, hgz7⟩ := HI233.out; have hcz7_0 := cellS3_0 HGz7; have hfz7_0 := blk_frozen HGz7 0; clear HGz7 hgz7) | ((with_reducible refine gate_callee (f := 81) rfl ?_); refine goesL_ (some 14) rfl rfl Try.func81 (by kernel_rfl) rfl #[.int .i64 a0, .int .i64 a1, .func (.func 82) #[] #[.pointer (some ⟨gb233, 0, none⟩)]] rfl ga_ ?_; (with_reducible refine (impl_straight_c1.calls k a0 a1 gb233 0 t234 w _ ?side1 ?side2 A5.out).mono ?_); (case side1 => repeat (first | (with_reducible first | exact HI233.out | apply IsS3.alloc | apply IsS3.drewN | apply IsS3.drew | apply IsS3.set_0) | exact HI233.out)); (case side2 => repeat (first | (with_reducible first | exact HB.out | apply below_alloc | apply pw_below_drewN | apply below_drew1 | refine below_set ?_ (IsS3.ge HI233.out)) | exact HB.out)); rintro e w8 ⟨rfl, hi, hb, hk⟩; refine ⟨_, rfl, ?_⟩; have n0_ := Aside0.mk (hb); have n1_ := Aside0.mk (hi); clear HB; clear HI233; have HB := n0_; have HI233 := n1_; clear n0_ n1_; (try clear hb); (try clear hb2); (try clear hk); (try clear hi); obtain ⟨HGz9, hgz9⟩ := HI233.out; have hcz9_0 := cellS3_0 HGz9; have hfz9_0 := blk_frozen HGz9 0; clear HGz9 hgz9))
  go_ret2
  exact ⟨by first | rfl | (simp [errW_none, errW_some] <;> rfl) | (simp [*, errW_none, errW_some] <;> rfl), by repeat (first | (with_reducible first | exact HB.out | apply below_alloc | apply pw_below_drewN | apply below_drew1 | refine below_set ?_ (IsS3.ge HI233.out)) | exact HB.out)⟩
 ·replace c4 := Bool.eq_false_iff.mpr c4
  subst c4
  have H1 : (some (0, false)) = some (r1, r2) := by rw [if_neg (show ¬ (false = true) by decide)] at H; exact H
  clear H
  have H := H1
  clear H1
  simp only [Option.some.injEq, Prod.mk.injEq] at H
  obtain ⟨rfl, rfl⟩ := H
  go_enter Try.func33, Try.ntmps33
  go_wp2_with (first | ((with_reducible refine gate_callee (f := 51) rfl ?_); refine goesL_ (some 9) rfl rfl Try.func51 (by kernel_rfl) rfl #[.int .i64 a0, .int .i64 a1, .int .i64 12] rfl ga_ ?_; (with_reducible refine (impl_isBoard.calls a0 a1 12 false _ A3.out).mono ?_); rintro e w' ⟨rfl, ⟨nd, rfl⟩⟩; refine ⟨_, rfl, ?_⟩))
  go_ret2
  exact ⟨by first | rfl | (simp [errW_none, errW_some] <;> rfl) | (simp [*, errW_none, errW_some] <;> rfl), hb_⟩

/-! ### spec_ctStarts: function 106 -/
def spec_ctStarts.f (a0 : Int) (a1 : Int) (a2 : Int) (a3 : Int) (a4 : Int) : Option (Int) := (spec_l1Most.f 0 (wrap64 (a0 - (wrap64 ((wrap64 (a4 - 1)) * a2))))).bind fun t235 => ((spec_l1Most.f 0 (wrap64 (a1 - (wrap64 ((wrap64 (a4 - 1)) * a3))))).bind fun t236 => ((spec_l1Most.f 0 (wrap64 (a0 - (wrap64 ((wrap64 ((wrap64 (a4 - 1)) + 1)) * a2))))).bind fun t237 => ((spec_l1Most.f 0 (wrap64 (a1 - (wrap64 ((wrap64 ((wrap64 (a4 - 1)) + 1)) * a3))))).bind fun t238 => (if a2 > 0 then (if a3 > 0 then (some (wrap64 ((wrap64 ((wrap64 (t235 * t236)) - (wrap64 (t237 * t238)))) * 2))) else (some (wrap64 ((wrap64 (t235 * t236)) - (wrap64 (t237 * t238)))))) else (some (wrap64 ((wrap64 (t235 * t236)) - (wrap64 (t237 * t238)))))))))
set_option maxHeartbeats 8000000 in
set_option maxRecDepth 100000 in
theorem spec_ctStarts.calls (a0 : Int) (a1 : Int) (a2 : Int) (a3 : Int) (a4 : Int) (r : Int) (w : World) (h : spec_ctStarts.f a0 a1 a2 a3 a4 = some r) :
  Calls Try.prog 106 #[.int .i64 a0, .int .i64 a1, .int .i64 a2, .int .i64 a3, .int .i64 a4] w fun e w' => e = .returned (.int .i64 r) ∧ Drawn0 w w' := by
 have H : ((spec_l1Most.f 0 (wrap64 (a0 - (wrap64 ((wrap64 (a4 - 1)) * a2))))).bind fun t235 => ((spec_l1Most.f 0 (wrap64 (a1 - (wrap64 ((wrap64 (a4 - 1)) * a3))))).bind fun t236 => ((spec_l1Most.f 0 (wrap64 (a0 - (wrap64 ((wrap64 ((wrap64 (a4 - 1)) + 1)) * a2))))).bind fun t237 => ((spec_l1Most.f 0 (wrap64 (a1 - (wrap64 ((wrap64 ((wrap64 (a4 - 1)) + 1)) * a3))))).bind fun t238 => (if a2 > 0 then (if a3 > 0 then (some (wrap64 ((wrap64 ((wrap64 (t235 * t236)) - (wrap64 (t237 * t238)))) * 2))) else (some (wrap64 ((wrap64 (t235 * t236)) - (wrap64 (t237 * t238)))))) else (some (wrap64 ((wrap64 (t235 * t236)) - (wrap64 (t237 * t238)))))))))) = some r := h
 clear h
 replace H := Option.bind_eq_some_iff.mp H
 obtain ⟨t235, A60, H⟩ := H
 replace H : ((spec_l1Most.f 0 (wrap64 (a1 - (wrap64 ((wrap64 (a4 - 1)) * a3))))).bind fun t236 => ((spec_l1Most.f 0 (wrap64 (a0 - (wrap64 ((wrap64 ((wrap64 (a4 - 1)) + 1)) * a2))))).bind fun t237 => ((spec_l1Most.f 0 (wrap64 (a1 - (wrap64 ((wrap64 ((wrap64 (a4 - 1)) + 1)) * a3))))).bind fun t238 => (if a2 > 0 then (if a3 > 0 then (some (wrap64 ((wrap64 ((wrap64 (t235 * t236)) - (wrap64 (t237 * t238)))) * 2))) else (some (wrap64 ((wrap64 (t235 * t236)) - (wrap64 (t237 * t238)))))) else (some (wrap64 ((wrap64 (t235 * t236)) - (wrap64 (t237 * t238))))))))) = some r := H
 have A6 := Aside0.mk A60
 clear A60
 replace H := Option.bind_eq_some_iff.mp H
 obtain ⟨t236, A70, H⟩ := H
 replace H : ((spec_l1Most.f 0 (wrap64 (a0 - (wrap64 ((wrap64 ((wrap64 (a4 - 1)) + 1)) * a2))))).bind fun t237 => ((spec_l1Most.f 0 (wrap64 (a1 - (wrap64 ((wrap64 ((wrap64 (a4 - 1)) + 1)) * a3))))).bind fun t238 => (if a2 > 0 then (if a3 > 0 then (some (wrap64 ((wrap64 ((wrap64 (t235 * t236)) - (wrap64 (t237 * t238)))) * 2))) else (some (wrap64 ((wrap64 (t235 * t236)) - (wrap64 (t237 * t238)))))) else (some (wrap64 ((wrap64 (t235 * t236)) - (wrap64 (t237 * t238)))))))) = some r := H
 have A7 := Aside0.mk A70
 clear A70
 replace H := Option.bind_eq_some_iff.mp H
 obtain ⟨t237, A80, H⟩ := H
 replace H : ((spec_l1Most.f 0 (wrap64 (a1 - (wrap64 ((wrap64 ((wrap64 (a4 - 1)) + 1)) * a3))))).bind fun t238 => (if a2 > 0 then (if a3 > 0 then (some (wrap64 ((wrap64 ((wrap64 (t235 * t236)) - (wrap64 (t237 * t238)))) * 2))) else (some (wrap64 ((wrap64 (t235 * t236)) - (wrap64 (t237 * t238)))))) else (some (wrap64 ((wrap64 (t235 * t236)) - (wrap64 (t237 * t238))))))) = some r := H
 have A8 := Aside0.mk A80
 clear A80
 replace H := Option.bind_eq_some_iff.mp H
 obtain ⟨t238, A90, H⟩ := H
 replace H : (if a2 > 0 then (if a3 > 0 then (some (wrap64 ((wrap64 ((wrap64 (t235 * t236)) - (wrap64 (t237 * t238)))) * 2))) else (some (wrap64 ((wrap64 (t235 * t236)) - (wrap64 (t237 * t238)))))) else (some (wrap64 ((wrap64 (t235 * t236)) - (wrap64 (t237 * t238)))))) = some r := H
 have A9 := Aside0.mk A90
 clear A90
 by_cases c10 : a2 > 0
 ·rw [if_pos c10] at H
  have c10b0 : decide (0 < a2) = true := decide_eq_true c10
  clear c10
  by_cases c11 : a3 > 0
  ·rw [if_pos c11] at H
   have c11b0 : decide (0 < a3) = true := decide_eq_true c11
   clear c11
   obtain rfl := Option.some.inj H
   go_enter Try.func106, Try.ntmps106
   go_wp2_with (first | ((with_reducible refine gate_callee (f := 85) rfl ?_); refine goesL_ (some 22) rfl rfl Try.func85 (by kernel_rfl) rfl #[.int .i64 0, .int .i64 (wrap64 (a0 - (wrap64 ((wrap64 (a4 - 1)) * a2))))] rfl ga_ ?_; (with_reducible refine (spec_l1Most.calls 0 (wrap64 (a0 - (wrap64 ((wrap64 (a4 - 1)) * a2)))) t235 _ A6.out).mono ?_); rintro e w' ⟨rfl, ⟨nd, rfl⟩⟩; refine ⟨_, rfl, ?_⟩) | ((with_reducible refine gate_callee (f := 85) rfl ?_); refine goesL_ (some 28) rfl rfl Try.func85 (by kernel_rfl) rfl #[.int .i64 0, .int .i64 (wrap64 (a1 - (wrap64 ((wrap64 (a4 - 1)) * a3))))] rfl ga_ ?_; (with_reducible refine (spec_l1Most.calls 0 (wrap64 (a1 - (wrap64 ((wrap64 (a4 - 1)) * a3)))) t236 _ A7.out).mono ?_); rintro e w' ⟨rfl, ⟨nd, rfl⟩⟩; refine ⟨_, rfl, ?_⟩) | ((with_reducible refine gate_callee (f := 85) rfl ?_); refine goesL_ (some 36) rfl rfl Try.func85 (by kernel_rfl) rfl #[.int .i64 0, .int .i64 (wrap64 (a0 - (wrap64 ((wrap64 ((wrap64 (a4 - 1)) + 1)) * a2))))] rfl ga_ ?_; (with_reducible refine (spec_l1Most.calls 0 (wrap64 (a0 - (wrap64 ((wrap64 ((wrap64 (a4 - 1)) + 1)) * a2)))) t237 _ A8.out).mono ?_); rintro e w' ⟨rfl, ⟨nd, rfl⟩⟩; refine ⟨_, rfl, ?_⟩) | ((with_reducible refine gate_callee (f := 85) rfl ?_); refine goesL_ (some 43) rfl rfl Try.func85 (by kernel_rfl) rfl #[.int .i64 0, .int .i64 (wrap64 (a1 - (wrap64 ((wrap64 ((wrap64 (a4 - 1)) + 1)) * a3))))] rfl ga_ ?_; (with_reducible refine (spec_l1Most.calls 0 (wrap64 (a1 - (wrap64 ((wrap64 ((wrap64 (a4 - 1)) + 1)) * a3)))) t238 _ A9.out).mono ?_); rintro e w' ⟨rfl, ⟨nd, rfl⟩⟩; refine ⟨_, rfl, ?_⟩))
   go_ret
   exact ⟨by first | rfl | (simp; done) | (simp [*]; done), by repeat (first | exact Drawn0.refl _ | apply Drawn0.step)⟩
  ·rw [if_neg c11] at H
   have c11b0 : decide (0 < a3) = false := decide_eq_false c11
   clear c11
   obtain rfl := Option.some.inj H
   go_enter Try.func106, Try.ntmps106
   go_wp2_with (first | ((with_reducible refine gate_callee (f := 85) rfl ?_); refine goesL_ (some 22) rfl rfl Try.func85 (by kernel_rfl) rfl #[.int .i64 0, .int .i64 (wrap64 (a0 - (wrap64 ((wrap64 (a4 - 1)) * a2))))] rfl ga_ ?_; (with_reducible refine (spec_l1Most.calls 0 (wrap64 (a0 - (wrap64 ((wrap64 (a4 - 1)) * a2)))) t235 _ A6.out).mono ?_); rintro e w' ⟨rfl, ⟨nd, rfl⟩⟩; refine ⟨_, rfl, ?_⟩) | ((with_reducible refine gate_callee (f := 85) rfl ?_); refine goesL_ (some 28) rfl rfl Try.func85 (by kernel_rfl) rfl #[.int .i64 0, .int .i64 (wrap64 (a1 - (wrap64 ((wrap64 (a4 - 1)) * a3))))] rfl ga_ ?_; (with_reducible refine (spec_l1Most.calls 0 (wrap64 (a1 - (wrap64 ((wrap64 (a4 - 1)) * a3)))) t236 _ A7.out).mono ?_); rintro e w' ⟨rfl, ⟨nd, rfl⟩⟩; refine ⟨_, rfl, ?_⟩) | ((with_reducible refine gate_callee (f := 85) rfl ?_); refine goesL_ (some 36) rfl rfl Try.func85 (by kernel_rfl) rfl #[.int .i64 0, .int .i64 (wrap64 (a0 - (wrap64 ((wrap64 ((wrap64 (a4 - 1)) + 1)) * a2))))] rfl ga_ ?_; (with_reducible refine (spec_l1Most.calls 0 (wrap64 (a0 - (wrap64 ((wrap64 ((wrap64 (a4 - 1)) + 1)) * a2)))) t237 _ A8.out).mono ?_); rintro e w' ⟨rfl, ⟨nd, rfl⟩⟩; refine ⟨_, rfl, ?_⟩) | ((with_reducible refine gate_callee (f := 85) rfl ?_); refine goesL_ (some 43) rfl rfl Try.func85 (by kernel_rfl) rfl #[.int .i64 0, .int .i64 (wrap64 (a1 - (wrap64 ((wrap64 ((wrap64 (a4 - 1)) + 1)) * a3))))] rfl ga_ ?_; (with_reducible refine (spec_l1Most.calls 0 (wrap64 (a1 - (wrap64 ((wrap64 ((wrap64 (a4 - 1)) + 1)) * a3)))) t238 _ A9.out).mono ?_); rintro e w' ⟨rfl, ⟨nd, rfl⟩⟩; refine ⟨_, rfl, ?_⟩))
   go_ret
   exact ⟨by first | rfl | (simp; done) | (simp [*]; done), by repeat (first | exact Drawn0.refl _ | apply Drawn0.step)⟩
 ·rw [if_neg c10] at H
  have c10b0 : decide (0 < a2) = false := decide_eq_false c10
  clear c10
  obtain rfl := Option.some.inj H
  go_enter Try.func106, Try.ntmps106
  go_wp2_with (first | ((with_reducible refine gate_callee (f := 85) rfl ?_); refine goesL_ (some 22) rfl rfl Try.func85 (by kernel_rfl) rfl #[.int .i64 0, .int .i64 (wrap64 (a0 - (wrap64 ((wrap64 (a4 - 1)) * a2))))] rfl ga_ ?_; (with_reducible refine (spec_l1Most.calls 0 (wrap64 (a0 - (wrap64 ((wrap64 (a4 - 1)) * a2)))) t235 _ A6.out).mono ?_); rintro e w' ⟨rfl, ⟨nd, rfl⟩⟩; refine ⟨_, rfl, ?_⟩) | ((with_reducible refine gate_callee (f := 85) rfl ?_); refine goesL_ (some 28) rfl rfl Try.func85 (by kernel_rfl) rfl #[.int .i64 0, .int .i64 (wrap64 (a1 - (wrap64 ((wrap64 (a4 - 1)) * a3))))] rfl ga_ ?_; (with_reducible refine (spec_l1Most.calls 0 (wrap64 (a1 - (wrap64 ((wrap64 (a4 - 1)) * a3)))) t236 _ A7.out).mono ?_); rintro e w' ⟨rfl, ⟨nd, rfl⟩⟩; refine ⟨_, rfl, ?_⟩) | ((with_reducible refine gate_callee (f := 85) rfl ?_); refine goesL_ (some 36) rfl rfl Try.func85 (by kernel_rfl) rfl #[.int .i64 0, .int .i64 (wrap64 (a0 - (wrap64 ((wrap64 ((wrap64 (a4 - 1)) + 1)) * a2))))] rfl ga_ ?_; (with_reducible refine (spec_l1Most.calls 0 (wrap64 (a0 - (wrap64 ((wrap64 ((wrap64 (a4 - 1)) + 1)) * a2)))) t237 _ A8.out).mono ?_); rintro e w' ⟨rfl, ⟨nd, rfl⟩⟩; refine ⟨_, rfl, ?_⟩) | ((with_reducible refine gate_callee (f := 85) rfl ?_); refine goesL_ (some 43) rfl rfl Try.func85 (by kernel_rfl) rfl #[.int .i64 0, .int .i64 (wrap64 (a1 - (wrap64 ((wrap64 ((wrap64 (a4 - 1)) + 1)) * a3))))] rfl ga_ ?_; (with_reducible refine (spec_l1Most.calls 0 (wrap64 (a1 - (wrap64 ((wrap64 ((wrap64 (a4 - 1)) + 1)) * a3)))) t238 _ A9.out).mono ?_); rintro e w' ⟨rfl, ⟨nd, rfl⟩⟩; refine ⟨_, rfl, ?_⟩))
  go_ret
  exact ⟨by first | rfl | (simp; done) | (simp [*]; done), by repeat (first | exact Drawn0.refl _ | apply Drawn0.step)⟩

/-! ### spec_ctLines: function 83 -/
mutual
def spec_ctLines.l0 : Nat → Int → Int → Int → Int → Int → Option (Int)
 | 0, _, _, _, _, _ => none
 | k + 1, x0, x1, x2, x7, x8 => if x8 < x0 then (spec_ctLines.l1 k x0 x1 x2 x7 x8 0) else (some x7)
def spec_ctLines.l1 : Nat → Int → Int → Int → Int → Int → Int → Option (Int)
 | 0, _, _, _, _, _, _ => none
 | k + 1, x0, x1, x2, x7, x8, x9 => if x9 < x1 then ((spec_pgCommon.f k x8 x9).bind fun t239 => (if t239 = 1 then ((spec_ctStarts.f x0 x1 x8 x9 x2).bind fun t240 => (spec_ctLines.l1 k x0 x1 x2 (wrap64 (x7 + t240)) x8 (wrap64 (x9 + 1)))) else (spec_ctLines.l1 k x0 x1 x2 x7 x8 (wrap64 (x9 + 1))))) else (spec_ctLines.l0 k x0 x1 x2 x7 (wrap64 (x8 + 1)))
end
def spec_ctLines.f (k : Nat) (a0 : Int) (a1 : Int) (a2 : Int) : Option (Int) := spec_ctLines.l0 k a0 a1 a2 0 0
theorem spec_ctLines.mono_l : ∀ k, (∀ y0 y1 y2 y3 y4, LeO (spec_ctLines.l0 k y0 y1 y2 y3 y4) (spec_ctLines.l0 (k + 1) y0 y1 y2 y3 y4)) ∧ (∀ y0 y1 y2 y3 y4 y5, LeO (spec_ctLines.l1 k y0 y1 y2 y3 y4 y5) (spec_ctLines.l1 (k + 1) y0 y1 y2 y3 y4 y5))
 | 0 => ⟨fun _ _ _ _ _ r h => by simp [spec_ctLines.l0] at h, fun _ _ _ _ _ _ r h => by simp [spec_ctLines.l1] at h⟩
 | k + 1 => by
  obtain ⟨ih0, ih1⟩ := spec_ctLines.mono_l k
  refine ⟨?_, ?_⟩
  ·intro y0 y1 y2 y3 y4
   unfold spec_ctLines.l0
   repeat' first
   | (with_reducible exact ih0 _ _ _ _ _)
   | (with_reducible exact ih1 _ _ _ _ _ _)
   | (with_reducible exact spec_pgCommon.mono _ _ _)
   | (with_reducible exact LeO.refl _)
   | (with_reducible exact LeO.none _)
   | (with_reducible refine LeO.ite ?_ ?_)
   | (with_reducible refine LeO.bind ?_ (fun _ => ?_))
   | exact ih0 _ _ _ _ _
   | exact ih1 _ _ _ _ _ _
   | exact spec_pgCommon.mono _ _ _
   | exact LeO.none _
   | refine LeO.ite ?_ ?_
   | refine LeO.bind ?_ (fun _ => ?_)
  ·intro y0 y1 y2 y3 y4 y5
   unfold spec_ctLines.l1
   repeat' first
   | (with_reducible exact ih0 _ _ _ _ _)
   | (with_reducible exact ih1 _ _ _ _ _ _)
   | (with_reducible exact spec_pgCommon.mono _ _ _)
   | (with_reducible exact LeO.refl _)
   | (with_reducible exact LeO.none _)
   | (with_reducible refine LeO.ite ?_ ?_)
   | (with_reducible refine LeO.bind ?_ (fun _ => ?_))
   | exact ih0 _ _ _ _ _
   | exact ih1 _ _ _ _ _ _
   | exact spec_pgCommon.mono _ _ _
   | exact LeO.none _
   | refine LeO.ite ?_ ?_
   | refine LeO.bind ?_ (fun _ => ?_)
theorem spec_ctLines.mono : ∀ a0 a1 a2 k, LeO (spec_ctLines.f k a0 a1 a2) (spec_ctLines.f (k + 1) a0 a1 a2) := by
 intro a0 a1 a2 k
 obtain ⟨ih0, ih1⟩ := spec_ctLines.mono_l k
 unfold spec_ctLines.f
 repeat' first
   | (with_reducible exact ih0 _ _ _ _ _)
   | (with_reducible exact ih1 _ _ _ _ _ _)
   | (with_reducible exact spec_pgCommon.mono _ _ _)
   | (with_reducible exact LeO.refl _)
   | (with_reducible exact LeO.none _)
   | (with_reducible refine LeO.ite ?_ ?_)
   | (with_reducible refine LeO.bind ?_ (fun _ => ?_))
   | exact ih0 _ _ _ _ _
   | exact ih1 _ _ _ _ _ _
   | exact spec_pgCommon.mono _ _ _
   | exact LeO.none _
   | refine LeO.ite ?_ ?_
   | refine LeO.bind ?_ (fun _ => ?_)
set_option maxHeartbeats 8000000 in
set_option maxRecDepth 100000 in
theorem spec_ctLines.calls (k : Nat) (a0 : Int) (a1 : Int) (a2 : Int) (r : Int) (w : World) (h : spec_ctLines.f k a0 a1 a2 = some r) :
  Calls Try.prog 83 #[.int .i64 a0, .int .i64 a1, .int .i64 a2] w fun e w' => e = .returned (.int .i64 r) ∧ Drawn0 w w' := by
 have H : (spec_ctLines.l0 k a0 a1 a2 0 0) = some r := h
 clear h
 have H' := Aside0.mk H
 clear H
 go_enter Try.func83, Try.ntmps83
 go_wp2
 go_loopg [7, 8] k (fun kq v7 v8 w' => ∃ (x7_1 : Int) (x8_1 : Int), v7 = .int .i64 x7_1 ∧ v8 = .int .i64 x8_1 ∧ Aside0 (spec_ctLines.l0 kq a0 a1 a2 x7_1 x8_1 = some r) ∧ Aside0 (kq ≤ k) ∧ Drawn0 w w')
 case atStart => exact ⟨(0), (0), (by first | rfl | (simp; done) | (simp [*]; done)), (by first | rfl | (simp; done) | (simp [*]; done)), H', ⟨Nat.le_refl _⟩, by repeat (first | exact Drawn0.refl _ | apply Drawn0.step)⟩
 case round =>
  clear H'
  try clear p2
  obtain ⟨x7_1, x8_1, rfl, rfl, HA, HK1, ⟨m1, rfl⟩⟩ := hrel
  cases gk with
  | zero => exact absurd HA.out (by simp [spec_ctLines.l0])
  | succ k1 =>
   have H := HA.out
   clear HA
   simp only [spec_ctLines.l0] at H
   by_cases c4 : x8_1 < a0
   ·rw [if_pos c4] at H
    have c4b0 : decide (x8_1 < a0) = true := decide_eq_true c4
    clear c4
    have H' := Aside0.mk H
    clear H
    go_wp2
    go_loopg [7, 9] k1 (fun kq v7 v9 w' => ∃ (x7_2 : Int) (x9_2 : Int), v7 = .int .i64 x7_2 ∧ v9 = .int .i64 x9_2 ∧ Aside0 (spec_ctLines.l1 kq a0 a1 a2 x7_2 x8_1 x9_2 = some r) ∧ Aside0 (kq ≤ k1) ∧ Drawn0 w w')
    case atStart => exact ⟨(x7_1), (0), (by first | rfl | (simp; done) | (simp [*]; done)), (by first | rfl | (simp; done) | (simp [*]; done)), H', ⟨Nat.le_refl _⟩, by repeat (first | exact Drawn0.refl _ | apply Drawn0.step)⟩
    case round =>
     clear H'
     try clear p2; try clear c4; try clear c4b0; try clear p2
     obtain ⟨x7_2, x9_2, rfl, rfl, HA, HK2, ⟨m2, rfl⟩⟩ := hrel
     cases gk with
     | zero => exact absurd HA.out (by simp [spec_ctLines.l1])
     | succ k2 =>
      have H := HA.out
      clear HA
      simp only [spec_ctLines.l1] at H
      by_cases c5 : x9_2 < a1
      ·rw [if_pos c5] at H
       have c5b0 : decide (x9_2 < a1) = true := decide_eq_true c5
       clear c5
       replace H := Option.bind_eq_some_iff.mp H
       obtain ⟨t239, A60, H⟩ := H
       replace H : (if t239 = 1 then ((spec_ctStarts.f a0 a1 x8_1 x9_2 a2).bind fun t240 => (spec_ctLines.l1 k2 a0 a1 a2 (wrap64 (x7_2 + t240)) x8_1 (wrap64 (x9_2 + 1)))) else (spec_ctLines.l1 k2 a0 a1 a2 x7_2 x8_1 (wrap64 (x9_2 + 1)))) = some r := H
       have A6 := Aside0.mk A60
       clear A60
       by_cases c7 : t239 = 1
       ·rw [if_pos c7] at H
        have c7b0 : (t239 == 1) = true := beq_iff_eq.mpr c7
        have c7b1 : (t239 != 1) = false := bne_eq_false_iff_eq.mpr c7
        clear c7
        replace H := Option.bind_eq_some_iff.mp H
        obtain ⟨t240, A80, H⟩ := H
        replace H : (spec_ctLines.l1 k2 a0 a1 a2 (wrap64 (x7_2 + t240)) x8_1 (wrap64 (x9_2 + 1))) = some r := H
        have A8 := Aside0.mk A80
        clear A80
        have H' := Aside0.mk H
        clear H
        go_wp2_with (first | ((with_reducible refine gate_callee (f := 80) rfl ?_); refine goesL_ (some 22) rfl rfl Try.func80 (by kernel_rfl) rfl #[.int .i64 x8_1, .int .i64 x9_2] rfl ga_ ?_; (with_reducible refine (spec_pgCommon.calls k2 x8_1 x9_2 t239 _ A6.out).mono ?_); rintro e w' ⟨rfl, ⟨nd, rfl⟩⟩; refine ⟨_, rfl, ?_⟩) | ((with_reducible refine gate_callee (f := 106) rfl ?_); refine goesL_ (some 30) rfl rfl Try.func106 (by kernel_rfl) rfl #[.int .i64 a0, .int .i64 a1, .int .i64 x8_1, .int .i64 x9_2, .int .i64 a2] rfl ga_ ?_; (with_reducible refine (spec_ctStarts.calls a0 a1 x8_1 x9_2 a2 t240 _ A8.out).mono ?_); rintro e w' ⟨rfl, ⟨nd, rfl⟩⟩; refine ⟨_, rfl, ?_⟩))
        go_roundg k2
        case measure => have := HK1.out; have := HK2.out; omega
        case rel => exact ⟨(wrap64 (x7_2 + t240)), (wrap64 (x9_2 + 1)), (by first | rfl | (simp; done) | (simp [*]; done)), (by first | rfl | (simp; done) | (simp [*]; done)), H', ⟨by have := HK1.out; have := HK2.out; omega⟩, by repeat (first | exact Drawn0.refl _ | apply Drawn0.step)⟩
       ·rw [if_neg c7] at H
        have c7b0 : (t239 == 1) = false := beq_eq_false_iff_ne.mpr c7
        have c7b1 : (t239 != 1) = true := bne_iff_ne.mpr c7
        have H' := Aside0.mk H
        clear H
        go_wp2_with (first | ((with_reducible refine gate_callee (f := 80) rfl ?_); refine goesL_ (some 22) rfl rfl Try.func80 (by kernel_rfl) rfl #[.int .i64 x8_1, .int .i64 x9_2] rfl ga_ ?_; (with_reducible refine (spec_pgCommon.calls k2 x8_1 x9_2 t239 _ A6.out).mono ?_); rintro e w' ⟨rfl, ⟨nd, rfl⟩⟩; refine ⟨_, rfl, ?_⟩))
        go_roundg k2
        case measure => have := HK1.out; have := HK2.out; omega
        case rel => exact ⟨(x7_2), (wrap64 (x9_2 + 1)), (by first | rfl | (simp; done) | (simp [*]; done)), (by first | rfl | (simp; done) | (simp [*]; done)), H', ⟨by have := HK1.out; have := HK2.out; omega⟩, by repeat (first | exact Drawn0.refl _ | apply Drawn0.step)⟩
      ·rw [if_neg c5] at H
       have c5b0 : decide (x9_2 < a1) = false := decide_eq_false c5
       clear c5
       have H' := Aside0.mk H
       clear H
       go_wp2
       go_roundg k2
       case measure => have := HK1.out; have := HK2.out; omega
       case rel => exact ⟨(x7_2), (wrap64 (x8_1 + 1)), (by first | rfl | (simp; done) | (simp [*]; done)), (by first | rfl | (simp; done) | (simp [*]; done)), H', ⟨by have := HK1.out; have := HK2.out; omega⟩, by repeat (first | exact Drawn0.refl _ | apply Drawn0.step)⟩
   ·rw [if_neg c4] at H
    have c4b0 : decide (x8_1 < a0) = false := decide_eq_false c4
    clear c4
    obtain rfl := Option.some.inj H
    go_wp2
    go_ret
    exact ⟨by first | rfl | (simp; done) | (simp [*]; done), by repeat (first | exact Drawn0.refl _ | apply Drawn0.step)⟩

/-! ### spec_CountStraight: function 34 -/
def spec_CountStraight.f (k : Nat) (a0 : Int) (a1 : Int) : Option (Int × Bool) := (spec_ctBoard.f a0 a1 12).bind fun t241 => (if t241 = true then ((spec_ctLines.f k a0 a1 2).bind fun t242 => (some (t242, true))) else (some (0, false)))
theorem spec_CountStraight.mono : ∀ a0 a1 k, LeO (spec_CountStraight.f k a0 a1) (spec_CountStraight.f (k + 1) a0 a1) := by
 intro a0 a1 k
 unfold spec_CountStraight.f
 repeat' first
   | (with_reducible exact spec_ctLines.mono _ _ _ _)
   | (with_reducible exact LeO.refl _)
   | (with_reducible exact LeO.none _)
   | (with_reducible refine LeO.ite ?_ ?_)
   | (with_reducible refine LeO.bind ?_ (fun _ => ?_))
   | exact spec_ctLines.mono _ _ _ _
   | exact LeO.none _
   | refine LeO.ite ?_ ?_
   | refine LeO.bind ?_ (fun _ => ?_)
set_option maxHeartbeats 8000000 in
set_option maxRecDepth 100000 in
theorem spec_CountStraight.calls (k : Nat) (a0 : Int) (a1 : Int) (r1 : Int) (r2 : Bool) (w : World) (h : spec_CountStraight.f k a0 a1 = some (r1, r2)) :
  Calls Try.prog 34 #[.int .i64 a0, .int .i64 a1] w fun e w' => e = .returned (.tuple #[.int .i64 r1, .bool r2]) ∧ Drawn0 w w' := by
 have H : ((spec_ctBoard.f a0 a1 12).bind fun t241 => (if t241 = true then ((spec_ctLines.f k a0 a1 2).bind fun t242 => (some (t242, true))) else (some (0, false)))) = some (r1, r2) := h
 clear h
 replace H := Option.bind_eq_some_iff.mp H
 obtain ⟨t241, A30, H⟩ := H
 replace H : (if t241 = true then ((spec_ctLines.f k a0 a1 2).bind fun t242 => (some (t242, true))) else (some (0, false))) = some (r1, r2) := H
 have A3 := Aside0.mk A30
 clear A30
 by_cases c4 : t241 = true
 ·subst c4
  have H1 : ((spec_ctLines.f k a0 a1 2).bind fun t242 => (some (t242, true))) = some (r1, r2) := by rw [if_pos rfl] at H; exact H
  clear H
  have H := H1
  clear H1
  replace H := Option.bind_eq_some_iff.mp H
  obtain ⟨t242, A50, H⟩ := H
  replace H : (some (t242, true)) = some (r1, r2) := H
  have A5 := Aside0.mk A50
  clear A50
  simp only [Option.some.injEq, Prod.mk.injEq] at H
  obtain ⟨rfl, rfl⟩ := H
  go_enter Try.func34, Try.ntmps34
  go_wp2_with (first | ((with_reducible refine gate_callee (f := 57) rfl ?_); refine goesL_ (some 8) rfl rfl Try.func57 (by kernel_rfl) rfl #[.int .i64 a0, .int .i64 a1, .int .i64 12] rfl ga_ ?_; (with_reducible refine (spec_ctBoard.calls a0 a1 12 true _ A3.out).mono ?_); rintro e w' ⟨rfl, ⟨nd, rfl⟩⟩; refine ⟨_, rfl, ?_⟩) | ((with_reducible refine gate_callee (f := 83) rfl ?_); refine goesL_ (some 12) rfl rfl Try.func83 (by kernel_rfl) rfl #[.int .i64 a0, .int .i64 a1, .int .i64 2] rfl ga_ ?_; (with_reducible refine (spec_ctLines.calls k a0 a1 2 t242 _ A5.out).mono ?_); rintro e w' ⟨rfl, ⟨nd, rfl⟩⟩; refine ⟨_, rfl, ?_⟩))
  go_ret2
  exact ⟨by first | rfl | (simp; done) | (simp [*]; done), by repeat (first | exact Drawn0.refl _ | apply Drawn0.step)⟩
 ·replace c4 := Bool.eq_false_iff.mpr c4
  subst c4
  have H1 : (some (0, false)) = some (r1, r2) := by rw [if_neg (show ¬ (false = true) by decide)] at H; exact H
  clear H
  have H := H1
  clear H1
  simp only [Option.some.injEq, Prod.mk.injEq] at H
  obtain ⟨rfl, rfl⟩ := H
  go_enter Try.func34, Try.ntmps34
  go_wp2_with (first | ((with_reducible refine gate_callee (f := 57) rfl ?_); refine goesL_ (some 8) rfl rfl Try.func57 (by kernel_rfl) rfl #[.int .i64 a0, .int .i64 a1, .int .i64 12] rfl ga_ ?_; (with_reducible refine (spec_ctBoard.calls a0 a1 12 false _ A3.out).mono ?_); rintro e w' ⟨rfl, ⟨nd, rfl⟩⟩; refine ⟨_, rfl, ?_⟩))
  go_ret2
  exact ⟨by first | rfl | (simp; done) | (simp [*]; done), by repeat (first | exact Drawn0.refl _ | apply Drawn0.step)⟩

/-! ### impl_CountOnLongest_1: function 84 -/
def impl_CountOnLongest_1.f (a0 : Int) (a1_0 : Int) (a2_0 : Int) (s3_0 : Int) : Option (Int) := if a0 = (mx a1_0 a2_0) then (some (wrap64 (s3_0 + 1))) else (some s3_0)
set_option maxHeartbeats 8000000 in
set_option maxRecDepth 100000 in
theorem impl_CountOnLongest_1.calls (a0 : Int) (g1_ : Nat) (a1_0 : Int) (g2_ : Nat) (a2_0 : Int) (g : Nat) (s3_0 : Int) (r : Int) (w0 w : World) (hI : IsS3 w0 w g s3_0) (hB : Below w0.heap.size w0 w) (hro1 : w.heap[g1_]? = some (.cells #[.int .i64 a1_0] 3 (0, 0))) (hrn1 : g1_ ≠ g) (hrp1_2 : g1_ ≠ g2_) (hro2 : w.heap[g2_]? = some (.cells #[.int .i64 a2_0] 3 (0, 0))) (hrn2 : g2_ ≠ g) (h : impl_CountOnLongest_1.f a0 a1_0 a2_0 s3_0 = some r) :
  Calls Try.prog 84 #[.int .i64 a0, .pointer (some ⟨g1_, 0, none⟩), .pointer (some ⟨g2_, 0, none⟩), .pointer (some ⟨g, 0, none⟩)] w fun e w' => e = .returned (.tuple #[]) ∧ IsS3 w0 w' g r ∧ Below w0.heap.size w0 w' ∧ KeepBut w w' g none := by
 have HI3 := Aside0.mk hI
 have HK := Aside0.mk (KeepBut.refl w g none)
 have HL := Aside0.mk hB.size
 clear hI
 have BK1 := Aside0.mk hro1
 clear hro1
 have NB1_3 := Aside0.mk hrn1
 have NB3_1 := Aside0.mk (Ne.symm hrn1)
 clear hrn1
 have BK2 := Aside0.mk hro2
 clear hro2
 have NB2_3 := Aside0.mk hrn2
 have NB3_2 := Aside0.mk (Ne.symm hrn2)
 clear hrn2
 have NB1_2 := Aside0.mk hrp1_2
 have NB2_1 := Aside0.mk (Ne.symm hrp1_2)
 clear hrp1_2
 have HW0 := Aside0.mk hB.size
 have HB := Aside0.mk hB
 clear hB
 have H : (if a0 = (mx a1_0 a2_0) then (some (wrap64 (s3_0 + 1))) else (some s3_0)) = some r := h
 clear h
 obtain ⟨ji5, hji5⟩ : ∃ j_ : Int, (mx a1_0 a2_0) = j_ := ⟨_, rfl⟩
 replace H : (if a0 = (ji5) then (some (wrap64 (s3_0 + 1))) else (some s3_0)) = some r := by first | (rw [hji5] at H; exact H) | (simp only [hji5] at H ⊢; exact H)
 have hji5_ : (if a1_0 < a2_0 then a2_0 else a1_0) = ji5 := hji5
 by_cases c6 : a0 = (ji5)
 ·rw [if_pos c6] at H
  have c6b0 : (a0 == (ji5)) = true := beq_iff_eq.mpr c6
  have c6b1 : (a0 != (ji5)) = false := bne_eq_false_iff_eq.mpr c6
  clear c6
  obtain rfl := Option.some.inj H
  have hnb7 := NB1_2.out
  have hnc7 := NB2_1.out
  have hnb8 := NB1_3.out
  have hnc8 := NB3_1.out
  have hcz9_0 : w.cell? ⟨g1_, 0, none⟩ = some (.int .i64 a1_0) := (blk_cell BK1.out 0).trans rfl
  have hfz9_0 := blk_frozen BK1.out 0
  have hnb10 := NB2_3.out
  have hnc10 := NB3_2.out
  have hcz11_0 : w.cell? ⟨g2_, 0, none⟩ = some (.int .i64 a2_0) := (blk_cell BK2.out 0).trans rfl
  have hfz11_0 := blk_frozen BK2.out 0
  obtain ⟨HGz12, hgz12⟩ := HI3.out
  have hcz12_0 := cellS3_0 HGz12
  have hfz12_0 := blk_frozen HGz12 0
  clear HGz12 hgz12
  go_enter Try.func84, Try.ntmps84
  go_wp2
  first | go_end0 | ((try simp only [Exit.inBlock, Exit.then]); refine bodyPost_ret (results_none rfl _ _ _) rfl ?_)
  exact ⟨by first | rfl | (simp [errW_none, errW_some] <;> rfl) | (simp only [← hji5]; first | rfl | (simp [errW_none, errW_some] <;> rfl)) | (simp [*, errW_none, errW_some] <;> rfl), by repeat (first | (with_reducible first | exact HI3.out | apply IsS3.alloc | apply IsS3.drewN | apply IsS3.drew | apply IsS3.set_0 | refine IsS3.far ?_ NB3_1.out _ | refine IsS3.far ?_ NB3_2.out _) | exact HI3.out), by repeat (first | (with_reducible first | exact HB.out | apply below_alloc | apply pw_below_drewN | apply below_drew1 | refine below_set ?_ (IsS3.ge HI3.out) | refine below_set ?_ GE1.out | refine below_set ?_ GE2.out) | exact HB.out), by repeat (first | (with_reducible first | exact HK.out | apply KeepBut.set_ | apply keep_drewN | apply keep_drew | apply keep_alloc | refine keep_far ?_ GW1.out _ | refine keep_far ?_ GW2.out _) | exact HK.out)⟩
 ·rw [if_neg c6] at H
  have c6b0 : (a0 == (ji5)) = false := beq_eq_false_iff_ne.mpr c6
  have c6b1 : (a0 != (ji5)) = true := bne_iff_ne.mpr c6
  obtain rfl := Option.some.inj H
  have hnb13 := NB1_2.out
  have hnc13 := NB2_1.out
  have hnb14 := NB1_3.out
  have hnc14 := NB3_1.out
  have hcz15_0 : w.cell? ⟨g1_, 0, none⟩ = some (.int .i64 a1_0) := (blk_cell BK1.out 0).trans rfl
  have hfz15_0 := blk_frozen BK1.out 0
  have hnb16 := NB2_3.out
  have hnc16 := NB3_2.out
  have hcz17_0 : w.cell? ⟨g2_, 0, none⟩ = some (.int .i64 a2_0) := (blk_cell BK2.out 0).trans rfl
  have hfz17_0 := blk_frozen BK2.out 0
  go_enter Try.func84, Try.ntmps84
  go_wp2
  first | go_end0 | ((try simp only [Exit.inBlock, Exit.then]); refine bodyPost_ret (results_none rfl _ _ _) rfl ?_)
  exact ⟨by first | rfl | (simp [errW_none, errW_some] <;> rfl) | (simp only [← hji5]; first | rfl | (simp [errW_none, errW_some] <;> rfl)) | (simp [*, errW_none, errW_some] <;> rfl), by repeat (first | (with_reducible first | exact HI3.out | apply IsS3.alloc | apply IsS3.drewN | apply IsS3.drew | apply IsS3.set_0 | refine IsS3.far ?_ NB3_1.out _ | refine IsS3.far ?_ NB3_2.out _) | exact HI3.out), by repeat (first | (with_reducible first | exact HB.out | apply below_alloc | apply pw_below_drewN | apply below_drew1 | refine below_set ?_ (IsS3.ge HI3.out) | refine below_set ?_ GE1.out | refine below_set ?_ GE2.out) | exact HB.out), by repeat (first | (with_reducible first | exact HK.out | apply KeepBut.set_ | apply keep_drewN | apply keep_drew | apply keep_alloc | refine keep_far ?_ GW1.out _ | refine keep_far ?_ GW2.out _) | exact HK.out)⟩

end Go.Proofs.Ytmenfomcikfnmaa.MB
