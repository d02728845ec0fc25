-- Written by a program of this session (wip/print/myprint.py) over the kit's printer; Lean checks it.
import Derived.Test.YtbejebfjeggbnaaMAx0
import Derived.Test.YtbejebfjeggbnaaMAx1
import Derived.Test.YtbejebfjeggbnaaMAx2
namespace Go.Proofs.Ytbejebfjeggbnaa.MA
open Go.RowKit Go.Proofs.YtbejebfjeggbnaaW.PrintWords Go.Proofs.YtbejebfjeggbnaaW.PrintLast Go.Proofs.YtbejebfjeggbnaaW.PrintMore Go.Proofs.YtbejebfjeggbnaaV
attribute [local go_sem] max2_int min2_int max_two min_two max_three min_three max_four min_four   -- for this text's walks alone
set_option linter.unusedVariables false
set_option linter.unusedSimpArgs false

/-! ### spec_TakePeg: function 14 -/
def spec_TakePeg.j0 : Nat → List Int → Int → Int → Bool → Option (List Int × Bool)
  | 0, _, _, _, _ => none
  | k + 1, x0, x1, x6, x30 => if x30 = true then (some (([] : List Int), false)) else ((spec_l1Own.f x0).bind fun t121 => (if x6 = 0 then (none) else (if 0 ≤ (Int.tmod (wrap64 ((wrap64 (x1 + x6)) - 1)) x6) then (if (Int.tmod (wrap64 ((wrap64 (x1 + x6)) - 1)) x6) < (t121.length : Int) then ((some (t121.set ((Int.tmod (wrap64 ((wrap64 (x1 + x6)) - 1)) x6) : Int).toNat (wrap64 ((rd t121 (Int.tmod (wrap64 ((wrap64 (x1 + x6)) - 1)) x6)) - 1)) : List Int)).bind fun y125 => (if 0 ≤ (Int.tmod (wrap64 (x1 + 1)) x6) then (if (Int.tmod (wrap64 (x1 + 1)) x6) < (t121.length : Int) then (if 0 ≤ x1 then (if x1 ≤ (t121.length : Int) then (if 0 ≤ (wrap64 (x1 + 1)) then (if (wrap64 (x1 + 1)) ≤ (t121.length : Int) then ((some ((y125.set ((Int.tmod (wrap64 (x1 + 1)) x6) : Int).toNat (wrap64 ((rd y125 (Int.tmod (wrap64 (x1 + 1)) x6)) - 1))).eraseIdx (x1 : Int).toNat : List Int)).bind fun y136 => ((spec_duNumber.f k y136).bind fun t139 => (if t139 = true then (some (y136, true)) else (some (([] : List Int), false))))) else (none)) else (none)) else (none)) else (none)) else (none)) else (none))) else (none)) else (none))))
def spec_TakePeg.f (k : Nat) (l0 : List Int) (a1 : Int) : Option (List Int × Bool) := (spec_duNumber.f k l0).bind fun t118 => (if t118 = true then (if (l0.length : Int) < 4 then (spec_TakePeg.j0 k l0 a1 (l0.length : Int) true) else ((spec_l1In.f a1 0 (wrap64 ((l0.length : Int) - 1))).bind fun t119 => (if t119 = true then (if 0 ≤ a1 then (if a1 < (l0.length : Int) then (spec_TakePeg.j0 k l0 a1 (l0.length : Int) ((rd l0 a1) != 1)) else (none)) else (none)) else (spec_TakePeg.j0 k l0 a1 (l0.length : Int) true)))) else (spec_TakePeg.j0 k l0 a1 (l0.length : Int) true))
theorem spec_TakePeg.mono_l : ∀ k, (∀ y0 y1 y2 y3, LeO (spec_TakePeg.j0 k y0 y1 y2 y3) (spec_TakePeg.j0 (k + 1) y0 y1 y2 y3))
  | 0 => fun _ _ _ _ r h => by simp [spec_TakePeg.j0] at h
  | k + 1 => by
    have ih0 := spec_TakePeg.mono_l k
    · intro y0 y1 y2 y3
      unfold spec_TakePeg.j0
      repeat' first
      | (with_reducible exact ih0 _ _ _ _)
      | (with_reducible exact spec_duNumber.mono _ _)
      | (with_reducible exact LeO.refl _)
      | (with_reducible exact LeO.none _)
      | (with_reducible refine LeO.ite ?_ ?_)
      | (with_reducible refine LeO.bind ?_ (fun _ => ?_))
      | exact ih0 _ _ _ _
      | exact spec_duNumber.mono _ _
      | exact LeO.none _
      | refine LeO.ite ?_ ?_
      | refine LeO.bind ?_ (fun _ => ?_)
theorem spec_TakePeg.mono : ∀ a0 a1 k, LeO (spec_TakePeg.f k a0 a1) (spec_TakePeg.f (k + 1) a0 a1) := by
  intro a0 a1 k
  have ih0 := spec_TakePeg.mono_l k
  unfold spec_TakePeg.f
  repeat' first
      | (with_reducible exact ih0 _ _ _ _)
      | (with_reducible exact spec_duNumber.mono _ _)
      | (with_reducible exact LeO.refl _)
      | (with_reducible exact LeO.none _)
      | (with_reducible refine LeO.ite ?_ ?_)
      | (with_reducible refine LeO.bind ?_ (fun _ => ?_))
      | exact ih0 _ _ _ _
      | exact spec_duNumber.mono _ _
      | exact LeO.none _
      | refine LeO.ite ?_ ?_
      | refine LeO.bind ?_ (fun _ => ?_)
def spec_TakePeg.T7 : Bool × List (List Nat × List Nat) := (true, [([], []), ([], []), ([0, 1], [0, 1]), ([], []), ([], []), ([4], [4]), ([3, 5], [3, 5]), ([2, 6], [2, 6]), ([7, 7, 0, 1, 2, 3, 4, 5, 6, 7], [0, 3, 7])])
def spec_TakePeg.B7 : List Nat := [0, 0, 3, 0, 0, 16, 56, 127, 255]
theorem spec_TakePeg.tab7 : rtab .any (opsOf Try.f14 7) = spec_TakePeg.T7 := by kernel_rfl
theorem spec_TakePeg.bits7 : waitsOk spec_TakePeg.T7.2 spec_TakePeg.B7 = true := by kernel_rfl
set_option maxHeartbeats 8000000 in
set_option maxRecDepth 100000 in
theorem spec_TakePeg.calls (k : Nat) (A0 : Option Addr) (c0 : Nat) (l0 : List Int) (a1 : Int) (r1 : List Int) (r2 : Bool) (w : World) (hr0 : Kd.C (Kd.int .i64) w A0 l0.length l0) (hc0 : l0.length ≤ c0) (h : spec_TakePeg.f k l0 a1 = some (r1, r2)) :
    Calls Try.prog 14 #[.slice A0 l0.length c0, .int .i64 a1] w fun e w' => ∃ v0_ : Value, e = .returned (.tuple #[v0_, .bool r2]) ∧ Kd.R (Kd.int .i64) 3 w' w.heap.size (fun _ => True) v0_ r1 ∧ Below w.heap.size w w' := by
  have HR0 := Aside0.mk hr0
  have HC0 := Aside0.mk hc0
  clear hr0 hc0
  have HB := Aside0.mk (Below.refl w.heap.size w)
  have H : ((spec_duNumber.f k l0).bind fun t118 => (if t118 = true then (if (l0.length : Int) < 4 then (spec_TakePeg.j0 k l0 a1 (l0.length : Int) true) else ((spec_l1In.f a1 0 (wrap64 ((l0.length : Int) - 1))).bind fun t119 => (if t119 = true then (if 0 ≤ a1 then (if a1 < (l0.length : Int) then (spec_TakePeg.j0 k l0 a1 (l0.length : Int) ((rd l0 a1) != 1)) else (none)) else (none)) else (spec_TakePeg.j0 k l0 a1 (l0.length : Int) true)))) else (spec_TakePeg.j0 k l0 a1 (l0.length : Int) true))) = some (r1, r2) := h
  clear h
  have HC3 := Aside0.mk H
  clear H
  go_enter Try.func14, Try.ntmps14
  go_upto_region 2 with (fail)
  go_cut [30] (fun v30 wc => ∃ (kq : Nat) (x30_2 : Bool), v30 = .bool x30_2 ∧ Aside0 (spec_TakePeg.j0 kq l0 a1 (l0.length : Int) x30_2 = some (r1, r2)) ∧ Aside0 (kq ≤ k) ∧ Aside0 (Below w.heap.size w wc))
  case first =>
    have H := HC3.out
    clear HC3
    replace H := Option.bind_eq_some_iff.mp H
    obtain ⟨t118, A40, H⟩ := H
    replace H : (if t118 = true then (if (l0.length : Int) < 4 then (spec_TakePeg.j0 k l0 a1 (l0.length : Int) true) else ((spec_l1In.f a1 0 (wrap64 ((l0.length : Int) - 1))).bind fun t119 => (if t119 = true then (if 0 ≤ a1 then (if a1 < (l0.length : Int) then (spec_TakePeg.j0 k l0 a1 (l0.length : Int) ((rd l0 a1) != 1)) else (none)) else (none)) else (spec_TakePeg.j0 k l0 a1 (l0.length : Int) true)))) else (spec_TakePeg.j0 k l0 a1 (l0.length : Int) true)) = some (r1, r2) := H
    have A4 := Aside0.mk A40
    clear A40
    by_cases c5 : t118 = true
    · subst c5
      have H1 : (if (l0.length : Int) < 4 then (spec_TakePeg.j0 k l0 a1 (l0.length : Int) true) else ((spec_l1In.f a1 0 (wrap64 ((l0.length : Int) - 1))).bind fun t119 => (if t119 = true then (if 0 ≤ a1 then (if a1 < (l0.length : Int) then (spec_TakePeg.j0 k l0 a1 (l0.length : Int) ((rd l0 a1) != 1)) else (none)) else (none)) else (spec_TakePeg.j0 k l0 a1 (l0.length : Int) true)))) = some (r1, r2) := by rw [if_pos rfl] at H; exact H
      clear H
      have H := H1
      clear H1
      by_cases c6 : (l0.length : Int) < 4
      · rw [if_pos c6] at H
        have c6b0 : decide ((l0.length : Int) < 4) = true := decide_eq_true c6
        have c6b1 : decide (l0.length < 4) = true := decide_eq_true (by omega)
        clear c6
        (first | rw [c6b0] | (simp only [i64_w, i32_w]; rw [c6b0]) | skip)
        have H' := Aside0.mk H
        clear H
        go_wp2_with (first | ((with_reducible refine gate_callee (f := 36) rfl ?_); refine goesL_ (some 11) rfl rfl Try.func36 (by kernel_rfl) rfl #[.slice A0 l0.length c0] rfl ga_ ?_; (with_reducible refine (spec_duNumber.calls k _ _ l0 true _ ?side1 ?side2 A4.out).mono ?_); (case side1 => repeat (first | exact (Kd.C_below HR0.out HB.out) | (with_reducible refine Kd.C_alloc ?_ _) | (with_reducible refine Kd.C_drewN ?_ _) | (with_reducible refine Kd.C_drew ?_))); (case side2 => exact HC0.out); rintro e w' ⟨rfl, ⟨nd, rfl⟩⟩; refine ⟨_, rfl, ?_⟩))
        go_meet
        case rel => exact ⟨_, (true), (by first | rfl | (simp; done) | (simp [*]; done)), H', ⟨by first | omega | exact Nat.le_refl _⟩, ⟨hb_⟩⟩
      · rw [if_neg c6] at H
        have c6b0 : decide ((l0.length : Int) < 4) = false := decide_eq_false c6
        have c6b1 : decide (l0.length < 4) = false := decide_eq_false (by omega)
        clear c6
        (first | rw [c6b0] | (simp only [i64_w, i32_w]; rw [c6b0]) | skip)
        replace H := Option.bind_eq_some_iff.mp H
        obtain ⟨t119, A70, H⟩ := H
        replace H : (if t119 = true then (if 0 ≤ a1 then (if a1 < (l0.length : Int) then (spec_TakePeg.j0 k l0 a1 (l0.length : Int) ((rd l0 a1) != 1)) else (none)) else (none)) else (spec_TakePeg.j0 k l0 a1 (l0.length : Int) true)) = some (r1, r2) := H
        have A7 := Aside0.mk A70
        clear A70
        by_cases c8 : t119 = true
        · subst c8
          have H1 : (if 0 ≤ a1 then (if a1 < (l0.length : Int) then (spec_TakePeg.j0 k l0 a1 (l0.length : Int) ((rd l0 a1) != 1)) else (none)) else (none)) = some (r1, r2) := by rw [if_pos rfl] at H; exact H
          clear H
          have H := H1
          clear H1
          by_cases c9 : 0 ≤ a1
          · rw [if_pos c9] at H
            have c9b0 : decide (0 ≤ a1) = true := decide_eq_true c9
            clear c9
            by_cases c10 : a1 < (l0.length : Int)
            · rw [if_pos c10] at H
              have c10b0 : decide (a1 < (l0.length : Int)) = true := decide_eq_true c10
              clear c10
              have H' := Aside0.mk H
              clear H
              go_wp2_with (first | ((with_reducible refine gate_callee (f := 36) rfl ?_); refine goesL_ (some 11) rfl rfl Try.func36 (by kernel_rfl) rfl #[.slice A0 l0.length c0] rfl ga_ ?_; (with_reducible refine (spec_duNumber.calls k _ _ l0 true _ ?side1 ?side2 A4.out).mono ?_); (case side1 => repeat (first | exact (Kd.C_below HR0.out HB.out) | (with_reducible refine Kd.C_alloc ?_ _) | (with_reducible refine Kd.C_drewN ?_ _) | (with_reducible refine Kd.C_drew ?_))); (case side2 => exact HC0.out); rintro e w' ⟨rfl, ⟨nd, rfl⟩⟩; refine ⟨_, rfl, ?_⟩) | (go_at_call 40; (with_reducible refine (spec_l1In.calls a1 0 (wrap64 ((l0.length : Int) - 1)) true _ A7.out).mono ?_); rintro e w' ⟨rfl, ⟨nd, rfl⟩⟩; have p120 : 0 ≤ (a1 : Int) := odt_; have q120 : a1 < (l0.length : Int) := odt_; obtain ⟨ad120, e120, hx120_0⟩ := Kd.at_int HR0.out a1 p120 q120; cases e120; replace hx120_0 := (HB.out.cell (World.block_lt_of_cell? w _ hx120_0)).trans hx120_0; replace p120 := eq_true p120; replace q120 := eq_true q120))
              go_meet
              case rel => exact ⟨_, (((rd l0 a1) != 1)), (by first | rfl | (simp; done) | (simp [*]; done)), H', ⟨by first | omega | exact Nat.le_refl _⟩, ⟨hb_⟩⟩
            · rw [if_neg c10] at H
              exact absurd H (by simp)
          · rw [if_neg c9] at H
            exact absurd H (by simp)
        · replace c8 := Bool.eq_false_iff.mpr c8
          subst c8
          have H1 : (spec_TakePeg.j0 k l0 a1 (l0.length : Int) true) = some (r1, r2) := by rw [if_neg (show ¬ (false = true) by decide)] at H; exact H
          clear H
          have H := H1
          clear H1
          have H' := Aside0.mk H
          clear H
          go_wp2_with (first | ((with_reducible refine gate_callee (f := 36) rfl ?_); refine goesL_ (some 11) rfl rfl Try.func36 (by kernel_rfl) rfl #[.slice A0 l0.length c0] rfl ga_ ?_; (with_reducible refine (spec_duNumber.calls k _ _ l0 true _ ?side1 ?side2 A4.out).mono ?_); (case side1 => repeat (first | exact (Kd.C_below HR0.out HB.out) | (with_reducible refine Kd.C_alloc ?_ _) | (with_reducible refine Kd.C_drewN ?_ _) | (with_reducible refine Kd.C_drew ?_))); (case side2 => exact HC0.out); rintro e w' ⟨rfl, ⟨nd, rfl⟩⟩; refine ⟨_, rfl, ?_⟩) | (go_at_call 40; (with_reducible refine (spec_l1In.calls a1 0 (wrap64 ((l0.length : Int) - 1)) false _ A7.out).mono ?_); rintro e w' ⟨rfl, ⟨nd, rfl⟩⟩))
          go_meet
          case rel => exact ⟨_, (true), (by first | rfl | (simp; done) | (simp [*]; done)), H', ⟨by first | omega | exact Nat.le_refl _⟩, ⟨hb_⟩⟩
    · replace c5 := Bool.eq_false_iff.mpr c5
      subst c5
      have H1 : (spec_TakePeg.j0 k l0 a1 (l0.length : Int) true) = some (r1, r2) := by rw [if_neg (show ¬ (false = true) by decide)] at H; exact H
      clear H
      have H := H1
      clear H1
      have H' := Aside0.mk H
      clear H
      go_wp2_with (first | ((with_reducible refine gate_callee (f := 36) rfl ?_); refine goesL_ (some 11) rfl rfl Try.func36 (by kernel_rfl) rfl #[.slice A0 l0.length c0] rfl ga_ ?_; (with_reducible refine (spec_duNumber.calls k _ _ l0 false _ ?side1 ?side2 A4.out).mono ?_); (case side1 => repeat (first | exact (Kd.C_below HR0.out HB.out) | (with_reducible refine Kd.C_alloc ?_ _) | (with_reducible refine Kd.C_drewN ?_ _) | (with_reducible refine Kd.C_drew ?_))); (case side2 => exact HC0.out); rintro e w' ⟨rfl, ⟨nd, rfl⟩⟩; refine ⟨_, rfl, ?_⟩))
      go_meet
      case rel => exact ⟨_, (true), (by first | rfl | (simp; done) | (simp [*]; done)), H', ⟨by first | omega | exact Nat.le_refl _⟩, ⟨hb_⟩⟩
  case rest =>
    clear HC3
    try clear c1
    try clear p1
    try clear q1
    try clear hx1
    try clear p2
    try clear c3
    try clear c5
    try clear c6
    try clear c6b0
    try clear c6b1
    try clear p6
    try clear c8
    try clear c9
    try clear c9b0
    try clear c10
    try clear c10b0
    try clear hx120_0
    try clear p120
    try clear q120
    obtain ⟨kq, x30_2, rfl, HA, HJ2, HB⟩ := hcut
    cases kq with
    | zero => exact absurd HA.out (by simp [spec_TakePeg.j0])
    | succ kj2 =>
      have H := HA.out
      clear HA
      simp only [spec_TakePeg.j0] at H
      by_cases c11 : x30_2 = true
      · subst c11
        have H1 : (some (([] : List Int), false)) = some (r1, r2) := by rw [if_pos rfl] at H; exact H
        clear H
        have H := H1
        clear H1
        simp only [Option.some.injEq, Prod.mk.injEq] at H
        obtain ⟨rfl, rfl⟩ := H
        go_wp2
        go_ret2
        exact ⟨_, by first | rfl | (simp [errW_none, errW_some] <;> rfl) | (simp [*, errW_none, errW_some] <;> rfl), by first | exact Kd.R_nil _ _ _ _ _ | exact Kd.N_nil _ _ _ _ _ | exact Kd.V_nil _ _ _ _ _ | exact Kd.Q_nil _ _ _ _ _ | exact Kd.S_nil _ _ _ _ _, hb_⟩
      · replace c11 := Bool.eq_false_iff.mpr c11
        subst c11
        have H1 : ((spec_l1Own.f l0).bind fun t121 => (if (l0.length : Int) = 0 then (none) else (if 0 ≤ (Int.tmod (wrap64 ((wrap64 (a1 + (l0.length : Int))) - 1)) (l0.length : Int)) then (if (Int.tmod (wrap64 ((wrap64 (a1 + (l0.length : Int))) - 1)) (l0.length : Int)) < (t121.length : Int) then ((some (t121.set ((Int.tmod (wrap64 ((wrap64 (a1 + (l0.length : Int))) - 1)) (l0.length : Int)) : Int).toNat (wrap64 ((rd t121 (Int.tmod (wrap64 ((wrap64 (a1 + (l0.length : Int))) - 1)) (l0.length : Int))) - 1)) : List Int)).bind fun y125 => (if 0 ≤ (Int.tmod (wrap64 (a1 + 1)) (l0.length : Int)) then (if (Int.tmod (wrap64 (a1 + 1)) (l0.length : Int)) < (t121.length : Int) then (if 0 ≤ a1 then (if a1 ≤ (t121.length : Int) then (if 0 ≤ (wrap64 (a1 + 1)) then (if (wrap64 (a1 + 1)) ≤ (t121.length : Int) then ((some ((y125.set ((Int.tmod (wrap64 (a1 + 1)) (l0.length : Int)) : Int).toNat (wrap64 ((rd y125 (Int.tmod (wrap64 (a1 + 1)) (l0.length : Int))) - 1))).eraseIdx (a1 : Int).toNat : List Int)).bind fun y136 => ((spec_duNumber.f kj2 y136).bind fun t139 => (if t139 = true then (some (y136, true)) else (some (([] : List Int), false))))) else (none)) else (none)) else (none)) else (none)) else (none)) else (none))) else (none)) else (none)))) = some (r1, r2) := by rw [if_neg (show ¬ (false = true) by decide)] at H; exact H
        clear H
        have H := H1
        clear H1
        replace H := Option.bind_eq_some_iff.mp H
        obtain ⟨t121, A120, H⟩ := H
        replace H : (if (l0.length : Int) = 0 then (none) else (if 0 ≤ (Int.tmod (wrap64 ((wrap64 (a1 + (l0.length : Int))) - 1)) (l0.length : Int)) then (if (Int.tmod (wrap64 ((wrap64 (a1 + (l0.length : Int))) - 1)) (l0.length : Int)) < (t121.length : Int) then ((some (t121.set ((Int.tmod (wrap64 ((wrap64 (a1 + (l0.length : Int))) - 1)) (l0.length : Int)) : Int).toNat (wrap64 ((rd t121 (Int.tmod (wrap64 ((wrap64 (a1 + (l0.length : Int))) - 1)) (l0.length : Int))) - 1)) : List Int)).bind fun y125 => (if 0 ≤ (Int.tmod (wrap64 (a1 + 1)) (l0.length : Int)) then (if (Int.tmod (wrap64 (a1 + 1)) (l0.length : Int)) < (t121.length : Int) then (if 0 ≤ a1 then (if a1 ≤ (t121.length : Int) then (if 0 ≤ (wrap64 (a1 + 1)) then (if (wrap64 (a1 + 1)) ≤ (t121.length : Int) then ((some ((y125.set ((Int.tmod (wrap64 (a1 + 1)) (l0.length : Int)) : Int).toNat (wrap64 ((rd y125 (Int.tmod (wrap64 (a1 + 1)) (l0.length : Int))) - 1))).eraseIdx (a1 : Int).toNat : List Int)).bind fun y136 => ((spec_duNumber.f kj2 y136).bind fun t139 => (if t139 = true then (some (y136, true)) else (some (([] : List Int), false))))) else (none)) else (none)) else (none)) else (none)) else (none)) else (none))) else (none)) else (none))) = some (r1, r2) := H
        have A12 := Aside0.mk A120
        clear A120
        by_cases c13 : (l0.length : Int) = 0
        · rw [if_pos c13] at H
          exact absurd H (by simp)
        · rw [if_neg c13] at H
          have c13b0 : ((l0.length : Int) == 0) = false := beq_eq_false_iff_ne.mpr c13
          have c13b1 : ((l0.length : Int) != 0) = true := bne_iff_ne.mpr c13
          have c13b2 : ¬ (l0 = []) := fun h_ => c13 (by rw [h_]; rfl)
          obtain ⟨ji14, hji14⟩ : ∃ j_ : Int, (Int.tmod (wrap64 ((wrap64 (a1 + (l0.length : Int))) - 1)) (l0.length : Int)) = j_ := ⟨_, rfl⟩
          replace H : (if 0 ≤ (ji14) then (if (ji14) < (t121.length : Int) then ((some (t121.set ((ji14) : Int).toNat (wrap64 ((rd t121 (ji14)) - 1)) : List Int)).bind fun y125 => (if 0 ≤ (Int.tmod (wrap64 (a1 + 1)) (l0.length : Int)) then (if (Int.tmod (wrap64 (a1 + 1)) (l0.length : Int)) < (t121.length : Int) then (if 0 ≤ a1 then (if a1 ≤ (t121.length : Int) then (if 0 ≤ (wrap64 (a1 + 1)) then (if (wrap64 (a1 + 1)) ≤ (t121.length : Int) then ((some ((y125.set ((Int.tmod (wrap64 (a1 + 1)) (l0.length : Int)) : Int).toNat (wrap64 ((rd y125 (Int.tmod (wrap64 (a1 + 1)) (l0.length : Int))) - 1))).eraseIdx (a1 : Int).toNat : List Int)).bind fun y136 => ((spec_duNumber.f kj2 y136).bind fun t139 => (if t139 = true then (some (y136, true)) else (some (([] : List Int), false))))) else (none)) else (none)) else (none)) else (none)) else (none)) else (none))) else (none)) else (none)) = some (r1, r2) := by first | (rw [hji14] at H; exact H) | (simp only [hji14] at H ⊢; exact H)
          (try rw [hji14] at A12)
          by_cases c15 : 0 ≤ (ji14)
          · rw [if_pos c15] at H
            have c15b0 : decide (0 ≤ (ji14)) = true := decide_eq_true c15
            clear c15
            by_cases c16 : (ji14) < (t121.length : Int)
            · rw [if_pos c16] at H
              have c16b0 : decide ((ji14) < (t121.length : Int)) = true := decide_eq_true c16
              clear c16
              obtain ⟨y125, hy125⟩ : ∃ y_ : List Int, y_ = (t121.set ((ji14) : Int).toNat (wrap64 ((rd t121 (ji14)) - 1))) := ⟨_, rfl⟩
              replace H : (if 0 ≤ (Int.tmod (wrap64 (a1 + 1)) (l0.length : Int)) then (if (Int.tmod (wrap64 (a1 + 1)) (l0.length : Int)) < (t121.length : Int) then (if 0 ≤ a1 then (if a1 ≤ (t121.length : Int) then (if 0 ≤ (wrap64 (a1 + 1)) then (if (wrap64 (a1 + 1)) ≤ (t121.length : Int) then ((some ((y125.set ((Int.tmod (wrap64 (a1 + 1)) (l0.length : Int)) : Int).toNat (wrap64 ((rd y125 (Int.tmod (wrap64 (a1 + 1)) (l0.length : Int))) - 1))).eraseIdx (a1 : Int).toNat : List Int)).bind fun y136 => ((spec_duNumber.f kj2 y136).bind fun t139 => (if t139 = true then (some (y136, true)) else (some (([] : List Int), false))))) else (none)) else (none)) else (none)) else (none)) else (none)) else (none)) = some (r1, r2) := by first | (rw [hy125]; with_reducible exact H) | (have H2_ := (Option.bind_some _ _).symm.trans H; rw [hy125]; with_reducible exact H2_) | (have H2_ := (Option.bind_some _ _).symm.trans H; with_reducible exact H2_) | with_reducible exact H | (rw [hy125]; exact H) | exact H
              have Ny125 := Aside0.mk hy125
              clear hy125
              obtain ⟨ji18, hji18⟩ : ∃ j_ : Int, (Int.tmod (wrap64 (a1 + 1)) (l0.length : Int)) = j_ := ⟨_, rfl⟩
              replace H : (if 0 ≤ (ji18) then (if (ji18) < (t121.length : Int) then (if 0 ≤ a1 then (if a1 ≤ (t121.length : Int) then (if 0 ≤ (wrap64 (a1 + 1)) then (if (wrap64 (a1 + 1)) ≤ (t121.length : Int) then ((some ((y125.set ((ji18) : Int).toNat (wrap64 ((rd y125 (ji18)) - 1))).eraseIdx (a1 : Int).toNat : List Int)).bind fun y136 => ((spec_duNumber.f kj2 y136).bind fun t139 => (if t139 = true then (some (y136, true)) else (some (([] : List Int), false))))) else (none)) else (none)) else (none)) else (none)) else (none)) else (none)) = some (r1, r2) := by first | (rw [hji18] at H; exact H) | (simp only [hji18] at H ⊢; exact H)
              (try rw [hji18] at A12)
              by_cases c19 : 0 ≤ (ji18)
              · rw [if_pos c19] at H
                have c19b0 : decide (0 ≤ (ji18)) = true := decide_eq_true c19
                clear c19
                by_cases c20 : (ji18) < (t121.length : Int)
                · rw [if_pos c20] at H
                  have c20b0 : decide ((ji18) < (t121.length : Int)) = true := decide_eq_true c20
                  clear c20
                  obtain ⟨y127, hy127⟩ : ∃ y_ : List Int, y_ = (y125.set ((ji18) : Int).toNat (wrap64 ((rd y125 (ji18)) - 1))) := ⟨_, rfl⟩
                  replace H : (if 0 ≤ a1 then (if a1 ≤ (t121.length : Int) then (if 0 ≤ (wrap64 (a1 + 1)) then (if (wrap64 (a1 + 1)) ≤ (t121.length : Int) then ((some (y127.eraseIdx (a1 : Int).toNat : List Int)).bind fun y136 => ((spec_duNumber.f kj2 y136).bind fun t139 => (if t139 = true then (some (y136, true)) else (some (([] : List Int), false))))) else (none)) else (none)) else (none)) else (none)) = some (r1, r2) := by first | (rw [hy127]; with_reducible exact H) | (have H2_ := (Option.bind_some _ _).symm.trans H; rw [hy127]; with_reducible exact H2_) | (have H2_ := (Option.bind_some _ _).symm.trans H; with_reducible exact H2_) | with_reducible exact H | (rw [hy127]; exact H) | exact H
                  have Ny127 := Aside0.mk hy127
                  clear hy127
                  by_cases c22 : 0 ≤ a1
                  · rw [if_pos c22] at H
                    have c22b0 := eq_true c22
                    have c22b1 : decide (0 ≤ a1) = true := decide_eq_true c22
                    clear c22
                    by_cases c23 : a1 ≤ (t121.length : Int)
                    · rw [if_pos c23] at H
                      have c23b0 := eq_true c23
                      have c23b1 : decide (a1 ≤ (t121.length : Int)) = true := decide_eq_true c23
                      clear c23
                      obtain ⟨y128, hy128⟩ : ∃ y_ : List Int, y_ = (y127.take (a1 : Int).toNat) := ⟨_, rfl⟩
                      replace H : (if 0 ≤ (wrap64 (a1 + 1)) then (if (wrap64 (a1 + 1)) ≤ (t121.length : Int) then ((some (y127.eraseIdx (a1 : Int).toNat : List Int)).bind fun y136 => ((spec_duNumber.f kj2 y136).bind fun t139 => (if t139 = true then (some (y136, true)) else (some (([] : List Int), false))))) else (none)) else (none)) = some (r1, r2) := by first | (rw [hy128]; with_reducible exact H) | (have H2_ := (Option.bind_some _ _).symm.trans H; rw [hy128]; with_reducible exact H2_) | (have H2_ := (Option.bind_some _ _).symm.trans H; with_reducible exact H2_) | with_reducible exact H | (rw [hy128]; exact H) | exact H
                      have Ny128 := Aside0.mk hy128
                      clear hy128
                      obtain ⟨ji24, hji24⟩ : ∃ j_ : Int, (wrap64 (a1 + 1)) = j_ := ⟨_, rfl⟩
                      replace H : (if 0 ≤ (ji24) then (if (ji24) ≤ (t121.length : Int) then ((some (y127.eraseIdx (a1 : Int).toNat : List Int)).bind fun y136 => ((spec_duNumber.f kj2 y136).bind fun t139 => (if t139 = true then (some (y136, true)) else (some (([] : List Int), false))))) else (none)) else (none)) = some (r1, r2) := by first | (rw [hji24] at H; exact H) | (simp only [hji24] at H ⊢; exact H)
                      (try rw [hji24] at hji18)
                      (try rw [hji24] at A12)
                      have hji24w : (IntKind.i64.wrap (a1 + 1)) = ji24 := (i64_w _).trans hji24
                      by_cases c25 : 0 ≤ (ji24)
                      · rw [if_pos c25] at H
                        have c25b0 := eq_true c25
                        have c25b1 : decide (0 ≤ (ji24)) = true := decide_eq_true c25
                        clear c25
                        by_cases c26 : (ji24) ≤ (t121.length : Int)
                        · rw [if_pos c26] at H
                          have c26b0 := eq_true c26
                          have c26b1 : decide ((ji24) ≤ (t121.length : Int)) = true := decide_eq_true c26
                          clear c26
                          obtain ⟨y132, hy132⟩ : ∃ y_ : List Int, y_ = (y127.drop ((ji24) : Int).toNat) := ⟨_, rfl⟩
                          replace H : ((some (y127.eraseIdx (a1 : Int).toNat : List Int)).bind fun y136 => ((spec_duNumber.f kj2 y136).bind fun t139 => (if t139 = true then (some (y136, true)) else (some (([] : List Int), false))))) = some (r1, r2) := by first | (rw [hy132]; with_reducible exact H) | (have H2_ := (Option.bind_some _ _).symm.trans H; rw [hy132]; with_reducible exact H2_) | (have H2_ := (Option.bind_some _ _).symm.trans H; with_reducible exact H2_) | with_reducible exact H | (rw [hy132]; exact H) | exact H
                          have Ny132 := Aside0.mk hy132
                          clear hy132
                          obtain ⟨y136, hy136⟩ : ∃ y_ : List Int, y_ = (y127.eraseIdx (a1 : Int).toNat) := ⟨_, rfl⟩
                          replace H : ((spec_duNumber.f kj2 y136).bind fun t139 => (if t139 = true then (some (y136, true)) else (some (([] : List Int), false)))) = some (r1, r2) := by first | (rw [hy136]; with_reducible exact H) | (have H2_ := (Option.bind_some _ _).symm.trans H; rw [hy136]; with_reducible exact H2_) | (have H2_ := (Option.bind_some _ _).symm.trans H; with_reducible exact H2_) | with_reducible exact H | (rw [hy136]; exact H) | exact H
                          have Ny136 := Aside0.mk hy136
                          clear hy136
                          replace H := Option.bind_eq_some_iff.mp H
                          obtain ⟨t139, A270, H⟩ := H
                          replace H : (if t139 = true then (some (y136, true)) else (some (([] : List Int), false))) = some (r1, r2) := H
                          have A27 := Aside0.mk A270
                          clear A270
                          by_cases c28 : t139 = true
                          · subst c28
                            have H1 : (some (y136, true)) = some (r1, r2) := by rw [if_pos rfl] at H; exact H
                            clear H
                            have H := H1
                            clear H1
                            simp only [Option.some.injEq, Prod.mk.injEq] at H
                            obtain ⟨rfl, rfl⟩ := H
                            try go_wp2_with (first | ((with_reducible refine gate_callee (f := 41) rfl ?_); refine goesL_ (some 32) rfl rfl Try.func41 (by kernel_rfl) rfl #[.slice A0 l0.length c0] rfl ga_ ?_; (with_reducible refine (spec_l1Own.calls _ _ l0 t121 _ ?side1 ?side2 A12.out).mono ?_); (case side1 => repeat (first | exact (Kd.C_below HR0.out HB.out) | (with_reducible refine Kd.C_alloc ?_ _) | (with_reducible refine Kd.C_drewN ?_ _) | (with_reducible refine Kd.C_drew ?_))); (case side2 => exact HC0.out); rintro e w29 ⟨v122, rfl, ho0, hb⟩; refine ⟨_, rfl, ?_⟩; have n0_ := Aside0.mk (Kd.R_lower ho0 (below_size (hb_))); have n1_ := Aside0.mk (below_step (hb_) hb); clear HB; have HO123 := n0_; have HB := n1_; clear n0_ n1_; (try clear hb); (try clear hb2); (try clear hk); (try clear hi); (try clear ho0); obtain ⟨Ao30, co30, eo30⟩ := Kd.R_slice HO123.out; subst eo30; have p124 : 0 ≤ ((ji14) : Int) := odt_; have q124 : (ji14) < (t121.length : Int) := odt_; obtain ⟨ad124, e124, hx124_0⟩ := Kd.at_int (Kd.R_reads' HO123.out).2.2 (ji14) p124 q124; cases e124; replace p124 := eq_true p124; replace q124 := eq_true q124; have p17 : 0 ≤ ((ji14) : Int) := odt_; have q17 : ((ji14) : Int) < ((t121.length : Int) : Int) := odt_; obtain ⟨go17, co17, eo17, gb17, gl17, cl17, HG17⟩ := Kd.R_form HO123.out (by omega); (first | cases eo17 | (injection eo17 with ea_ en_ ec_; (first | subst ea_ | (injection ea_ with ea_; subst ea_)); subst ec_; clear en_)); have GB17 := Aside0.mk gb17; have GG17 := Aside0.mk HG17; clear gb17 gl17 HG17; (first | simp only [add_plain] at hx124_0 | skip); obtain ⟨hx17_0, hf17_0⟩ := Kd.R_celln 0 HO123.out ((ji14) : Int) p17 q17; replace p17 := eq_true p17; replace q17 := eq_true q17; obtain ⟨hy31_, hz31_⟩ := Kd.R_celln 0 HO123.out ((ji14) : Int) (odt_) (odt_); have HP31 := Kd.R_putg HO123.out ((ji14) : Int) (wrap64 ((rd t121 (ji14)) - 1))) | ((with_reducible refine gate_store (t := 3) (p := 43) rfl ?_); refine store_event (t := 3) (p := 43) (v := ?vo_w32) (w1 := (w29.setCell ⟨go17, ((ji14) : Int).toNat, none⟩ (.int .i64 (wrap64 ((rd t121 (ji14)) - 1))))) ?hg ?ho ?hn ?hr ?_; (case ho => rfl); (case hg => rfl); (case hn => rfl); (case hr => first | (go_simp; done) | (go_simp; rfl)); intro w32 hw; have hg : w29.grownBy w32 (some go17) := (by rw [hw]; exact HP31.2); have hp_ : Kd.R (Kd.int .i64) 3 w32 w.heap.size (fun _ => True) (.slice (some ⟨go17, 0, none⟩) t121.length co30) y125 := (by rw [hw, Ny125.out]; exact HP31.1); clear HP31; have n0_ := Aside0.mk (hp_); have n1_ := Aside0.mk ((by rw [hw]; exact below_set (HB.out) GB17.out : Below w.heap.size w w32)); clear HO123; clear HB; have HO123 := n0_; have HB := n1_; clear n0_ n1_; clear hg hw hp_; have p126 : 0 ≤ ((ji18) : Int) := odt_; have q126 : (ji18) < (y125.length : Int) := (by have h_ : ((ji18) : Int) < ((t121.length : Int) : Int) := odt_; first | (have e_ := (Kd.R_reads' HO123.out).1; omega) | simpa only [Ny125.out, List.length_set] using h_); have ql126 : (((ji18) : Int) < ((t121.length : Int) : Int)) = True := eq_true (odt_); obtain ⟨ad126, e126, hx126_0⟩ := Kd.at_int (Kd.R_reads' HO123.out).2.2 (ji18) p126 q126; obtain rfl : (⟨go17, 0, none⟩ : Addr) = ad126 := (by injection e126); (first | simp only [add_plain] at hx126_0 | simp only [add_at] at hx126_0 | simp only [Addr.add, Nat.zero_add] at hx126_0 | skip); replace p126 := eq_true p126; replace q126 := eq_true q126; have p21 : 0 ≤ ((ji18) : Int) := odt_; have q21 : ((ji18) : Int) < ((t121.length : Int) : Int) := odt_; obtain ⟨hx21_0, hf21_0⟩ := Kd.R_celln 0 HO123.out ((ji18) : Int) p21 q21; replace p21 := eq_true p21; replace q21 := eq_true q21; obtain ⟨hy33_, hz33_⟩ := Kd.R_celln 0 HO123.out ((ji18) : Int) (odt_) (odt_); have HP33 := Kd.R_putg HO123.out ((ji18) : Int) (wrap64 ((rd y125 (ji18)) - 1))) | ((with_reducible refine gate_store (t := 3) (p := 52) rfl ?_); refine store_event (t := 3) (p := 52) (v := ?vo_w34) (w1 := (w32.setCell ⟨go17, ((ji18) : Int).toNat, none⟩ (.int .i64 (wrap64 ((rd y125 (ji18)) - 1))))) ?hg ?ho ?hn ?hr ?_; (case ho => rfl); (case hg => rfl); (case hn => rfl); (case hr => first | (go_simp; done) | (go_simp; rfl)); intro w34 hw; have hg : w32.grownBy w34 (some go17) := (by rw [hw]; exact HP33.2); have hp_ : Kd.R (Kd.int .i64) 3 w34 w.heap.size (fun _ => True) (.slice (some ⟨go17, 0, none⟩) t121.length co30) y127 := (by rw [hw, Ny127.out]; exact HP33.1); clear HP33; have n0_ := Aside0.mk (hp_); have n1_ := Aside0.mk ((by rw [hw]; exact below_set (HB.out) GB17.out : Below w.heap.size w w34)); clear HO123; clear HB; have HO123 := n0_; have HB := n1_; clear n0_ n1_; clear hg hw hp_))
                            have n0_ := Aside0.mk (Kd.R_drew HO123.out)
                            have n1_ := Aside0.mk (below_drew1 HB.out)
                            clear HO123
                            clear HB
                            have HO123 := n0_
                            have HB := n1_
                            clear n0_ n1_
                            have hlx36 := (Kd.R_reads' HO123.out).1
                            have q36 : (a1 : Int) ≤ ((t121.length : Int) : Int) := odt_
                            obtain ⟨i036, hi036, _, hsz36, _⟩ := info_parts info3
                            have hroom36 : t121.length ≤ co30 := (Kd.R_reads' HO123.out).2.1
                            have hroomc36 : y127.length ≤ co30 := (by rw [← hlx36]; exact hroom36)
                            have hC36 : Kd.C (Kd.int .i64) _ (some ⟨go17, 0, none⟩) y127.length y127 := (Kd.R_reads' HO123.out).2.2
                            have hcut36 := cut_to (P := Try.prog) 22 3 .i64 Try.underlying22 hi036 (some ⟨go17, 0, none⟩) t121.length co30 a1 (odt_) q36 hroom36
                            have hr36 := Kd.C_take (m := (a1 : Int).toNat) hC36 (by omega)
                            have hy36 : y128.length = (a1 : Int).toNat := (by rw [Ny128.out, List.length_take]; omega)
                            rw [← Ny128.out] at hr36
                            rw [← hy36] at hcut36
                            have HR131 := Aside0.mk hr36
                            have HC131 := Aside0.mk (show y128.length ≤ co30 from by omega)
                            clear hr36 hC36 hroom36 hi036 hsz36 hroomc36
                            have KY36 := Aside0.mk hy36
                            clear hy36
                            have KE36 := Aside0.mk hlx36
                            have KL36 := Aside0.mk (show (a1 : Int).toNat ≤ y127.length from by omega)
                            clear hlx36
                            replace q36 := eq_true q36
                            have hlx37 := (Kd.R_reads' HO123.out).1
                            have q37 : ((ji24) : Int) ≤ ((t121.length : Int) : Int) := odt_
                            obtain ⟨i037, hi037, _, hsz37, _⟩ := info_parts info3
                            have hroom37 : t121.length ≤ co30 := (Kd.R_reads' HO123.out).2.1
                            have hroomc37 : y127.length ≤ co30 := (by rw [← hlx37]; exact hroom37)
                            have hC37 : Kd.C (Kd.int .i64) _ (some ⟨go17, 0, none⟩) y127.length y127 := (Kd.R_reads' HO123.out).2.2
                            have q037 : (0 : Int) ≤ ((ji24) : Int) := odt_
                            have hcut37 := cut_from (P := Try.prog) 22 3 .i64 Try.underlying22 hi037 1 hsz37 (some ⟨go17, 0, none⟩) t121.length co30 (ji24) q037 q37
                            have hr37 := Kd.C_drop (m := ((ji24) : Int).toNat) (c := co30) hC37 (by omega) hroomc37
                            obtain ⟨A37, hA37⟩ : ∃ A1, A1 = (if co30 = ((ji24) : Int).toNat then (some ⟨go17, 0, none⟩) else ((some ⟨go17, 0, none⟩) : Option Addr).map (·.add (((ji24) : Int).toNat * 1))) := ⟨_, rfl⟩
                            obtain ⟨c37, hc37⟩ : ∃ c1, c1 = co30 - ((ji24) : Int).toNat := ⟨_, rfl⟩
                            have hy37 : y132.length = t121.length - ((ji24) : Int).toNat := (by rw [Ny132.out, List.length_drop] <;> omega)
                            rw [show (y127).drop ((ji24) : Int).toNat = y132 from Ny132.out.symm] at hr37
                            replace hr37 : Kd.C (Kd.int .i64) _ A37 y132.length y132 := (by rw [hA37]; exact hr37)
                            rw [← hy37, ← hA37, ← hc37] at hcut37
                            have HR135 := Aside0.mk hr37
                            have HC135 := Aside0.mk (show y132.length ≤ c37 from by rw [hy37, hc37]; exact Nat.sub_le_sub_right hroom37 _)
                            clear hr37 hC37 hroom37 hi037 hsz37 hc37 hroomc37
                            have KY37 := Aside0.mk hy37
                            have KA37 := Aside0.mk hA37
                            clear hy37 hA37
                            have KE37 := Aside0.mk hlx37
                            have KL37 := Aside0.mk (show ((ji24) : Int).toNat ≤ y127.length from by omega)
                            clear hlx37
                            replace q37 := eq_true q37
                            refine start_ (n := 9) (S := fun w' => True) (ds := []) #[false, false, false, false, false, false, false, false, false] (by kernel_rfl) rfl rfl trivial (fun hHeld => ?_); refine with_tabW spec_TakePeg.tab7 spec_TakePeg.bits7 (fun HT_ HW_ => ?_)
                            generalize w34.drew = w35 at HO123 HB HR131 HR135 hHeld ⊢
                            refine pure_ (i := 0) (N := some 53) (v := ?_) (a' := ?_) #[true, false, false, false, false, false, false, false, false] rfl rfl (any_of HT_.out (by kernel_rfl)) (fun _ _ _ h => h) (Or.inl ⟨by rfl, ?_⟩) ?_ ?_
                            rotate_left
                            · intro w'
                              go_simp
                              with_reducible rfl
                            rotate_left
                            · simp only [Act.put, sA, sB, sC, i64_w, i32_w]
                              rfl
                            refine pure_ (i := 1) (N := some 54) (v := ?_) (a' := ?_) #[true, true, false, false, false, false, false, false, false] rfl rfl (any_of HT_.out (by kernel_rfl)) (fun _ _ _ h => h) (Or.inl ⟨by rfl, ?_⟩) ?_ ?_
                            rotate_left
                            · intro w'
                              go_simp
                              with_reducible rfl
                            rotate_left
                            · simp only [Act.put, sA, sB, sC, i64_w, i32_w]
                              rfl
                            refine pure_ (i := 2) (N := some 55) (v := ?_) (a' := ?_) #[true, true, true, false, false, false, false, false, false] rfl rfl (any_of HT_.out (by kernel_rfl)) (fun _ _ _ h => h) (Or.inl ⟨by rfl, ?_⟩) ?_ ?_
                            rotate_left
                            · intro w'
                              go_simp
                              with_reducible rfl
                            rotate_left
                            · simp only [Act.put, sA, sB, sC, i64_w, i32_w]
                              rfl
                            refine pure_ (i := 3) (N := some 56) (v := ?_) (a' := ?_) #[true, true, true, true, false, false, false, false, false] rfl rfl (any_of HT_.out (by kernel_rfl)) (fun _ _ _ h => h) (Or.inl ⟨by rfl, ?_⟩) ?_ ?_
                            rotate_left
                            · intro w'
                              go_simp
                              with_reducible rfl
                            rotate_left
                            · simp only [Act.put, sA, sB, sC, i64_w, i32_w]
                              rfl
                            refine pure_ (i := 4) (N := some 57) (v := ?_) (a' := ?_) #[true, true, true, true, true, false, false, false, false] rfl rfl (any_of HT_.out (by kernel_rfl)) (fun _ _ _ h => h) (Or.inl ⟨by rfl, ?_⟩) ?_ ?_
                            rotate_left
                            · intro w'
                              go_simp
                              with_reducible rfl
                            rotate_left
                            · simp only [Act.put, sA, sB, sC, i64_w, i32_w]
                              rfl
                            refine pure_ (i := 5) (N := some 58) (v := ?_) (a' := ?_) #[true, true, true, true, true, true, false, false, false] rfl rfl (any_of HT_.out (by kernel_rfl)) (fun _ _ _ h => h) (Or.inl ⟨by rfl, ?_⟩) ?_ ?_
                            rotate_left
                            · intro w'
                              go_simp
                              with_reducible rfl
                            rotate_left
                            · simp only [Act.put, sA, sB, sC, i64_w, i32_w]
                              rfl
                            refine pure_ (i := 6) (N := some 59) (v := ?_) (a' := ?_) #[true, true, true, true, true, true, true, false, false] rfl rfl (any_of HT_.out (by kernel_rfl)) (fun _ _ _ h => h) (Or.inl ⟨by rfl, ?_⟩) ?_ ?_
                            rotate_left
                            · intro w'
                              go_simp
                              with_reducible rfl
                            rotate_left
                            · simp only [Act.put, sA, sB, sC, i64_w, i32_w]
                              rfl
                            refine one_ (i := 7) (N := some 60) #[true, true, true, true, true, true, true, true, false] rfl rfl (one_of HT_.out (by kernel_rfl)) (by decide) (fun K hK => ?_)
                            have hj_ : 0 ≤ (a1 : Int) := odt_
                            have hl_ : (ji24 : Int) ≤ (t121.length : Int) := odt_
                            have hh_ : (a1 : Int) ≤ (t121.length : Int) := odt_
                            have hbz_ := (Kd.R_reads' HO123.out).2.2.2.1
                            have hlz_ := (Kd.R_reads' HO123.out).1
                            have h0_ : (0 : Int) ≤ (ji24 : Int) := odt_
                            have hy1_ := KY36.out
                            have hk_ : (ji24 : Int).toNat = y128.length + 1 := (by have hw_ : (ji24 : Int) = a1 + 1 := (by have h00_ := h0_; rw [← hji24] at h00_ ⊢; unfold wrap64 at h00_ ⊢; omega); rw [hw_]; omega)
                            refine Kd.R_delete_step (Kd.int .i64) (w0 := w) w.heap.size (by rfl) (.tmp 55) (.tmp 59) 22 3 rfl Try.underlying22 (by kernel_rfl) (g := go17) (n := t121.length) (c := co30) (k := y128.length) rfl rfl ?hA ?hm (rk_ HO123.out) ?hk (hb_) (below_size (hb_)) ?_
                            (case hA => have ha_ := KA37.out; rw [hk_] at ha_; exact ha_)
                            (case hm => have ha_ := KY37.out; omega)
                            (case hk => omega)
                            intro w38 ho hb hg
                            clear hj_ hl_ hh_ hbz_ hlz_ hk_ h0_
                            rw [hy1_, ← Ny136.out] at ho
                            clear hy1_
                            have hn_ : t121.length - 1 = y136.length := (by have := (Kd.R_reads' ho).1; omega)
                            rw [hn_] at ho ⊢
                            clear hn_
                            have n0_ := Aside0.mk (ho)
                            have n1_ := Aside0.mk (hb)
                            clear HO123
                            clear HB
                            have HO123 := n0_
                            have HB := n1_
                            clear n0_ n1_
                            clear ho hb hg
                            refine hK.out _ _ trivial (fun hHeld => ?_)
                            clear hK K
                            refine norm_ (a' := ?_) ?_ ?_
                            rotate_left
                            · show Act.put _ (some 60) _ = _
                              simp only [Act.put, sA, sB, sC, i64_w, i32_w]
                              rfl
                            refine pure_ (i := 8) (N := some 7) (v := ?_) (a' := ?_) #[true, true, true, true, true, true, true, true, true] rfl rfl (any_of HT_.out (by kernel_rfl)) (fun _ _ _ h => h) (Or.inl ⟨by rfl, ?_⟩) ?_ ?_
                            rotate_left
                            · intro w'
                              go_simp
                              with_reducible rfl
                            rotate_left
                            · simp only [Act.put, sA, sB, sC, i64_w, i32_w]
                              rfl
                            refine done_ (done_of HT_.out (by kernel_rfl)) ?_
                            try go_wp2_with (first | ((with_reducible refine gate_callee (f := 36) rfl ?_); refine goesL_ (some 62) rfl rfl Try.func36 (by kernel_rfl) rfl #[.slice (some ⟨go17, 0, none⟩) y136.length co30] rfl ga_ ?_; (with_reducible refine (spec_duNumber.calls kj2 _ _ y136 true _ ?side1 ?side2 A27.out).mono ?_); (case side1 => repeat (first | exact (Kd.R_reads' HO123.out).2.2 | (with_reducible refine Kd.C_alloc ?_ _) | (with_reducible refine Kd.C_drewN ?_ _) | (with_reducible refine Kd.C_drew ?_))); (case side2 => exact (Kd.R_reads' HO123.out).2.1); rintro e w' ⟨rfl, ⟨nd, rfl⟩⟩; refine ⟨_, rfl, ?_⟩))
                            go_ret2
                            exact ⟨_, by first | rfl | (simp [errW_none, errW_some] <;> rfl) | (simp only [← hji14, ← hji18, ← hji24]; first | rfl | (simp [errW_none, errW_some] <;> rfl)) | (simp [*, errW_none, errW_some] <;> rfl), by (with_reducible repeat (first | apply Kd.R_alloc | apply Kd.R_drewN | apply Kd.R_drew)); exact HO123.out, hb_⟩
                          · replace c28 := Bool.eq_false_iff.mpr c28
                            subst c28
                            have H1 : (some (([] : List Int), false)) = some (r1, r2) := by rw [if_neg (show ¬ (false = true) by decide)] at H; exact H
                            clear H
                            have H := H1
                            clear H1
                            simp only [Option.some.injEq, Prod.mk.injEq] at H
                            obtain ⟨rfl, rfl⟩ := H
                            try go_wp2_with (first | ((with_reducible refine gate_callee (f := 41) rfl ?_); refine goesL_ (some 32) rfl rfl Try.func41 (by kernel_rfl) rfl #[.slice A0 l0.length c0] rfl ga_ ?_; (with_reducible refine (spec_l1Own.calls _ _ l0 t121 _ ?side1 ?side2 A12.out).mono ?_); (case side1 => repeat (first | exact (Kd.C_below HR0.out HB.out) | (with_reducible refine Kd.C_alloc ?_ _) | (with_reducible refine Kd.C_drewN ?_ _) | (with_reducible refine Kd.C_drew ?_))); (case side2 => exact HC0.out); rintro e w40 ⟨v122, rfl, ho0, hb⟩; refine ⟨_, rfl, ?_⟩; have n0_ := Aside0.mk (Kd.R_lower ho0 (below_size (hb_))); have n1_ := Aside0.mk (below_step (hb_) hb); clear HB; have HO123 := n0_; have HB := n1_; clear n0_ n1_; (try clear hb); (try clear hb2); (try clear hk); (try clear hi); (try clear ho0); obtain ⟨Ao41, co41, eo41⟩ := Kd.R_slice HO123.out; subst eo41; have p124 : 0 ≤ ((ji14) : Int) := odt_; have q124 : (ji14) < (t121.length : Int) := odt_; obtain ⟨ad124, e124, hx124_0⟩ := Kd.at_int (Kd.R_reads' HO123.out).2.2 (ji14) p124 q124; cases e124; replace p124 := eq_true p124; replace q124 := eq_true q124; have p17 : 0 ≤ ((ji14) : Int) := odt_; have q17 : ((ji14) : Int) < ((t121.length : Int) : Int) := odt_; obtain ⟨go17, co17, eo17, gb17, gl17, cl17, HG17⟩ := Kd.R_form HO123.out (by omega); (first | cases eo17 | (injection eo17 with ea_ en_ ec_; (first | subst ea_ | (injection ea_ with ea_; subst ea_)); subst ec_; clear en_)); have GB17 := Aside0.mk gb17; have GG17 := Aside0.mk HG17; clear gb17 gl17 HG17; (first | simp only [add_plain] at hx124_0 | skip); obtain ⟨hx17_0, hf17_0⟩ := Kd.R_celln 0 HO123.out ((ji14) : Int) p17 q17; replace p17 := eq_true p17; replace q17 := eq_true q17; obtain ⟨hy42_, hz42_⟩ := Kd.R_celln 0 HO123.out ((ji14) : Int) (odt_) (odt_); have HP42 := Kd.R_putg HO123.out ((ji14) : Int) (wrap64 ((rd t121 (ji14)) - 1))) | ((with_reducible refine gate_store (t := 3) (p := 43) rfl ?_); refine store_event (t := 3) (p := 43) (v := ?vo_w43) (w1 := (w40.setCell ⟨go17, ((ji14) : Int).toNat, none⟩ (.int .i64 (wrap64 ((rd t121 (ji14)) - 1))))) ?hg ?ho ?hn ?hr ?_; (case ho => rfl); (case hg => rfl); (case hn => rfl); (case hr => first | (go_simp; done) | (go_simp; rfl)); intro w43 hw; have hg : w40.grownBy w43 (some go17) := (by rw [hw]; exact HP42.2); have hp_ : Kd.R (Kd.int .i64) 3 w43 w.heap.size (fun _ => True) (.slice (some ⟨go17, 0, none⟩) t121.length co41) y125 := (by rw [hw, Ny125.out]; exact HP42.1); clear HP42; have n0_ := Aside0.mk (hp_); have n1_ := Aside0.mk ((by rw [hw]; exact below_set (HB.out) GB17.out : Below w.heap.size w w43)); clear HO123; clear HB; have HO123 := n0_; have HB := n1_; clear n0_ n1_; clear hg hw hp_; have p126 : 0 ≤ ((ji18) : Int) := odt_; have q126 : (ji18) < (y125.length : Int) := (by have h_ : ((ji18) : Int) < ((t121.length : Int) : Int) := odt_; first | (have e_ := (Kd.R_reads' HO123.out).1; omega) | simpa only [Ny125.out, List.length_set] using h_); have ql126 : (((ji18) : Int) < ((t121.length : Int) : Int)) = True := eq_true (odt_); obtain ⟨ad126, e126, hx126_0⟩ := Kd.at_int (Kd.R_reads' HO123.out).2.2 (ji18) p126 q126; obtain rfl : (⟨go17, 0, none⟩ : Addr) = ad126 := (by injection e126); (first | simp only [add_plain] at hx126_0 | simp only [add_at] at hx126_0 | simp only [Addr.add, Nat.zero_add] at hx126_0 | skip); replace p126 := eq_true p126; replace q126 := eq_true q126; have p21 : 0 ≤ ((ji18) : Int) := odt_; have q21 : ((ji18) : Int) < ((t121.length : Int) : Int) := odt_; obtain ⟨hx21_0, hf21_0⟩ := Kd.R_celln 0 HO123.out ((ji18) : Int) p21 q21; replace p21 := eq_true p21; replace q21 := eq_true q21; obtain ⟨hy44_, hz44_⟩ := Kd.R_celln 0 HO123.out ((ji18) : Int) (odt_) (odt_); have HP44 := Kd.R_putg HO123.out ((ji18) : Int) (wrap64 ((rd y125 (ji18)) - 1))) | ((with_reducible refine gate_store (t := 3) (p := 52) rfl ?_); refine store_event (t := 3) (p := 52) (v := ?vo_w45) (w1 := (w43.setCell ⟨go17, ((ji18) : Int).toNat, none⟩ (.int .i64 (wrap64 ((rd y125 (ji18)) - 1))))) ?hg ?ho ?hn ?hr ?_; (case ho => rfl); (case hg => rfl); (case hn => rfl); (case hr => first | (go_simp; done) | (go_simp; rfl)); intro w45 hw; have hg : w43.grownBy w45 (some go17) := (by rw [hw]; exact HP44.2); have hp_ : Kd.R (Kd.int .i64) 3 w45 w.heap.size (fun _ => True) (.slice (some ⟨go17, 0, none⟩) t121.length co41) y127 := (by rw [hw, Ny127.out]; exact HP44.1); clear HP44; have n0_ := Aside0.mk (hp_); have n1_ := Aside0.mk ((by rw [hw]; exact below_set (HB.out) GB17.out : Below w.heap.size w w45)); clear HO123; clear HB; have HO123 := n0_; have HB := n1_; clear n0_ n1_; clear hg hw hp_))
                            have n0_ := Aside0.mk (Kd.R_drew HO123.out)
                            have n1_ := Aside0.mk (below_drew1 HB.out)
                            clear HO123
                            clear HB
                            have HO123 := n0_
                            have HB := n1_
                            clear n0_ n1_
                            have hlx47 := (Kd.R_reads' HO123.out).1
                            have q47 : (a1 : Int) ≤ ((t121.length : Int) : Int) := odt_
                            obtain ⟨i047, hi047, _, hsz47, _⟩ := info_parts info3
                            have hroom47 : t121.length ≤ co41 := (Kd.R_reads' HO123.out).2.1
                            have hroomc47 : y127.length ≤ co41 := (by rw [← hlx47]; exact hroom47)
                            have hC47 : Kd.C (Kd.int .i64) _ (some ⟨go17, 0, none⟩) y127.length y127 := (Kd.R_reads' HO123.out).2.2
                            have hcut47 := cut_to (P := Try.prog) 22 3 .i64 Try.underlying22 hi047 (some ⟨go17, 0, none⟩) t121.length co41 a1 (odt_) q47 hroom47
                            have hr47 := Kd.C_take (m := (a1 : Int).toNat) hC47 (by omega)
                            have hy47 : y128.length = (a1 : Int).toNat := (by rw [Ny128.out, List.length_take]; omega)
                            rw [← Ny128.out] at hr47
                            rw [← hy47] at hcut47
                            have HR131 := Aside0.mk hr47
                            have HC131 := Aside0.mk (show y128.length ≤ co41 from by omega)
                            clear hr47 hC47 hroom47 hi047 hsz47 hroomc47
                            have KY47 := Aside0.mk hy47
                            clear hy47
                            have KE47 := Aside0.mk hlx47
                            have KL47 := Aside0.mk (show (a1 : Int).toNat ≤ y127.length from by omega)
                            clear hlx47
                            replace q47 := eq_true q47
                            have hlx48 := (Kd.R_reads' HO123.out).1
                            have q48 : ((ji24) : Int) ≤ ((t121.length : Int) : Int) := odt_
                            obtain ⟨i048, hi048, _, hsz48, _⟩ := info_parts info3
                            have hroom48 : t121.length ≤ co41 := (Kd.R_reads' HO123.out).2.1
                            have hroomc48 : y127.length ≤ co41 := (by rw [← hlx48]; exact hroom48)
                            have hC48 : Kd.C (Kd.int .i64) _ (some ⟨go17, 0, none⟩) y127.length y127 := (Kd.R_reads' HO123.out).2.2
                            have q048 : (0 : Int) ≤ ((ji24) : Int) := odt_
                            have hcut48 := cut_from (P := Try.prog) 22 3 .i64 Try.underlying22 hi048 1 hsz48 (some ⟨go17, 0, none⟩) t121.length co41 (ji24) q048 q48
                            have hr48 := Kd.C_drop (m := ((ji24) : Int).toNat) (c := co41) hC48 (by omega) hroomc48
                            obtain ⟨A48, hA48⟩ : ∃ A1, A1 = (if co41 = ((ji24) : Int).toNat then (some ⟨go17, 0, none⟩) else ((some ⟨go17, 0, none⟩) : Option Addr).map (·.add (((ji24) : Int).toNat * 1))) := ⟨_, rfl⟩
                            obtain ⟨c48, hc48⟩ : ∃ c1, c1 = co41 - ((ji24) : Int).toNat := ⟨_, rfl⟩
                            have hy48 : y132.length = t121.length - ((ji24) : Int).toNat := (by rw [Ny132.out, List.length_drop] <;> omega)
                            rw [show (y127).drop ((ji24) : Int).toNat = y132 from Ny132.out.symm] at hr48
                            replace hr48 : Kd.C (Kd.int .i64) _ A48 y132.length y132 := (by rw [hA48]; exact hr48)
                            rw [← hy48, ← hA48, ← hc48] at hcut48
                            have HR135 := Aside0.mk hr48
                            have HC135 := Aside0.mk (show y132.length ≤ c48 from by rw [hy48, hc48]; exact Nat.sub_le_sub_right hroom48 _)
                            clear hr48 hC48 hroom48 hi048 hsz48 hc48 hroomc48
                            have KY48 := Aside0.mk hy48
                            have KA48 := Aside0.mk hA48
                            clear hy48 hA48
                            have KE48 := Aside0.mk hlx48
                            have KL48 := Aside0.mk (show ((ji24) : Int).toNat ≤ y127.length from by omega)
                            clear hlx48
                            replace q48 := eq_true q48
                            refine start_ (n := 9) (S := fun w' => True) (ds := []) #[false, false, false, false, false, false, false, false, false] (by kernel_rfl) rfl rfl trivial (fun hHeld => ?_); refine with_tabW spec_TakePeg.tab7 spec_TakePeg.bits7 (fun HT_ HW_ => ?_)
                            generalize w45.drew = w46 at HO123 HB HR131 HR135 hHeld ⊢
                            refine pure_ (i := 0) (N := some 53) (v := ?_) (a' := ?_) #[true, false, false, false, false, false, false, false, false] rfl rfl (any_of HT_.out (by kernel_rfl)) (fun _ _ _ h => h) (Or.inl ⟨by rfl, ?_⟩) ?_ ?_
                            rotate_left
                            · intro w'
                              go_simp
                              with_reducible rfl
                            rotate_left
                            · simp only [Act.put, sA, sB, sC, i64_w, i32_w]
                              rfl
                            refine pure_ (i := 1) (N := some 54) (v := ?_) (a' := ?_) #[true, true, false, false, false, false, false, false, false] rfl rfl (any_of HT_.out (by kernel_rfl)) (fun _ _ _ h => h) (Or.inl ⟨by rfl, ?_⟩) ?_ ?_
                            rotate_left
                            · intro w'
                              go_simp
                              with_reducible rfl
                            rotate_left
                            · simp only [Act.put, sA, sB, sC, i64_w, i32_w]
                              rfl
                            refine pure_ (i := 2) (N := some 55) (v := ?_) (a' := ?_) #[true, true, true, false, false, false, false, false, false] rfl rfl (any_of HT_.out (by kernel_rfl)) (fun _ _ _ h => h) (Or.inl ⟨by rfl, ?_⟩) ?_ ?_
                            rotate_left
                            · intro w'
                              go_simp
                              with_reducible rfl
                            rotate_left
                            · simp only [Act.put, sA, sB, sC, i64_w, i32_w]
                              rfl
                            refine pure_ (i := 3) (N := some 56) (v := ?_) (a' := ?_) #[true, true, true, true, false, false, false, false, false] rfl rfl (any_of HT_.out (by kernel_rfl)) (fun _ _ _ h => h) (Or.inl ⟨by rfl, ?_⟩) ?_ ?_
                            rotate_left
                            · intro w'
                              go_simp
                              with_reducible rfl
                            rotate_left
                            · simp only [Act.put, sA, sB, sC, i64_w, i32_w]
                              rfl
                            refine pure_ (i := 4) (N := some 57) (v := ?_) (a' := ?_) #[true, true, true, true, true, false, false, false, false] rfl rfl (any_of HT_.out (by kernel_rfl)) (fun _ _ _ h => h) (Or.inl ⟨by rfl, ?_⟩) ?_ ?_
                            rotate_left
                            · intro w'
                              go_simp
                              with_reducible rfl
                            rotate_left
                            · simp only [Act.put, sA, sB, sC, i64_w, i32_w]
                              rfl
                            refine pure_ (i := 5) (N := some 58) (v := ?_) (a' := ?_) #[true, true, true, true, true, true, false, false, false] rfl rfl (any_of HT_.out (by kernel_rfl)) (fun _ _ _ h => h) (Or.inl ⟨by rfl, ?_⟩) ?_ ?_
                            rotate_left
                            · intro w'
                              go_simp
                              with_reducible rfl
                            rotate_left
                            · simp only [Act.put, sA, sB, sC, i64_w, i32_w]
                              rfl
                            refine pure_ (i := 6) (N := some 59) (v := ?_) (a' := ?_) #[true, true, true, true, true, true, true, false, false] rfl rfl (any_of HT_.out (by kernel_rfl)) (fun _ _ _ h => h) (Or.inl ⟨by rfl, ?_⟩) ?_ ?_
                            rotate_left
                            · intro w'
                              go_simp
                              with_reducible rfl
                            rotate_left
                            · simp only [Act.put, sA, sB, sC, i64_w, i32_w]
                              rfl
                            refine one_ (i := 7) (N := some 60) #[true, true, true, true, true, true, true, true, false] rfl rfl (one_of HT_.out (by kernel_rfl)) (by decide) (fun K hK => ?_)
                            have hj_ : 0 ≤ (a1 : Int) := odt_
                            have hl_ : (ji24 : Int) ≤ (t121.length : Int) := odt_
                            have hh_ : (a1 : Int) ≤ (t121.length : Int) := odt_
                            have hbz_ := (Kd.R_reads' HO123.out).2.2.2.1
                            have hlz_ := (Kd.R_reads' HO123.out).1
                            have h0_ : (0 : Int) ≤ (ji24 : Int) := odt_
                            have hy1_ := KY47.out
                            have hk_ : (ji24 : Int).toNat = y128.length + 1 := (by have hw_ : (ji24 : Int) = a1 + 1 := (by have h00_ := h0_; rw [← hji24] at h00_ ⊢; unfold wrap64 at h00_ ⊢; omega); rw [hw_]; omega)
                            refine Kd.R_delete_step (Kd.int .i64) (w0 := w) w.heap.size (by rfl) (.tmp 55) (.tmp 59) 22 3 rfl Try.underlying22 (by kernel_rfl) (g := go17) (n := t121.length) (c := co41) (k := y128.length) rfl rfl ?hA ?hm (rk_ HO123.out) ?hk (hb_) (below_size (hb_)) ?_
                            (case hA => have ha_ := KA48.out; rw [hk_] at ha_; exact ha_)
                            (case hm => have ha_ := KY48.out; omega)
                            (case hk => omega)
                            intro w49 ho hb hg
                            clear hj_ hl_ hh_ hbz_ hlz_ hk_ h0_
                            rw [hy1_, ← Ny136.out] at ho
                            clear hy1_
                            have hn_ : t121.length - 1 = y136.length := (by have := (Kd.R_reads' ho).1; omega)
                            rw [hn_] at ho ⊢
                            clear hn_
                            have n0_ := Aside0.mk (ho)
                            have n1_ := Aside0.mk (hb)
                            clear HO123
                            clear HB
                            have HO123 := n0_
                            have HB := n1_
                            clear n0_ n1_
                            clear ho hb hg
                            refine hK.out _ _ trivial (fun hHeld => ?_)
                            clear hK K
                            refine norm_ (a' := ?_) ?_ ?_
                            rotate_left
                            · show Act.put _ (some 60) _ = _
                              simp only [Act.put, sA, sB, sC, i64_w, i32_w]
                              rfl
                            refine pure_ (i := 8) (N := some 7) (v := ?_) (a' := ?_) #[true, true, true, true, true, true, true, true, true] rfl rfl (any_of HT_.out (by kernel_rfl)) (fun _ _ _ h => h) (Or.inl ⟨by rfl, ?_⟩) ?_ ?_
                            rotate_left
                            · intro w'
                              go_simp
                              with_reducible rfl
                            rotate_left
                            · simp only [Act.put, sA, sB, sC, i64_w, i32_w]
                              rfl
                            refine done_ (done_of HT_.out (by kernel_rfl)) ?_
                            try go_wp2_with (first | ((with_reducible refine gate_callee (f := 36) rfl ?_); refine goesL_ (some 62) rfl rfl Try.func36 (by kernel_rfl) rfl #[.slice (some ⟨go17, 0, none⟩) y136.length co41] rfl ga_ ?_; (with_reducible refine (spec_duNumber.calls kj2 _ _ y136 false _ ?side1 ?side2 A27.out).mono ?_); (case side1 => repeat (first | exact (Kd.R_reads' HO123.out).2.2 | (with_reducible refine Kd.C_alloc ?_ _) | (with_reducible refine Kd.C_drewN ?_ _) | (with_reducible refine Kd.C_drew ?_))); (case side2 => exact (Kd.R_reads' HO123.out).2.1); rintro e w' ⟨rfl, ⟨nd, rfl⟩⟩; refine ⟨_, rfl, ?_⟩))
                            go_ret2
                            exact ⟨_, by first | rfl | (simp [errW_none, errW_some] <;> rfl) | (simp only [← hji14, ← hji18, ← hji24]; first | rfl | (simp [errW_none, errW_some] <;> rfl)) | (simp [*, errW_none, errW_some] <;> rfl), by first | exact Kd.R_nil _ _ _ _ _ | exact Kd.N_nil _ _ _ _ _ | exact Kd.V_nil _ _ _ _ _ | exact Kd.Q_nil _ _ _ _ _ | exact Kd.S_nil _ _ _ _ _, hb_⟩
                        · rw [if_neg c26] at H
                          exact absurd H (by simp)
                      · rw [if_neg c25] at H
                        exact absurd H (by simp)
                    · rw [if_neg c23] at H
                      exact absurd H (by simp)
                  · rw [if_neg c22] at H
                    exact absurd H (by simp)
                · rw [if_neg c20] at H
                  exact absurd H (by simp)
              · rw [if_neg c19] at H
                exact absurd H (by simp)
            · rw [if_neg c16] at H
              exact absurd H (by simp)
          · rw [if_neg c15] at H
            exact absurd H (by simp)

end Go.Proofs.Ytbejebfjeggbnaa.MA
