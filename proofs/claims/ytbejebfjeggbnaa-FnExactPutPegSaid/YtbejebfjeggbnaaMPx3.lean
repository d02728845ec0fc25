-- Written by a program of this session (wip/print/myprint.py) over the kit's printer; Lean checks it.
import Derived.Test.YtbejebfjeggbnaaMPx0
import Derived.Test.YtbejebfjeggbnaaMPx2
namespace Go.Proofs.Ytbejebfjeggbnaa.MP
open Go.RowKit Go.Proofs.YtbejebfjeggbnaaW.PrintWords Go.Proofs.YtbejebfjeggbnaaW.PrintLast Go.Proofs.YtbejebfjeggbnaaW.PrintMore Go.Proofs.YtbejebfjeggbnaaV
attribute [local go_sem] max2_int min2_int max_two min_two max_three min_three max_four min_four   -- for this text's walks alone
set_option linter.unusedVariables false
set_option linter.unusedSimpArgs false

/-! ### spec_PutPeg: function 20 -/
def spec_PutPeg.j0 : Nat → List Int → Int → Int → Bool → Option (List Int × Bool)
  | 0, _, _, _, _ => none
  | k + 1, x0, x1, x6, x22 => if x22 = true then (some (([] : List Int), false)) else (if 0 ≤ x1 then (if x1 ≤ (x0.length : Int) then ((spec_l1Own.f (x0.take (x1 : Int).toNat)).bind fun t123 => (if t123.length < 17592186044416 then ((some (t123 ++ [1] : List Int)).bind fun y126 => (if y126.length + (x0.drop (x1 : Int).toNat).length < 17592186044416 then ((some (y126 ++ (x0.drop (x1 : Int).toNat) : List Int)).bind fun y130 => (if (wrap64 (x6 + 1)) = 0 then (none) else (if 0 ≤ (Int.tmod (wrap64 (x1 + x6)) (wrap64 (x6 + 1))) then (if (Int.tmod (wrap64 (x1 + x6)) (wrap64 (x6 + 1))) < (y130.length : Int) then ((some (y130.set ((Int.tmod (wrap64 (x1 + x6)) (wrap64 (x6 + 1))) : Int).toNat (wrap64 ((rd y130 (Int.tmod (wrap64 (x1 + x6)) (wrap64 (x6 + 1)))) + 1)) : List Int)).bind fun y134 => (if 0 ≤ (Int.tmod (wrap64 (x1 + 1)) (wrap64 (x6 + 1))) then (if (Int.tmod (wrap64 (x1 + 1)) (wrap64 (x6 + 1))) < (y130.length : Int) then ((some (y134.set ((Int.tmod (wrap64 (x1 + 1)) (wrap64 (x6 + 1))) : Int).toNat (wrap64 ((rd y134 (Int.tmod (wrap64 (x1 + 1)) (wrap64 (x6 + 1)))) + 1)) : List Int)).bind fun y136 => ((spec_duNumber.f k y136).bind fun t137 => (if t137 = true then (some (y136, true)) else (some (([] : List Int), false))))) else (none)) else (none))) else (none)) else (none)))) else (none))) else (none))) else (none)) else (none))
def spec_PutPeg.f (k : Nat) (l0 : List Int) (a1 : Int) : Option (List Int × Bool) := (spec_duNumber.f k l0).bind fun t120 => (if t120 = true then ((spec_l1In.f a1 0 (l0.length : Int)).bind fun t121 => (if t121 = true then (spec_PutPeg.j0 k l0 a1 (l0.length : Int) ((l0.length : Int) == 9)) else (spec_PutPeg.j0 k l0 a1 (l0.length : Int) true))) else (spec_PutPeg.j0 k l0 a1 (l0.length : Int) true))
theorem spec_PutPeg.mono_l : ∀ k, (∀ y0 y1 y2 y3, LeO (spec_PutPeg.j0 k y0 y1 y2 y3) (spec_PutPeg.j0 (k + 1) y0 y1 y2 y3))
  | 0 => fun _ _ _ _ r h => by simp [spec_PutPeg.j0] at h
  | k + 1 => by
    have ih0 := spec_PutPeg.mono_l k
    · intro y0 y1 y2 y3
      unfold spec_PutPeg.j0
      repeat' first
      | (with_reducible exact ih0 _ _ _ _)
      | (with_reducible exact spec_duNumber.mono _ _)
      | (with_reducible exact LeO.refl _)
      | (with_reducible exact LeO.none _)
      | (with_reducible refine LeO.ite ?_ ?_)
      | (with_reducible refine LeO.bind ?_ (fun _ => ?_))
      | exact ih0 _ _ _ _
      | exact spec_duNumber.mono _ _
      | exact LeO.none _
      | refine LeO.ite ?_ ?_
      | refine LeO.bind ?_ (fun _ => ?_)
theorem spec_PutPeg.mono : ∀ a0 a1 k, LeO (spec_PutPeg.f k a0 a1) (spec_PutPeg.f (k + 1) a0 a1) := by
  intro a0 a1 k
  have ih0 := spec_PutPeg.mono_l k
  unfold spec_PutPeg.f
  repeat' first
      | (with_reducible exact ih0 _ _ _ _)
      | (with_reducible exact spec_duNumber.mono _ _)
      | (with_reducible exact LeO.refl _)
      | (with_reducible exact LeO.none _)
      | (with_reducible refine LeO.ite ?_ ?_)
      | (with_reducible refine LeO.bind ?_ (fun _ => ?_))
      | exact ih0 _ _ _ _
      | exact spec_duNumber.mono _ _
      | exact LeO.none _
      | refine LeO.ite ?_ ?_
      | refine LeO.bind ?_ (fun _ => ?_)
set_option maxHeartbeats 8000000 in
set_option maxRecDepth 100000 in
theorem spec_PutPeg.calls (k : Nat) (A0 : Option Addr) (c0 : Nat) (l0 : List Int) (a1 : Int) (r1 : List Int) (r2 : Bool) (w : World) (hr0 : Kd.C (Kd.int .i64) w A0 l0.length l0) (hc0 : l0.length ≤ c0) (h : spec_PutPeg.f k l0 a1 = some (r1, r2)) :
    Calls Try.prog 20 #[.slice A0 l0.length c0, .int .i64 a1] w fun e w' => ∃ v0_ : Value, e = .returned (.tuple #[v0_, .bool r2]) ∧ Kd.R (Kd.int .i64) 3 w' w.heap.size (fun _ => True) v0_ r1 ∧ Below w.heap.size w w' := by
  have HR0 := Aside0.mk hr0
  have HC0 := Aside0.mk hc0
  clear hr0 hc0
  have HB := Aside0.mk (Below.refl w.heap.size w)
  have H : ((spec_duNumber.f k l0).bind fun t120 => (if t120 = true then ((spec_l1In.f a1 0 (l0.length : Int)).bind fun t121 => (if t121 = true then (spec_PutPeg.j0 k l0 a1 (l0.length : Int) ((l0.length : Int) == 9)) else (spec_PutPeg.j0 k l0 a1 (l0.length : Int) true))) else (spec_PutPeg.j0 k l0 a1 (l0.length : Int) true))) = some (r1, r2) := h
  clear h
  have HC3 := Aside0.mk H
  clear H
  go_enter Try.func20, Try.ntmps20
  go_upto_region 2 with (fail)
  go_cut [22] (fun v22 wc => ∃ (kq : Nat) (x22_2 : Bool), v22 = .bool x22_2 ∧ Aside0 (spec_PutPeg.j0 kq l0 a1 (l0.length : Int) x22_2 = some (r1, r2)) ∧ Aside0 (kq ≤ k) ∧ Aside0 (Below w.heap.size w wc))
  case first =>
    have H := HC3.out
    clear HC3
    replace H := Option.bind_eq_some_iff.mp H
    obtain ⟨t120, A40, H⟩ := H
    replace H : (if t120 = true then ((spec_l1In.f a1 0 (l0.length : Int)).bind fun t121 => (if t121 = true then (spec_PutPeg.j0 k l0 a1 (l0.length : Int) ((l0.length : Int) == 9)) else (spec_PutPeg.j0 k l0 a1 (l0.length : Int) true))) else (spec_PutPeg.j0 k l0 a1 (l0.length : Int) true)) = some (r1, r2) := H
    have A4 := Aside0.mk A40
    clear A40
    by_cases c5 : t120 = true
    · subst c5
      have H1 : ((spec_l1In.f a1 0 (l0.length : Int)).bind fun t121 => (if t121 = true then (spec_PutPeg.j0 k l0 a1 (l0.length : Int) ((l0.length : Int) == 9)) else (spec_PutPeg.j0 k l0 a1 (l0.length : Int) true))) = some (r1, r2) := by rw [if_pos rfl] at H; exact H
      clear H
      have H := H1
      clear H1
      replace H := Option.bind_eq_some_iff.mp H
      obtain ⟨t121, A60, H⟩ := H
      replace H : (if t121 = true then (spec_PutPeg.j0 k l0 a1 (l0.length : Int) ((l0.length : Int) == 9)) else (spec_PutPeg.j0 k l0 a1 (l0.length : Int) true)) = some (r1, r2) := H
      have A6 := Aside0.mk A60
      clear A60
      by_cases c7 : t121 = true
      · subst c7
        have H1 : (spec_PutPeg.j0 k l0 a1 (l0.length : Int) ((l0.length : Int) == 9)) = some (r1, r2) := by rw [if_pos rfl] at H; exact H
        clear H
        have H := H1
        clear H1
        have H' := Aside0.mk H
        clear H
        go_wp2_with (first | ((with_reducible refine gate_callee (f := 36) rfl ?_); refine goesL_ (some 11) rfl rfl Try.func36 (by kernel_rfl) rfl #[.slice A0 l0.length c0] rfl ga_ ?_; (with_reducible refine (spec_duNumber.calls k _ _ l0 true _ ?side1 ?side2 A4.out).mono ?_); (case side1 => repeat (first | exact (Kd.C_below HR0.out HB.out) | (with_reducible refine Kd.C_alloc ?_ _) | (with_reducible refine Kd.C_drewN ?_ _) | (with_reducible refine Kd.C_drew ?_))); (case side2 => exact HC0.out); rintro e w' ⟨rfl, ⟨nd, rfl⟩⟩; refine ⟨_, rfl, ?_⟩) | (go_at_call 40; (with_reducible refine (spec_l1In.calls a1 0 (l0.length : Int) true _ A6.out).mono ?_); rintro e w' ⟨rfl, ⟨nd, rfl⟩⟩))
        go_meet
        case rel => exact ⟨_, (((l0.length : Int) == 9)), (by first | rfl | (simp; done) | (simp [*]; done)), H', ⟨by first | omega | exact Nat.le_refl _⟩, ⟨hb_⟩⟩
      · replace c7 := Bool.eq_false_iff.mpr c7
        subst c7
        have H1 : (spec_PutPeg.j0 k l0 a1 (l0.length : Int) true) = some (r1, r2) := by rw [if_neg (show ¬ (false = true) by decide)] at H; exact H
        clear H
        have H := H1
        clear H1
        have H' := Aside0.mk H
        clear H
        go_wp2_with (first | ((with_reducible refine gate_callee (f := 36) rfl ?_); refine goesL_ (some 11) rfl rfl Try.func36 (by kernel_rfl) rfl #[.slice A0 l0.length c0] rfl ga_ ?_; (with_reducible refine (spec_duNumber.calls k _ _ l0 true _ ?side1 ?side2 A4.out).mono ?_); (case side1 => repeat (first | exact (Kd.C_below HR0.out HB.out) | (with_reducible refine Kd.C_alloc ?_ _) | (with_reducible refine Kd.C_drewN ?_ _) | (with_reducible refine Kd.C_drew ?_))); (case side2 => exact HC0.out); rintro e w' ⟨rfl, ⟨nd, rfl⟩⟩; refine ⟨_, rfl, ?_⟩) | (go_at_call 40; (with_reducible refine (spec_l1In.calls a1 0 (l0.length : Int) false _ A6.out).mono ?_); rintro e w' ⟨rfl, ⟨nd, rfl⟩⟩))
        go_meet
        case rel => exact ⟨_, (true), (by first | rfl | (simp; done) | (simp [*]; done)), H', ⟨by first | omega | exact Nat.le_refl _⟩, ⟨hb_⟩⟩
    · replace c5 := Bool.eq_false_iff.mpr c5
      subst c5
      have H1 : (spec_PutPeg.j0 k l0 a1 (l0.length : Int) true) = some (r1, r2) := by rw [if_neg (show ¬ (false = true) by decide)] at H; exact H
      clear H
      have H := H1
      clear H1
      have H' := Aside0.mk H
      clear H
      go_wp2_with (first | ((with_reducible refine gate_callee (f := 36) rfl ?_); refine goesL_ (some 11) rfl rfl Try.func36 (by kernel_rfl) rfl #[.slice A0 l0.length c0] rfl ga_ ?_; (with_reducible refine (spec_duNumber.calls k _ _ l0 false _ ?side1 ?side2 A4.out).mono ?_); (case side1 => repeat (first | exact (Kd.C_below HR0.out HB.out) | (with_reducible refine Kd.C_alloc ?_ _) | (with_reducible refine Kd.C_drewN ?_ _) | (with_reducible refine Kd.C_drew ?_))); (case side2 => exact HC0.out); rintro e w' ⟨rfl, ⟨nd, rfl⟩⟩; refine ⟨_, rfl, ?_⟩))
      go_meet
      case rel => exact ⟨_, (true), (by first | rfl | (simp; done) | (simp [*]; done)), H', ⟨by first | omega | exact Nat.le_refl _⟩, ⟨hb_⟩⟩
  case rest =>
    clear HC3
    try clear c2
    try clear p2
    try clear c3
    try clear c5
    try clear c7
    obtain ⟨kq, x22_2, rfl, HA, HJ2, HB⟩ := hcut
    cases kq with
    | zero => exact absurd HA.out (by simp [spec_PutPeg.j0])
    | succ kj2 =>
      have H := HA.out
      clear HA
      simp only [spec_PutPeg.j0] at H
      by_cases c8 : x22_2 = true
      · subst c8
        have H1 : (some (([] : List Int), false)) = some (r1, r2) := by rw [if_pos rfl] at H; exact H
        clear H
        have H := H1
        clear H1
        simp only [Option.some.injEq, Prod.mk.injEq] at H
        obtain ⟨rfl, rfl⟩ := H
        go_wp2
        go_ret2
        exact ⟨_, by first | rfl | (simp [errW_none, errW_some] <;> rfl) | (simp [*, errW_none, errW_some] <;> rfl), by first | exact Kd.R_nil _ _ _ _ _ | exact Kd.N_nil _ _ _ _ _ | exact Kd.V_nil _ _ _ _ _ | exact Kd.Q_nil _ _ _ _ _ | exact Kd.S_nil _ _ _ _ _, hb_⟩
      · replace c8 := Bool.eq_false_iff.mpr c8
        subst c8
        have H1 : (if 0 ≤ a1 then (if a1 ≤ (l0.length : Int) then ((spec_l1Own.f (l0.take (a1 : Int).toNat)).bind fun t123 => (if t123.length < 17592186044416 then ((some (t123 ++ [1] : List Int)).bind fun y126 => (if y126.length + (l0.drop (a1 : Int).toNat).length < 17592186044416 then ((some (y126 ++ (l0.drop (a1 : Int).toNat) : List Int)).bind fun y130 => (if (wrap64 ((l0.length : Int) + 1)) = 0 then (none) else (if 0 ≤ (Int.tmod (wrap64 (a1 + (l0.length : Int))) (wrap64 ((l0.length : Int) + 1))) then (if (Int.tmod (wrap64 (a1 + (l0.length : Int))) (wrap64 ((l0.length : Int) + 1))) < (y130.length : Int) then ((some (y130.set ((Int.tmod (wrap64 (a1 + (l0.length : Int))) (wrap64 ((l0.length : Int) + 1))) : Int).toNat (wrap64 ((rd y130 (Int.tmod (wrap64 (a1 + (l0.length : Int))) (wrap64 ((l0.length : Int) + 1)))) + 1)) : List Int)).bind fun y134 => (if 0 ≤ (Int.tmod (wrap64 (a1 + 1)) (wrap64 ((l0.length : Int) + 1))) then (if (Int.tmod (wrap64 (a1 + 1)) (wrap64 ((l0.length : Int) + 1))) < (y130.length : Int) then ((some (y134.set ((Int.tmod (wrap64 (a1 + 1)) (wrap64 ((l0.length : Int) + 1))) : Int).toNat (wrap64 ((rd y134 (Int.tmod (wrap64 (a1 + 1)) (wrap64 ((l0.length : Int) + 1)))) + 1)) : List Int)).bind fun y136 => ((spec_duNumber.f kj2 y136).bind fun t137 => (if t137 = true then (some (y136, true)) else (some (([] : List Int), false))))) else (none)) else (none))) else (none)) else (none)))) else (none))) else (none))) else (none)) else (none)) = some (r1, r2) := by rw [if_neg (show ¬ (false = true) by decide)] at H; exact H
        clear H
        have H := H1
        clear H1
        by_cases c9 : 0 ≤ a1
        · rw [if_pos c9] at H
          have c9b0 := eq_true c9
          have c9b1 : decide (0 ≤ a1) = true := decide_eq_true c9
          clear c9
          by_cases c10 : a1 ≤ (l0.length : Int)
          · rw [if_pos c10] at H
            have c10b0 := eq_true c10
            have c10b1 : decide (a1 ≤ (l0.length : Int)) = true := decide_eq_true c10
            clear c10
            replace H := Option.bind_eq_some_iff.mp H
            obtain ⟨t123, A110, H⟩ := H
            replace H : (if t123.length < 17592186044416 then ((some (t123 ++ [1] : List Int)).bind fun y126 => (if y126.length + (l0.drop (a1 : Int).toNat).length < 17592186044416 then ((some (y126 ++ (l0.drop (a1 : Int).toNat) : List Int)).bind fun y130 => (if (wrap64 ((l0.length : Int) + 1)) = 0 then (none) else (if 0 ≤ (Int.tmod (wrap64 (a1 + (l0.length : Int))) (wrap64 ((l0.length : Int) + 1))) then (if (Int.tmod (wrap64 (a1 + (l0.length : Int))) (wrap64 ((l0.length : Int) + 1))) < (y130.length : Int) then ((some (y130.set ((Int.tmod (wrap64 (a1 + (l0.length : Int))) (wrap64 ((l0.length : Int) + 1))) : Int).toNat (wrap64 ((rd y130 (Int.tmod (wrap64 (a1 + (l0.length : Int))) (wrap64 ((l0.length : Int) + 1)))) + 1)) : List Int)).bind fun y134 => (if 0 ≤ (Int.tmod (wrap64 (a1 + 1)) (wrap64 ((l0.length : Int) + 1))) then (if (Int.tmod (wrap64 (a1 + 1)) (wrap64 ((l0.length : Int) + 1))) < (y130.length : Int) then ((some (y134.set ((Int.tmod (wrap64 (a1 + 1)) (wrap64 ((l0.length : Int) + 1))) : Int).toNat (wrap64 ((rd y134 (Int.tmod (wrap64 (a1 + 1)) (wrap64 ((l0.length : Int) + 1)))) + 1)) : List Int)).bind fun y136 => ((spec_duNumber.f kj2 y136).bind fun t137 => (if t137 = true then (some (y136, true)) else (some (([] : List Int), false))))) else (none)) else (none))) else (none)) else (none)))) else (none))) else (none)) = some (r1, r2) := H
            have A11 := Aside0.mk A110
            clear A110
            by_cases c12 : t123.length < 17592186044416
            · rw [if_pos c12] at H
              have LMc12 := Aside0.mk c12
              clear c12
              obtain ⟨y126, hy126⟩ : ∃ y_ : List Int, y_ = (t123 ++ [1]) := ⟨_, rfl⟩
              replace H : (if y126.length + (l0.drop (a1 : Int).toNat).length < 17592186044416 then ((some (y126 ++ (l0.drop (a1 : Int).toNat) : List Int)).bind fun y130 => (if (wrap64 ((l0.length : Int) + 1)) = 0 then (none) else (if 0 ≤ (Int.tmod (wrap64 (a1 + (l0.length : Int))) (wrap64 ((l0.length : Int) + 1))) then (if (Int.tmod (wrap64 (a1 + (l0.length : Int))) (wrap64 ((l0.length : Int) + 1))) < (y130.length : Int) then ((some (y130.set ((Int.tmod (wrap64 (a1 + (l0.length : Int))) (wrap64 ((l0.length : Int) + 1))) : Int).toNat (wrap64 ((rd y130 (Int.tmod (wrap64 (a1 + (l0.length : Int))) (wrap64 ((l0.length : Int) + 1)))) + 1)) : List Int)).bind fun y134 => (if 0 ≤ (Int.tmod (wrap64 (a1 + 1)) (wrap64 ((l0.length : Int) + 1))) then (if (Int.tmod (wrap64 (a1 + 1)) (wrap64 ((l0.length : Int) + 1))) < (y130.length : Int) then ((some (y134.set ((Int.tmod (wrap64 (a1 + 1)) (wrap64 ((l0.length : Int) + 1))) : Int).toNat (wrap64 ((rd y134 (Int.tmod (wrap64 (a1 + 1)) (wrap64 ((l0.length : Int) + 1)))) + 1)) : List Int)).bind fun y136 => ((spec_duNumber.f kj2 y136).bind fun t137 => (if t137 = true then (some (y136, true)) else (some (([] : List Int), false))))) else (none)) else (none))) else (none)) else (none)))) else (none)) = some (r1, r2) := by first | (rw [hy126]; with_reducible exact H) | (have H2_ := (Option.bind_some _ _).symm.trans H; rw [hy126]; with_reducible exact H2_) | (have H2_ := (Option.bind_some _ _).symm.trans H; with_reducible exact H2_) | with_reducible exact H | (rw [hy126]; exact H) | exact H
              have Ny126 := Aside0.mk hy126
              clear hy126
              have c13b0 := eq_true (odt_ : 0 ≤ a1)
              have c14b0 := eq_true (odt_ : a1 ≤ (l0.length : Int))
              by_cases c15 : y126.length + (l0.drop (a1 : Int).toNat).length < 17592186044416
              · rw [if_pos c15] at H
                have LMc15 := Aside0.mk c15
                clear c15
                obtain ⟨y130, hy130⟩ : ∃ y_ : List Int, y_ = (y126 ++ (l0.drop (a1 : Int).toNat)) := ⟨_, rfl⟩
                replace H : (if (wrap64 ((l0.length : Int) + 1)) = 0 then (none) else (if 0 ≤ (Int.tmod (wrap64 (a1 + (l0.length : Int))) (wrap64 ((l0.length : Int) + 1))) then (if (Int.tmod (wrap64 (a1 + (l0.length : Int))) (wrap64 ((l0.length : Int) + 1))) < (y130.length : Int) then ((some (y130.set ((Int.tmod (wrap64 (a1 + (l0.length : Int))) (wrap64 ((l0.length : Int) + 1))) : Int).toNat (wrap64 ((rd y130 (Int.tmod (wrap64 (a1 + (l0.length : Int))) (wrap64 ((l0.length : Int) + 1)))) + 1)) : List Int)).bind fun y134 => (if 0 ≤ (Int.tmod (wrap64 (a1 + 1)) (wrap64 ((l0.length : Int) + 1))) then (if (Int.tmod (wrap64 (a1 + 1)) (wrap64 ((l0.length : Int) + 1))) < (y130.length : Int) then ((some (y134.set ((Int.tmod (wrap64 (a1 + 1)) (wrap64 ((l0.length : Int) + 1))) : Int).toNat (wrap64 ((rd y134 (Int.tmod (wrap64 (a1 + 1)) (wrap64 ((l0.length : Int) + 1)))) + 1)) : List Int)).bind fun y136 => ((spec_duNumber.f kj2 y136).bind fun t137 => (if t137 = true then (some (y136, true)) else (some (([] : List Int), false))))) else (none)) else (none))) else (none)) else (none))) = some (r1, r2) := by first | (rw [hy130]; with_reducible exact H) | (have H2_ := (Option.bind_some _ _).symm.trans H; rw [hy130]; with_reducible exact H2_) | (have H2_ := (Option.bind_some _ _).symm.trans H; with_reducible exact H2_) | with_reducible exact H | (rw [hy130]; exact H) | exact H
                have Ny130 := Aside0.mk hy130
                clear hy130
                by_cases c16 : (wrap64 ((l0.length : Int) + 1)) = 0
                · rw [if_pos c16] at H
                  exact absurd H (by simp)
                · rw [if_neg c16] at H
                  have c16b0 : ((wrap64 ((l0.length : Int) + 1)) == 0) = false := beq_eq_false_iff_ne.mpr c16
                  have c16b1 : ((wrap64 ((l0.length : Int) + 1)) != 0) = true := bne_iff_ne.mpr c16
                  obtain ⟨ji17, hji17⟩ : ∃ j_ : Int, (Int.tmod (wrap64 (a1 + (l0.length : Int))) (wrap64 ((l0.length : Int) + 1))) = j_ := ⟨_, rfl⟩
                  replace H : (if 0 ≤ (ji17) then (if (ji17) < (y130.length : Int) then ((some (y130.set ((ji17) : Int).toNat (wrap64 ((rd y130 (ji17)) + 1)) : List Int)).bind fun y134 => (if 0 ≤ (Int.tmod (wrap64 (a1 + 1)) (wrap64 ((l0.length : Int) + 1))) then (if (Int.tmod (wrap64 (a1 + 1)) (wrap64 ((l0.length : Int) + 1))) < (y130.length : Int) then ((some (y134.set ((Int.tmod (wrap64 (a1 + 1)) (wrap64 ((l0.length : Int) + 1))) : Int).toNat (wrap64 ((rd y134 (Int.tmod (wrap64 (a1 + 1)) (wrap64 ((l0.length : Int) + 1)))) + 1)) : List Int)).bind fun y136 => ((spec_duNumber.f kj2 y136).bind fun t137 => (if t137 = true then (some (y136, true)) else (some (([] : List Int), false))))) else (none)) else (none))) else (none)) else (none)) = some (r1, r2) := by first | (rw [hji17] at H; exact H) | (simp only [hji17] at H ⊢; exact H)
                  (try rw [hji17] at A11)
                  by_cases c18 : 0 ≤ (ji17)
                  · rw [if_pos c18] at H
                    have c18b0 : decide (0 ≤ (ji17)) = true := decide_eq_true c18
                    clear c18
                    by_cases c19 : (ji17) < (y130.length : Int)
                    · rw [if_pos c19] at H
                      have c19b0 : decide ((ji17) < (y130.length : Int)) = true := decide_eq_true c19
                      clear c19
                      obtain ⟨y134, hy134⟩ : ∃ y_ : List Int, y_ = (y130.set ((ji17) : Int).toNat (wrap64 ((rd y130 (ji17)) + 1))) := ⟨_, rfl⟩
                      replace H : (if 0 ≤ (Int.tmod (wrap64 (a1 + 1)) (wrap64 ((l0.length : Int) + 1))) then (if (Int.tmod (wrap64 (a1 + 1)) (wrap64 ((l0.length : Int) + 1))) < (y130.length : Int) then ((some (y134.set ((Int.tmod (wrap64 (a1 + 1)) (wrap64 ((l0.length : Int) + 1))) : Int).toNat (wrap64 ((rd y134 (Int.tmod (wrap64 (a1 + 1)) (wrap64 ((l0.length : Int) + 1)))) + 1)) : List Int)).bind fun y136 => ((spec_duNumber.f kj2 y136).bind fun t137 => (if t137 = true then (some (y136, true)) else (some (([] : List Int), false))))) else (none)) else (none)) = some (r1, r2) := by first | (rw [hy134]; with_reducible exact H) | (have H2_ := (Option.bind_some _ _).symm.trans H; rw [hy134]; with_reducible exact H2_) | (have H2_ := (Option.bind_some _ _).symm.trans H; with_reducible exact H2_) | with_reducible exact H | (rw [hy134]; exact H) | exact H
                      have Ny134 := Aside0.mk hy134
                      clear hy134
                      obtain ⟨ji21, hji21⟩ : ∃ j_ : Int, (Int.tmod (wrap64 (a1 + 1)) (wrap64 ((l0.length : Int) + 1))) = j_ := ⟨_, rfl⟩
                      replace H : (if 0 ≤ (ji21) then (if (ji21) < (y130.length : Int) then ((some (y134.set ((ji21) : Int).toNat (wrap64 ((rd y134 (ji21)) + 1)) : List Int)).bind fun y136 => ((spec_duNumber.f kj2 y136).bind fun t137 => (if t137 = true then (some (y136, true)) else (some (([] : List Int), false))))) else (none)) else (none)) = some (r1, r2) := by first | (rw [hji21] at H; exact H) | (simp only [hji21] at H ⊢; exact H)
                      (try rw [hji21] at A11)
                      by_cases c22 : 0 ≤ (ji21)
                      · rw [if_pos c22] at H
                        have c22b0 : decide (0 ≤ (ji21)) = true := decide_eq_true c22
                        clear c22
                        by_cases c23 : (ji21) < (y130.length : Int)
                        · rw [if_pos c23] at H
                          have c23b0 : decide ((ji21) < (y130.length : Int)) = true := decide_eq_true c23
                          clear c23
                          obtain ⟨y136, hy136⟩ : ∃ y_ : List Int, y_ = (y134.set ((ji21) : Int).toNat (wrap64 ((rd y134 (ji21)) + 1))) := ⟨_, rfl⟩
                          replace H : ((spec_duNumber.f kj2 y136).bind fun t137 => (if t137 = true then (some (y136, true)) else (some (([] : List Int), false)))) = some (r1, r2) := by first | (rw [hy136]; with_reducible exact H) | (have H2_ := (Option.bind_some _ _).symm.trans H; rw [hy136]; with_reducible exact H2_) | (have H2_ := (Option.bind_some _ _).symm.trans H; with_reducible exact H2_) | with_reducible exact H | (rw [hy136]; exact H) | exact H
                          have Ny136 := Aside0.mk hy136
                          clear hy136
                          replace H := Option.bind_eq_some_iff.mp H
                          obtain ⟨t137, A250, H⟩ := H
                          replace H : (if t137 = true then (some (y136, true)) else (some (([] : List Int), false))) = some (r1, r2) := H
                          have A25 := Aside0.mk A250
                          clear A250
                          by_cases c26 : t137 = true
                          · subst c26
                            have H1 : (some (y136, true)) = some (r1, r2) := by rw [if_pos rfl] at H; exact H
                            clear H
                            have H := H1
                            clear H1
                            simp only [Option.some.injEq, Prod.mk.injEq] at H
                            obtain ⟨rfl, rfl⟩ := H
                            obtain ⟨i027, hi027, _, hsz27, _⟩ := info_parts info3
                            obtain ⟨hcut27, hA27, hC27⟩ := print_take_of (P := Try.prog) (Value.int .i64) 0 22 3 .i64 Try.underlying22 hi027 hsz27 A0 c0 l0 a1 (odt_) (odt_) HC0.out
                            have HR122 := Aside0.mk (Kd.C_of_reads (h1 := fun _ => rfl) (hA27 _ (Kd.reads_of_C HR0.out)))
                            have HC122 := Aside0.mk hC27
                            clear hA27 hC27 hi027 hsz27
                            go_wp2_with (first | ((with_reducible refine gate_callee (f := 41) rfl ?_); refine goesL_ (some 26) rfl rfl Try.func41 (by kernel_rfl) rfl #[.slice A0 (l0.take (a1 : Int).toNat).length c0] rfl (by (try simp only [List.map_toArray, List.map_cons, List.map_nil]); first | done | (rw [show (l0.take (a1 : Int).toNat).length = a1.toNat from (by rw [List.length_take]; have h_ : (a1 : Int) ≤ (l0.length : Int) := odt_; omega)] <;> rfl) | rfl | (simp only [List.length_drop, List.length_take]; rfl)) ?_; (with_reducible refine (spec_l1Own.calls _ _ (l0.take (a1 : Int).toNat) t123 _ ?side1 ?side2 A11.out).mono ?_); (case side1 => repeat (first | exact (Kd.C_below HR122.out HB.out) | (with_reducible refine Kd.C_alloc ?_ _) | (with_reducible refine Kd.C_drewN ?_ _) | (with_reducible refine Kd.C_drew ?_))); (case side2 => exact HC122.out); rintro e w28 ⟨v124, rfl, ho0, hb⟩; refine ⟨_, rfl, ?_⟩; have n0_ := Aside0.mk (Kd.R_lower ho0 (below_size (hb_))); have n1_ := Aside0.mk (below_step (hb_) hb); clear HB; have HO125 := n0_; have HB := n1_; clear n0_ n1_; (try clear hb); (try clear hb2); (try clear hk); (try clear hi); (try clear ho0)) | ((with_reducible refine gate_builtin (b := .append) (xs := #[.tmp 26, .tmp 27]) rfl ?_); at_builtin; refine Kd.R_append (Kd.int .i64) (w0 := w) w.heap.size rfl (.tmp 26) (.tmp 27) 22 3 (.int .i64 0) 8 rfl Try.underlying22 info3 rfl (by decide) (by omega) v124 t123 1 [.int .i64 1] (fun _ => True) (fun _ => False) rfl rfl ?aP (fun _ hk => hk.elim) ?aF ?aO ?aB ?aS ?aL ?_; (case aP => exact rfl); (case aB => exact (hb_)); (case aF => exact (fun _ _ => trivial)); (case aO => exact (rk_ HO125.out)); (case aS => exact (below_size (hb_))); (case aL => have := LMc12.out; omega); intro v127 w29 ho hb hg hat; rw [← Ny126.out] at ho; have n0_ := Aside0.mk (hb); have n1_ := Aside0.mk (ho); clear HB; clear HO125; have HB := n0_; have HO128 := n1_; clear n0_ n1_; clear ho hb hg hat; obtain ⟨i030, hi030, _, hsz30, _⟩ := info_parts info3; obtain ⟨A30, hcut30, hA30, hC30⟩ := print_drop_of (P := Try.prog) (Value.int .i64) 0 22 3 .i64 Try.underlying22 hi030 hsz30 A0 c0 l0 a1 (odt_) (odt_) HC0.out; have HR129 := Aside0.mk (Kd.C_of_reads (h1 := fun _ => rfl) (hA30 _ (Kd.reads_of_C HR0.out))); have HC129 := Aside0.mk hC30; clear hA30 hC30 hi030 hsz30) | ((with_reducible refine gate_builtin (b := .append) (xs := #[.tmp 29, .tmp 32]) rfl ?_); at_builtin; refine Kd.R_append_rows (Kd.int .i64) (w0 := w) w.heap.size rfl (.tmp 29) (.tmp 32) 22 3 (.int .i64 0) 8 rfl Try.underlying22 info3 rfl (by decide) (by omega) v127 y126 (l0.drop (a1 : Int).toNat) _ _ _ (fun _ => True) (fun _ => False) rfl rfl ?aO ?aR (fun _ _ h => h) (fun _ h => h.elim) ?aF ?aB ?aS ?aL ?_; (case aR => first | (rw [← show (l0.drop (a1 : Int).toNat).length = (l0.length - a1.toNat) from List.length_drop]; repeat (first | exact (Kd.C_below HR129.out HB.out) | (with_reducible refine Kd.C_alloc ?_ _) | (with_reducible refine Kd.C_drewN ?_ _) | (with_reducible refine Kd.C_drew ?_))) | (repeat (first | exact (Kd.C_below HR129.out HB.out) | (with_reducible refine Kd.C_alloc ?_ _) | (with_reducible refine Kd.C_drewN ?_ _) | (with_reducible refine Kd.C_drew ?_)))); (case aB => exact (hb_)); (case aF => exact (fun _ _ => trivial)); (case aO => exact (rk_ HO128.out)); (case aS => exact (below_size (hb_))); (case aL => have := LMc15.out; have hlx_ := (show (l0.drop (a1 : Int).toNat).length = (l0.length - a1.toNat) from List.length_drop); omega); intro v131 w31 ho hb hg hat; rw [← Ny130.out] at ho; have n0_ := Aside0.mk (hb); have n1_ := Aside0.mk (ho); clear HB; clear HO128; have HB := n0_; have HO132 := n1_; clear n0_ n1_; clear ho hb hg hat; obtain ⟨Ao32, co32, eo32⟩ := Kd.R_slice HO132.out; subst eo32; have p133 : 0 ≤ ((ji17) : Int) := odt_; have q133 : (ji17) < (y130.length : Int) := odt_; obtain ⟨ad133, e133, hx133_0⟩ := Kd.at_int (Kd.R_reads' HO132.out).2.2 (ji17) p133 q133; cases e133; replace p133 := eq_true p133; replace q133 := eq_true q133; have p20 : 0 ≤ ((ji17) : Int) := odt_; have q20 : ((ji17) : Int) < ((y130.length : Int) : Int) := odt_; obtain ⟨go20, co20, eo20, gb20, gl20, cl20, HG20⟩ := Kd.R_form HO132.out (by omega); (first | cases eo20 | (injection eo20 with ea_ en_ ec_; (first | subst ea_ | (injection ea_ with ea_; subst ea_)); subst ec_; clear en_)); have GB20 := Aside0.mk gb20; have GG20 := Aside0.mk HG20; clear gb20 gl20 HG20; (first | simp only [add_plain] at hx133_0 | skip); obtain ⟨hx20_0, hf20_0⟩ := Kd.R_celln 0 HO132.out ((ji17) : Int) p20 q20; replace p20 := eq_true p20; replace q20 := eq_true q20; obtain ⟨hy33_, hz33_⟩ := Kd.R_celln 0 HO132.out ((ji17) : Int) (odt_) (odt_); have HP33 := Kd.R_putg HO132.out ((ji17) : Int) (wrap64 ((rd y130 (ji17)) + 1))) | ((with_reducible refine gate_store (t := 3) (p := 44) rfl ?_); refine store_event (t := 3) (p := 44) (v := ?vo_w34) (w1 := (w31.setCell ⟨go20, ((ji17) : Int).toNat, none⟩ (.int .i64 (wrap64 ((rd y130 (ji17)) + 1))))) ?hg ?ho ?hn ?hr ?_; (case ho => rfl); (case hg => rfl); (case hn => rfl); (case hr => first | (go_simp; done) | (go_simp; rfl)); intro w34 hw; have hg : w31.grownBy w34 (some go20) := (by rw [hw]; exact HP33.2); have hp_ : Kd.R (Kd.int .i64) 3 w34 w.heap.size (fun _ => True) (.slice (some ⟨go20, 0, none⟩) y130.length co32) y134 := (by rw [hw, Ny134.out]; exact HP33.1); clear HP33; have n0_ := Aside0.mk (hp_); have n1_ := Aside0.mk ((by rw [hw]; exact below_set (HB.out) GB20.out : Below w.heap.size w w34)); clear HO132; clear HB; have HO132 := n0_; have HB := n1_; clear n0_ n1_; clear hg hw hp_; have p135 : 0 ≤ ((ji21) : Int) := odt_; have q135 : (ji21) < (y134.length : Int) := (by have h_ : ((ji21) : Int) < ((y130.length : Int) : Int) := odt_; first | (have e_ := (Kd.R_reads' HO132.out).1; omega) | simpa only [Ny134.out, List.length_set] using h_); have ql135 : (((ji21) : Int) < ((y130.length : Int) : Int)) = True := eq_true (odt_); obtain ⟨ad135, e135, hx135_0⟩ := Kd.at_int (Kd.R_reads' HO132.out).2.2 (ji21) p135 q135; obtain rfl : (⟨go20, 0, none⟩ : Addr) = ad135 := (by injection e135); (first | simp only [add_plain] at hx135_0 | simp only [add_at] at hx135_0 | simp only [Addr.add, Nat.zero_add] at hx135_0 | skip); replace p135 := eq_true p135; replace q135 := eq_true q135; have p24 : 0 ≤ ((ji21) : Int) := odt_; have q24 : ((ji21) : Int) < ((y130.length : Int) : Int) := odt_; obtain ⟨hx24_0, hf24_0⟩ := Kd.R_celln 0 HO132.out ((ji21) : Int) p24 q24; replace p24 := eq_true p24; replace q24 := eq_true q24; obtain ⟨hy35_, hz35_⟩ := Kd.R_celln 0 HO132.out ((ji21) : Int) (odt_) (odt_); have HP35 := Kd.R_putg HO132.out ((ji21) : Int) (wrap64 ((rd y134 (ji21)) + 1))) | ((with_reducible refine gate_store (t := 3) (p := 54) rfl ?_); refine store_event (t := 3) (p := 54) (v := ?vo_w36) (w1 := (w34.setCell ⟨go20, ((ji21) : Int).toNat, none⟩ (.int .i64 (wrap64 ((rd y134 (ji21)) + 1))))) ?hg ?ho ?hn ?hr ?_; (case ho => rfl); (case hg => rfl); (case hn => rfl); (case hr => first | (go_simp; done) | (go_simp; rfl)); intro w36 hw; have hg : w34.grownBy w36 (some go20) := (by rw [hw]; exact HP35.2); have hp_ : Kd.R (Kd.int .i64) 3 w36 w.heap.size (fun _ => True) (.slice (some ⟨go20, 0, none⟩) y130.length co32) y136 := (by rw [hw, Ny136.out]; exact HP35.1); clear HP35; have n0_ := Aside0.mk (hp_); have n1_ := Aside0.mk ((by rw [hw]; exact below_set (HB.out) GB20.out : Below w.heap.size w w36)); clear HO132; clear HB; have HO132 := n0_; have HB := n1_; clear n0_ n1_; clear hg hw hp_) | ((with_reducible refine gate_callee (f := 36) rfl ?_); refine goesL_ (some 56) rfl rfl Try.func36 (by kernel_rfl) rfl #[.slice (some ⟨go20, 0, none⟩) y136.length co32] rfl (by (try simp only [List.map_toArray, List.map_cons, List.map_nil]); first | done | (rw [show y136.length = y130.length from (Kd.R_reads' HO132.out).1.symm] <;> rfl) | rfl | (simp only [List.length_drop, List.length_take]; rfl)) ?_; (with_reducible refine (spec_duNumber.calls kj2 _ _ y136 true _ ?side1 ?side2 A25.out).mono ?_); (case side1 => repeat (first | exact (Kd.R_reads' HO132.out).2.2 | (with_reducible refine Kd.C_alloc ?_ _) | (with_reducible refine Kd.C_drewN ?_ _) | (with_reducible refine Kd.C_drew ?_))); (case side2 => rw [show y136.length = y130.length from (Kd.R_reads' HO132.out).1.symm]; exact (Kd.R_reads' HO132.out).2.1); rintro e w' ⟨rfl, ⟨nd, rfl⟩⟩; refine ⟨_, rfl, ?_⟩))
                            go_ret2
                            exact ⟨_, by first | rfl | (simp [errW_none, errW_some] <;> rfl) | (simp only [← hji17, ← hji21]; first | rfl | (simp [errW_none, errW_some] <;> rfl)) | (simp [*, errW_none, errW_some] <;> rfl), by (with_reducible repeat (first | apply Kd.R_alloc | apply Kd.R_drewN | apply Kd.R_drew)); exact HO132.out, hb_⟩
                          · replace c26 := Bool.eq_false_iff.mpr c26
                            subst c26
                            have H1 : (some (([] : List Int), false)) = some (r1, r2) := by rw [if_neg (show ¬ (false = true) by decide)] at H; exact H
                            clear H
                            have H := H1
                            clear H1
                            simp only [Option.some.injEq, Prod.mk.injEq] at H
                            obtain ⟨rfl, rfl⟩ := H
                            obtain ⟨i037, hi037, _, hsz37, _⟩ := info_parts info3
                            obtain ⟨hcut37, hA37, hC37⟩ := print_take_of (P := Try.prog) (Value.int .i64) 0 22 3 .i64 Try.underlying22 hi037 hsz37 A0 c0 l0 a1 (odt_) (odt_) HC0.out
                            have HR122 := Aside0.mk (Kd.C_of_reads (h1 := fun _ => rfl) (hA37 _ (Kd.reads_of_C HR0.out)))
                            have HC122 := Aside0.mk hC37
                            clear hA37 hC37 hi037 hsz37
                            go_wp2_with (first | ((with_reducible refine gate_callee (f := 41) rfl ?_); refine goesL_ (some 26) rfl rfl Try.func41 (by kernel_rfl) rfl #[.slice A0 (l0.take (a1 : Int).toNat).length c0] rfl (by (try simp only [List.map_toArray, List.map_cons, List.map_nil]); first | done | (rw [show (l0.take (a1 : Int).toNat).length = a1.toNat from (by rw [List.length_take]; have h_ : (a1 : Int) ≤ (l0.length : Int) := odt_; omega)] <;> rfl) | rfl | (simp only [List.length_drop, List.length_take]; rfl)) ?_; (with_reducible refine (spec_l1Own.calls _ _ (l0.take (a1 : Int).toNat) t123 _ ?side1 ?side2 A11.out).mono ?_); (case side1 => repeat (first | exact (Kd.C_below HR122.out HB.out) | (with_reducible refine Kd.C_alloc ?_ _) | (with_reducible refine Kd.C_drewN ?_ _) | (with_reducible refine Kd.C_drew ?_))); (case side2 => exact HC122.out); rintro e w38 ⟨v124, rfl, ho0, hb⟩; refine ⟨_, rfl, ?_⟩; have n0_ := Aside0.mk (Kd.R_lower ho0 (below_size (hb_))); have n1_ := Aside0.mk (below_step (hb_) hb); clear HB; have HO125 := n0_; have HB := n1_; clear n0_ n1_; (try clear hb); (try clear hb2); (try clear hk); (try clear hi); (try clear ho0)) | ((with_reducible refine gate_builtin (b := .append) (xs := #[.tmp 26, .tmp 27]) rfl ?_); at_builtin; refine Kd.R_append (Kd.int .i64) (w0 := w) w.heap.size rfl (.tmp 26) (.tmp 27) 22 3 (.int .i64 0) 8 rfl Try.underlying22 info3 rfl (by decide) (by omega) v124 t123 1 [.int .i64 1] (fun _ => True) (fun _ => False) rfl rfl ?aP (fun _ hk => hk.elim) ?aF ?aO ?aB ?aS ?aL ?_; (case aP => exact rfl); (case aB => exact (hb_)); (case aF => exact (fun _ _ => trivial)); (case aO => exact (rk_ HO125.out)); (case aS => exact (below_size (hb_))); (case aL => have := LMc12.out; omega); intro v127 w39 ho hb hg hat; rw [← Ny126.out] at ho; have n0_ := Aside0.mk (hb); have n1_ := Aside0.mk (ho); clear HB; clear HO125; have HB := n0_; have HO128 := n1_; clear n0_ n1_; clear ho hb hg hat; obtain ⟨i040, hi040, _, hsz40, _⟩ := info_parts info3; obtain ⟨A40, hcut40, hA40, hC40⟩ := print_drop_of (P := Try.prog) (Value.int .i64) 0 22 3 .i64 Try.underlying22 hi040 hsz40 A0 c0 l0 a1 (odt_) (odt_) HC0.out; have HR129 := Aside0.mk (Kd.C_of_reads (h1 := fun _ => rfl) (hA40 _ (Kd.reads_of_C HR0.out))); have HC129 := Aside0.mk hC40; clear hA40 hC40 hi040 hsz40) | ((with_reducible refine gate_builtin (b := .append) (xs := #[.tmp 29, .tmp 32]) rfl ?_); at_builtin; refine Kd.R_append_rows (Kd.int .i64) (w0 := w) w.heap.size rfl (.tmp 29) (.tmp 32) 22 3 (.int .i64 0) 8 rfl Try.underlying22 info3 rfl (by decide) (by omega) v127 y126 (l0.drop (a1 : Int).toNat) _ _ _ (fun _ => True) (fun _ => False) rfl rfl ?aO ?aR (fun _ _ h => h) (fun _ h => h.elim) ?aF ?aB ?aS ?aL ?_; (case aR => first | (rw [← show (l0.drop (a1 : Int).toNat).length = (l0.length - a1.toNat) from List.length_drop]; repeat (first | exact (Kd.C_below HR129.out HB.out) | (with_reducible refine Kd.C_alloc ?_ _) | (with_reducible refine Kd.C_drewN ?_ _) | (with_reducible refine Kd.C_drew ?_))) | (repeat (first | exact (Kd.C_below HR129.out HB.out) | (with_reducible refine Kd.C_alloc ?_ _) | (with_reducible refine Kd.C_drewN ?_ _) | (with_reducible refine Kd.C_drew ?_)))); (case aB => exact (hb_)); (case aF => exact (fun _ _ => trivial)); (case aO => exact (rk_ HO128.out)); (case aS => exact (below_size (hb_))); (case aL => have := LMc15.out; have hlx_ := (show (l0.drop (a1 : Int).toNat).length = (l0.length - a1.toNat) from List.length_drop); omega); intro v131 w41 ho hb hg hat; rw [← Ny130.out] at ho; have n0_ := Aside0.mk (hb); have n1_ := Aside0.mk (ho); clear HB; clear HO128; have HB := n0_; have HO132 := n1_; clear n0_ n1_; clear ho hb hg hat; obtain ⟨Ao42, co42, eo42⟩ := Kd.R_slice HO132.out; subst eo42; have p133 : 0 ≤ ((ji17) : Int) := odt_; have q133 : (ji17) < (y130.length : Int) := odt_; obtain ⟨ad133, e133, hx133_0⟩ := Kd.at_int (Kd.R_reads' HO132.out).2.2 (ji17) p133 q133; cases e133; replace p133 := eq_true p133; replace q133 := eq_true q133; have p20 : 0 ≤ ((ji17) : Int) := odt_; have q20 : ((ji17) : Int) < ((y130.length : Int) : Int) := odt_; obtain ⟨go20, co20, eo20, gb20, gl20, cl20, HG20⟩ := Kd.R_form HO132.out (by omega); (first | cases eo20 | (injection eo20 with ea_ en_ ec_; (first | subst ea_ | (injection ea_ with ea_; subst ea_)); subst ec_; clear en_)); have GB20 := Aside0.mk gb20; have GG20 := Aside0.mk HG20; clear gb20 gl20 HG20; (first | simp only [add_plain] at hx133_0 | skip); obtain ⟨hx20_0, hf20_0⟩ := Kd.R_celln 0 HO132.out ((ji17) : Int) p20 q20; replace p20 := eq_true p20; replace q20 := eq_true q20; obtain ⟨hy43_, hz43_⟩ := Kd.R_celln 0 HO132.out ((ji17) : Int) (odt_) (odt_); have HP43 := Kd.R_putg HO132.out ((ji17) : Int) (wrap64 ((rd y130 (ji17)) + 1))) | ((with_reducible refine gate_store (t := 3) (p := 44) rfl ?_); refine store_event (t := 3) (p := 44) (v := ?vo_w44) (w1 := (w41.setCell ⟨go20, ((ji17) : Int).toNat, none⟩ (.int .i64 (wrap64 ((rd y130 (ji17)) + 1))))) ?hg ?ho ?hn ?hr ?_; (case ho => rfl); (case hg => rfl); (case hn => rfl); (case hr => first | (go_simp; done) | (go_simp; rfl)); intro w44 hw; have hg : w41.grownBy w44 (some go20) := (by rw [hw]; exact HP43.2); have hp_ : Kd.R (Kd.int .i64) 3 w44 w.heap.size (fun _ => True) (.slice (some ⟨go20, 0, none⟩) y130.length co42) y134 := (by rw [hw, Ny134.out]; exact HP43.1); clear HP43; have n0_ := Aside0.mk (hp_); have n1_ := Aside0.mk ((by rw [hw]; exact below_set (HB.out) GB20.out : Below w.heap.size w w44)); clear HO132; clear HB; have HO132 := n0_; have HB := n1_; clear n0_ n1_; clear hg hw hp_; have p135 : 0 ≤ ((ji21) : Int) := odt_; have q135 : (ji21) < (y134.length : Int) := (by have h_ : ((ji21) : Int) < ((y130.length : Int) : Int) := odt_; first | (have e_ := (Kd.R_reads' HO132.out).1; omega) | simpa only [Ny134.out, List.length_set] using h_); have ql135 : (((ji21) : Int) < ((y130.length : Int) : Int)) = True := eq_true (odt_); obtain ⟨ad135, e135, hx135_0⟩ := Kd.at_int (Kd.R_reads' HO132.out).2.2 (ji21) p135 q135; obtain rfl : (⟨go20, 0, none⟩ : Addr) = ad135 := (by injection e135); (first | simp only [add_plain] at hx135_0 | simp only [add_at] at hx135_0 | simp only [Addr.add, Nat.zero_add] at hx135_0 | skip); replace p135 := eq_true p135; replace q135 := eq_true q135; have p24 : 0 ≤ ((ji21) : Int) := odt_; have q24 : ((ji21) : Int) < ((y130.length : Int) : Int) := odt_; obtain ⟨hx24_0, hf24_0⟩ := Kd.R_celln 0 HO132.out ((ji21) : Int) p24 q24; replace p24 := eq_true p24; replace q24 := eq_true q24; obtain ⟨hy45_, hz45_⟩ := Kd.R_celln 0 HO132.out ((ji21) : Int) (odt_) (odt_); have HP45 := Kd.R_putg HO132.out ((ji21) : Int) (wrap64 ((rd y134 (ji21)) + 1))) | ((with_reducible refine gate_store (t := 3) (p := 54) rfl ?_); refine store_event (t := 3) (p := 54) (v := ?vo_w46) (w1 := (w44.setCell ⟨go20, ((ji21) : Int).toNat, none⟩ (.int .i64 (wrap64 ((rd y134 (ji21)) + 1))))) ?hg ?ho ?hn ?hr ?_; (case ho => rfl); (case hg => rfl); (case hn => rfl); (case hr => first | (go_simp; done) | (go_simp; rfl)); intro w46 hw; have hg : w44.grownBy w46 (some go20) := (by rw [hw]; exact HP45.2); have hp_ : Kd.R (Kd.int .i64) 3 w46 w.heap.size (fun _ => True) (.slice (some ⟨go20, 0, none⟩) y130.length co42) y136 := (by rw [hw, Ny136.out]; exact HP45.1); clear HP45; have n0_ := Aside0.mk (hp_); have n1_ := Aside0.mk ((by rw [hw]; exact below_set (HB.out) GB20.out : Below w.heap.size w w46)); clear HO132; clear HB; have HO132 := n0_; have HB := n1_; clear n0_ n1_; clear hg hw hp_) | ((with_reducible refine gate_callee (f := 36) rfl ?_); refine goesL_ (some 56) rfl rfl Try.func36 (by kernel_rfl) rfl #[.slice (some ⟨go20, 0, none⟩) y136.length co42] rfl (by (try simp only [List.map_toArray, List.map_cons, List.map_nil]); first | done | (rw [show y136.length = y130.length from (Kd.R_reads' HO132.out).1.symm] <;> rfl) | rfl | (simp only [List.length_drop, List.length_take]; rfl)) ?_; (with_reducible refine (spec_duNumber.calls kj2 _ _ y136 false _ ?side1 ?side2 A25.out).mono ?_); (case side1 => repeat (first | exact (Kd.R_reads' HO132.out).2.2 | (with_reducible refine Kd.C_alloc ?_ _) | (with_reducible refine Kd.C_drewN ?_ _) | (with_reducible refine Kd.C_drew ?_))); (case side2 => rw [show y136.length = y130.length from (Kd.R_reads' HO132.out).1.symm]; exact (Kd.R_reads' HO132.out).2.1); rintro e w' ⟨rfl, ⟨nd, rfl⟩⟩; refine ⟨_, rfl, ?_⟩))
                            go_ret2
                            exact ⟨_, by first | rfl | (simp [errW_none, errW_some] <;> rfl) | (simp only [← hji17, ← hji21]; first | rfl | (simp [errW_none, errW_some] <;> rfl)) | (simp [*, errW_none, errW_some] <;> rfl), by first | exact Kd.R_nil _ _ _ _ _ | exact Kd.N_nil _ _ _ _ _ | exact Kd.V_nil _ _ _ _ _ | exact Kd.Q_nil _ _ _ _ _ | exact Kd.S_nil _ _ _ _ _, hb_⟩
                        · rw [if_neg c23] at H
                          exact absurd H (by simp)
                      · rw [if_neg c22] at H
                        exact absurd H (by simp)
                    · rw [if_neg c19] at H
                      exact absurd H (by simp)
                  · rw [if_neg c18] at H
                    exact absurd H (by simp)
              · rw [if_neg c15] at H
                exact absurd H (by simp)
            · rw [if_neg c12] at H
              exact absurd H (by simp)
          · rw [if_neg c10] at H
            exact absurd H (by simp)
        · rw [if_neg c9] at H
          exact absurd H (by simp)

/-! ### impl_within: function 42 -/
def impl_within.f (a0 : Int) (a1 : Int) (a2 : Int) : Option (Bool) := if a0 ≥ a1 then (some (decide (a0 ≤ a2))) else (some false)
set_option maxHeartbeats 8000000 in
set_option maxRecDepth 100000 in
theorem impl_within.calls (a0 : Int) (a1 : Int) (a2 : Int) (r : Bool) (w : World) (h : impl_within.f a0 a1 a2 = some r) :
    Calls Try.prog 42 #[.int .i64 a0, .int .i64 a1, .int .i64 a2] w fun e w' => e = .returned (.bool r) ∧ Drawn0 w w' := by
  have H : (if a0 ≥ a1 then (some (decide (a0 ≤ a2))) else (some false)) = some r := h
  clear h
  by_cases c4 : a0 ≥ a1
  · rw [if_pos c4] at H
    have c4b0 : decide (a1 ≤ a0) = true := decide_eq_true c4
    clear c4
    obtain rfl := Option.some.inj H
    go_enter Try.func42, Try.ntmps42
    go_wp2
    go_ret
    exact ⟨by first | rfl | (simp; done) | (simp [*]; done), by repeat (first | exact Drawn0.refl _ | apply Drawn0.step)⟩
  · rw [if_neg c4] at H
    have c4b0 : decide (a1 ≤ a0) = false := decide_eq_false c4
    clear c4
    obtain rfl := Option.some.inj H
    go_enter Try.func42, Try.ntmps42
    go_wp2
    go_ret
    exact ⟨by first | rfl | (simp; done) | (simp [*]; done), by repeat (first | exact Drawn0.refl _ | apply Drawn0.step)⟩

/-! ### impl_areNumbers_1: function 56 -/
def impl_areNumbers_1.f (a0 : Int) : Option (Bool) := (impl_within.f a0 (-6) 2).bind fun t138 => (some (!t138))
set_option maxHeartbeats 8000000 in
set_option maxRecDepth 100000 in
theorem impl_areNumbers_1.calls (a0 : Int) (r : Bool) (w : World) (h : impl_areNumbers_1.f a0 = some r) :
    Calls Try.prog 56 #[.int .i64 a0] w fun e w' => e = .returned (.bool r) ∧ Drawn0 w w' := by
  have H : ((impl_within.f a0 (-6) 2).bind fun t138 => (some (!t138))) = some r := h
  clear h
  replace H := Option.bind_eq_some_iff.mp H
  obtain ⟨t138, A20, H⟩ := H
  replace H : (some (!t138)) = some r := H
  have A2 := Aside0.mk A20
  clear A20
  obtain rfl := Option.some.inj H
  go_enter Try.func56, Try.ntmps56
  go_wp2_with (first | ((with_reducible refine gate_callee (f := 42) rfl ?_); refine goesL_ (some 4) rfl rfl Try.func42 (by kernel_rfl) rfl #[.int .i64 a0, .int .i64 (-6), .int .i64 2] rfl ga_ ?_; (with_reducible refine (impl_within.calls a0 (-6) 2 t138 _ A2.out).mono ?_); rintro e w' ⟨rfl, ⟨nd, rfl⟩⟩; refine ⟨_, rfl, ?_⟩))
  go_ret
  exact ⟨by first | rfl | (simp; done) | (simp [*]; done), by repeat (first | exact Drawn0.refl _ | apply Drawn0.step)⟩

end Go.Proofs.Ytbejebfjeggbnaa.MP
