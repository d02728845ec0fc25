-- Written by a program of this session (wip/print/myprint.py) over the kit's printer; Lean checks it.
import Derived.Test.YtogafcjfaicpgaaMCx0
import Derived.Test.YtogafcjfaicpgaaMCx6
import Derived.Test.YtogafcjfaicpgaaMCx14
import Derived.Test.YtogafcjfaicpgaaMCx15
import Derived.Test.YtogafcjfaicpgaaMCx16
import Derived.Test.YtogafcjfaicpgaaMCx17
import Derived.Test.YtogafcjfaicpgaaMCx19
namespace Go.Proofs.Ytogafcjfaicpgaa.MC
open Go.RowKit Go.Proofs.YtogafcjfaicpgaaW.PrintWords Go.Proofs.YtogafcjfaicpgaaW.PrintLast Go.Proofs.YtogafcjfaicpgaaW.PrintMore Go.Proofs.YtogafcjfaicpgaaV
attribute [local go_sem] max2_int min2_int max_two min_two max_three min_three max_four min_four   -- for this text's walks alone
set_option linter.unusedVariables false
set_option linter.unusedSimpArgs false

/-! ### laws_FnSixteenAround: function 5 -/
mutual
def laws_FnSixteenAround.j0 : Nat → List Int → Int → List (List Int) → Bool → Int → Bool → Option (Bool)
  | 0, _, _, _, _, _, _ => none
  | k + 1, x1, x5, x6, x7, x10, x93 => if x93 = true then (some false) else (if x7 = true then (if (x6.length : Int) = x10 then (laws_FnSixteenAround.l0 k x1 x5 x6 x10 x6 (x6.length : Int) 0) else (some false)) else (laws_FnSixteenAround.j3 k x1))
def laws_FnSixteenAround.j3 : Nat → List Int → Option (Bool)
  | 0, _ => none
  | k + 1, x1 => (spec_DrawLeastNumbers.f k x1).bind fun t354 => ((impl_LeastNumbers.f k t354).bind fun bt357 => ((spec_LeastNumbers.f k t354).bind fun bt361 => (if (bt357.2 != bt361.2) = true then (laws_FnSixteenAround.j4 k t354 bt357.1 bt357.2 true) else ((laws_eSame.f k bt357.1 bt361.1).bind fun t365 => (laws_FnSixteenAround.j4 k t354 bt357.1 bt357.2 (!t365))))))
def laws_FnSixteenAround.j4 : Nat → List Int → List Int → Bool → Bool → Option (Bool)
  | 0, _, _, _, _ => none
  | k + 1, x24, x25, x26, x218 => if x218 = true then (some false) else (if x26 = true then ((impl_AreAround.f k x24).bind fun bt366 => ((impl_AreAround.f k x25).bind fun bt368 => ((impl_LeastNumbers.f k x25).bind fun bt370 => (if bt366.2 = true then (if bt368.2 = true then (if (bt366.1 != bt368.1) = true then (laws_FnSixteenAround.j5 k x24 x25 (x24.length : Int) bt366.1 true) else (if bt370.2 = true then ((laws_eSame.f k bt370.1 x25).bind fun t374 => (if t374 = true then ((laws_eSum.f k x25).bind fun t375 => ((laws_eSum.f k x24).bind fun t376 => (if t375 = t376 then ((laws_eBefore.f k x24 x25).bind fun t377 => (laws_FnSixteenAround.j5 k x24 x25 (x24.length : Int) bt366.1 t377)) else (laws_FnSixteenAround.j5 k x24 x25 (x24.length : Int) bt366.1 true)))) else (laws_FnSixteenAround.j5 k x24 x25 (x24.length : Int) bt366.1 true))) else (laws_FnSixteenAround.j5 k x24 x25 (x24.length : Int) bt366.1 true))) else (laws_FnSixteenAround.j5 k x24 x25 (x24.length : Int) bt366.1 true)) else (laws_FnSixteenAround.j5 k x24 x25 (x24.length : Int) bt366.1 true))))) else (some true))
def laws_FnSixteenAround.j5 : Nat → List Int → List Int → Int → Bool → Bool → Option (Bool)
  | 0, _, _, _, _, _ => none
  | k + 1, x24, x25, x29, x30, x269 => if x269 = true then (some false) else (laws_FnSixteenAround.l2 k x24 x25 x29 x30 0)
def laws_FnSixteenAround.l2 : Nat → List Int → List Int → Int → Bool → Int → Option (Bool)
  | 0, _, _, _, _, _ => none
  | k + 1, x24, x25, x29, x30, x36 => if x36 < x29 then ((some (([] : List Int) : List Int)).bind fun y378 => (if 0 ≤ x36 then (if x36 ≤ (x24.length : Int) then ((some (x24.drop (x36 : Int).toNat : List Int)).bind fun y381 => (if y378.length + y381.length < 17592186044416 then ((some (y378 ++ y381 : List Int)).bind fun y385 => ((some (x24.take (x36 : Int).toNat : List Int)).bind fun y388 => (if y385.length + y388.length < 17592186044416 then ((impl_LeastNumbers.f k (y385 ++ y388)).bind fun bt395 => (if bt395.2 = true then ((laws_eSame.f k bt395.1 x25).bind fun t399 => (if t399 = true then (laws_FnSixteenAround.l2 k x24 x25 x29 x30 (wrap64 (x36 + 1))) else (some false))) else (some false))) else (none)))) else (none))) else (none)) else (none))) else (if x30 = true then ((impl_AllAround.f k x29).bind fun bt400 => (laws_FnSixteenAround.l3 k x25 bt400.2 false bt400.1 (bt400.1.length : Int) 0)) else (some true))
def laws_FnSixteenAround.l3 : Nat → List Int → Bool → Bool → List (List Int) → Int → Int → Option (Bool)
  | 0, _, _, _, _, _, _ => none
  | k + 1, x25, x41, x42, x303, x304, x305 => if x305 < x304 then (if 0 ≤ x305 then (if x305 < (x303.length : Int) then (if x42 = true then (laws_FnSixteenAround.l3 k x25 x41 true x303 x304 (wrap64 (x305 + 1))) else ((laws_eSame.f k (rd_L2 x303 x305) x25).bind fun t405 => (laws_FnSixteenAround.l3 k x25 x41 t405 x303 x304 (wrap64 (x305 + 1))))) else (none)) else (none)) else (if x41 = true then (if x42 = true then (some true) else (some false)) else (some false))
def laws_FnSixteenAround.l0 : Nat → List Int → Int → List (List Int) → Int → List (List Int) → Int → Int → Option (Bool)
  | 0, _, _, _, _, _, _, _ => none
  | k + 1, x1, x5, x6, x10, x99, x100, x101 => if x101 < x100 then (if 0 ≤ x101 then (if x101 < (x99.length : Int) then ((impl_AreAround.f k (rd_L2 x99 x101)).bind fun bt342 => ((impl_LeastNumbers.f k (rd_L2 x99 x101)).bind fun bt344 => (if ((rd_L2 x99 x101).length : Int) = x5 then (if bt342.2 = true then (if bt342.1 = true then (if bt344.2 = true then ((laws_eSame.f k bt344.1 (rd_L2 x99 x101)).bind fun t348 => (if t348 = true then ((laws_eSum.f k (rd_L2 x99 x101)).bind fun t349 => (if t349 = (wrap64 ((wrap64 (3 * x5)) - 12)) then (if x101 > 0 then (if 0 ≤ (wrap64 (x101 - 1)) then (if (wrap64 (x101 - 1)) < (x6.length : Int) then ((laws_eBefore.f k (rd_L2 x6 (wrap64 (x101 - 1))) (rd_L2 x99 x101)).bind fun t351 => (if t351 = true then (laws_FnSixteenAround.l0 k x1 x5 x6 x10 x99 x100 (wrap64 (x101 + 1))) else (some false))) else (none)) else (none)) else (laws_FnSixteenAround.l0 k x1 x5 x6 x10 x99 x100 (wrap64 (x101 + 1)))) else (some false))) else (some false))) else (some false)) else (some false)) else (some false)) else (some false)))) else (none)) else (none)) else (laws_FnSixteenAround.l1 k x1 x5 x10 0 3)
def laws_FnSixteenAround.l1 : Nat → List Int → Int → Int → Int → Int → Option (Bool)
  | 0, _, _, _, _, _ => none
  | k + 1, x1, x5, x10, x20, x21 => if x21 ≤ 9 then ((impl_CountAround.f k x21).bind fun bt352 => (if bt352.2 = true then (if x21 = x5 then (if bt352.1 = x10 then (if x21 = (wrap64 (12 - x5)) then (laws_FnSixteenAround.l1 k x1 x5 x10 (wrap64 (x20 + bt352.1)) (wrap64 (x21 + 1))) else (laws_FnSixteenAround.l1 k x1 x5 x10 (wrap64 (x20 + bt352.1)) (wrap64 (x21 + 1)))) else (some false)) else (if x21 = (wrap64 (12 - x5)) then (if bt352.1 = x10 then (laws_FnSixteenAround.l1 k x1 x5 x10 (wrap64 (x20 + bt352.1)) (wrap64 (x21 + 1))) else (some false)) else (laws_FnSixteenAround.l1 k x1 x5 x10 (wrap64 (x20 + bt352.1)) (wrap64 (x21 + 1))))) else (some false))) else (if x20 = 16 then (laws_FnSixteenAround.j3 k x1) else (some false))
end
def laws_FnSixteenAround.f (k : Nat) (l0 : List Int) (l1 : List Int) : Option (Bool) := (laws_big.f l0 l1).bind fun t326 => (if t326 = true then (some true) else ((spec_DrawAllAround.f l0).bind fun t327 => ((impl_AllAround.f k t327).bind fun bt328 => ((spec_AllAround.f k t327).bind fun bt332 => ((impl_CountAround.f k t327).bind fun bt336 => ((spec_CountAround.f k t327).bind fun bt338 => (if (bt328.2 != bt332.2) = true then (laws_FnSixteenAround.j0 k l1 t327 bt328.1 bt328.2 bt336.1 true) else ((laws_eRows.f k bt328.1 bt332.1).bind fun t340 => (if t340 = true then (if (bt336.2 != bt338.2) = true then (laws_FnSixteenAround.j0 k l1 t327 bt328.1 bt328.2 bt336.1 true) else (if bt336.1 = bt338.1 then (laws_FnSixteenAround.j0 k l1 t327 bt328.1 bt328.2 bt336.1 (bt336.2 != bt328.2)) else (laws_FnSixteenAround.j0 k l1 t327 bt328.1 bt328.2 bt336.1 true))) else (laws_FnSixteenAround.j0 k l1 t327 bt328.1 bt328.2 bt336.1 true))))))))))
theorem laws_FnSixteenAround.mono_l : ∀ k, (∀ y0 y1 y2 y3 y4 y5, LeO (laws_FnSixteenAround.j0 k y0 y1 y2 y3 y4 y5) (laws_FnSixteenAround.j0 (k + 1) y0 y1 y2 y3 y4 y5)) ∧ (∀ y0, LeO (laws_FnSixteenAround.j3 k y0) (laws_FnSixteenAround.j3 (k + 1) y0)) ∧ (∀ y0 y1 y2 y3, LeO (laws_FnSixteenAround.j4 k y0 y1 y2 y3) (laws_FnSixteenAround.j4 (k + 1) y0 y1 y2 y3)) ∧ (∀ y0 y1 y2 y3 y4, LeO (laws_FnSixteenAround.j5 k y0 y1 y2 y3 y4) (laws_FnSixteenAround.j5 (k + 1) y0 y1 y2 y3 y4)) ∧ (∀ y0 y1 y2 y3 y4, LeO (laws_FnSixteenAround.l2 k y0 y1 y2 y3 y4) (laws_FnSixteenAround.l2 (k + 1) y0 y1 y2 y3 y4)) ∧ (∀ y0 y1 y2 y3 y4 y5, LeO (laws_FnSixteenAround.l3 k y0 y1 y2 y3 y4 y5) (laws_FnSixteenAround.l3 (k + 1) y0 y1 y2 y3 y4 y5)) ∧ (∀ y0 y1 y2 y3 y4 y5 y6, LeO (laws_FnSixteenAround.l0 k y0 y1 y2 y3 y4 y5 y6) (laws_FnSixteenAround.l0 (k + 1) y0 y1 y2 y3 y4 y5 y6)) ∧ (∀ y0 y1 y2 y3 y4, LeO (laws_FnSixteenAround.l1 k y0 y1 y2 y3 y4) (laws_FnSixteenAround.l1 (k + 1) y0 y1 y2 y3 y4))
  | 0 => ⟨fun _ _ _ _ _ _ r h => by simp [laws_FnSixteenAround.j0] at h, fun _ r h => by simp [laws_FnSixteenAround.j3] at h, fun _ _ _ _ r h => by simp [laws_FnSixteenAround.j4] at h, fun _ _ _ _ _ r h => by simp [laws_FnSixteenAround.j5] at h, fun _ _ _ _ _ r h => by simp [laws_FnSixteenAround.l2] at h, fun _ _ _ _ _ _ r h => by simp [laws_FnSixteenAround.l3] at h, fun _ _ _ _ _ _ _ r h => by simp [laws_FnSixteenAround.l0] at h, fun _ _ _ _ _ r h => by simp [laws_FnSixteenAround.l1] at h⟩
  | k + 1 => by
    obtain ⟨ih0, ih1, ih2, ih3, ih4, ih5, ih6, ih7⟩ := laws_FnSixteenAround.mono_l k
    refine ⟨?_, ?_, ?_, ?_, ?_, ?_, ?_, ?_⟩
    · intro y0 y1 y2 y3 y4 y5
      unfold laws_FnSixteenAround.j0
      repeat' first
      | (with_reducible exact ih0 _ _ _ _ _ _)
      | (with_reducible exact ih1 _)
      | (with_reducible exact ih2 _ _ _ _)
      | (with_reducible exact ih3 _ _ _ _ _)
      | (with_reducible exact ih4 _ _ _ _ _)
      | (with_reducible exact ih5 _ _ _ _ _ _)
      | (with_reducible exact ih6 _ _ _ _ _ _ _)
      | (with_reducible exact ih7 _ _ _ _ _)
      | (with_reducible exact impl_AllAround.mono _ _)
      | (with_reducible exact impl_AreAround.mono _ _)
      | (with_reducible exact impl_CountAround.mono _ _)
      | (with_reducible exact impl_LeastNumbers.mono _ _)
      | (with_reducible exact laws_eBefore.mono _ _ _)
      | (with_reducible exact laws_eRows.mono _ _ _)
      | (with_reducible exact laws_eSame.mono _ _ _)
      | (with_reducible exact laws_eSum.mono _ _)
      | (with_reducible exact spec_AllAround.mono _ _)
      | (with_reducible exact spec_CountAround.mono _ _)
      | (with_reducible exact spec_DrawLeastNumbers.mono _ _)
      | (with_reducible exact spec_LeastNumbers.mono _ _)
      | (with_reducible exact LeO.refl _)
      | (with_reducible exact LeO.none _)
      | (with_reducible refine LeO.ite ?_ ?_)
      | (with_reducible refine LeO.bind ?_ (fun _ => ?_))
      | exact ih0 _ _ _ _ _ _
      | exact ih1 _
      | exact ih2 _ _ _ _
      | exact ih3 _ _ _ _ _
      | exact ih4 _ _ _ _ _
      | exact ih5 _ _ _ _ _ _
      | exact ih6 _ _ _ _ _ _ _
      | exact ih7 _ _ _ _ _
      | exact impl_AllAround.mono _ _
      | exact impl_AreAround.mono _ _
      | exact impl_CountAround.mono _ _
      | exact impl_LeastNumbers.mono _ _
      | exact laws_eBefore.mono _ _ _
      | exact laws_eRows.mono _ _ _
      | exact laws_eSame.mono _ _ _
      | exact laws_eSum.mono _ _
      | exact spec_AllAround.mono _ _
      | exact spec_CountAround.mono _ _
      | exact spec_DrawLeastNumbers.mono _ _
      | exact spec_LeastNumbers.mono _ _
      | exact LeO.none _
      | refine LeO.ite ?_ ?_
      | refine LeO.bind ?_ (fun _ => ?_)
    · intro y0
      unfold laws_FnSixteenAround.j3
      repeat' first
      | (with_reducible exact ih0 _ _ _ _ _ _)
      | (with_reducible exact ih1 _)
      | (with_reducible exact ih2 _ _ _ _)
      | (with_reducible exact ih3 _ _ _ _ _)
      | (with_reducible exact ih4 _ _ _ _ _)
      | (with_reducible exact ih5 _ _ _ _ _ _)
      | (with_reducible exact ih6 _ _ _ _ _ _ _)
      | (with_reducible exact ih7 _ _ _ _ _)
      | (with_reducible exact impl_AllAround.mono _ _)
      | (with_reducible exact impl_AreAround.mono _ _)
      | (with_reducible exact impl_CountAround.mono _ _)
      | (with_reducible exact impl_LeastNumbers.mono _ _)
      | (with_reducible exact laws_eBefore.mono _ _ _)
      | (with_reducible exact laws_eRows.mono _ _ _)
      | (with_reducible exact laws_eSame.mono _ _ _)
      | (with_reducible exact laws_eSum.mono _ _)
      | (with_reducible exact spec_AllAround.mono _ _)
      | (with_reducible exact spec_CountAround.mono _ _)
      | (with_reducible exact spec_DrawLeastNumbers.mono _ _)
      | (with_reducible exact spec_LeastNumbers.mono _ _)
      | (with_reducible exact LeO.refl _)
      | (with_reducible exact LeO.none _)
      | (with_reducible refine LeO.ite ?_ ?_)
      | (with_reducible refine LeO.bind ?_ (fun _ => ?_))
      | exact ih0 _ _ _ _ _ _
      | exact ih1 _
      | exact ih2 _ _ _ _
      | exact ih3 _ _ _ _ _
      | exact ih4 _ _ _ _ _
      | exact ih5 _ _ _ _ _ _
      | exact ih6 _ _ _ _ _ _ _
      | exact ih7 _ _ _ _ _
      | exact impl_AllAround.mono _ _
      | exact impl_AreAround.mono _ _
      | exact impl_CountAround.mono _ _
      | exact impl_LeastNumbers.mono _ _
      | exact laws_eBefore.mono _ _ _
      | exact laws_eRows.mono _ _ _
      | exact laws_eSame.mono _ _ _
      | exact laws_eSum.mono _ _
      | exact spec_AllAround.mono _ _
      | exact spec_CountAround.mono _ _
      | exact spec_DrawLeastNumbers.mono _ _
      | exact spec_LeastNumbers.mono _ _
      | exact LeO.none _
      | refine LeO.ite ?_ ?_
      | refine LeO.bind ?_ (fun _ => ?_)
    · intro y0 y1 y2 y3
      unfold laws_FnSixteenAround.j4
      repeat' first
      | (with_reducible exact ih0 _ _ _ _ _ _)
      | (with_reducible exact ih1 _)
      | (with_reducible exact ih2 _ _ _ _)
      | (with_reducible exact ih3 _ _ _ _ _)
      | (with_reducible exact ih4 _ _ _ _ _)
      | (with_reducible exact ih5 _ _ _ _ _ _)
      | (with_reducible exact ih6 _ _ _ _ _ _ _)
      | (with_reducible exact ih7 _ _ _ _ _)
      | (with_reducible exact impl_AllAround.mono _ _)
      | (with_reducible exact impl_AreAround.mono _ _)
      | (with_reducible exact impl_CountAround.mono _ _)
      | (with_reducible exact impl_LeastNumbers.mono _ _)
      | (with_reducible exact laws_eBefore.mono _ _ _)
      | (with_reducible exact laws_eRows.mono _ _ _)
      | (with_reducible exact laws_eSame.mono _ _ _)
      | (with_reducible exact laws_eSum.mono _ _)
      | (with_reducible exact spec_AllAround.mono _ _)
      | (with_reducible exact spec_CountAround.mono _ _)
      | (with_reducible exact spec_DrawLeastNumbers.mono _ _)
      | (with_reducible exact spec_LeastNumbers.mono _ _)
      | (with_reducible exact LeO.refl _)
      | (with_reducible exact LeO.none _)
      | (with_reducible refine LeO.ite ?_ ?_)
      | (with_reducible refine LeO.bind ?_ (fun _ => ?_))
      | exact ih0 _ _ _ _ _ _
      | exact ih1 _
      | exact ih2 _ _ _ _
      | exact ih3 _ _ _ _ _
      | exact ih4 _ _ _ _ _
      | exact ih5 _ _ _ _ _ _
      | exact ih6 _ _ _ _ _ _ _
      | exact ih7 _ _ _ _ _
      | exact impl_AllAround.mono _ _
      | exact impl_AreAround.mono _ _
      | exact impl_CountAround.mono _ _
      | exact impl_LeastNumbers.mono _ _
      | exact laws_eBefore.mono _ _ _
      | exact laws_eRows.mono _ _ _
      | exact laws_eSame.mono _ _ _
      | exact laws_eSum.mono _ _
      | exact spec_AllAround.mono _ _
      | exact spec_CountAround.mono _ _
      | exact spec_DrawLeastNumbers.mono _ _
      | exact spec_LeastNumbers.mono _ _
      | exact LeO.none _
      | refine LeO.ite ?_ ?_
      | refine LeO.bind ?_ (fun _ => ?_)
    · intro y0 y1 y2 y3 y4
      unfold laws_FnSixteenAround.j5
      repeat' first
      | (with_reducible exact ih0 _ _ _ _ _ _)
      | (with_reducible exact ih1 _)
      | (with_reducible exact ih2 _ _ _ _)
      | (with_reducible exact ih3 _ _ _ _ _)
      | (with_reducible exact ih4 _ _ _ _ _)
      | (with_reducible exact ih5 _ _ _ _ _ _)
      | (with_reducible exact ih6 _ _ _ _ _ _ _)
      | (with_reducible exact ih7 _ _ _ _ _)
      | (with_reducible exact impl_AllAround.mono _ _)
      | (with_reducible exact impl_AreAround.mono _ _)
      | (with_reducible exact impl_CountAround.mono _ _)
      | (with_reducible exact impl_LeastNumbers.mono _ _)
      | (with_reducible exact laws_eBefore.mono _ _ _)
      | (with_reducible exact laws_eRows.mono _ _ _)
      | (with_reducible exact laws_eSame.mono _ _ _)
      | (with_reducible exact laws_eSum.mono _ _)
      | (with_reducible exact spec_AllAround.mono _ _)
      | (with_reducible exact spec_CountAround.mono _ _)
      | (with_reducible exact spec_DrawLeastNumbers.mono _ _)
      | (with_reducible exact spec_LeastNumbers.mono _ _)
      | (with_reducible exact LeO.refl _)
      | (with_reducible exact LeO.none _)
      | (with_reducible refine LeO.ite ?_ ?_)
      | (with_reducible refine LeO.bind ?_ (fun _ => ?_))
      | exact ih0 _ _ _ _ _ _
      | exact ih1 _
      | exact ih2 _ _ _ _
      | exact ih3 _ _ _ _ _
      | exact ih4 _ _ _ _ _
      | exact ih5 _ _ _ _ _ _
      | exact ih6 _ _ _ _ _ _ _
      | exact ih7 _ _ _ _ _
      | exact impl_AllAround.mono _ _
      | exact impl_AreAround.mono _ _
      | exact impl_CountAround.mono _ _
      | exact impl_LeastNumbers.mono _ _
      | exact laws_eBefore.mono _ _ _
      | exact laws_eRows.mono _ _ _
      | exact laws_eSame.mono _ _ _
      | exact laws_eSum.mono _ _
      | exact spec_AllAround.mono _ _
      | exact spec_CountAround.mono _ _
      | exact spec_DrawLeastNumbers.mono _ _
      | exact spec_LeastNumbers.mono _ _
      | exact LeO.none _
      | refine LeO.ite ?_ ?_
      | refine LeO.bind ?_ (fun _ => ?_)
    · intro y0 y1 y2 y3 y4
      unfold laws_FnSixteenAround.l2
      repeat' first
      | (with_reducible exact ih0 _ _ _ _ _ _)
      | (with_reducible exact ih1 _)
      | (with_reducible exact ih2 _ _ _ _)
      | (with_reducible exact ih3 _ _ _ _ _)
      | (with_reducible exact ih4 _ _ _ _ _)
      | (with_reducible exact ih5 _ _ _ _ _ _)
      | (with_reducible exact ih6 _ _ _ _ _ _ _)
      | (with_reducible exact ih7 _ _ _ _ _)
      | (with_reducible exact impl_AllAround.mono _ _)
      | (with_reducible exact impl_AreAround.mono _ _)
      | (with_reducible exact impl_CountAround.mono _ _)
      | (with_reducible exact impl_LeastNumbers.mono _ _)
      | (with_reducible exact laws_eBefore.mono _ _ _)
      | (with_reducible exact laws_eRows.mono _ _ _)
      | (with_reducible exact laws_eSame.mono _ _ _)
      | (with_reducible exact laws_eSum.mono _ _)
      | (with_reducible exact spec_AllAround.mono _ _)
      | (with_reducible exact spec_CountAround.mono _ _)
      | (with_reducible exact spec_DrawLeastNumbers.mono _ _)
      | (with_reducible exact spec_LeastNumbers.mono _ _)
      | (with_reducible exact LeO.refl _)
      | (with_reducible exact LeO.none _)
      | (with_reducible refine LeO.ite ?_ ?_)
      | (with_reducible refine LeO.bind ?_ (fun _ => ?_))
      | exact ih0 _ _ _ _ _ _
      | exact ih1 _
      | exact ih2 _ _ _ _
      | exact ih3 _ _ _ _ _
      | exact ih4 _ _ _ _ _
      | exact ih5 _ _ _ _ _ _
      | exact ih6 _ _ _ _ _ _ _
      | exact ih7 _ _ _ _ _
      | exact impl_AllAround.mono _ _
      | exact impl_AreAround.mono _ _
      | exact impl_CountAround.mono _ _
      | exact impl_LeastNumbers.mono _ _
      | exact laws_eBefore.mono _ _ _
      | exact laws_eRows.mono _ _ _
      | exact laws_eSame.mono _ _ _
      | exact laws_eSum.mono _ _
      | exact spec_AllAround.mono _ _
      | exact spec_CountAround.mono _ _
      | exact spec_DrawLeastNumbers.mono _ _
      | exact spec_LeastNumbers.mono _ _
      | exact LeO.none _
      | refine LeO.ite ?_ ?_
      | refine LeO.bind ?_ (fun _ => ?_)
    · intro y0 y1 y2 y3 y4 y5
      unfold laws_FnSixteenAround.l3
      repeat' first
      | (with_reducible exact ih0 _ _ _ _ _ _)
      | (with_reducible exact ih1 _)
      | (with_reducible exact ih2 _ _ _ _)
      | (with_reducible exact ih3 _ _ _ _ _)
      | (with_reducible exact ih4 _ _ _ _ _)
      | (with_reducible exact ih5 _ _ _ _ _ _)
      | (with_reducible exact ih6 _ _ _ _ _ _ _)
      | (with_reducible exact ih7 _ _ _ _ _)
      | (with_reducible exact impl_AllAround.mono _ _)
      | (with_reducible exact impl_AreAround.mono _ _)
      | (with_reducible exact impl_CountAround.mono _ _)
      | (with_reducible exact impl_LeastNumbers.mono _ _)
      | (with_reducible exact laws_eBefore.mono _ _ _)
      | (with_reducible exact laws_eRows.mono _ _ _)
      | (with_reducible exact laws_eSame.mono _ _ _)
      | (with_reducible exact laws_eSum.mono _ _)
      | (with_reducible exact spec_AllAround.mono _ _)
      | (with_reducible exact spec_CountAround.mono _ _)
      | (with_reducible exact spec_DrawLeastNumbers.mono _ _)
      | (with_reducible exact spec_LeastNumbers.mono _ _)
      | (with_reducible exact LeO.refl _)
      | (with_reducible exact LeO.none _)
      | (with_reducible refine LeO.ite ?_ ?_)
      | (with_reducible refine LeO.bind ?_ (fun _ => ?_))
      | exact ih0 _ _ _ _ _ _
      | exact ih1 _
      | exact ih2 _ _ _ _
      | exact ih3 _ _ _ _ _
      | exact ih4 _ _ _ _ _
      | exact ih5 _ _ _ _ _ _
      | exact ih6 _ _ _ _ _ _ _
      | exact ih7 _ _ _ _ _
      | exact impl_AllAround.mono _ _
      | exact impl_AreAround.mono _ _
      | exact impl_CountAround.mono _ _
      | exact impl_LeastNumbers.mono _ _
      | exact laws_eBefore.mono _ _ _
      | exact laws_eRows.mono _ _ _
      | exact laws_eSame.mono _ _ _
      | exact laws_eSum.mono _ _
      | exact spec_AllAround.mono _ _
      | exact spec_CountAround.mono _ _
      | exact spec_DrawLeastNumbers.mono _ _
      | exact spec_LeastNumbers.mono _ _
      | exact LeO.none _
      | refine LeO.ite ?_ ?_
      | refine LeO.bind ?_ (fun _ => ?_)
    · intro y0 y1 y2 y3 y4 y5 y6
      unfold laws_FnSixteenAround.l0
      repeat' first
      | (with_reducible exact ih0 _ _ _ _ _ _)
      | (with_reducible exact ih1 _)
      | (with_reducible exact ih2 _ _ _ _)
      | (with_reducible exact ih3 _ _ _ _ _)
      | (with_reducible exact ih4 _ _ _ _ _)
      | (with_reducible exact ih5 _ _ _ _ _ _)
      | (with_reducible exact ih6 _ _ _ _ _ _ _)
      | (with_reducible exact ih7 _ _ _ _ _)
      | (with_reducible exact impl_AllAround.mono _ _)
      | (with_reducible exact impl_AreAround.mono _ _)
      | (with_reducible exact impl_CountAround.mono _ _)
      | (with_reducible exact impl_LeastNumbers.mono _ _)
      | (with_reducible exact laws_eBefore.mono _ _ _)
      | (with_reducible exact laws_eRows.mono _ _ _)
      | (with_reducible exact laws_eSame.mono _ _ _)
      | (with_reducible exact laws_eSum.mono _ _)
      | (with_reducible exact spec_AllAround.mono _ _)
      | (with_reducible exact spec_CountAround.mono _ _)
      | (with_reducible exact spec_DrawLeastNumbers.mono _ _)
      | (with_reducible exact spec_LeastNumbers.mono _ _)
      | (with_reducible exact LeO.refl _)
      | (with_reducible exact LeO.none _)
      | (with_reducible refine LeO.ite ?_ ?_)
      | (with_reducible refine LeO.bind ?_ (fun _ => ?_))
      | exact ih0 _ _ _ _ _ _
      | exact ih1 _
      | exact ih2 _ _ _ _
      | exact ih3 _ _ _ _ _
      | exact ih4 _ _ _ _ _
      | exact ih5 _ _ _ _ _ _
      | exact ih6 _ _ _ _ _ _ _
      | exact ih7 _ _ _ _ _
      | exact impl_AllAround.mono _ _
      | exact impl_AreAround.mono _ _
      | exact impl_CountAround.mono _ _
      | exact impl_LeastNumbers.mono _ _
      | exact laws_eBefore.mono _ _ _
      | exact laws_eRows.mono _ _ _
      | exact laws_eSame.mono _ _ _
      | exact laws_eSum.mono _ _
      | exact spec_AllAround.mono _ _
      | exact spec_CountAround.mono _ _
      | exact spec_DrawLeastNumbers.mono _ _
      | exact spec_LeastNumbers.mono _ _
      | exact LeO.none _
      | refine LeO.ite ?_ ?_
      | refine LeO.bind ?_ (fun _ => ?_)
    · intro y0 y1 y2 y3 y4
      unfold laws_FnSixteenAround.l1
      repeat' first
      | (with_reducible exact ih0 _ _ _ _ _ _)
      | (with_reducible exact ih1 _)
      | (with_reducible exact ih2 _ _ _ _)
      | (with_reducible exact ih3 _ _ _ _ _)
      | (with_reducible exact ih4 _ _ _ _ _)
      | (with_reducible exact ih5 _ _ _ _ _ _)
      | (with_reducible exact ih6 _ _ _ _ _ _ _)
      | (with_reducible exact ih7 _ _ _ _ _)
      | (with_reducible exact impl_AllAround.mono _ _)
      | (with_reducible exact impl_AreAround.mono _ _)
      | (with_reducible exact impl_CountAround.mono _ _)
      | (with_reducible exact impl_LeastNumbers.mono _ _)
      | (with_reducible exact laws_eBefore.mono _ _ _)
      | (with_reducible exact laws_eRows.mono _ _ _)
      | (with_reducible exact laws_eSame.mono _ _ _)
      | (with_reducible exact laws_eSum.mono _ _)
      | (with_reducible exact spec_AllAround.mono _ _)
      | (with_reducible exact spec_CountAround.mono _ _)
      | (with_reducible exact spec_DrawLeastNumbers.mono _ _)
      | (with_reducible exact spec_LeastNumbers.mono _ _)
      | (with_reducible exact LeO.refl _)
      | (with_reducible exact LeO.none _)
      | (with_reducible refine LeO.ite ?_ ?_)
      | (with_reducible refine LeO.bind ?_ (fun _ => ?_))
      | exact ih0 _ _ _ _ _ _
      | exact ih1 _
      | exact ih2 _ _ _ _
      | exact ih3 _ _ _ _ _
      | exact ih4 _ _ _ _ _
      | exact ih5 _ _ _ _ _ _
      | exact ih6 _ _ _ _ _ _ _
      | exact ih7 _ _ _ _ _
      | exact impl_AllAround.mono _ _
      | exact impl_AreAround.mono _ _
      | exact impl_CountAround.mono _ _
      | exact impl_LeastNumbers.mono _ _
      | exact laws_eBefore.mono _ _ _
      | exact laws_eRows.mono _ _ _
      | exact laws_eSame.mono _ _ _
      | exact laws_eSum.mono _ _
      | exact spec_AllAround.mono _ _
      | exact spec_CountAround.mono _ _
      | exact spec_DrawLeastNumbers.mono _ _
      | exact spec_LeastNumbers.mono _ _
      | exact LeO.none _
      | refine LeO.ite ?_ ?_
      | refine LeO.bind ?_ (fun _ => ?_)
theorem laws_FnSixteenAround.mono : ∀ a0 a1 k, LeO (laws_FnSixteenAround.f k a0 a1) (laws_FnSixteenAround.f (k + 1) a0 a1) := by
  intro a0 a1 k
  obtain ⟨ih0, ih1, ih2, ih3, ih4, ih5, ih6, ih7⟩ := laws_FnSixteenAround.mono_l k
  unfold laws_FnSixteenAround.f
  repeat' first
      | (with_reducible exact ih0 _ _ _ _ _ _)
      | (with_reducible exact ih1 _)
      | (with_reducible exact ih2 _ _ _ _)
      | (with_reducible exact ih3 _ _ _ _ _)
      | (with_reducible exact ih4 _ _ _ _ _)
      | (with_reducible exact ih5 _ _ _ _ _ _)
      | (with_reducible exact ih6 _ _ _ _ _ _ _)
      | (with_reducible exact ih7 _ _ _ _ _)
      | (with_reducible exact impl_AllAround.mono _ _)
      | (with_reducible exact impl_AreAround.mono _ _)
      | (with_reducible exact impl_CountAround.mono _ _)
      | (with_reducible exact impl_LeastNumbers.mono _ _)
      | (with_reducible exact laws_eBefore.mono _ _ _)
      | (with_reducible exact laws_eRows.mono _ _ _)
      | (with_reducible exact laws_eSame.mono _ _ _)
      | (with_reducible exact laws_eSum.mono _ _)
      | (with_reducible exact spec_AllAround.mono _ _)
      | (with_reducible exact spec_CountAround.mono _ _)
      | (with_reducible exact spec_DrawLeastNumbers.mono _ _)
      | (with_reducible exact spec_LeastNumbers.mono _ _)
      | (with_reducible exact LeO.refl _)
      | (with_reducible exact LeO.none _)
      | (with_reducible refine LeO.ite ?_ ?_)
      | (with_reducible refine LeO.bind ?_ (fun _ => ?_))
      | exact ih0 _ _ _ _ _ _
      | exact ih1 _
      | exact ih2 _ _ _ _
      | exact ih3 _ _ _ _ _
      | exact ih4 _ _ _ _ _
      | exact ih5 _ _ _ _ _ _
      | exact ih6 _ _ _ _ _ _ _
      | exact ih7 _ _ _ _ _
      | exact impl_AllAround.mono _ _
      | exact impl_AreAround.mono _ _
      | exact impl_CountAround.mono _ _
      | exact impl_LeastNumbers.mono _ _
      | exact laws_eBefore.mono _ _ _
      | exact laws_eRows.mono _ _ _
      | exact laws_eSame.mono _ _ _
      | exact laws_eSum.mono _ _
      | exact spec_AllAround.mono _ _
      | exact spec_CountAround.mono _ _
      | exact spec_DrawLeastNumbers.mono _ _
      | exact spec_LeastNumbers.mono _ _
      | exact LeO.none _
      | refine LeO.ite ?_ ?_
      | refine LeO.bind ?_ (fun _ => ?_)
def laws_FnSixteenAround.T46 : Bool × List (List Nat × List Nat) := (true, [([], []), ([], []), ([], []), ([1, 2], [1, 2]), ([0, 3], [0, 3]), ([], []), ([], []), ([5, 6], [5, 6]), ([4, 7, 4], [4, 7]), ([8, 8, 0, 1, 2, 3, 4, 5, 6, 7, 8], [8])])
def laws_FnSixteenAround.B46 : List Nat := [0, 0, 0, 6, 15, 0, 0, 96, 255, 511]
theorem laws_FnSixteenAround.tab46 : rtab .any (opsOf Try.f5 46) = laws_FnSixteenAround.T46 := by kernel_rfl
theorem laws_FnSixteenAround.bits46 : waitsOk laws_FnSixteenAround.T46.2 laws_FnSixteenAround.B46 = true := by kernel_rfl
theorem laws_FnSixteenAround.j0_no {k : Nat} {x1 : List Int} {x5 : Int} {x6 : List (List Int)} {x7 : Bool} {x10 : Int} (h : laws_FnSixteenAround.j0 k x1 x5 x6 x7 x10 true = some true) : False := by
  cases k with
  | zero => simp [laws_FnSixteenAround.j0] at h
  | succ k => rw [laws_FnSixteenAround.j0, if_pos rfl] at h; exact absurd (Option.some.inj h) (by decide)
theorem laws_FnSixteenAround.j4_no {k : Nat} {x24 : List Int} {x25 : List Int} {x26 : Bool} (h : laws_FnSixteenAround.j4 k x24 x25 x26 true = some true) : False := by
  cases k with
  | zero => simp [laws_FnSixteenAround.j4] at h
  | succ k => rw [laws_FnSixteenAround.j4, if_pos rfl] at h; exact absurd (Option.some.inj h) (by decide)
theorem laws_FnSixteenAround.j5_no {k : Nat} {x24 : List Int} {x25 : List Int} {x29 : Int} {x30 : Bool} (h : laws_FnSixteenAround.j5 k x24 x25 x29 x30 true = some true) : False := by
  cases k with
  | zero => simp [laws_FnSixteenAround.j5] at h
  | succ k => rw [laws_FnSixteenAround.j5, if_pos rfl] at h; exact absurd (Option.some.inj h) (by decide)
def fstC : Code → Code | .seq a _ => a | c => c
def sndC : Code → Code | .seq _ b => b | c => c
def thenC : Code → Code | .cond _ a _ => a | c => c
def bodyC (f : Func) : Code := f.body.getD .skip
end Go.Proofs.Ytogafcjfaicpgaa.MC
