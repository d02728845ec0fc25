/- The law FnBoardsCounted, walked: it answers true where its calls answer as HeadF and TailF tell. No condition beyond those typed. -/
import Derived.Test.YtmenfomcikfnmaaMBx0
import Derived.Test.YtmenfomcikfnmaaMBx2
import Derived.Test.YtmenfomcikfnmaaMBx6
import Derived.Test.YtmenfomcikfnmaaMBx7
import Derived.Test.YtmenfomcikfnmaaMBx8
import Derived.Test.YtmenfomcikfnmaaMBx9
import Derived.Test.YtmenfomcikfnmaaMBx11
import Derived.Test.YtmenfomcikfnmaaMBx13
import Derived.Test.YtmenfomcikfnmaaMBx14
import Derived.Test.YtmenfomcikfnmaaMBx18
import Derived.Test.YtmenfomcikfnmaaHBa
namespace Go.Proofs.Ytmenfomcikfnmaa.MB
open Go.RowKit Go.Proofs.YtmenfomcikfnmaaW.PrintWords Go.Proofs.YtmenfomcikfnmaaW.PrintLast Go.Proofs.YtmenfomcikfnmaaW.PrintMore Go.Proofs.YtmenfomcikfnmaaV
attribute [local go_sem] max2_int min2_int max_two min_two max_three min_three max_four min_four   -- for this text's walks alone
set_option linter.unusedVariables false
set_option linter.unusedSimpArgs false

/-- What the calls at the law's head answer. -/
structure HeadF (k : Nat) (l0 : List Int) (x y x7 x11 x15 x19 x23 x27 : Int) (o : Bool) : Prop where
  A5 : spec_DrawCountTriangles.f l0 = some (x, y)
  A6 : impl_CountTriangles.f k x y = some (x7, o)
  A7 : spec_CountTriangles.f k x y = some (x7, o)
  A8 : impl_CountInLine.f k x y = some (x11, o)
  A9 : spec_CountInLine.f k x y = some (x11, o)
  A10 : impl_CountSlopes.f k x y = some (x15, o)
  A11 : spec_CountSlopes.f k x y = some (x15, o)
  A12 : impl_CountStraight.f k x y = some (x19, o)
  A13 : spec_CountStraight.f k x y = some (x19, o)
  A14 : impl_CountOnLongest.f k x y = some (x23, o)
  A15 : spec_CountOnLongest.f k x y = some (x23, o)
  A16 : impl_GreatestTriangle.f x y = some (x27, o)
  A17 : spec_GreatestTriangle.f x y = some (x27, o)
/-- What the law asks of a board: the pairs' sums (ps), and the rest. -/
structure OkF (k : Nat) (x y x7 x11 x15 x19 x23 x27 : Int) (ps : Nat → Int) : Prop where
  ps1 : ps 1 = 0
  step : ∀ s : Nat, 1 ≤ s → s ≤ 12 → ∃ v, impl_CountPairs.f k x y (s : Int) = some (v, true) ∧ wrap64 (ps s + v) = ps (s + 1)
  turned : impl_CountStraight.f k y x = some (x19, true)
  c1 : ps 13 = wrap64 (Int.tdiv (wrap64 ((wrap64 (x * y)) * (wrap64 ((wrap64 (x * y)) - 1)))) 2)
  c2 : wrap64 (x7 + x11) = wrap64 (Int.tdiv (wrap64 ((wrap64 ((wrap64 (x * y)) * (wrap64 ((wrap64 (x * y)) - 1)))) * (wrap64 ((wrap64 (x * y)) - 2)))) 6)
  c3 : ¬ x19 < x15
  c4 : ¬ x19 > ps 13
  c5 : ¬ x23 > x19
  c6 : x27 = wrap64 ((wrap64 (x - 1)) * (wrap64 (y - 1)))
/-- What the law asks of a small board: the areas' sums (as_). -/
structure SmallF (k : Nat) (x y x7 x11 x27 : Int) (g : Nat) (as_ : Nat → Int) : Prop where
  gx : x27 = (g : Int)
  gs : g ≤ 1000
  as1 : as_ 1 = 0
  step : ∀ s : Nat, 1 ≤ s → s ≤ g → ∃ v, impl_CountOfArea.f k x y (s : Int) = some (v, true) ∧ wrap64 (as_ s + v) = as_ (s + 1) ∧ (s = g → ¬ v < 1)
  last : as_ (g + 1) = x7
  none : impl_CountOfArea.f k x y 0 = some (x11, true)
set_option maxHeartbeats 32000000 in
set_option maxRecDepth 100000 in
theorem boards_head {k : Nat} {l0 l1 : List Int} {x y x7 x11 x15 x19 x23 x27 : Int} {o : Bool} (F : HeadF k l0 x y x7 x11 x15 x19 x23 x27 o) (hbig : laws_big.f l0 l1 = some false)
  (ok : o = true → ∃ ps, OkF k x y x7 x11 x15 x19 x23 x27 ps) (small : o = true → x ≤ 5 → y ≤ 5 → ∃ g as_, SmallF k x y x7 x11 x27 g as_)
  {a b t v1 : Int} {o1 : Bool} {c d s v2 : Int} {o2 : Bool} {e_ f px py v3 : Int} {o3 : Bool} (G : TailF k l1 a b t v1 o1 c d s v2 o2 e_ f px py v3 o3)
  {A0 : Option Addr} {c0 : Nat} {A1 : Option Addr} {c1 : Nat} {w : World} (hr0 : Kd.C (Kd.int .u8) w A0 l0.length l0) (hc0 : l0.length ≤ c0) (hr1 : Kd.C (Kd.int .u8) w A1 l1.length l1) (hc1 : l1.length ≤ c1) :
  Calls Try.prog 4 #[.slice A0 l0.length c0, .slice A1 l1.length c1] w fun e w' => e = .returned (.bool true) ∧ Below w.heap.size w w' := by
 have hu36 := Try.underlying36
 have HR0 := Aside0.mk hr0
 have HC0 := Aside0.mk hc0
 have HR1 := Aside0.mk hr1
 have HC1 := Aside0.mk hc1
 clear hr0 hc0 hr1 hc1
 have HBIG := Aside0.mk hbig
 have F := Aside0.mk F
 have G := Aside0.mk G
 have ok := Aside0.mk ok
 have small := Aside0.mk small
 clear hbig
 have HB := Aside0.mk (Below.refl w.heap.size w)
 go_enter Try.func4, Try.ntmps4
 go_upto_region 18 with (first | ((with_reducible refine gate_callee (f := 5) rfl ?_); refine goesL_ (some 69) rfl rfl Try.func5 (by kernel_rfl) rfl #[.slice A0 l0.length c0, .slice A1 l1.length c1] rfl ga_ ?_; (with_reducible refine (laws_big.calls _ _ l0 _ _ l1 false _ ?side1 ?side2 ?side3 ?side4 HBIG.out).mono ?_); (case side1 => repeat (first | exact HR0.out | (with_reducible refine Kd.C_alloc ?_ _) | (with_reducible refine Kd.C_drewN ?_ _) | (with_reducible refine Kd.C_drew ?_))); (case side2 => exact HC0.out); (case side3 => repeat (first | exact HR1.out | (with_reducible refine Kd.C_alloc ?_ _) | (with_reducible refine Kd.C_drewN ?_ _) | (with_reducible refine Kd.C_drew ?_))); (case side4 => exact HC1.out); rintro e w' ⟨rfl, ⟨nd, rfl⟩⟩; refine ⟨_, rfl, ?_⟩) | ((with_reducible refine gate_callee (f := 27) rfl ?_); refine goesL_ (some 72) rfl rfl Try.func27 (by kernel_rfl) rfl #[.slice A0 l0.length c0] rfl ga_ ?_; (with_reducible refine (spec_DrawCountTriangles.calls _ _ l0 x y _ ?side1 ?side2 F.out.A5).mono ?_); (case side1 => repeat (first | exact HR0.out | (with_reducible refine Kd.C_alloc ?_ _) | (with_reducible refine Kd.C_drewN ?_ _) | (with_reducible refine Kd.C_drew ?_))); (case side2 => exact HC0.out); rintro e w19 ⟨rfl, hb⟩; refine ⟨_, rfl, ?_⟩; have n0_ := Aside0.mk (below_step (hb_) hb); clear HB; have HB := n0_; clear n0_; (try clear hb)) | ((with_reducible refine gate_callee (f := 13) rfl ?_); refine goesL_ (some 78) rfl rfl Try.func13 (by kernel_rfl) rfl #[.int .i64 x, .int .i64 y] rfl ga_ ?_; (with_reducible refine (impl_CountTriangles.calls k x y x7 o _ F.out.A6).mono ?_); rintro e w20 ⟨rfl, hb⟩; refine ⟨_, rfl, ?_⟩; have n0_ := Aside0.mk (below_step (hb_) hb); clear HB; have HB := n0_; clear n0_; (try clear hb)) | ((with_reducible refine gate_callee (f := 28) rfl ?_); refine goesL_ (some 84) rfl rfl Try.func28 (by kernel_rfl) rfl #[.int .i64 x, .int .i64 y] rfl ga_ ?_; (with_reducible refine (spec_CountTriangles.calls k x y x7 o _ F.out.A7).mono ?_); rintro e w' ⟨rfl, ⟨nd, rfl⟩⟩; refine ⟨_, rfl, ?_⟩; (try (rw [drewN_self w20]; generalize hq_ : World.drewN w20 _ = w20; have n0_ : Aside0 (Below w.heap.size w w20) := ⟨by rw [← hq_]; exact (hb_)⟩; clear HB hq_; have HB := n0_; clear n0_))) | ((with_reducible refine gate_callee (f := 29) rfl ?_); refine goesL_ (some 90) rfl rfl Try.func29 (by kernel_rfl) rfl #[.int .i64 x, .int .i64 y] rfl ga_ ?_; (with_reducible refine (impl_CountInLine.calls k x y x11 o _ F.out.A8).mono ?_); rintro e w21 ⟨rfl, hb⟩; refine ⟨_, rfl, ?_⟩; have n0_ := Aside0.mk (below_step (hb_) hb); clear HB; have HB := n0_; clear n0_; (try clear hb)) | ((with_reducible refine gate_callee (f := 30) rfl ?_); refine goesL_ (some 96) rfl rfl Try.func30 (by kernel_rfl) rfl #[.int .i64 x, .int .i64 y] rfl ga_ ?_; (with_reducible refine (spec_CountInLine.calls k x y x11 o _ F.out.A9).mono ?_); rintro e w' ⟨rfl, ⟨nd, rfl⟩⟩; refine ⟨_, rfl, ?_⟩; (try (rw [drewN_self w21]; generalize hq_ : World.drewN w21 _ = w21; have n0_ : Aside0 (Below w.heap.size w w21) := ⟨by rw [← hq_]; exact (hb_)⟩; clear HB hq_; have HB := n0_; clear n0_))) | ((with_reducible refine gate_callee (f := 31) rfl ?_); refine goesL_ (some 102) rfl rfl Try.func31 (by kernel_rfl) rfl #[.int .i64 x, .int .i64 y] rfl ga_ ?_; (with_reducible refine (impl_CountSlopes.calls k x y x15 o _ F.out.A10).mono ?_); rintro e w22 ⟨rfl, hb⟩; refine ⟨_, rfl, ?_⟩; have n0_ := Aside0.mk (below_step (hb_) hb); clear HB; have HB := n0_; clear n0_; (try clear hb)) | ((with_reducible refine gate_callee (f := 32) rfl ?_); refine goesL_ (some 108) rfl rfl Try.func32 (by kernel_rfl) rfl #[.int .i64 x, .int .i64 y] rfl ga_ ?_; (with_reducible refine (spec_CountSlopes.calls k x y x15 o _ F.out.A11).mono ?_); rintro e w' ⟨rfl, ⟨nd, rfl⟩⟩; refine ⟨_, rfl, ?_⟩; (try (rw [drewN_self w22]; generalize hq_ : World.drewN w22 _ = w22; have n0_ : Aside0 (Below w.heap.size w w22) := ⟨by rw [← hq_]; exact (hb_)⟩; clear HB hq_; have HB := n0_; clear n0_))) | ((with_reducible refine gate_callee (f := 33) rfl ?_); refine goesL_ (some 114) rfl rfl Try.func33 (by kernel_rfl) rfl #[.int .i64 x, .int .i64 y] rfl ga_ ?_; (with_reducible refine (impl_CountStraight.calls k x y x19 o _ F.out.A12).mono ?_); rintro e w23 ⟨rfl, hb⟩; refine ⟨_, rfl, ?_⟩; have n0_ := Aside0.mk (below_step (hb_) hb); clear HB; have HB := n0_; clear n0_; (try clear hb)) | ((with_reducible refine gate_callee (f := 34) rfl ?_); refine goesL_ (some 120) rfl rfl Try.func34 (by kernel_rfl) rfl #[.int .i64 x, .int .i64 y] rfl ga_ ?_; (with_reducible refine (spec_CountStraight.calls k x y x19 o _ F.out.A13).mono ?_); rintro e w' ⟨rfl, ⟨nd, rfl⟩⟩; refine ⟨_, rfl, ?_⟩; (try (rw [drewN_self w23]; generalize hq_ : World.drewN w23 _ = w23; have n0_ : Aside0 (Below w.heap.size w w23) := ⟨by rw [← hq_]; exact (hb_)⟩; clear HB hq_; have HB := n0_; clear n0_))) | ((with_reducible refine gate_callee (f := 35) rfl ?_); refine goesL_ (some 126) rfl rfl Try.func35 (by kernel_rfl) rfl #[.int .i64 x, .int .i64 y] rfl ga_ ?_; (with_reducible refine (impl_CountOnLongest.calls k x y x23 o _ F.out.A14).mono ?_); rintro e w24 ⟨rfl, hb⟩; refine ⟨_, rfl, ?_⟩; have n0_ := Aside0.mk (below_step (hb_) hb); clear HB; have HB := n0_; clear n0_; (try clear hb)) | ((with_reducible refine gate_callee (f := 36) rfl ?_); refine goesL_ (some 132) rfl rfl Try.func36 (by kernel_rfl) rfl #[.int .i64 x, .int .i64 y] rfl ga_ ?_; (with_reducible refine (spec_CountOnLongest.calls k x y x23 o _ F.out.A15).mono ?_); rintro e w' ⟨rfl, ⟨nd, rfl⟩⟩; refine ⟨_, rfl, ?_⟩; (try (rw [drewN_self w24]; generalize hq_ : World.drewN w24 _ = w24; have n0_ : Aside0 (Below w.heap.size w w24) := ⟨by rw [← hq_]; exact (hb_)⟩; clear HB hq_; have HB := n0_; clear n0_))) | ((with_reducible refine gate_callee (f := 37) rfl ?_); refine goesL_ (some 138) rfl rfl Try.func37 (by kernel_rfl) rfl #[.int .i64 x, .int .i64 y] rfl ga_ ?_; (with_reducible refine (impl_GreatestTriangle.calls x y x27 o _ F.out.A16).mono ?_); rintro e w' ⟨rfl, ⟨nd, rfl⟩⟩; refine ⟨_, rfl, ?_⟩; (try (rw [drewN_self w24]; generalize hq_ : World.drewN w24 _ = w24; have n0_ : Aside0 (Below w.heap.size w w24) := ⟨by rw [← hq_]; exact (hb_)⟩; clear HB hq_; have HB := n0_; clear n0_))) | ((with_reducible refine gate_callee (f := 38) rfl ?_); refine goesL_ (some 144) rfl rfl Try.func38 (by kernel_rfl) rfl #[.int .i64 x, .int .i64 y] rfl ga_ ?_; (with_reducible refine (spec_GreatestTriangle.calls x y x27 o _ F.out.A17).mono ?_); rintro e w' ⟨rfl, ⟨nd, rfl⟩⟩; refine ⟨_, rfl, ?_⟩; (try (rw [drewN_self w24]; generalize hq_ : World.drewN w24 _ = w24; have n0_ : Aside0 (Below w.heap.size w w24) := ⟨by rw [← hq_]; exact (hb_)⟩; clear HB hq_; have HB := n0_; clear n0_))))
 go_upto_if 230 with (fail)
 cases o with
 | false =>
  go_upto_region 43 with (fail)
  exact boards_tail G.out HR1 HC1 ⟨hb_⟩ rfl rfl (by assumption)
 | true =>
  obtain ⟨ps, O⟩ := ok.out rfl
  have O := Aside0.mk O
  have hps1 := O.out.ps1
  go_wp2
  go_loopg [32, 33] 12 (fun kq v32 v33 w' => ∃ s_ : Nat, s_ + kq = 13 ∧ 1 ≤ s_ ∧ v32 = .int .i64 (ps s_) ∧ v33 = .int .i64 (s_ : Int) ∧ Aside0 (Below w.heap.size w w'))
  case atStart => exact ⟨1, rfl, Nat.le_refl _, by rw [hps1], rfl, ⟨hb_⟩⟩
  case round =>
   obtain ⟨s_, hs1, hs2, rfl, rfl, HB⟩ := hrel
   cases gk with
   | succ k2 =>
    obtain ⟨v, A45, hsum⟩ := O.out.step s_ hs2 (by omega)
    have A45 := Aside0.mk A45
    have c44b0 : decide ((s_ : Int) ≤ 12) = true := decide_eq_true (by omega)
    go_wp2_with (first | ((with_reducible refine gate_callee (f := 39) rfl ?_); refine goesL_ (some 242) rfl rfl Try.func39 (by kernel_rfl) rfl #[.int .i64 x, .int .i64 y, .int .i64 ((s_ : Int))] rfl ga_ ?_; (with_reducible refine (impl_CountPairs.calls k x y (s_ : Int) v true _ A45.out).mono ?_); rintro e w47 ⟨rfl, hb⟩; refine ⟨_, rfl, ?_⟩; have n0_ := Aside0.mk (below_step (hb_) hb); clear HB; have HB := n0_; clear n0_; (try clear hb)))
    go_roundg k2
    case measure => omega
    case rel => exact ⟨s_ + 1, by omega, by omega, by rw [← hsum], by first | rfl | (simp only [wrap64]; congr 1; omega) | (have := c65.out; congr 1; omega), ⟨hb_⟩⟩
   | zero =>
    obtain rfl : s_ = 13 := by omega
    clear hs1 hs2
    have c44b0 : decide (((13 : Nat) : Int) ≤ 12) = false := by decide
    have A48 := Aside0.mk O.out.turned
    have c51b1 : (ps 13 != wrap64 (Int.tdiv (wrap64 ((wrap64 (x * y)) * (wrap64 ((wrap64 (x * y)) - 1)))) 2)) = false := bne_eq_false_iff_eq.mpr O.out.c1
    have c52b1 : (wrap64 (x7 + x11) != wrap64 (Int.tdiv (wrap64 ((wrap64 ((wrap64 (x * y)) * (wrap64 ((wrap64 (x * y)) - 1)))) * (wrap64 ((wrap64 (x * y)) - 2)))) 6)) = false := bne_eq_false_iff_eq.mpr O.out.c2
    have c53b0 : decide (x19 < x15) = false := decide_eq_false O.out.c3
    have c54b0 : decide (ps 13 < x19) = false := decide_eq_false O.out.c4
    have c55b0 : decide (x19 < x23) = false := decide_eq_false O.out.c5
    have c56b1 : (x27 != wrap64 ((wrap64 (x - 1)) * (wrap64 (y - 1)))) = false := bne_eq_false_iff_eq.mpr O.out.c6
    clear O
    go_upto_region 31 with (first | ((with_reducible refine gate_callee (f := 33) rfl ?_); refine goesL_ (some 253) rfl rfl Try.func33 (by kernel_rfl) rfl #[.int .i64 y, .int .i64 x] rfl ga_ ?_; (with_reducible refine (impl_CountStraight.calls k y x x19 true _ A48.out).mono ?_); rintro e w50 ⟨rfl, hb⟩; refine ⟨_, rfl, ?_⟩; have n0_ := Aside0.mk (below_step (hb_) hb); clear HB; have HB := n0_; clear n0_; (try clear hb)))
    clear c51b1 c52b1 c53b0 c54b0 c55b0 c56b1 c44b0
    by_cases c60 : x ≤ 5
    ·have c60b0 : decide (x ≤ 5) = true := decide_eq_true c60
     by_cases c61 : y ≤ 5
     ·have c61b0 : decide (y ≤ 5) = true := decide_eq_true c61
      obtain ⟨g, as_, M⟩ := small.out (by first | rfl | trivial) c60 c61
      have hg := M.gx
      subst hg
      have M := Aside0.mk M
      have has1 := M.out.as1
      clear c60 c61
      go_wp2
      go_loopg [38, 39] g (fun kq v38 v39 w' => ∃ s_ : Nat, s_ + kq = g + 1 ∧ 1 ≤ s_ ∧ v38 = .int .i64 (as_ s_) ∧ v39 = .int .i64 (s_ : Int) ∧ Aside0 (Below w.heap.size w w'))
      case atStart => exact ⟨1, by omega, Nat.le_refl _, by rw [has1], rfl, ⟨hb_⟩⟩
      case round =>
       obtain ⟨s_, hs1, hs2, rfl, rfl, HB⟩ := hrel
       have hgs := M.out.gs
       cases gk with
       | succ k2 =>
        obtain ⟨v, A63, hsum, hlast⟩ := M.out.step s_ hs2 (by omega)
        have A63 := Aside0.mk A63
        have c62b0 : decide ((s_ : Int) ≤ (g : Int)) = true := decide_eq_true (by omega)
        by_cases c65 : (s_ : Int) = (g : Int)
        ·have c65b0 : ((s_ : Int) == (g : Int)) = true := beq_iff_eq.mpr c65
         have c66b0 : decide (v < 1) = false := decide_eq_false (hlast (by omega))
         have c65 := Aside0.mk c65
         clear hlast
         go_wp2_with (first | ((with_reducible refine gate_callee (f := 40) rfl ?_); refine goesL_ (some 325) rfl rfl Try.func40 (by kernel_rfl) rfl #[.int .i64 x, .int .i64 y, .int .i64 ((s_ : Int))] rfl ga_ ?_; (with_reducible refine (impl_CountOfArea.calls k x y (s_ : Int) v true _ A63.out).mono ?_); rintro e w67 ⟨rfl, hb⟩; refine ⟨_, rfl, ?_⟩; have n0_ := Aside0.mk (below_step (hb_) hb); clear HB; have HB := n0_; clear n0_; (try clear hb)))
         go_roundg k2
         case measure => omega
         case rel => exact ⟨s_ + 1, by omega, by omega, by rw [← hsum], by first | rfl | (simp only [wrap64]; congr 1; omega) | (have := c65.out; congr 1; omega), ⟨hb_⟩⟩
        ·have c65b0 : ((s_ : Int) == (g : Int)) = false := beq_eq_false_iff_ne.mpr c65
         have c65 := Aside0.mk c65
         clear hlast
         go_wp2_with (first | ((with_reducible refine gate_callee (f := 40) rfl ?_); refine goesL_ (some 325) rfl rfl Try.func40 (by kernel_rfl) rfl #[.int .i64 x, .int .i64 y, .int .i64 ((s_ : Int))] rfl ga_ ?_; (with_reducible refine (impl_CountOfArea.calls k x y (s_ : Int) v true _ A63.out).mono ?_); rintro e w67 ⟨rfl, hb⟩; refine ⟨_, rfl, ?_⟩; have n0_ := Aside0.mk (below_step (hb_) hb); clear HB; have HB := n0_; clear n0_; (try clear hb)))
         go_roundg k2
         case measure => omega
         case rel => exact ⟨s_ + 1, by omega, by omega, by rw [← hsum], by first | rfl | (simp only [wrap64]; congr 1; omega) | (have := c65.out; congr 1; omega), ⟨hb_⟩⟩
       | zero =>
        obtain rfl : s_ = g + 1 := by omega
        have c62b0 : decide (((g + 1 : Nat) : Int) ≤ (g : Int)) = false := decide_eq_false (by omega)
        have hl := M.out.last
        have A69 := Aside0.mk M.out.none
        go_upto_region 43 with (first | ((with_reducible refine gate_callee (f := 40) rfl ?_); refine goesL_ (some 345) rfl rfl Try.func40 (by kernel_rfl) rfl #[.int .i64 x, .int .i64 y, .int .i64 0] rfl ga_ ?_; (with_reducible refine (impl_CountOfArea.calls k x y 0 x11 true _ A69.out).mono ?_); rintro e w73 ⟨rfl, hb⟩; refine ⟨_, rfl, ?_⟩; have n0_ := Aside0.mk (below_step (hb_) hb); clear HB; have HB := n0_; clear n0_; (try clear hb)))
        exact boards_tail G.out HR1 HC1 ⟨hb_⟩ rfl rfl (by assumption)
     ·have c61b0 : decide (y ≤ 5) = false := decide_eq_false c61
      clear c60 c61
      go_upto_region 43 with (fail)
      exact boards_tail G.out HR1 HC1 ⟨hb_⟩ rfl rfl (by assumption)
    ·have c60b0 : decide (x ≤ 5) = false := decide_eq_false c60
     clear c60
     go_upto_region 43 with (fail)
     exact boards_tail G.out HR1 HC1 ⟨hb_⟩ rfl rfl (by assumption)
set_option maxHeartbeats 8000000 in
set_option maxRecDepth 100000 in
theorem boards_big {l0 l1 : List Int} (hbig : laws_big.f l0 l1 = some true) {A0 : Option Addr} {c0 : Nat} {A1 : Option Addr} {c1 : Nat} {w : World} (hr0 : Kd.C (Kd.int .u8) w A0 l0.length l0) (hc0 : l0.length ≤ c0) (hr1 : Kd.C (Kd.int .u8) w A1 l1.length l1) (hc1 : l1.length ≤ c1) :
  Calls Try.prog 4 #[.slice A0 l0.length c0, .slice A1 l1.length c1] w fun e w' => e = .returned (.bool true) ∧ Below w.heap.size w w' := by
 have HR0 := Aside0.mk hr0
 have HC0 := Aside0.mk hc0
 have HR1 := Aside0.mk hr1
 have HC1 := Aside0.mk hc1
 clear hr0 hc0 hr1 hc1
 have HBIG := Aside0.mk hbig
 clear hbig
 have HB := Aside0.mk (Below.refl w.heap.size w)
 go_enter Try.func4, Try.ntmps4
 go_wp2_with (first | ((with_reducible refine gate_callee (f := 5) rfl ?_); refine goesL_ (some 69) rfl rfl Try.func5 (by kernel_rfl) rfl #[.slice A0 l0.length c0, .slice A1 l1.length c1] rfl ga_ ?_; (with_reducible refine (laws_big.calls _ _ l0 _ _ l1 true _ ?side1 ?side2 ?side3 ?side4 HBIG.out).mono ?_); (case side1 => repeat (first | exact HR0.out | (with_reducible refine Kd.C_alloc ?_ _) | (with_reducible refine Kd.C_drewN ?_ _) | (with_reducible refine Kd.C_drew ?_))); (case side2 => exact HC0.out); (case side3 => repeat (first | exact HR1.out | (with_reducible refine Kd.C_alloc ?_ _) | (with_reducible refine Kd.C_drewN ?_ _) | (with_reducible refine Kd.C_drew ?_))); (case side4 => exact HC1.out); rintro e w' ⟨rfl, ⟨nd, rfl⟩⟩; refine ⟨_, rfl, ?_⟩))
 go_ret
 exact ⟨by first | rfl | (simp; done), hb_⟩
end Go.Proofs.Ytmenfomcikfnmaa.MB
