-- Written by a program of this session (wip/print/myprint.py) over the kit's printer; Lean checks it.
import Derived.Test.YtogafcjfaicpgaaMCx0
import Derived.Test.YtogafcjfaicpgaaMCx1
import Derived.Test.YtogafcjfaicpgaaMCx4
namespace Go.Proofs.Ytogafcjfaicpgaa.MC
open Go.RowKit Go.Proofs.YtogafcjfaicpgaaW.PrintWords Go.Proofs.YtogafcjfaicpgaaW.PrintLast Go.Proofs.YtogafcjfaicpgaaW.PrintMore Go.Proofs.YtogafcjfaicpgaaV
attribute [local go_sem] max2_int min2_int max_two min_two max_three min_three max_four min_four   -- for this text's walks alone
set_option linter.unusedVariables false
set_option linter.unusedSimpArgs false

attribute [local go_sem high] eqA63
/-! ### spec_duSum: function 57 -/
def spec_duSum.l0 : Nat → Int → List Int → Int → Int → Option (Int)
  | 0, _, _, _, _ => none
  | k + 1, x3, x6, x7, x8 => if x8 < x7 then (if 0 ≤ x8 then (if x8 < (x6.length : Int) then (spec_duSum.l0 k (wrap64 (x3 + (rd x6 x8))) x6 x7 (wrap64 (x8 + 1))) else (none)) else (none)) else (some x3)
def spec_duSum.f (k : Nat) (l0 : List Int) : Option (Int) := spec_duSum.l0 k 0 l0 (l0.length : Int) 0
theorem spec_duSum.mono_l : ∀ k, (∀ y0 y1 y2 y3, LeO (spec_duSum.l0 k y0 y1 y2 y3) (spec_duSum.l0 (k + 1) y0 y1 y2 y3))
  | 0 => fun _ _ _ _ r h => by simp [spec_duSum.l0] at h
  | k + 1 => by
    have ih0 := spec_duSum.mono_l k
    · intro y0 y1 y2 y3
      unfold spec_duSum.l0
      repeat' first
      | (with_reducible exact ih0 _ _ _ _)
      | (with_reducible exact LeO.refl _)
      | (with_reducible exact LeO.none _)
      | (with_reducible refine LeO.ite ?_ ?_)
      | (with_reducible refine LeO.bind ?_ (fun _ => ?_))
      | exact ih0 _ _ _ _
      | exact LeO.none _
      | refine LeO.ite ?_ ?_
      | refine LeO.bind ?_ (fun _ => ?_)
theorem spec_duSum.mono : ∀ a0 k, LeO (spec_duSum.f k a0) (spec_duSum.f (k + 1) a0) := by
  intro a0 k
  have ih0 := spec_duSum.mono_l k
  unfold spec_duSum.f
  repeat' first
      | (with_reducible exact ih0 _ _ _ _)
      | (with_reducible exact LeO.refl _)
      | (with_reducible exact LeO.none _)
      | (with_reducible refine LeO.ite ?_ ?_)
      | (with_reducible refine LeO.bind ?_ (fun _ => ?_))
      | exact ih0 _ _ _ _
      | exact LeO.none _
      | refine LeO.ite ?_ ?_
      | refine LeO.bind ?_ (fun _ => ?_)
set_option maxHeartbeats 8000000 in
set_option maxRecDepth 100000 in
theorem spec_duSum.calls (k : Nat) (A0 : Option Addr) (c0 : Nat) (l0 : List Int) (r : Int) (w : World) (hr0 : Kd.C (Kd.int .i64) w A0 l0.length l0) (hc0 : l0.length ≤ c0) (h : spec_duSum.f k l0 = some r) :
    Calls Try.prog 57 #[.slice A0 l0.length c0] w fun e w' => e = .returned (.int .i64 r) ∧ Drawn0 w w' := by
  have HR0 := Aside0.mk hr0
  have HC0 := Aside0.mk hc0
  clear hr0 hc0
  have H : (spec_duSum.l0 k 0 l0 (l0.length : Int) 0) = some r := h
  clear h
  have H' := Aside0.mk H
  clear H
  go_enter Try.func57, Try.ntmps57
  go_wp2
  go_loopg [3, 8] k (fun kq v3 v8 w' => ∃ (x3_1 : Int) (x8_1 : Int), v3 = .int .i64 x3_1 ∧ v8 = .int .i64 x8_1 ∧ Aside0 (spec_duSum.l0 kq x3_1 l0 (l0.length : Int) x8_1 = some r) ∧ Aside0 (kq ≤ k) ∧ Drawn0 w w')
  case atStart => exact ⟨(0), (0), (by first | rfl | (simp; done) | (simp [*]; done)), (by first | rfl | (simp; done) | (simp [*]; done)), H', ⟨Nat.le_refl _⟩, by repeat (first | exact Drawn0.refl _ | apply Drawn0.step)⟩
  case round =>
    clear H'
    obtain ⟨x3_1, x8_1, rfl, rfl, HA, HK1, ⟨m1, rfl⟩⟩ := hrel
    cases gk with
    | zero => exact absurd HA.out (by simp [spec_duSum.l0])
    | succ k1 =>
      have H := HA.out
      clear HA
      simp only [spec_duSum.l0] at H
      by_cases c2 : x8_1 < (l0.length : Int)
      · rw [if_pos c2] at H
        have c2b0 : decide (x8_1 < (l0.length : Int)) = true := decide_eq_true c2
        clear c2
        by_cases c3 : 0 ≤ x8_1
        · rw [if_pos c3] at H
          have c3b0 : decide (0 ≤ x8_1) = true := decide_eq_true c3
          clear c3
          by_cases c4 : x8_1 < (l0.length : Int)
          · rw [if_pos c4] at H
            have c4b0 : decide (x8_1 < (l0.length : Int)) = true := decide_eq_true c4
            clear c4
            have H' := Aside0.mk H
            clear H
            have p138 : 0 ≤ (x8_1 : Int) := odt_
            have q138 : x8_1 < (l0.length : Int) := odt_
            obtain ⟨ad138, e138, hx138_0⟩ := Kd.at_int HR0.out x8_1 p138 q138
            cases e138
            replace p138 := eq_true p138
            replace q138 := eq_true q138
            go_wp2
            go_roundg k1
            case measure => have := HK1.out; omega
            case rel => exact ⟨(wrap64 (x3_1 + (rd l0 x8_1))), (wrap64 (x8_1 + 1)), (by first | rfl | (simp; done) | (simp [*]; done)), (by first | rfl | (simp; done) | (simp [*]; done)), H', ⟨by have := HK1.out; omega⟩, by repeat (first | exact Drawn0.refl _ | apply Drawn0.step)⟩
          · rw [if_neg c4] at H
            exact absurd H (by simp)
        · rw [if_neg c3] at H
          exact absurd H (by simp)
      · rw [if_neg c2] at H
        have c2b0 : decide (x8_1 < (l0.length : Int)) = false := decide_eq_false c2
        clear c2
        obtain rfl := Option.some.inj H
        go_wp2
        go_ret
        exact ⟨by first | rfl | (simp; done) | (simp [*]; done), by repeat (first | exact Drawn0.refl _ | apply Drawn0.step)⟩

/-! ### spec_duIs: function 37 -/
def spec_duIs.f (k : Nat) (l0 : List Int) : Option (Bool) := (spec_duMake.f k l0).bind fun t139 => (if 0 ≤ (l0.length : Int) then (if (l0.length : Int) < (t139.length : Int) then (if 0 < (t139.length : Int) then (if (((rd_T63 t139 (l0.length : Int)).f0) == ((rd_T63 t139 0).f0) && (((rd_T63 t139 (l0.length : Int)).f1) == ((rd_T63 t139 0).f1))) = true then (if 0 ≤ (wrap64 ((l0.length : Int) + 1)) then (if (wrap64 ((l0.length : Int) + 1)) < (t139.length : Int) then (if 1 < (t139.length : Int) then (if (((rd_T63 t139 (wrap64 ((l0.length : Int) + 1))).f0) == ((rd_T63 t139 1).f0) && (((rd_T63 t139 (wrap64 ((l0.length : Int) + 1))).f1) == ((rd_T63 t139 1).f1))) = true then ((spec_duSum.f k l0).bind fun t146 => (some (t146 == (wrap64 ((wrap64 (3 * (l0.length : Int))) - 12))))) else (some false)) else (none)) else (none)) else (none)) else (some false)) else (none)) else (none)) else (none))
theorem spec_duIs.mono : ∀ a0 k, LeO (spec_duIs.f k a0) (spec_duIs.f (k + 1) a0) := by
  intro a0 k
  unfold spec_duIs.f
  repeat' first
      | (with_reducible exact spec_duMake.mono _ _)
      | (with_reducible exact spec_duSum.mono _ _)
      | (with_reducible exact LeO.refl _)
      | (with_reducible exact LeO.none _)
      | (with_reducible refine LeO.ite ?_ ?_)
      | (with_reducible refine LeO.bind ?_ (fun _ => ?_))
      | exact spec_duMake.mono _ _
      | exact spec_duSum.mono _ _
      | exact LeO.none _
      | refine LeO.ite ?_ ?_
      | refine LeO.bind ?_ (fun _ => ?_)
set_option maxHeartbeats 8000000 in
set_option maxRecDepth 100000 in
theorem spec_duIs.calls (k : Nat) (A0 : Option Addr) (c0 : Nat) (l0 : List Int) (r : Bool) (w : World) (hr0 : Kd.C (Kd.int .i64) w A0 l0.length l0) (hc0 : l0.length ≤ c0) (h : spec_duIs.f k l0 = some r) :
    Calls Try.prog 37 #[.slice A0 l0.length c0] w fun e w' => e = .returned (.bool r) ∧ Below w.heap.size w w' := by
  have hu63 := Try.underlying63
  have HR0 := Aside0.mk hr0
  have HC0 := Aside0.mk hc0
  clear hr0 hc0
  have HB := Aside0.mk (Below.refl w.heap.size w)
  have H : ((spec_duMake.f k l0).bind fun t139 => (if 0 ≤ (l0.length : Int) then (if (l0.length : Int) < (t139.length : Int) then (if 0 < (t139.length : Int) then (if (((rd_T63 t139 (l0.length : Int)).f0) == ((rd_T63 t139 0).f0) && (((rd_T63 t139 (l0.length : Int)).f1) == ((rd_T63 t139 0).f1))) = true then (if 0 ≤ (wrap64 ((l0.length : Int) + 1)) then (if (wrap64 ((l0.length : Int) + 1)) < (t139.length : Int) then (if 1 < (t139.length : Int) then (if (((rd_T63 t139 (wrap64 ((l0.length : Int) + 1))).f0) == ((rd_T63 t139 1).f0) && (((rd_T63 t139 (wrap64 ((l0.length : Int) + 1))).f1) == ((rd_T63 t139 1).f1))) = true then ((spec_duSum.f k l0).bind fun t146 => (some (t146 == (wrap64 ((wrap64 (3 * (l0.length : Int))) - 12))))) else (some false)) else (none)) else (none)) else (none)) else (some false)) else (none)) else (none)) else (none))) = some r := h
  clear h
  replace H := Option.bind_eq_some_iff.mp H
  obtain ⟨t139, A20, H⟩ := H
  replace H : (if 0 ≤ (l0.length : Int) then (if (l0.length : Int) < (t139.length : Int) then (if 0 < (t139.length : Int) then (if (((rd_T63 t139 (l0.length : Int)).f0) == ((rd_T63 t139 0).f0) && (((rd_T63 t139 (l0.length : Int)).f1) == ((rd_T63 t139 0).f1))) = true then (if 0 ≤ (wrap64 ((l0.length : Int) + 1)) then (if (wrap64 ((l0.length : Int) + 1)) < (t139.length : Int) then (if 1 < (t139.length : Int) then (if (((rd_T63 t139 (wrap64 ((l0.length : Int) + 1))).f0) == ((rd_T63 t139 1).f0) && (((rd_T63 t139 (wrap64 ((l0.length : Int) + 1))).f1) == ((rd_T63 t139 1).f1))) = true then ((spec_duSum.f k l0).bind fun t146 => (some (t146 == (wrap64 ((wrap64 (3 * (l0.length : Int))) - 12))))) else (some false)) else (none)) else (none)) else (none)) else (some false)) else (none)) else (none)) else (none)) = some r := H
  have A2 := Aside0.mk A20
  clear A20
  by_cases c3 : 0 ≤ (l0.length : Int)
  · rw [if_pos c3] at H
    have c3b0 : decide (0 ≤ (l0.length : Int)) = true := decide_eq_true c3
    have c3b1 : decide (0 ≤ l0.length) = true := decide_eq_true (by omega)
    clear c3
    by_cases c4 : (l0.length : Int) < (t139.length : Int)
    · rw [if_pos c4] at H
      have c4b0 : decide ((l0.length : Int) < (t139.length : Int)) = true := decide_eq_true c4
      have c4b1 : decide (l0.length < t139.length) = true := decide_eq_true (Int.ofNat_lt.mp c4)
      clear c4
      by_cases c5 : 0 < (t139.length : Int)
      · rw [if_pos c5] at H
        have c5b0 : decide (0 < (t139.length : Int)) = true := decide_eq_true c5
        have c5b1 : decide (0 < t139.length) = true := decide_eq_true (by omega)
        clear c5
        by_cases c6 : (((rd_T63 t139 (l0.length : Int)).f0) == ((rd_T63 t139 0).f0) && (((rd_T63 t139 (l0.length : Int)).f1) == ((rd_T63 t139 0).f1))) = true
        · rw [if_pos c6] at H
          have c6b0 : (((rd_T63 t139 (l0.length : Int)).f0) == ((rd_T63 t139 0).f0) && (((rd_T63 t139 (l0.length : Int)).f1) == ((rd_T63 t139 0).f1))) = true := c6
          (try (have c6b1 : decide (((rd_T63 t139 (l0.length : Int)).f0) = ((rd_T63 t139 0).f0) && (((rd_T63 t139 (l0.length : Int)).f1) == ((rd_T63 t139 0).f1))) = true := by simpa using c6))
          (try (have c6b2 : (((rd_T63 t139 (l0.length : Int)).f0) == ((rd_T63 t139 0).f0) && (((rd_T63 t139 (l0.length : Int)).f1) == ((rd_T63 t139 0).f1))) = true := by simpa using c6))
          clear c6
          obtain ⟨ji7, hji7⟩ : ∃ j_ : Int, (wrap64 ((l0.length : Int) + 1)) = j_ := ⟨_, rfl⟩
          replace H : (if 0 ≤ (ji7) then (if (ji7) < (t139.length : Int) then (if 1 < (t139.length : Int) then (if (((rd_T63 t139 (ji7)).f0) == ((rd_T63 t139 1).f0) && (((rd_T63 t139 (ji7)).f1) == ((rd_T63 t139 1).f1))) = true then ((spec_duSum.f k l0).bind fun t146 => (some (t146 == (wrap64 ((wrap64 (3 * (l0.length : Int))) - 12))))) else (some false)) else (none)) else (none)) else (none)) = some r := by first | (rw [hji7] at H; exact H) | (simp only [hji7] at H ⊢; exact H)
          (try rw [hji7] at A2)
          have hji7w : (IntKind.i64.wrap ((l0.length : Int) + 1)) = ji7 := (i64_w _).trans hji7
          by_cases c8 : 0 ≤ (ji7)
          · rw [if_pos c8] at H
            have c8b0 : decide (0 ≤ (ji7)) = true := decide_eq_true c8
            clear c8
            by_cases c9 : (ji7) < (t139.length : Int)
            · rw [if_pos c9] at H
              have c9b0 : decide ((ji7) < (t139.length : Int)) = true := decide_eq_true c9
              clear c9
              by_cases c10 : 1 < (t139.length : Int)
              · rw [if_pos c10] at H
                have c10b0 : decide (1 < (t139.length : Int)) = true := decide_eq_true c10
                have c10b1 : decide (1 < t139.length) = true := decide_eq_true (by omega)
                clear c10
                by_cases c11 : (((rd_T63 t139 (ji7)).f0) == ((rd_T63 t139 1).f0) && (((rd_T63 t139 (ji7)).f1) == ((rd_T63 t139 1).f1))) = true
                · rw [if_pos c11] at H
                  have c11b0 : (((rd_T63 t139 (ji7)).f0) == ((rd_T63 t139 1).f0) && (((rd_T63 t139 (ji7)).f1) == ((rd_T63 t139 1).f1))) = true := c11
                  (try (have c11b1 : decide (((rd_T63 t139 (ji7)).f0) = ((rd_T63 t139 1).f0) && (((rd_T63 t139 (ji7)).f1) == ((rd_T63 t139 1).f1))) = true := by simpa using c11))
                  (try (have c11b2 : (((rd_T63 t139 (ji7)).f0) == ((rd_T63 t139 1).f0) && (((rd_T63 t139 (ji7)).f1) == ((rd_T63 t139 1).f1))) = true := by simpa using c11))
                  clear c11
                  replace H := Option.bind_eq_some_iff.mp H
                  obtain ⟨t146, A120, H⟩ := H
                  replace H : (some (t146 == (wrap64 ((wrap64 (3 * (l0.length : Int))) - 12)))) = some r := H
                  have A12 := Aside0.mk A120
                  clear A120
                  obtain rfl := Option.some.inj H
                  go_enter Try.func37, Try.ntmps37
                  go_wp2_with (first | (go_at_call 56; (with_reducible refine (spec_duMake.calls k _ _ l0 t139 _ ?side1 ?side2 A2.out).mono ?_); (case side1 => repeat (first | exact HR0.out | (with_reducible refine Kd.C_alloc ?_ _) | (with_reducible refine Kd.C_drewN ?_ _) | (with_reducible refine Kd.C_drew ?_))); (case side2 => exact HC0.out); rintro e w13 ⟨v140, rfl, ho0, hb⟩; have n0_ := Aside0.mk (Kd.R_lower ho0 (below_size (hb_))); have n1_ := Aside0.mk (below_step (hb_) hb); clear HB; have HO141 := n0_; have HB := n1_; clear n0_ n1_; (try clear hb); (try clear hb2); (try clear hk); (try clear hi); (try clear ho0); obtain ⟨Ao14, co14, eo14⟩ := Kd.R_slice HO141.out; subst eo14; have p142 : 0 ≤ ((l0.length : Int) : Int) := odt_; have q142 : (l0.length : Int) < (t139.length : Int) := odt_; obtain ⟨ad142, e142, hx142_0, hx142_1⟩ := at_T63 (Kd.R_reads' HO141.out).2.2 (l0.length : Int) p142 q142; cases e142; (try simp only [Go.IntWalk.toNatUp] at hx142_0); (try simp only [Go.IntWalk.toNatUp] at hx142_1); replace p142 := eq_true p142; replace q142 := eq_true q142; have p143 : 0 ≤ (0 : Int) := (by omega); have q143 : 0 < (t139.length : Int) := odt_; obtain ⟨ad143, e143, hx143_0, hx143_1⟩ := at_T63 (Kd.R_reads' HO141.out).2.2 0 p143 q143; obtain rfl : ad142 = ad143 := (by injection e143); have qi143 : (0 < t139.length) = True := eq_true (by omega); (try rw [show ((0 : Int)).toNat = 0 from rfl] at hx143_0); (try rw [show 0 * 2 = 0 from rfl] at hx143_0); (try rw [Addr.add_zero'] at hx143_0); (try rw [show ((0 : Int)).toNat = 0 from rfl] at hx143_1); (try rw [show 0 * 2 = 0 from rfl] at hx143_1); (try rw [Addr.add_zero'] at hx143_1); replace p143 := eq_true p143; replace q143 := eq_true q143; have p144 : 0 ≤ ((ji7) : Int) := odt_; have q144 : (ji7) < (t139.length : Int) := odt_; obtain ⟨ad144, e144, hx144_0, hx144_1⟩ := at_T63 (Kd.R_reads' HO141.out).2.2 (ji7) p144 q144; obtain rfl : ad142 = ad144 := (by injection e144); replace p144 := eq_true p144; replace q144 := eq_true q144; have p145 : 0 ≤ (1 : Int) := (by omega); have q145 : 1 < (t139.length : Int) := odt_; obtain ⟨ad145, e145, hx145_0, hx145_1⟩ := at_T63 (Kd.R_reads' HO141.out).2.2 1 p145 q145; obtain rfl : ad142 = ad145 := (by injection e145); (try simp only [show (1 : Int).toNat = 1 from rfl, Nat.reduceMul, Nat.reduceEqDiff, Go.Addr.add, ↓reduceIte] at hx145_0); (try simp only [show (1 : Int).toNat = 1 from rfl, Nat.reduceMul, Nat.reduceEqDiff, Go.Addr.add, ↓reduceIte] at hx145_1); have qi145 : (1 < t139.length) = True := eq_true (by omega); (try rw [show ((1 : Int)).toNat = 1 from rfl] at hx145_0); (try rw [show 1 * 2 = 2 from rfl] at hx145_0); (try rw [show ((1 : Int)).toNat = 1 from rfl] at hx145_1); (try rw [show 1 * 2 = 2 from rfl] at hx145_1); replace p145 := eq_true p145; replace q145 := eq_true q145) | (go_at_call 57; (with_reducible refine (spec_duSum.calls k _ _ l0 t146 _ ?side1 ?side2 A12.out).mono ?_); (case side1 => repeat (first | exact (Kd.C_below HR0.out HB.out) | (with_reducible refine Kd.C_alloc ?_ _) | (with_reducible refine Kd.C_drewN ?_ _) | (with_reducible refine Kd.C_drew ?_))); (case side2 => exact HC0.out); rintro e w' ⟨rfl, ⟨nd, rfl⟩⟩; (try first | exact ⟨rfl, _, World.drewN_drewN _ _ _⟩ | exact ⟨rfl, _, Eq.trans (World.drewN_drewN _ _ _) (congrArg (World.drewN _) (Nat.add_assoc _ _ _))⟩)))
                  repeat (go_quiet (first | (go_at_call 56; (with_reducible refine (spec_duMake.calls k _ _ l0 t139 _ ?side1 ?side2 A2.out).mono ?_); (case side1 => repeat (first | exact HR0.out | (with_reducible refine Kd.C_alloc ?_ _) | (with_reducible refine Kd.C_drewN ?_ _) | (with_reducible refine Kd.C_drew ?_))); (case side2 => exact HC0.out); rintro e w13 ⟨v140, rfl, ho0, hb⟩; have n0_ := Aside0.mk (Kd.R_lower ho0 (below_size (hb_))); have n1_ := Aside0.mk (below_step (hb_) hb); clear HB; have HO141 := n0_; have HB := n1_; clear n0_ n1_; (try clear hb); (try clear hb2); (try clear hk); (try clear hi); (try clear ho0); obtain ⟨Ao14, co14, eo14⟩ := Kd.R_slice HO141.out; subst eo14; have p142 : 0 ≤ ((l0.length : Int) : Int) := odt_; have q142 : (l0.length : Int) < (t139.length : Int) := odt_; obtain ⟨ad142, e142, hx142_0, hx142_1⟩ := at_T63 (Kd.R_reads' HO141.out).2.2 (l0.length : Int) p142 q142; cases e142; (try simp only [Go.IntWalk.toNatUp] at hx142_0); (try simp only [Go.IntWalk.toNatUp] at hx142_1); replace p142 := eq_true p142; replace q142 := eq_true q142; have p143 : 0 ≤ (0 : Int) := (by omega); have q143 : 0 < (t139.length : Int) := odt_; obtain ⟨ad143, e143, hx143_0, hx143_1⟩ := at_T63 (Kd.R_reads' HO141.out).2.2 0 p143 q143; obtain rfl : ad142 = ad143 := (by injection e143); have qi143 : (0 < t139.length) = True := eq_true (by omega); (try rw [show ((0 : Int)).toNat = 0 from rfl] at hx143_0); (try rw [show 0 * 2 = 0 from rfl] at hx143_0); (try rw [Addr.add_zero'] at hx143_0); (try rw [show ((0 : Int)).toNat = 0 from rfl] at hx143_1); (try rw [show 0 * 2 = 0 from rfl] at hx143_1); (try rw [Addr.add_zero'] at hx143_1); replace p143 := eq_true p143; replace q143 := eq_true q143; have p144 : 0 ≤ ((ji7) : Int) := odt_; have q144 : (ji7) < (t139.length : Int) := odt_; obtain ⟨ad144, e144, hx144_0, hx144_1⟩ := at_T63 (Kd.R_reads' HO141.out).2.2 (ji7) p144 q144; obtain rfl : ad142 = ad144 := (by injection e144); replace p144 := eq_true p144; replace q144 := eq_true q144; have p145 : 0 ≤ (1 : Int) := (by omega); have q145 : 1 < (t139.length : Int) := odt_; obtain ⟨ad145, e145, hx145_0, hx145_1⟩ := at_T63 (Kd.R_reads' HO141.out).2.2 1 p145 q145; obtain rfl : ad142 = ad145 := (by injection e145); (try simp only [show (1 : Int).toNat = 1 from rfl, Nat.reduceMul, Nat.reduceEqDiff, Go.Addr.add, ↓reduceIte] at hx145_0); (try simp only [show (1 : Int).toNat = 1 from rfl, Nat.reduceMul, Nat.reduceEqDiff, Go.Addr.add, ↓reduceIte] at hx145_1); have qi145 : (1 < t139.length) = True := eq_true (by omega); (try rw [show ((1 : Int)).toNat = 1 from rfl] at hx145_0); (try rw [show 1 * 2 = 2 from rfl] at hx145_0); (try rw [show ((1 : Int)).toNat = 1 from rfl] at hx145_1); (try rw [show 1 * 2 = 2 from rfl] at hx145_1); replace p145 := eq_true p145; replace q145 := eq_true q145) | (go_at_call 57; (with_reducible refine (spec_duSum.calls k _ _ l0 t146 _ ?side1 ?side2 A12.out).mono ?_); (case side1 => repeat (first | exact (Kd.C_below HR0.out HB.out) | (with_reducible refine Kd.C_alloc ?_ _) | (with_reducible refine Kd.C_drewN ?_ _) | (with_reducible refine Kd.C_drew ?_))); (case side2 => exact HC0.out); rintro e w' ⟨rfl, ⟨nd, rfl⟩⟩; (try first | exact ⟨rfl, _, World.drewN_drewN _ _ _⟩ | exact ⟨rfl, _, Eq.trans (World.drewN_drewN _ _ _) (congrArg (World.drewN _) (Nat.add_assoc _ _ _))⟩))); try go_wp2_with (first | (go_at_call 56; (with_reducible refine (spec_duMake.calls k _ _ l0 t139 _ ?side1 ?side2 A2.out).mono ?_); (case side1 => repeat (first | exact HR0.out | (with_reducible refine Kd.C_alloc ?_ _) | (with_reducible refine Kd.C_drewN ?_ _) | (with_reducible refine Kd.C_drew ?_))); (case side2 => exact HC0.out); rintro e w13 ⟨v140, rfl, ho0, hb⟩; have n0_ := Aside0.mk (Kd.R_lower ho0 (below_size (hb_))); have n1_ := Aside0.mk (below_step (hb_) hb); clear HB; have HO141 := n0_; have HB := n1_; clear n0_ n1_; (try clear hb); (try clear hb2); (try clear hk); (try clear hi); (try clear ho0); obtain ⟨Ao14, co14, eo14⟩ := Kd.R_slice HO141.out; subst eo14; have p142 : 0 ≤ ((l0.length : Int) : Int) := odt_; have q142 : (l0.length : Int) < (t139.length : Int) := odt_; obtain ⟨ad142, e142, hx142_0, hx142_1⟩ := at_T63 (Kd.R_reads' HO141.out).2.2 (l0.length : Int) p142 q142; cases e142; (try simp only [Go.IntWalk.toNatUp] at hx142_0); (try simp only [Go.IntWalk.toNatUp] at hx142_1); replace p142 := eq_true p142; replace q142 := eq_true q142; have p143 : 0 ≤ (0 : Int) := (by omega); have q143 : 0 < (t139.length : Int) := odt_; obtain ⟨ad143, e143, hx143_0, hx143_1⟩ := at_T63 (Kd.R_reads' HO141.out).2.2 0 p143 q143; obtain rfl : ad142 = ad143 := (by injection e143); have qi143 : (0 < t139.length) = True := eq_true (by omega); (try rw [show ((0 : Int)).toNat = 0 from rfl] at hx143_0); (try rw [show 0 * 2 = 0 from rfl] at hx143_0); (try rw [Addr.add_zero'] at hx143_0); (try rw [show ((0 : Int)).toNat = 0 from rfl] at hx143_1); (try rw [show 0 * 2 = 0 from rfl] at hx143_1); (try rw [Addr.add_zero'] at hx143_1); replace p143 := eq_true p143; replace q143 := eq_true q143; have p144 : 0 ≤ ((ji7) : Int) := odt_; have q144 : (ji7) < (t139.length : Int) := odt_; obtain ⟨ad144, e144, hx144_0, hx144_1⟩ := at_T63 (Kd.R_reads' HO141.out).2.2 (ji7) p144 q144; obtain rfl : ad142 = ad144 := (by injection e144); replace p144 := eq_true p144; replace q144 := eq_true q144; have p145 : 0 ≤ (1 : Int) := (by omega); have q145 : 1 < (t139.length : Int) := odt_; obtain ⟨ad145, e145, hx145_0, hx145_1⟩ := at_T63 (Kd.R_reads' HO141.out).2.2 1 p145 q145; obtain rfl : ad142 = ad145 := (by injection e145); (try simp only [show (1 : Int).toNat = 1 from rfl, Nat.reduceMul, Nat.reduceEqDiff, Go.Addr.add, ↓reduceIte] at hx145_0); (try simp only [show (1 : Int).toNat = 1 from rfl, Nat.reduceMul, Nat.reduceEqDiff, Go.Addr.add, ↓reduceIte] at hx145_1); have qi145 : (1 < t139.length) = True := eq_true (by omega); (try rw [show ((1 : Int)).toNat = 1 from rfl] at hx145_0); (try rw [show 1 * 2 = 2 from rfl] at hx145_0); (try rw [show ((1 : Int)).toNat = 1 from rfl] at hx145_1); (try rw [show 1 * 2 = 2 from rfl] at hx145_1); replace p145 := eq_true p145; replace q145 := eq_true q145) | (go_at_call 57; (with_reducible refine (spec_duSum.calls k _ _ l0 t146 _ ?side1 ?side2 A12.out).mono ?_); (case side1 => repeat (first | exact (Kd.C_below HR0.out HB.out) | (with_reducible refine Kd.C_alloc ?_ _) | (with_reducible refine Kd.C_drewN ?_ _) | (with_reducible refine Kd.C_drew ?_))); (case side2 => exact HC0.out); rintro e w' ⟨rfl, ⟨nd, rfl⟩⟩; (try first | exact ⟨rfl, _, World.drewN_drewN _ _ _⟩ | exact ⟨rfl, _, Eq.trans (World.drewN_drewN _ _ _) (congrArg (World.drewN _) (Nat.add_assoc _ _ _))⟩))))
                  go_ret
                  exact ⟨by first | rfl | (simp [errW_none, errW_some] <;> rfl) | (simp only [← hji7]; first | rfl | (simp [errW_none, errW_some] <;> rfl)) | (simp [*, errW_none, errW_some] <;> rfl), hb_⟩
                · rw [if_neg c11] at H
                  have c11b0 : (((rd_T63 t139 (ji7)).f0) == ((rd_T63 t139 1).f0) && (((rd_T63 t139 (ji7)).f1) == ((rd_T63 t139 1).f1))) = false := by simpa using c11
                  (try (have c11b1 : decide (((rd_T63 t139 (ji7)).f0) = ((rd_T63 t139 1).f0) && (((rd_T63 t139 (ji7)).f1) == ((rd_T63 t139 1).f1))) = false := by simpa using c11))
                  (try (have c11b2 : (((rd_T63 t139 (ji7)).f0) == ((rd_T63 t139 1).f0) && (((rd_T63 t139 (ji7)).f1) == ((rd_T63 t139 1).f1))) = false := by simpa using c11))
                  (try (have c11b3 : ¬ (((rd_T63 t139 (ji7)).f0) = ((rd_T63 t139 1).f0) && (((rd_T63 t139 (ji7)).f1) == ((rd_T63 t139 1).f1))) := by simpa using c11))
                  clear c11
                  obtain rfl := Option.some.inj H
                  go_enter Try.func37, Try.ntmps37
                  go_wp2_with (first | (go_at_call 56; (with_reducible refine (spec_duMake.calls k _ _ l0 t139 _ ?side1 ?side2 A2.out).mono ?_); (case side1 => repeat (first | exact HR0.out | (with_reducible refine Kd.C_alloc ?_ _) | (with_reducible refine Kd.C_drewN ?_ _) | (with_reducible refine Kd.C_drew ?_))); (case side2 => exact HC0.out); rintro e w15 ⟨v140, rfl, ho0, hb⟩; have n0_ := Aside0.mk (Kd.R_lower ho0 (below_size (hb_))); have n1_ := Aside0.mk (below_step (hb_) hb); clear HB; have HO141 := n0_; have HB := n1_; clear n0_ n1_; (try clear hb); (try clear hb2); (try clear hk); (try clear hi); (try clear ho0); obtain ⟨Ao16, co16, eo16⟩ := Kd.R_slice HO141.out; subst eo16; have p142 : 0 ≤ ((l0.length : Int) : Int) := odt_; have q142 : (l0.length : Int) < (t139.length : Int) := odt_; obtain ⟨ad142, e142, hx142_0, hx142_1⟩ := at_T63 (Kd.R_reads' HO141.out).2.2 (l0.length : Int) p142 q142; cases e142; (try simp only [Go.IntWalk.toNatUp] at hx142_0); (try simp only [Go.IntWalk.toNatUp] at hx142_1); replace p142 := eq_true p142; replace q142 := eq_true q142; have p143 : 0 ≤ (0 : Int) := (by omega); have q143 : 0 < (t139.length : Int) := odt_; obtain ⟨ad143, e143, hx143_0, hx143_1⟩ := at_T63 (Kd.R_reads' HO141.out).2.2 0 p143 q143; obtain rfl : ad142 = ad143 := (by injection e143); have qi143 : (0 < t139.length) = True := eq_true (by omega); (try rw [show ((0 : Int)).toNat = 0 from rfl] at hx143_0); (try rw [show 0 * 2 = 0 from rfl] at hx143_0); (try rw [Addr.add_zero'] at hx143_0); (try rw [show ((0 : Int)).toNat = 0 from rfl] at hx143_1); (try rw [show 0 * 2 = 0 from rfl] at hx143_1); (try rw [Addr.add_zero'] at hx143_1); replace p143 := eq_true p143; replace q143 := eq_true q143; have p144 : 0 ≤ ((ji7) : Int) := odt_; have q144 : (ji7) < (t139.length : Int) := odt_; obtain ⟨ad144, e144, hx144_0, hx144_1⟩ := at_T63 (Kd.R_reads' HO141.out).2.2 (ji7) p144 q144; obtain rfl : ad142 = ad144 := (by injection e144); replace p144 := eq_true p144; replace q144 := eq_true q144; have p145 : 0 ≤ (1 : Int) := (by omega); have q145 : 1 < (t139.length : Int) := odt_; obtain ⟨ad145, e145, hx145_0, hx145_1⟩ := at_T63 (Kd.R_reads' HO141.out).2.2 1 p145 q145; obtain rfl : ad142 = ad145 := (by injection e145); (try simp only [show (1 : Int).toNat = 1 from rfl, Nat.reduceMul, Nat.reduceEqDiff, Go.Addr.add, ↓reduceIte] at hx145_0); (try simp only [show (1 : Int).toNat = 1 from rfl, Nat.reduceMul, Nat.reduceEqDiff, Go.Addr.add, ↓reduceIte] at hx145_1); have qi145 : (1 < t139.length) = True := eq_true (by omega); (try rw [show ((1 : Int)).toNat = 1 from rfl] at hx145_0); (try rw [show 1 * 2 = 2 from rfl] at hx145_0); (try rw [show ((1 : Int)).toNat = 1 from rfl] at hx145_1); (try rw [show 1 * 2 = 2 from rfl] at hx145_1); replace p145 := eq_true p145; replace q145 := eq_true q145))
                  repeat (go_quiet (first | (go_at_call 56; (with_reducible refine (spec_duMake.calls k _ _ l0 t139 _ ?side1 ?side2 A2.out).mono ?_); (case side1 => repeat (first | exact HR0.out | (with_reducible refine Kd.C_alloc ?_ _) | (with_reducible refine Kd.C_drewN ?_ _) | (with_reducible refine Kd.C_drew ?_))); (case side2 => exact HC0.out); rintro e w15 ⟨v140, rfl, ho0, hb⟩; have n0_ := Aside0.mk (Kd.R_lower ho0 (below_size (hb_))); have n1_ := Aside0.mk (below_step (hb_) hb); clear HB; have HO141 := n0_; have HB := n1_; clear n0_ n1_; (try clear hb); (try clear hb2); (try clear hk); (try clear hi); (try clear ho0); obtain ⟨Ao16, co16, eo16⟩ := Kd.R_slice HO141.out; subst eo16; have p142 : 0 ≤ ((l0.length : Int) : Int) := odt_; have q142 : (l0.length : Int) < (t139.length : Int) := odt_; obtain ⟨ad142, e142, hx142_0, hx142_1⟩ := at_T63 (Kd.R_reads' HO141.out).2.2 (l0.length : Int) p142 q142; cases e142; (try simp only [Go.IntWalk.toNatUp] at hx142_0); (try simp only [Go.IntWalk.toNatUp] at hx142_1); replace p142 := eq_true p142; replace q142 := eq_true q142; have p143 : 0 ≤ (0 : Int) := (by omega); have q143 : 0 < (t139.length : Int) := odt_; obtain ⟨ad143, e143, hx143_0, hx143_1⟩ := at_T63 (Kd.R_reads' HO141.out).2.2 0 p143 q143; obtain rfl : ad142 = ad143 := (by injection e143); have qi143 : (0 < t139.length) = True := eq_true (by omega); (try rw [show ((0 : Int)).toNat = 0 from rfl] at hx143_0); (try rw [show 0 * 2 = 0 from rfl] at hx143_0); (try rw [Addr.add_zero'] at hx143_0); (try rw [show ((0 : Int)).toNat = 0 from rfl] at hx143_1); (try rw [show 0 * 2 = 0 from rfl] at hx143_1); (try rw [Addr.add_zero'] at hx143_1); replace p143 := eq_true p143; replace q143 := eq_true q143; have p144 : 0 ≤ ((ji7) : Int) := odt_; have q144 : (ji7) < (t139.length : Int) := odt_; obtain ⟨ad144, e144, hx144_0, hx144_1⟩ := at_T63 (Kd.R_reads' HO141.out).2.2 (ji7) p144 q144; obtain rfl : ad142 = ad144 := (by injection e144); replace p144 := eq_true p144; replace q144 := eq_true q144; have p145 : 0 ≤ (1 : Int) := (by omega); have q145 : 1 < (t139.length : Int) := odt_; obtain ⟨ad145, e145, hx145_0, hx145_1⟩ := at_T63 (Kd.R_reads' HO141.out).2.2 1 p145 q145; obtain rfl : ad142 = ad145 := (by injection e145); (try simp only [show (1 : Int).toNat = 1 from rfl, Nat.reduceMul, Nat.reduceEqDiff, Go.Addr.add, ↓reduceIte] at hx145_0); (try simp only [show (1 : Int).toNat = 1 from rfl, Nat.reduceMul, Nat.reduceEqDiff, Go.Addr.add, ↓reduceIte] at hx145_1); have qi145 : (1 < t139.length) = True := eq_true (by omega); (try rw [show ((1 : Int)).toNat = 1 from rfl] at hx145_0); (try rw [show 1 * 2 = 2 from rfl] at hx145_0); (try rw [show ((1 : Int)).toNat = 1 from rfl] at hx145_1); (try rw [show 1 * 2 = 2 from rfl] at hx145_1); replace p145 := eq_true p145; replace q145 := eq_true q145)); try go_wp2_with (first | (go_at_call 56; (with_reducible refine (spec_duMake.calls k _ _ l0 t139 _ ?side1 ?side2 A2.out).mono ?_); (case side1 => repeat (first | exact HR0.out | (with_reducible refine Kd.C_alloc ?_ _) | (with_reducible refine Kd.C_drewN ?_ _) | (with_reducible refine Kd.C_drew ?_))); (case side2 => exact HC0.out); rintro e w15 ⟨v140, rfl, ho0, hb⟩; have n0_ := Aside0.mk (Kd.R_lower ho0 (below_size (hb_))); have n1_ := Aside0.mk (below_step (hb_) hb); clear HB; have HO141 := n0_; have HB := n1_; clear n0_ n1_; (try clear hb); (try clear hb2); (try clear hk); (try clear hi); (try clear ho0); obtain ⟨Ao16, co16, eo16⟩ := Kd.R_slice HO141.out; subst eo16; have p142 : 0 ≤ ((l0.length : Int) : Int) := odt_; have q142 : (l0.length : Int) < (t139.length : Int) := odt_; obtain ⟨ad142, e142, hx142_0, hx142_1⟩ := at_T63 (Kd.R_reads' HO141.out).2.2 (l0.length : Int) p142 q142; cases e142; (try simp only [Go.IntWalk.toNatUp] at hx142_0); (try simp only [Go.IntWalk.toNatUp] at hx142_1); replace p142 := eq_true p142; replace q142 := eq_true q142; have p143 : 0 ≤ (0 : Int) := (by omega); have q143 : 0 < (t139.length : Int) := odt_; obtain ⟨ad143, e143, hx143_0, hx143_1⟩ := at_T63 (Kd.R_reads' HO141.out).2.2 0 p143 q143; obtain rfl : ad142 = ad143 := (by injection e143); have qi143 : (0 < t139.length) = True := eq_true (by omega); (try rw [show ((0 : Int)).toNat = 0 from rfl] at hx143_0); (try rw [show 0 * 2 = 0 from rfl] at hx143_0); (try rw [Addr.add_zero'] at hx143_0); (try rw [show ((0 : Int)).toNat = 0 from rfl] at hx143_1); (try rw [show 0 * 2 = 0 from rfl] at hx143_1); (try rw [Addr.add_zero'] at hx143_1); replace p143 := eq_true p143; replace q143 := eq_true q143; have p144 : 0 ≤ ((ji7) : Int) := odt_; have q144 : (ji7) < (t139.length : Int) := odt_; obtain ⟨ad144, e144, hx144_0, hx144_1⟩ := at_T63 (Kd.R_reads' HO141.out).2.2 (ji7) p144 q144; obtain rfl : ad142 = ad144 := (by injection e144); replace p144 := eq_true p144; replace q144 := eq_true q144; have p145 : 0 ≤ (1 : Int) := (by omega); have q145 : 1 < (t139.length : Int) := odt_; obtain ⟨ad145, e145, hx145_0, hx145_1⟩ := at_T63 (Kd.R_reads' HO141.out).2.2 1 p145 q145; obtain rfl : ad142 = ad145 := (by injection e145); (try simp only [show (1 : Int).toNat = 1 from rfl, Nat.reduceMul, Nat.reduceEqDiff, Go.Addr.add, ↓reduceIte] at hx145_0); (try simp only [show (1 : Int).toNat = 1 from rfl, Nat.reduceMul, Nat.reduceEqDiff, Go.Addr.add, ↓reduceIte] at hx145_1); have qi145 : (1 < t139.length) = True := eq_true (by omega); (try rw [show ((1 : Int)).toNat = 1 from rfl] at hx145_0); (try rw [show 1 * 2 = 2 from rfl] at hx145_0); (try rw [show ((1 : Int)).toNat = 1 from rfl] at hx145_1); (try rw [show 1 * 2 = 2 from rfl] at hx145_1); replace p145 := eq_true p145; replace q145 := eq_true q145)))
                  go_ret
                  exact ⟨by first | rfl | (simp [errW_none, errW_some] <;> rfl) | (simp only [← hji7]; first | rfl | (simp [errW_none, errW_some] <;> rfl)) | (simp [*, errW_none, errW_some] <;> rfl), hb_⟩
              · rw [if_neg c10] at H
                exact absurd H (by simp)
            · rw [if_neg c9] at H
              exact absurd H (by simp)
          · rw [if_neg c8] at H
            exact absurd H (by simp)
        · rw [if_neg c6] at H
          have c6b0 : (((rd_T63 t139 (l0.length : Int)).f0) == ((rd_T63 t139 0).f0) && (((rd_T63 t139 (l0.length : Int)).f1) == ((rd_T63 t139 0).f1))) = false := by simpa using c6
          (try (have c6b1 : decide (((rd_T63 t139 (l0.length : Int)).f0) = ((rd_T63 t139 0).f0) && (((rd_T63 t139 (l0.length : Int)).f1) == ((rd_T63 t139 0).f1))) = false := by simpa using c6))
          (try (have c6b2 : (((rd_T63 t139 (l0.length : Int)).f0) == ((rd_T63 t139 0).f0) && (((rd_T63 t139 (l0.length : Int)).f1) == ((rd_T63 t139 0).f1))) = false := by simpa using c6))
          (try (have c6b3 : ¬ (((rd_T63 t139 (l0.length : Int)).f0) = ((rd_T63 t139 0).f0) && (((rd_T63 t139 (l0.length : Int)).f1) == ((rd_T63 t139 0).f1))) := by simpa using c6))
          clear c6
          obtain rfl := Option.some.inj H
          go_enter Try.func37, Try.ntmps37
          go_wp2_with (first | (go_at_call 56; (with_reducible refine (spec_duMake.calls k _ _ l0 t139 _ ?side1 ?side2 A2.out).mono ?_); (case side1 => repeat (first | exact HR0.out | (with_reducible refine Kd.C_alloc ?_ _) | (with_reducible refine Kd.C_drewN ?_ _) | (with_reducible refine Kd.C_drew ?_))); (case side2 => exact HC0.out); rintro e w17 ⟨v140, rfl, ho0, hb⟩; have n0_ := Aside0.mk (Kd.R_lower ho0 (below_size (hb_))); have n1_ := Aside0.mk (below_step (hb_) hb); clear HB; have HO141 := n0_; have HB := n1_; clear n0_ n1_; (try clear hb); (try clear hb2); (try clear hk); (try clear hi); (try clear ho0); obtain ⟨Ao18, co18, eo18⟩ := Kd.R_slice HO141.out; subst eo18; have p142 : 0 ≤ ((l0.length : Int) : Int) := odt_; have q142 : (l0.length : Int) < (t139.length : Int) := odt_; obtain ⟨ad142, e142, hx142_0, hx142_1⟩ := at_T63 (Kd.R_reads' HO141.out).2.2 (l0.length : Int) p142 q142; cases e142; (try simp only [Go.IntWalk.toNatUp] at hx142_0); (try simp only [Go.IntWalk.toNatUp] at hx142_1); replace p142 := eq_true p142; replace q142 := eq_true q142; have p143 : 0 ≤ (0 : Int) := (by omega); have q143 : 0 < (t139.length : Int) := odt_; obtain ⟨ad143, e143, hx143_0, hx143_1⟩ := at_T63 (Kd.R_reads' HO141.out).2.2 0 p143 q143; obtain rfl : ad142 = ad143 := (by injection e143); have qi143 : (0 < t139.length) = True := eq_true (by omega); (try rw [show ((0 : Int)).toNat = 0 from rfl] at hx143_0); (try rw [show 0 * 2 = 0 from rfl] at hx143_0); (try rw [Addr.add_zero'] at hx143_0); (try rw [show ((0 : Int)).toNat = 0 from rfl] at hx143_1); (try rw [show 0 * 2 = 0 from rfl] at hx143_1); (try rw [Addr.add_zero'] at hx143_1); replace p143 := eq_true p143; replace q143 := eq_true q143))
          repeat (go_quiet (first | (go_at_call 56; (with_reducible refine (spec_duMake.calls k _ _ l0 t139 _ ?side1 ?side2 A2.out).mono ?_); (case side1 => repeat (first | exact HR0.out | (with_reducible refine Kd.C_alloc ?_ _) | (with_reducible refine Kd.C_drewN ?_ _) | (with_reducible refine Kd.C_drew ?_))); (case side2 => exact HC0.out); rintro e w17 ⟨v140, rfl, ho0, hb⟩; have n0_ := Aside0.mk (Kd.R_lower ho0 (below_size (hb_))); have n1_ := Aside0.mk (below_step (hb_) hb); clear HB; have HO141 := n0_; have HB := n1_; clear n0_ n1_; (try clear hb); (try clear hb2); (try clear hk); (try clear hi); (try clear ho0); obtain ⟨Ao18, co18, eo18⟩ := Kd.R_slice HO141.out; subst eo18; have p142 : 0 ≤ ((l0.length : Int) : Int) := odt_; have q142 : (l0.length : Int) < (t139.length : Int) := odt_; obtain ⟨ad142, e142, hx142_0, hx142_1⟩ := at_T63 (Kd.R_reads' HO141.out).2.2 (l0.length : Int) p142 q142; cases e142; (try simp only [Go.IntWalk.toNatUp] at hx142_0); (try simp only [Go.IntWalk.toNatUp] at hx142_1); replace p142 := eq_true p142; replace q142 := eq_true q142; have p143 : 0 ≤ (0 : Int) := (by omega); have q143 : 0 < (t139.length : Int) := odt_; obtain ⟨ad143, e143, hx143_0, hx143_1⟩ := at_T63 (Kd.R_reads' HO141.out).2.2 0 p143 q143; obtain rfl : ad142 = ad143 := (by injection e143); have qi143 : (0 < t139.length) = True := eq_true (by omega); (try rw [show ((0 : Int)).toNat = 0 from rfl] at hx143_0); (try rw [show 0 * 2 = 0 from rfl] at hx143_0); (try rw [Addr.add_zero'] at hx143_0); (try rw [show ((0 : Int)).toNat = 0 from rfl] at hx143_1); (try rw [show 0 * 2 = 0 from rfl] at hx143_1); (try rw [Addr.add_zero'] at hx143_1); replace p143 := eq_true p143; replace q143 := eq_true q143)); try go_wp2_with (first | (go_at_call 56; (with_reducible refine (spec_duMake.calls k _ _ l0 t139 _ ?side1 ?side2 A2.out).mono ?_); (case side1 => repeat (first | exact HR0.out | (with_reducible refine Kd.C_alloc ?_ _) | (with_reducible refine Kd.C_drewN ?_ _) | (with_reducible refine Kd.C_drew ?_))); (case side2 => exact HC0.out); rintro e w17 ⟨v140, rfl, ho0, hb⟩; have n0_ := Aside0.mk (Kd.R_lower ho0 (below_size (hb_))); have n1_ := Aside0.mk (below_step (hb_) hb); clear HB; have HO141 := n0_; have HB := n1_; clear n0_ n1_; (try clear hb); (try clear hb2); (try clear hk); (try clear hi); (try clear ho0); obtain ⟨Ao18, co18, eo18⟩ := Kd.R_slice HO141.out; subst eo18; have p142 : 0 ≤ ((l0.length : Int) : Int) := odt_; have q142 : (l0.length : Int) < (t139.length : Int) := odt_; obtain ⟨ad142, e142, hx142_0, hx142_1⟩ := at_T63 (Kd.R_reads' HO141.out).2.2 (l0.length : Int) p142 q142; cases e142; (try simp only [Go.IntWalk.toNatUp] at hx142_0); (try simp only [Go.IntWalk.toNatUp] at hx142_1); replace p142 := eq_true p142; replace q142 := eq_true q142; have p143 : 0 ≤ (0 : Int) := (by omega); have q143 : 0 < (t139.length : Int) := odt_; obtain ⟨ad143, e143, hx143_0, hx143_1⟩ := at_T63 (Kd.R_reads' HO141.out).2.2 0 p143 q143; obtain rfl : ad142 = ad143 := (by injection e143); have qi143 : (0 < t139.length) = True := eq_true (by omega); (try rw [show ((0 : Int)).toNat = 0 from rfl] at hx143_0); (try rw [show 0 * 2 = 0 from rfl] at hx143_0); (try rw [Addr.add_zero'] at hx143_0); (try rw [show ((0 : Int)).toNat = 0 from rfl] at hx143_1); (try rw [show 0 * 2 = 0 from rfl] at hx143_1); (try rw [Addr.add_zero'] at hx143_1); replace p143 := eq_true p143; replace q143 := eq_true q143)))
          go_ret
          exact ⟨by first | rfl | (simp [errW_none, errW_some] <;> rfl) | (simp [*, errW_none, errW_some] <;> rfl), hb_⟩
      · rw [if_neg c5] at H
        exact absurd H (by simp)
    · rw [if_neg c4] at H
      exact absurd H (by simp)
  · rw [if_neg c3] at H
    exact absurd H (by simp)

/-! ### spec_l1Same: function 38 -/
def spec_l1Same.l0 : Nat → List Int → List Int → Int → Int → Option (Bool)
  | 0, _, _, _, _ => none
  | k + 1, x0, x1, x12, x13 => if x13 < x12 then (if 0 ≤ x13 then (if x13 < (x0.length : Int) then (if x13 < (x1.length : Int) then (if (rd x0 x13) = (rd x1 x13) then (spec_l1Same.l0 k x0 x1 x12 (wrap64 (x13 + 1))) else (some false)) else (none)) else (none)) else (none)) else (some true)
def spec_l1Same.f (k : Nat) (l0 : List Int) (l1 : List Int) : Option (Bool) := if (l0.length : Int) = (l1.length : Int) then (spec_l1Same.l0 k l0 l1 (l0.length : Int) 0) else (some false)
theorem spec_l1Same.mono_l : ∀ k, (∀ y0 y1 y2 y3, LeO (spec_l1Same.l0 k y0 y1 y2 y3) (spec_l1Same.l0 (k + 1) y0 y1 y2 y3))
  | 0 => fun _ _ _ _ r h => by simp [spec_l1Same.l0] at h
  | k + 1 => by
    have ih0 := spec_l1Same.mono_l k
    · intro y0 y1 y2 y3
      unfold spec_l1Same.l0
      repeat' first
      | (with_reducible exact ih0 _ _ _ _)
      | (with_reducible exact LeO.refl _)
      | (with_reducible exact LeO.none _)
      | (with_reducible refine LeO.ite ?_ ?_)
      | (with_reducible refine LeO.bind ?_ (fun _ => ?_))
      | exact ih0 _ _ _ _
      | exact LeO.none _
      | refine LeO.ite ?_ ?_
      | refine LeO.bind ?_ (fun _ => ?_)
theorem spec_l1Same.mono : ∀ a0 a1 k, LeO (spec_l1Same.f k a0 a1) (spec_l1Same.f (k + 1) a0 a1) := by
  intro a0 a1 k
  have ih0 := spec_l1Same.mono_l k
  unfold spec_l1Same.f
  repeat' first
      | (with_reducible exact ih0 _ _ _ _)
      | (with_reducible exact LeO.refl _)
      | (with_reducible exact LeO.none _)
      | (with_reducible refine LeO.ite ?_ ?_)
      | (with_reducible refine LeO.bind ?_ (fun _ => ?_))
      | exact ih0 _ _ _ _
      | exact LeO.none _
      | refine LeO.ite ?_ ?_
      | refine LeO.bind ?_ (fun _ => ?_)
set_option maxHeartbeats 8000000 in
set_option maxRecDepth 100000 in
theorem spec_l1Same.calls (k : Nat) (A0 : Option Addr) (c0 : Nat) (l0 : List Int) (A1 : Option Addr) (c1 : Nat) (l1 : List Int) (r : Bool) (w : World) (hr0 : Kd.C (Kd.int .i64) w A0 l0.length l0) (hc0 : l0.length ≤ c0) (hr1 : Kd.C (Kd.int .i64) w A1 l1.length l1) (hc1 : l1.length ≤ c1) (h : spec_l1Same.f k l0 l1 = some r) :
    Calls Try.prog 38 #[.slice A0 l0.length c0, .slice A1 l1.length c1] w fun e w' => e = .returned (.bool r) ∧ Drawn0 w w' := by
  have HR0 := Aside0.mk hr0
  have HC0 := Aside0.mk hc0
  clear hr0 hc0
  have HR1 := Aside0.mk hr1
  have HC1 := Aside0.mk hc1
  clear hr1 hc1
  have H : (if (l0.length : Int) = (l1.length : Int) then (spec_l1Same.l0 k l0 l1 (l0.length : Int) 0) else (some false)) = some r := h
  clear h
  by_cases c3 : (l0.length : Int) = (l1.length : Int)
  · rw [if_pos c3] at H
    have c3b0 : ((l0.length : Int) == (l1.length : Int)) = true := beq_iff_eq.mpr c3
    have c3b1 : ((l0.length : Int) != (l1.length : Int)) = false := bne_eq_false_iff_eq.mpr c3
    have c3b2 : (l0.length == l1.length) = true := by first | simpa using c3 | (simp at c3 ⊢; omega)
    clear c3
    have H' := Aside0.mk H
    clear H
    go_enter Try.func38, Try.ntmps38
    go_wp2
    repeat (go_quiet (fail); try go_wp2)
    go_loopg [13] k (fun kq v13 w' => ∃ (x13_1 : Int), v13 = .int .i64 x13_1 ∧ Aside0 (spec_l1Same.l0 kq l0 l1 (l0.length : Int) x13_1 = some r) ∧ Aside0 (kq ≤ k) ∧ Drawn0 w w')
    case atStart => exact ⟨(0), (by first | rfl | (simp; done) | (simp [*]; done)), H', ⟨Nat.le_refl _⟩, by repeat (first | exact Drawn0.refl _ | apply Drawn0.step)⟩
    case round =>
      clear H'
      try clear c1
      try clear p2
      try clear c3
      try clear c3b0
      try clear c3b1
      try clear c3b2
      obtain ⟨x13_1, rfl, HA, HK1, ⟨m1, rfl⟩⟩ := hrel
      cases gk with
      | zero => exact absurd HA.out (by simp [spec_l1Same.l0])
      | succ k1 =>
        have H := HA.out
        clear HA
        simp only [spec_l1Same.l0] at H
        by_cases c4 : x13_1 < (l0.length : Int)
        · rw [if_pos c4] at H
          have c4b0 : decide (x13_1 < (l0.length : Int)) = true := decide_eq_true c4
          clear c4
          by_cases c5 : 0 ≤ x13_1
          · rw [if_pos c5] at H
            have c5b0 : decide (0 ≤ x13_1) = true := decide_eq_true c5
            clear c5
            by_cases c6 : x13_1 < (l0.length : Int)
            · rw [if_pos c6] at H
              have c6b0 : decide (x13_1 < (l0.length : Int)) = true := decide_eq_true c6
              clear c6
              by_cases c7 : x13_1 < (l1.length : Int)
              · rw [if_pos c7] at H
                have c7b0 : decide (x13_1 < (l1.length : Int)) = true := decide_eq_true c7
                clear c7
                by_cases c8 : (rd l0 x13_1) = (rd l1 x13_1)
                · rw [if_pos c8] at H
                  have c8b0 : ((rd l0 x13_1) == (rd l1 x13_1)) = true := beq_iff_eq.mpr c8
                  have c8b1 : ((rd l0 x13_1) != (rd l1 x13_1)) = false := bne_eq_false_iff_eq.mpr c8
                  clear c8
                  have H' := Aside0.mk H
                  clear H
                  have p147 : 0 ≤ (x13_1 : Int) := odt_
                  have q147 : x13_1 < (l0.length : Int) := odt_
                  obtain ⟨ad147, e147, hx147_0⟩ := Kd.at_int HR0.out x13_1 p147 q147
                  cases e147
                  replace p147 := eq_true p147
                  replace q147 := eq_true q147
                  have p148 : 0 ≤ (x13_1 : Int) := odt_
                  have q148 : x13_1 < (l1.length : Int) := odt_
                  obtain ⟨ad148, e148, hx148_0⟩ := Kd.at_int HR1.out x13_1 p148 q148
                  cases e148
                  replace p148 := eq_true p148
                  replace q148 := eq_true q148
                  go_wp2
                  repeat (go_quiet (fail); try go_wp2)
                  go_roundg k1
                  case measure => have := HK1.out; omega
                  case rel => exact ⟨(wrap64 (x13_1 + 1)), (by first | rfl | (simp; done) | (simp [*]; done)), H', ⟨by have := HK1.out; omega⟩, by repeat (first | exact Drawn0.refl _ | apply Drawn0.step)⟩
                · rw [if_neg c8] at H
                  have c8b0 : ((rd l0 x13_1) == (rd l1 x13_1)) = false := beq_eq_false_iff_ne.mpr c8
                  have c8b1 : ((rd l0 x13_1) != (rd l1 x13_1)) = true := bne_iff_ne.mpr c8
                  obtain rfl := Option.some.inj H
                  have p147 : 0 ≤ (x13_1 : Int) := odt_
                  have q147 : x13_1 < (l0.length : Int) := odt_
                  obtain ⟨ad147, e147, hx147_0⟩ := Kd.at_int HR0.out x13_1 p147 q147
                  cases e147
                  replace p147 := eq_true p147
                  replace q147 := eq_true q147
                  have p148 : 0 ≤ (x13_1 : Int) := odt_
                  have q148 : x13_1 < (l1.length : Int) := odt_
                  obtain ⟨ad148, e148, hx148_0⟩ := Kd.at_int HR1.out x13_1 p148 q148
                  cases e148
                  replace p148 := eq_true p148
                  replace q148 := eq_true q148
                  go_wp2
                  repeat (go_quiet (fail); try go_wp2)
                  go_ret
                  exact ⟨by first | rfl | (simp; done) | (simp [*]; done), by repeat (first | exact Drawn0.refl _ | apply Drawn0.step)⟩
              · rw [if_neg c7] at H
                exact absurd H (by simp)
            · rw [if_neg c6] at H
              exact absurd H (by simp)
          · rw [if_neg c5] at H
            exact absurd H (by simp)
        · rw [if_neg c4] at H
          have c4b0 : decide (x13_1 < (l0.length : Int)) = false := decide_eq_false c4
          clear c4
          obtain rfl := Option.some.inj H
          go_wp2
          repeat (go_quiet (fail); try go_wp2)
          go_ret
          exact ⟨by first | rfl | (simp; done) | (simp [*]; done), by repeat (first | exact Drawn0.refl _ | apply Drawn0.step)⟩
  · rw [if_neg c3] at H
    have c3b0 : ((l0.length : Int) == (l1.length : Int)) = false := beq_eq_false_iff_ne.mpr c3
    have c3b1 : ((l0.length : Int) != (l1.length : Int)) = true := bne_iff_ne.mpr c3
    have c3b2 : (l0.length == l1.length) = false := by first | simpa using c3 | (simp at c3 ⊢; omega)
    obtain rfl := Option.some.inj H
    go_enter Try.func38, Try.ntmps38
    go_wp2
    repeat (go_quiet (fail); try go_wp2)
    go_ret
    exact ⟨by first | rfl | (simp; done) | (simp [*]; done), by repeat (first | exact Drawn0.refl _ | apply Drawn0.step)⟩

end Go.Proofs.Ytogafcjfaicpgaa.MC
