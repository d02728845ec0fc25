-- Written by a program of this session (wip/print/myprint.py) over the kit's printer; Lean checks it.
import Derived.Test.YtmenfomcikfnmaaMBx0
import Derived.Test.YtmenfomcikfnmaaMBx7
import Derived.Test.YtmenfomcikfnmaaMBx18
namespace Go.Proofs.Ytmenfomcikfnmaa.MB
open Go.RowKit Go.Proofs.YtmenfomcikfnmaaW.PrintWords Go.Proofs.YtmenfomcikfnmaaW.PrintLast Go.Proofs.YtmenfomcikfnmaaW.PrintMore Go.Proofs.YtmenfomcikfnmaaV
attribute [local go_sem] max2_int min2_int max_two min_two max_three min_three max_four min_four   -- for this text's walks alone
set_option linter.unusedVariables false
set_option linter.unusedSimpArgs false

/-! ### spec_CountOfArea: function 42 -/
mutual
def spec_CountOfArea.j0 : Nat → Int → Int → Int → Bool → Option (Int × Bool)
 | 0, _, _, _, _ => none
 | k + 1, x0, x1, x2, x24 => if x24 = true then (some (0, false)) else ((spec_ctPegs.f k x0 x1).bind fun t330 => (spec_CountOfArea.l0 k x2 0 t330 t330 (t330.length : Int) 0))
def spec_CountOfArea.l0 : Nat → Int → Int → List (S36) → List (S36) → Int → Int → Option (Int × Bool)
 | 0, _, _, _, _, _, _ => none
 | k + 1, x2, x8, x9, x28, x29, x30 => if x30 < x29 then (if 0 ≤ x30 then (if x30 < (x28.length : Int) then (if x30 ≤ (x9.length : Int) then ((some (x9.take (x30 : Int).toNat : List (S36))).bind fun y335 => (spec_CountOfArea.l1 k x2 x8 x9 x28 x29 x30 y335 (y335.length : Int) 0 ((rd_T36 x28 x30).f0) ((rd_T36 x28 x30).f1))) else (none)) else (none)) else (none)) else (some (x8, true))
def spec_CountOfArea.l1 : Nat → Int → Int → List (S36) → List (S36) → Int → Int → List (S36) → Int → Int → Int → Int → Option (Int × Bool)
 | 0, _, _, _, _, _, _, _, _, _, _, _ => none
 | k + 1, x2, x8, x9, x28, x29, x30, x37, x38, x39, x335000, x335001 => if x39 < x38 then (if 0 ≤ x39 then (if x39 < (x37.length : Int) then (if x39 ≤ (x9.length : Int) then ((some (x9.take (x39 : Int).toNat : List (S36))).bind fun y341 => (spec_CountOfArea.l2 k x2 x8 x9 x28 x29 x30 x37 x38 x39 y341 (y341.length : Int) 0 x335000 x335001 ((rd_T36 x37 x39).f0) ((rd_T36 x37 x39).f1))) else (none)) else (none)) else (none)) else (spec_CountOfArea.l0 k x2 x8 x9 x28 x29 (wrap64 (x30 + 1)))
def spec_CountOfArea.l2 : Nat → Int → Int → List (S36) → List (S36) → Int → Int → List (S36) → Int → Int → List (S36) → Int → Int → Int → Int → Int → Int → Option (Int × Bool)
 | 0, _, _, _, _, _, _, _, _, _, _, _, _, _, _, _, _ => none
 | k + 1, x2, x8, x9, x28, x29, x30, x37, x38, x39, x46, x47, x48, x335000, x335001, x341000, x341001 => if x48 < x47 then (if 0 ≤ x48 then (if x48 < (x46.length : Int) then ((spec_pgTurn.f x335000 x335001 x341000 x341001 ((rd_T36 x46 x48).f0) ((rd_T36 x46 x48).f1)).bind fun t347 => ((spec_l1Abs.f t347).bind fun t348 => (if t348 = x2 then (spec_CountOfArea.l2 k x2 (wrap64 (x8 + 1)) x9 x28 x29 x30 x37 x38 x39 x46 x47 (wrap64 (x48 + 1)) x335000 x335001 x341000 x341001) else (spec_CountOfArea.l2 k x2 x8 x9 x28 x29 x30 x37 x38 x39 x46 x47 (wrap64 (x48 + 1)) x335000 x335001 x341000 x341001)))) else (none)) else (none)) else (spec_CountOfArea.l1 k x2 x8 x9 x28 x29 x30 x37 x38 (wrap64 (x39 + 1)) x335000 x335001)
end
def spec_CountOfArea.f (k : Nat) (a0 : Int) (a1 : Int) (a2 : Int) : Option (Int × Bool) := (spec_ctBoard.f a0 a1 6).bind fun t328 => (if t328 = true then ((spec_l1In.f a2 0 200).bind fun t329 => (spec_CountOfArea.j0 k a0 a1 a2 (!t329))) else (spec_CountOfArea.j0 k a0 a1 a2 true))
theorem spec_CountOfArea.mono_l : ∀ k, (∀ y0 y1 y2 y3, LeO (spec_CountOfArea.j0 k y0 y1 y2 y3) (spec_CountOfArea.j0 (k + 1) y0 y1 y2 y3)) ∧ (∀ y0 y1 y2 y3 y4 y5, LeO (spec_CountOfArea.l0 k y0 y1 y2 y3 y4 y5) (spec_CountOfArea.l0 (k + 1) y0 y1 y2 y3 y4 y5)) ∧ (∀ y0 y1 y2 y3 y4 y5 y6 y7 y8 y9 y10, LeO (spec_CountOfArea.l1 k y0 y1 y2 y3 y4 y5 y6 y7 y8 y9 y10) (spec_CountOfArea.l1 (k + 1) y0 y1 y2 y3 y4 y5 y6 y7 y8 y9 y10)) ∧ (∀ y0 y1 y2 y3 y4 y5 y6 y7 y8 y9 y10 y11 y12 y13 y14 y15, LeO (spec_CountOfArea.l2 k y0 y1 y2 y3 y4 y5 y6 y7 y8 y9 y10 y11 y12 y13 y14 y15) (spec_CountOfArea.l2 (k + 1) y0 y1 y2 y3 y4 y5 y6 y7 y8 y9 y10 y11 y12 y13 y14 y15))
 | 0 => ⟨fun _ _ _ _ r h => by simp [spec_CountOfArea.j0] at h, fun _ _ _ _ _ _ r h => by simp [spec_CountOfArea.l0] at h, fun _ _ _ _ _ _ _ _ _ _ _ r h => by simp [spec_CountOfArea.l1] at h, fun _ _ _ _ _ _ _ _ _ _ _ _ _ _ _ _ r h => by simp [spec_CountOfArea.l2] at h⟩
 | k + 1 => by
  obtain ⟨ih0, ih1, ih2, ih3⟩ := spec_CountOfArea.mono_l k
  refine ⟨?_, ?_, ?_, ?_⟩
  ·intro y0 y1 y2 y3
   unfold spec_CountOfArea.j0
   repeat' first
   | (with_reducible exact ih0 _ _ _ _)
   | (with_reducible exact ih1 _ _ _ _ _ _)
   | (with_reducible exact ih2 _ _ _ _ _ _ _ _ _ _ _)
   | (with_reducible exact ih3 _ _ _ _ _ _ _ _ _ _ _ _ _ _ _ _)
   | (with_reducible exact spec_ctPegs.mono _ _ _)
   | (with_reducible exact LeO.refl _)
   | (with_reducible exact LeO.none _)
   | (with_reducible refine LeO.ite ?_ ?_)
   | (with_reducible refine LeO.bind ?_ (fun _ => ?_))
   | exact ih0 _ _ _ _
   | exact ih1 _ _ _ _ _ _
   | exact ih2 _ _ _ _ _ _ _ _ _ _ _
   | exact ih3 _ _ _ _ _ _ _ _ _ _ _ _ _ _ _ _
   | exact spec_ctPegs.mono _ _ _
   | exact LeO.none _
   | refine LeO.ite ?_ ?_
   | refine LeO.bind ?_ (fun _ => ?_)
  ·intro y0 y1 y2 y3 y4 y5
   unfold spec_CountOfArea.l0
   repeat' first
   | (with_reducible exact ih0 _ _ _ _)
   | (with_reducible exact ih1 _ _ _ _ _ _)
   | (with_reducible exact ih2 _ _ _ _ _ _ _ _ _ _ _)
   | (with_reducible exact ih3 _ _ _ _ _ _ _ _ _ _ _ _ _ _ _ _)
   | (with_reducible exact spec_ctPegs.mono _ _ _)
   | (with_reducible exact LeO.refl _)
   | (with_reducible exact LeO.none _)
   | (with_reducible refine LeO.ite ?_ ?_)
   | (with_reducible refine LeO.bind ?_ (fun _ => ?_))
   | exact ih0 _ _ _ _
   | exact ih1 _ _ _ _ _ _
   | exact ih2 _ _ _ _ _ _ _ _ _ _ _
   | exact ih3 _ _ _ _ _ _ _ _ _ _ _ _ _ _ _ _
   | exact spec_ctPegs.mono _ _ _
   | exact LeO.none _
   | refine LeO.ite ?_ ?_
   | refine LeO.bind ?_ (fun _ => ?_)
  ·intro y0 y1 y2 y3 y4 y5 y6 y7 y8 y9 y10
   unfold spec_CountOfArea.l1
   repeat' first
   | (with_reducible exact ih0 _ _ _ _)
   | (with_reducible exact ih1 _ _ _ _ _ _)
   | (with_reducible exact ih2 _ _ _ _ _ _ _ _ _ _ _)
   | (with_reducible exact ih3 _ _ _ _ _ _ _ _ _ _ _ _ _ _ _ _)
   | (with_reducible exact spec_ctPegs.mono _ _ _)
   | (with_reducible exact LeO.refl _)
   | (with_reducible exact LeO.none _)
   | (with_reducible refine LeO.ite ?_ ?_)
   | (with_reducible refine LeO.bind ?_ (fun _ => ?_))
   | exact ih0 _ _ _ _
   | exact ih1 _ _ _ _ _ _
   | exact ih2 _ _ _ _ _ _ _ _ _ _ _
   | exact ih3 _ _ _ _ _ _ _ _ _ _ _ _ _ _ _ _
   | exact spec_ctPegs.mono _ _ _
   | exact LeO.none _
   | refine LeO.ite ?_ ?_
   | refine LeO.bind ?_ (fun _ => ?_)
  ·intro y0 y1 y2 y3 y4 y5 y6 y7 y8 y9 y10 y11 y12 y13 y14 y15
   unfold spec_CountOfArea.l2
   repeat' first
   | (with_reducible exact ih0 _ _ _ _)
   | (with_reducible exact ih1 _ _ _ _ _ _)
   | (with_reducible exact ih2 _ _ _ _ _ _ _ _ _ _ _)
   | (with_reducible exact ih3 _ _ _ _ _ _ _ _ _ _ _ _ _ _ _ _)
   | (with_reducible exact spec_ctPegs.mono _ _ _)
   | (with_reducible exact LeO.refl _)
   | (with_reducible exact LeO.none _)
   | (with_reducible refine LeO.ite ?_ ?_)
   | (with_reducible refine LeO.bind ?_ (fun _ => ?_))
   | exact ih0 _ _ _ _
   | exact ih1 _ _ _ _ _ _
   | exact ih2 _ _ _ _ _ _ _ _ _ _ _
   | exact ih3 _ _ _ _ _ _ _ _ _ _ _ _ _ _ _ _
   | exact spec_ctPegs.mono _ _ _
   | exact LeO.none _
   | refine LeO.ite ?_ ?_
   | refine LeO.bind ?_ (fun _ => ?_)
theorem spec_CountOfArea.mono : ∀ a0 a1 a2 k, LeO (spec_CountOfArea.f k a0 a1 a2) (spec_CountOfArea.f (k + 1) a0 a1 a2) := by
 intro a0 a1 a2 k
 obtain ⟨ih0, ih1, ih2, ih3⟩ := spec_CountOfArea.mono_l k
 unfold spec_CountOfArea.f
 repeat' first
   | (with_reducible exact ih0 _ _ _ _)
   | (with_reducible exact ih1 _ _ _ _ _ _)
   | (with_reducible exact ih2 _ _ _ _ _ _ _ _ _ _ _)
   | (with_reducible exact ih3 _ _ _ _ _ _ _ _ _ _ _ _ _ _ _ _)
   | (with_reducible exact spec_ctPegs.mono _ _ _)
   | (with_reducible exact LeO.refl _)
   | (with_reducible exact LeO.none _)
   | (with_reducible refine LeO.ite ?_ ?_)
   | (with_reducible refine LeO.bind ?_ (fun _ => ?_))
   | exact ih0 _ _ _ _
   | exact ih1 _ _ _ _ _ _
   | exact ih2 _ _ _ _ _ _ _ _ _ _ _
   | exact ih3 _ _ _ _ _ _ _ _ _ _ _ _ _ _ _ _
   | exact spec_ctPegs.mono _ _ _
   | exact LeO.none _
   | refine LeO.ite ?_ ?_
   | refine LeO.bind ?_ (fun _ => ?_)
set_option maxHeartbeats 8000000 in
set_option maxRecDepth 100000 in
theorem spec_CountOfArea.calls (k : Nat) (a0 : Int) (a1 : Int) (a2 : Int) (r1 : Int) (r2 : Bool) (w : World) (h : spec_CountOfArea.f k a0 a1 a2 = some (r1, r2)) :
  Calls Try.prog 42 #[.int .i64 a0, .int .i64 a1, .int .i64 a2] w fun e w' => e = .returned (.tuple #[.int .i64 r1, .bool r2]) ∧ Below w.heap.size w w' := by
 have hu36 := Try.underlying36
 have HB := Aside0.mk (Below.refl w.heap.size w)
 have H : ((spec_ctBoard.f a0 a1 6).bind fun t328 => (if t328 = true then ((spec_l1In.f a2 0 200).bind fun t329 => (spec_CountOfArea.j0 k a0 a1 a2 (!t329))) else (spec_CountOfArea.j0 k a0 a1 a2 true))) = some (r1, r2) := h
 clear h
 have HC4 := Aside0.mk H
 clear H
 go_enter Try.func42, Try.ntmps42
 go_upto_region 1 with (fail)
 go_cut [24] (fun v24 wc => ∃ (kq : Nat) (x24_3 : Bool), v24 = .bool x24_3 ∧ Aside0 (spec_CountOfArea.j0 kq a0 a1 a2 x24_3 = some (r1, r2)) ∧ Aside0 (kq ≤ k) ∧ Aside0 (Below w.heap.size w wc))
 case first =>
  have H := HC4.out
  clear HC4
  replace H := Option.bind_eq_some_iff.mp H
  obtain ⟨t328, A50, H⟩ := H
  replace H : (if t328 = true then ((spec_l1In.f a2 0 200).bind fun t329 => (spec_CountOfArea.j0 k a0 a1 a2 (!t329))) else (spec_CountOfArea.j0 k a0 a1 a2 true)) = some (r1, r2) := H
  have A5 := Aside0.mk A50
  clear A50
  by_cases c6 : t328 = true
  ·subst c6
   have H1 : ((spec_l1In.f a2 0 200).bind fun t329 => (spec_CountOfArea.j0 k a0 a1 a2 (!t329))) = some (r1, r2) := by rw [if_pos rfl] at H; exact H
   clear H
   have H := H1
   clear H1
   replace H := Option.bind_eq_some_iff.mp H
   obtain ⟨t329, A70, H⟩ := H
   replace H : (spec_CountOfArea.j0 k a0 a1 a2 (!t329)) = some (r1, r2) := H
   have A7 := Aside0.mk A70
   clear A70
   have H' := Aside0.mk H
   clear H
   go_wp2_with (first | ((with_reducible refine gate_callee (f := 57) rfl ?_); refine goesL_ (some 18) rfl rfl Try.func57 (by kernel_rfl) rfl #[.int .i64 a0, .int .i64 a1, .int .i64 6] rfl ga_ ?_; (with_reducible refine (spec_ctBoard.calls a0 a1 6 true _ A5.out).mono ?_); rintro e w' ⟨rfl, ⟨nd, rfl⟩⟩; refine ⟨_, rfl, ?_⟩) | (go_at_call 91; (with_reducible refine (spec_l1In.calls a2 0 200 t329 _ A7.out).mono ?_); rintro e w' ⟨rfl, ⟨nd, rfl⟩⟩))
   go_meet
   case rel => exact ⟨_, (!t329), (by first | rfl | (simp; done) | (simp [*]; done)), H', ⟨by first | omega | exact Nat.le_refl _⟩, ⟨hb_⟩⟩
  ·replace c6 := Bool.eq_false_iff.mpr c6
   subst c6
   have H1 : (spec_CountOfArea.j0 k a0 a1 a2 true) = some (r1, r2) := by rw [if_neg (show ¬ (false = true) by decide)] at H; exact H
   clear H
   have H := H1
   clear H1
   have H' := Aside0.mk H
   clear H
   go_wp2_with (first | ((with_reducible refine gate_callee (f := 57) rfl ?_); refine goesL_ (some 18) rfl rfl Try.func57 (by kernel_rfl) rfl #[.int .i64 a0, .int .i64 a1, .int .i64 6] rfl ga_ ?_; (with_reducible refine (spec_ctBoard.calls a0 a1 6 false _ A5.out).mono ?_); rintro e w' ⟨rfl, ⟨nd, rfl⟩⟩; refine ⟨_, rfl, ?_⟩))
   go_meet
   case rel => exact ⟨_, (true), (by first | rfl | (simp; done) | (simp [*]; done)), H', ⟨by first | omega | exact Nat.le_refl _⟩, ⟨hb_⟩⟩
 case rest =>
  clear HC4
  try clear p2; try clear c4; try clear c5; try clear c6
  obtain ⟨kq, x24_3, rfl, HA, HJ3, HB⟩ := hcut
  cases kq with
  | zero => exact absurd HA.out (by simp [spec_CountOfArea.j0])
  | succ kj3 =>
   have H := HA.out
   clear HA
   simp only [spec_CountOfArea.j0] at H
   by_cases c8 : x24_3 = true
   ·subst c8
    have H1 : (some (0, false)) = some (r1, r2) := by rw [if_pos rfl] at H; exact H
    clear H
    have H := H1
    clear H1
    simp only [Option.some.injEq, Prod.mk.injEq] at H
    obtain ⟨rfl, rfl⟩ := H
    go_wp2
    go_ret2
    exact ⟨by first | rfl | (simp [errW_none, errW_some] <;> rfl) | (simp [*, errW_none, errW_some] <;> rfl), hb_⟩
   ·replace c8 := Bool.eq_false_iff.mpr c8
    subst c8
    have H1 : ((spec_ctPegs.f kj3 a0 a1).bind fun t330 => (spec_CountOfArea.l0 kj3 a2 0 t330 t330 (t330.length : Int) 0)) = some (r1, r2) := by rw [if_neg (show ¬ (false = true) by decide)] at H; exact H
    clear H
    have H := H1
    clear H1
    replace H := Option.bind_eq_some_iff.mp H
    obtain ⟨t330, A90, H⟩ := H
    replace H : (spec_CountOfArea.l0 kj3 a2 0 t330 t330 (t330.length : Int) 0) = some (r1, r2) := H
    have A9 := Aside0.mk A90
    clear A90
    have H' := Aside0.mk H
    clear H
    go_wp2_with (first | ((with_reducible refine gate_callee (f := 58) rfl ?_); refine goesL_ (some 27) rfl rfl Try.func58 (by kernel_rfl) rfl #[.int .i64 a0, .int .i64 a1] rfl ga_ ?_; (with_reducible refine (spec_ctPegs.calls kj3 a0 a1 t330 _ A9.out).mono ?_); rintro e w10 ⟨v331, rfl, ho0, hb⟩; refine ⟨_, rfl, ?_⟩; have n0_ := Aside0.mk (Kd.R_lower ho0 (below_size (hb_))); have n1_ := Aside0.mk (below_step (hb_) hb); clear HB; have HO332 := n0_; have HB := n1_; clear n0_ n1_; (try clear hb); (try clear hb2); (try clear hk); (try clear hi); (try clear ho0); obtain ⟨Ao11, co11, eo11⟩ := Kd.R_slice HO332.out; subst eo11))
    go_loopg [8, 30] kj3 (fun kq v8 v30 w' => ∃ (x8_2 : Int) (x30_2 : Int), v8 = .int .i64 x8_2 ∧ v30 = .int .i64 x30_2 ∧ Aside0 (spec_CountOfArea.l0 kq a2 x8_2 t330 t330 (t330.length : Int) x30_2 = some (r1, r2)) ∧ Aside0 (kq ≤ kj3) ∧ Aside0 (Kd.R k36 36 w' w.heap.size (fun _ => True) (.slice Ao11 t330.length co11) t330) ∧ Aside0 (Kd.R k36 36 w' w.heap.size (fun _ => True) (.slice Ao11 t330.length co11) t330) ∧ Aside0 (Below w.heap.size w w'))
    case atStart => exact ⟨(0), (0), (by first | rfl | (simp; done) | (simp [*]; done)), (by first | rfl | (simp; done) | (simp [*]; done)), H', ⟨Nat.le_refl _⟩, ⟨rk_ HO332.out⟩, ⟨rk_ HO332.out⟩, ⟨hb_⟩⟩
    case round =>
     clear H'
     try clear p2; try clear c4; try clear c5; try clear c6; try clear c8; try clear p2
     obtain ⟨x8_2, x30_2, rfl, rfl, HA, HK2, HO_9, HO_28, HB⟩ := hrel
     cases gk with
     | zero => exact absurd HA.out (by simp [spec_CountOfArea.l0])
     | succ k2 =>
      have H := HA.out
      clear HA
      simp only [spec_CountOfArea.l0] at H
      by_cases c12 : x30_2 < (t330.length : Int)
      ·rw [if_pos c12] at H
       have c12b0 : decide (x30_2 < (t330.length : Int)) = true := decide_eq_true c12
       clear c12
       by_cases c13 : 0 ≤ x30_2
       ·rw [if_pos c13] at H
        have c13b0 : decide (0 ≤ x30_2) = true := decide_eq_true c13
        clear c13
        by_cases c14 : x30_2 < (t330.length : Int)
        ·rw [if_pos c14] at H
         have c14b0 : decide (x30_2 < (t330.length : Int)) = true := decide_eq_true c14
         clear c14
         have c15b0 := eq_true (odt_ : 0 ≤ x30_2)
         by_cases c16 : x30_2 ≤ (t330.length : Int)
         ·rw [if_pos c16] at H
          have c16b0 := eq_true c16
          have c16b1 : decide (x30_2 ≤ (t330.length : Int)) = true := decide_eq_true c16
          clear c16
          obtain ⟨y335, hy335⟩ : ∃ y_ : List (S36), y_ = (t330.take (x30_2 : Int).toNat) := ⟨_, rfl⟩
          replace H : (spec_CountOfArea.l1 k2 a2 x8_2 t330 t330 (t330.length : Int) x30_2 y335 (y335.length : Int) 0 ((rd_T36 t330 x30_2).f0) ((rd_T36 t330 x30_2).f1)) = some (r1, r2) := by first | (rw [hy335]; with_reducible exact H) | (have H2_ := (Option.bind_some _ _).symm.trans H; rw [hy335]; with_reducible exact H2_) | (have H2_ := (Option.bind_some _ _).symm.trans H; with_reducible exact H2_) | with_reducible exact H | (rw [hy335]; exact H) | exact H
          have Ny335 := Aside0.mk hy335
          clear hy335
          have H' := Aside0.mk H
          clear H
          have p333 : 0 ≤ (x30_2 : Int) := odt_
          have q333 : x30_2 < (t330.length : Int) := odt_
          obtain ⟨ad333, e333, hx333_0, hx333_1⟩ := at_T36 (Kd.R_reads' HO_28.out).2.2 x30_2 p333 q333
          cases e333
          replace p333 := eq_true p333
          replace q333 := eq_true q333
          go_wp2_with (first | ((with_reducible refine gate_dst (N := 11) rfl ?_); refine box_event ?hg (N := 11) ?hd (cs := #[.int .i64 0, .int .i64 0]) (t := 36) ?hr ?_; (case hd => rfl); (case hg => rfl); (case hr => first | (go_simp; done) | (go_simp; rfl)); intro gb334 hg w17 hbox hb; have n0_ := Aside0.mk (Kd.R_below (Kd.R_elderB (rk_ HO_9.out) gb334 (Nat.le_of_eq hg.symm)) hb); have n1_ := Aside0.mk (Kd.R_below (Kd.R_elderB (rk_ HO_28.out) gb334 (Nat.le_of_eq hg.symm)) hb); have n2_ := Aside0.mk (below_step (hb_) hb); have n3_ := Aside0.mk (hbox); have n4_ := Aside0.mk ((by rw [hg]; exact (below_size (hb_)) : w.heap.size ≤ gb334)); have n5_ := Aside0.mk ((by rw [hg]; exact (below_size (hb_)) : w.heap.size ≤ gb334)); clear HO_9; clear HO_28; clear HB; have HO_9 := n0_; have HO_28 := n1_; have HB := n2_; have BK334 := n3_; have GW334 := n4_; have GE334 := n5_; clear n0_ n1_ n2_ n3_ n4_ n5_; clear hb hbox hg; have hcz18_0 : w17.cell? ⟨gb334, 0, none⟩ = some (.int .i64 0) := (blk_cell BK334.out 0).trans rfl; have hcz18_1 : w17.cell? ⟨gb334, 1, none⟩ = some (.int .i64 0) := (blk_cell BK334.out 1).trans rfl; have hfz18_0 := blk_frozen BK334.out 0; have hfz18_1 := blk_frozen BK334.out 1) | ((with_reducible refine gate_store (t := 36) (p := 11) rfl ?_); refine store_event (t := 36) (p := 11) (v := ?vo_w19) (w1 := ((w17.setCell ⟨gb334, 0, none⟩ (.int .i64 ((rd_T36 t330 x30_2).f0))).setCell ⟨gb334, 1, none⟩ (.int .i64 ((rd_T36 t330 x30_2).f1)))) ?hg ?ho ?hn ?hr ?_; (case ho => rfl); (case hg => rfl); (case hn => rfl); (case hr => first | (go_simp; done) | (go_simp; rfl)); intro w19 hw; have n0_ : Aside0 (Kd.R k36 36 w19 w.heap.size (fun k_ => k_ ≠ gb334) (.slice (some ad333) t330.length co11) t330) := ⟨(by rw [hw]; exact (by (with_reducible repeat (first | apply Kd.R_alloc | apply Kd.R_drewN | apply Kd.R_drew)); exact Kd.R_mono (Kd.R_far (p := ⟨gb334, 1, none⟩) (Kd.R_far (p := ⟨gb334, 0, none⟩) (Kd.R_mono HO_9.out (fun k_ hk => (⟨hk, hk.2⟩ : _ ∧ k_ ≠ gb334))) (fun _ hk => hk.2) (.int .i64 ((rd_T36 t330 x30_2).f0))) (fun _ hk => hk.2) (.int .i64 ((rd_T36 t330 x30_2).f1))) (fun _ hk => hk.1.2)))⟩; have n1_ : Aside0 (Kd.R k36 36 w19 w.heap.size (fun k_ => k_ ≠ gb334) (.slice (some ad333) t330.length co11) t330) := ⟨(by rw [hw]; exact (by (with_reducible repeat (first | apply Kd.R_alloc | apply Kd.R_drewN | apply Kd.R_drew)); exact Kd.R_mono (Kd.R_far (p := ⟨gb334, 1, none⟩) (Kd.R_far (p := ⟨gb334, 0, none⟩) (Kd.R_mono HO_28.out (fun k_ hk => (⟨hk, hk.2⟩ : _ ∧ k_ ≠ gb334))) (fun _ hk => hk.2) (.int .i64 ((rd_T36 t330 x30_2).f0))) (fun _ hk => hk.2) (.int .i64 ((rd_T36 t330 x30_2).f1))) (fun _ hk => hk.1.2)))⟩; have n2_ : Aside0 (w19.heap[gb334]? = some (.cells #[.int .i64 ((rd_T36 t330 x30_2).f0), .int .i64 ((rd_T36 t330 x30_2).f1)] 36 (0, 0))) := ⟨(by rw [hw]; exact (by (with_reducible repeat (first | refine blk_drewN ?_ _ | refine blk_drew ?_ | refine blk_alloc ?_ _)); refine blk_put (cs := #[.int .i64 ((rd_T36 t330 x30_2).f0), .int .i64 0]) ?_ 1 _ rfl; (with_reducible repeat (first | refine blk_drewN ?_ _ | refine blk_drew ?_ | refine blk_alloc ?_ _)); refine blk_put (cs := #[.int .i64 0, .int .i64 0]) ?_ 0 _ rfl; (with_reducible repeat (first | refine blk_drewN ?_ _ | refine blk_drew ?_ | refine blk_alloc ?_ _)); exact BK334.out))⟩; have n3_ : Aside0 (Below w.heap.size w w19) := ⟨(by rw [hw]; exact (hbg_))⟩; clear hw; clear HO_9; clear HO_28; clear BK334; clear HB; have HO_9 := n0_; have HO_28 := n1_; have BK334 := n2_; have HB := n3_; clear n0_ n1_ n2_ n3_; have q20 : (x30_2 : Int) ≤ ((t330.length : Int) : Int) := odt_; obtain ⟨i020, hi020, _, hsz20, _⟩ := info_parts info36; have hroom20 : t330.length ≤ co11 := (Kd.R_reads' HO_9.out).2.1; have hC20 : Kd.C k36 _ (some ad333) t330.length t330 := (Kd.R_reads' HO_9.out).2.2; have hcut20 := cut_to (P := Try.prog) 28 36 .i64 Try.underlying28 hi020 (some ad333) t330.length co11 x30_2 (odt_) q20 hroom20; have hr20 := Kd.C_take (m := (x30_2 : Int).toNat) hC20 (by omega); have hy20 : y335.length = (x30_2 : Int).toNat := (by rw [Ny335.out, List.length_take]; omega); rw [← Ny335.out] at hr20; rw [← hy20] at hcut20; have HR338 := Aside0.mk hr20; have HC338 := Aside0.mk (show y335.length ≤ co11 from by omega); clear hr20 hC20 hroom20 hi020 hsz20; have KY20 := Aside0.mk hy20; clear hy20; have KL20 := Aside0.mk (show (x30_2 : Int).toNat ≤ t330.length from by omega); replace q20 := eq_true q20))
          go_loopg [8, 39] k2 (fun kq v8 v39 w' => ∃ (x8_3 : Int) (x39_3 : Int), v8 = .int .i64 x8_3 ∧ v39 = .int .i64 x39_3 ∧ Aside0 (spec_CountOfArea.l1 kq a2 x8_3 t330 t330 (t330.length : Int) x30_2 y335 (y335.length : Int) x39_3 ((rd_T36 t330 x30_2).f0) ((rd_T36 t330 x30_2).f1) = some (r1, r2)) ∧ Aside0 (kq ≤ k2) ∧ Aside0 (Kd.R k36 36 w' w.heap.size (fun k_ => k_ ≠ gb334) (.slice (some ad333) t330.length co11) t330) ∧ Aside0 (Kd.R k36 36 w' w.heap.size (fun k_ => k_ ≠ gb334) (.slice (some ad333) t330.length co11) t330) ∧ Aside0 (w'.heap[gb334]? = some (.cells #[.int .i64 ((rd_T36 t330 x30_2).f0), .int .i64 ((rd_T36 t330 x30_2).f1)] 36 (0, 0))) ∧ Aside0 (Kd.C k36 w' (some ad333) y335.length y335) ∧ Aside0 (Below w.heap.size w w'))
          case atStart => exact ⟨(x8_2), (0), (by first | rfl | (simp; done) | (simp [*]; done)), (by first | rfl | (simp; done) | (simp [*]; done)), H', ⟨Nat.le_refl _⟩, ⟨rk_ HO_9.out⟩, ⟨rk_ HO_28.out⟩, ⟨bk_ BK334.out⟩, ⟨by repeat (first | (with_reducible exact HR338.out) | (with_reducible refine Kd.C_alloc ?_ _) | (with_reducible refine Kd.C_drewN ?_ _) | (with_reducible refine Kd.C_drew ?_) | exact HR338.out)⟩, ⟨hbg_⟩⟩
          case round =>
           clear H'
           try clear c1; try clear p2; try clear q2; try clear p3; try clear q3; try clear hx3; try clear c4; try clear c5; try clear c6; try clear c8; try clear c12; try clear c12b0; try clear c13; try clear c13b0; try clear c14; try clear c14b0; try clear c15; try clear c15b0; try clear c16; try clear c16b0; try clear c16b1; try clear q20; try clear hcz18_0; try clear hcz18_1; try clear hfz18_0; try clear hfz18_1; try clear hx333_0; try clear hx333_1; try clear p2; try clear p333; try clear q20; try clear q333
           obtain ⟨x8_3, x39_3, rfl, rfl, HA, HK3, HO_9, HO_28, BK334, HR338, HB⟩ := hrel
           cases gk with
           | zero => exact absurd HA.out (by simp [spec_CountOfArea.l1])
           | succ k3 =>
            have H := HA.out
            clear HA
            simp only [spec_CountOfArea.l1] at H
            by_cases c21 : x39_3 < (y335.length : Int)
            ·rw [if_pos c21] at H
             have c21b0 : decide (x39_3 < (y335.length : Int)) = true := decide_eq_true c21
             clear c21
             by_cases c22 : 0 ≤ x39_3
             ·rw [if_pos c22] at H
              have c22b0 : decide (0 ≤ x39_3) = true := decide_eq_true c22
              clear c22
              by_cases c23 : x39_3 < (y335.length : Int)
              ·rw [if_pos c23] at H
               have c23b0 : decide (x39_3 < (y335.length : Int)) = true := decide_eq_true c23
               clear c23
               have c24b0 := eq_true (odt_ : 0 ≤ x39_3)
               by_cases c25 : x39_3 ≤ (t330.length : Int)
               ·rw [if_pos c25] at H
                have c25b0 := eq_true c25
                have c25b1 : decide (x39_3 ≤ (t330.length : Int)) = true := decide_eq_true c25
                clear c25
                obtain ⟨y341, hy341⟩ : ∃ y_ : List (S36), y_ = (t330.take (x39_3 : Int).toNat) := ⟨_, rfl⟩
                replace H : (spec_CountOfArea.l2 k3 a2 x8_3 t330 t330 (t330.length : Int) x30_2 y335 (y335.length : Int) x39_3 y341 (y341.length : Int) 0 ((rd_T36 t330 x30_2).f0) ((rd_T36 t330 x30_2).f1) ((rd_T36 y335 x39_3).f0) ((rd_T36 y335 x39_3).f1)) = some (r1, r2) := by first | (rw [hy341]; with_reducible exact H) | (have H2_ := (Option.bind_some _ _).symm.trans H; rw [hy341]; with_reducible exact H2_) | (have H2_ := (Option.bind_some _ _).symm.trans H; with_reducible exact H2_) | with_reducible exact H | (rw [hy341]; exact H) | exact H
                have Ny341 := Aside0.mk hy341
                clear hy341
                have H' := Aside0.mk H
                clear H
                have p339 : 0 ≤ (x39_3 : Int) := odt_
                have q339 : x39_3 < (y335.length : Int) := odt_
                obtain ⟨ad339, e339, hx339_0, hx339_1⟩ := at_T36 (by repeat (first | (with_reducible exact HR338.out) | (with_reducible refine Kd.C_alloc ?_ _) | (with_reducible refine Kd.C_drewN ?_ _) | (with_reducible refine Kd.C_drew ?_) | exact HR338.out)) x39_3 p339 q339
                obtain rfl : ad333 = ad339 := (by injection e339)
                replace p339 := eq_true p339
                replace q339 := eq_true q339
                go_wp2_with (first | ((with_reducible refine gate_dst (N := 13) rfl ?_); refine box_event ?hg (N := 13) ?hd (cs := #[.int .i64 0, .int .i64 0]) (t := 36) ?hr ?_; (case hd => rfl); (case hg => rfl); (case hr => first | (go_simp; done) | (go_simp; rfl)); intro gb340 hg w26 hbox hb; have n0_ := Aside0.mk (Kd.R_below (Kd.R_elderB (rk_ HO_9.out) gb340 (Nat.le_of_eq hg.symm)) hb); have n1_ := Aside0.mk (Kd.R_below (Kd.R_elderB (rk_ HO_28.out) gb340 (Nat.le_of_eq hg.symm)) hb); have n2_ := bb_ BK334 hb; have n3_ := Aside0.mk (Kd.C_below (by repeat (first | (with_reducible exact HR338.out) | (with_reducible refine Kd.C_alloc ?_ _) | (with_reducible refine Kd.C_drewN ?_ _) | (with_reducible refine Kd.C_drew ?_) | exact HR338.out)) hb); have n4_ := Aside0.mk (below_step (hbg_) hb); have n5_ := Aside0.mk (hbox); have n6_ := Aside0.mk ((by rw [hg]; exact (below_size (hbg_)) : w.heap.size ≤ gb340)); have n7_ := Aside0.mk ((by rw [hg]; exact (below_size (hbg_)) : w.heap.size ≤ gb340)); have n8_ := Aside0.mk ((by rw [hg]; exact Nat.ne_of_lt (blk_lt (bk_ BK334.out)) : gb334 ≠ gb340)); have n9_ := Aside0.mk ((by rw [hg]; exact Nat.ne_of_gt (blk_lt (bk_ BK334.out)) : gb340 ≠ gb334)); clear HO_9; clear HO_28; clear BK334; clear HR338; clear HB; have HO_9 := n0_; have HO_28 := n1_; have BK334 := n2_; have HR338 := n3_; have HB := n4_; have BK340 := n5_; have GW340 := n6_; have GE340 := n7_; have NB334_340 := n8_; have NB340_334 := n9_; clear n0_ n1_ n2_ n3_ n4_ n5_ n6_ n7_ n8_ n9_; clear hb hbox hg; have hnb27 := NB340_334.out; have hnc27 := NB334_340.out; have hcz28_0 : w26.cell? ⟨gb340, 0, none⟩ = some (.int .i64 0) := (blk_cell BK340.out 0).trans rfl; have hcz28_1 : w26.cell? ⟨gb340, 1, none⟩ = some (.int .i64 0) := (blk_cell BK340.out 1).trans rfl; have hfz28_0 := blk_frozen BK340.out 0; have hfz28_1 := blk_frozen BK340.out 1) | ((with_reducible refine gate_store (t := 36) (p := 13) rfl ?_); refine store_event (t := 36) (p := 13) (v := ?vo_w29) (w1 := ((w26.setCell ⟨gb340, 0, none⟩ (.int .i64 ((rd_T36 y335 x39_3).f0))).setCell ⟨gb340, 1, none⟩ (.int .i64 ((rd_T36 y335 x39_3).f1)))) ?hg ?ho ?hn ?hr ?_; (case ho => rfl); (case hg => rfl); (case hn => rfl); (case hr => first | (go_simp; done) | (go_simp; rfl)); intro w29 hw; have n0_ : Aside0 (Kd.R k36 36 w29 w.heap.size (fun k_ => k_ ≠ gb334 ∧ k_ ≠ gb340) (.slice (some ad333) t330.length co11) t330) := ⟨(by rw [hw]; exact (by (with_reducible repeat (first | apply Kd.R_alloc | apply Kd.R_drewN | apply Kd.R_drew)); exact Kd.R_mono (Kd.R_far (p := ⟨gb340, 1, none⟩) (Kd.R_far (p := ⟨gb340, 0, none⟩) (Kd.R_mono HO_9.out (fun k_ hk => (⟨hk, hk.2⟩ : _ ∧ k_ ≠ gb340))) (fun _ hk => hk.2) (.int .i64 ((rd_T36 y335 x39_3).f0))) (fun _ hk => hk.2) (.int .i64 ((rd_T36 y335 x39_3).f1))) (fun _ hk => ⟨hk.1.1, hk.1.2⟩)))⟩; have n1_ : Aside0 (Kd.R k36 36 w29 w.heap.size (fun k_ => k_ ≠ gb334 ∧ k_ ≠ gb340) (.slice (some ad333) t330.length co11) t330) := ⟨(by rw [hw]; exact (by (with_reducible repeat (first | apply Kd.R_alloc | apply Kd.R_drewN | apply Kd.R_drew)); exact Kd.R_mono (Kd.R_far (p := ⟨gb340, 1, none⟩) (Kd.R_far (p := ⟨gb340, 0, none⟩) (Kd.R_mono HO_28.out (fun k_ hk => (⟨hk, hk.2⟩ : _ ∧ k_ ≠ gb340))) (fun _ hk => hk.2) (.int .i64 ((rd_T36 y335 x39_3).f0))) (fun _ hk => hk.2) (.int .i64 ((rd_T36 y335 x39_3).f1))) (fun _ hk => ⟨hk.1.1, hk.1.2⟩)))⟩; have n2_ : Aside0 (Kd.C k36 w29 (some ad333) y335.length y335) := ⟨(by rw [hw]; exact ((by skip; exact (show ∀ W_ : World, Kd.C k36 W_ (some ad333) (t330.take (x30_2 : Int).toNat).length (t330.take (x30_2 : Int).toNat) → Kd.C k36 W_ (some ad333) y335.length y335 from fun W_ h_ => by rw [Ny335.out]; exact h_) _ (Kd.C_take (m := (x30_2 : Int).toNat) ((Kd.R_reads' (show Kd.R k36 36 ((w26.setCell ⟨gb340, 0, none⟩ (.int .i64 ((rd_T36 y335 x39_3).f0))).setCell ⟨gb340, 1, none⟩ (.int .i64 ((rd_T36 y335 x39_3).f1))) w.heap.size (fun k_ => k_ ≠ gb334 ∧ k_ ≠ gb340) (.slice (some ad333) t330.length co11) t330 from by (with_reducible repeat (first | apply Kd.R_alloc | apply Kd.R_drewN | apply Kd.R_drew)); exact Kd.R_mono (Kd.R_far (p := ⟨gb340, 1, none⟩) (Kd.R_far (p := ⟨gb340, 0, none⟩) (Kd.R_mono HO_9.out (fun k_ hk => (⟨hk, hk.2⟩ : _ ∧ k_ ≠ gb340))) (fun _ hk => hk.2) (.int .i64 ((rd_T36 y335 x39_3).f0))) (fun _ hk => hk.2) (.int .i64 ((rd_T36 y335 x39_3).f1))) (fun _ hk => ⟨hk.1.1, hk.1.2⟩))).2.2) KL20.out))))⟩; have n3_ : Aside0 (w29.heap[gb334]? = some (.cells #[.int .i64 ((rd_T36 t330 x30_2).f0), .int .i64 ((rd_T36 t330 x30_2).f1)] 36 (0, 0))) := ⟨(by rw [hw]; exact (bf2_ BK334 NB334_340))⟩; have n4_ : Aside0 (w29.heap[gb340]? = some (.cells #[.int .i64 ((rd_T36 y335 x39_3).f0), .int .i64 ((rd_T36 y335 x39_3).f1)] 36 (0, 0))) := ⟨(by rw [hw]; exact (by (with_reducible repeat (first | refine blk_drewN ?_ _ | refine blk_drew ?_ | refine blk_alloc ?_ _)); refine blk_put (cs := #[.int .i64 ((rd_T36 y335 x39_3).f0), .int .i64 0]) ?_ 1 _ rfl; (with_reducible repeat (first | refine blk_drewN ?_ _ | refine blk_drew ?_ | refine blk_alloc ?_ _)); refine blk_put (cs := #[.int .i64 0, .int .i64 0]) ?_ 0 _ rfl; (with_reducible repeat (first | refine blk_drewN ?_ _ | refine blk_drew ?_ | refine blk_alloc ?_ _)); exact BK340.out))⟩; have n5_ : Aside0 (Below w.heap.size w w29) := ⟨(by rw [hw]; exact (hbg_))⟩; clear hw; clear HO_9; clear HO_28; clear HR338; clear BK334; clear BK340; clear HB; have HO_9 := n0_; have HO_28 := n1_; have HR338 := n2_; have BK334 := n3_; have BK340 := n4_; have HB := n5_; clear n0_ n1_ n2_ n3_ n4_ n5_; have q30 : (x39_3 : Int) ≤ ((t330.length : Int) : Int) := odt_; obtain ⟨i030, hi030, _, hsz30, _⟩ := info_parts info36; have hroom30 : t330.length ≤ co11 := (Kd.R_reads' HO_9.out).2.1; have hC30 : Kd.C k36 _ (some ad333) t330.length t330 := (Kd.R_reads' HO_9.out).2.2; have hcut30 := cut_to (P := Try.prog) 28 36 .i64 Try.underlying28 hi030 (some ad333) t330.length co11 x39_3 (odt_) q30 hroom30; have hr30 := Kd.C_take (m := (x39_3 : Int).toNat) hC30 (by omega); have hy30 : y341.length = (x39_3 : Int).toNat := (by rw [Ny341.out, List.length_take]; omega); rw [← Ny341.out] at hr30; rw [← hy30] at hcut30; have HR344 := Aside0.mk hr30; have HC344 := Aside0.mk (show y341.length ≤ co11 from by omega); clear hr30 hC30 hroom30 hi030 hsz30; have KY30 := Aside0.mk hy30; clear hy30; have KL30 := Aside0.mk (show (x39_3 : Int).toNat ≤ t330.length from by omega); replace q30 := eq_true q30))
                go_loopg [8, 48] k3 (fun kq v8 v48 w' => ∃ (x8_4 : Int) (x48_4 : Int), v8 = .int .i64 x8_4 ∧ v48 = .int .i64 x48_4 ∧ Aside0 (spec_CountOfArea.l2 kq a2 x8_4 t330 t330 (t330.length : Int) x30_2 y335 (y335.length : Int) x39_3 y341 (y341.length : Int) x48_4 ((rd_T36 t330 x30_2).f0) ((rd_T36 t330 x30_2).f1) ((rd_T36 y335 x39_3).f0) ((rd_T36 y335 x39_3).f1) = some (r1, r2)) ∧ Aside0 (kq ≤ k3) ∧ Aside0 (Kd.R k36 36 w' w.heap.size (fun k_ => k_ ≠ gb334 ∧ k_ ≠ gb340) (.slice (some ad333) t330.length co11) t330) ∧ Aside0 (Kd.R k36 36 w' w.heap.size (fun k_ => k_ ≠ gb334 ∧ k_ ≠ gb340) (.slice (some ad333) t330.length co11) t330) ∧ Aside0 (w'.heap[gb334]? = some (.cells #[.int .i64 ((rd_T36 t330 x30_2).f0), .int .i64 ((rd_T36 t330 x30_2).f1)] 36 (0, 0))) ∧ Aside0 (w'.heap[gb340]? = some (.cells #[.int .i64 ((rd_T36 y335 x39_3).f0), .int .i64 ((rd_T36 y335 x39_3).f1)] 36 (0, 0))) ∧ Aside0 (Kd.C k36 w' (some ad333) y335.length y335) ∧ Aside0 (Kd.C k36 w' (some ad333) y341.length y341) ∧ Aside0 (Below w.heap.size w w'))
                case atStart => exact ⟨(x8_3), (0), (by first | rfl | (simp; done) | (simp [*]; done)), (by first | rfl | (simp; done) | (simp [*]; done)), H', ⟨Nat.le_refl _⟩, ⟨rk_ HO_9.out⟩, ⟨rk_ HO_28.out⟩, ⟨bk_ BK334.out⟩, ⟨bk_ BK340.out⟩, ⟨by repeat (first | (with_reducible exact HR338.out) | (with_reducible refine Kd.C_alloc ?_ _) | (with_reducible refine Kd.C_drewN ?_ _) | (with_reducible refine Kd.C_drew ?_) | exact HR338.out)⟩, ⟨by repeat (first | (with_reducible exact HR344.out) | (with_reducible refine Kd.C_alloc ?_ _) | (with_reducible refine Kd.C_drewN ?_ _) | (with_reducible refine Kd.C_drew ?_) | exact HR344.out)⟩, ⟨hbg_⟩⟩
                case round =>
                 clear H'
                 try clear c1; try clear c2; try clear p2; try clear q2; try clear p3; try clear q3; try clear hx3; try clear c4; try clear c5; try clear c6; try clear c8; try clear c12; try clear c12b0; try clear c13; try clear c13b0; try clear c14; try clear c14b0; try clear c15; try clear c15b0; try clear c16; try clear c16b0; try clear c16b1; try clear q20; try clear c21; try clear c21b0; try clear c22; try clear c22b0; try clear c23; try clear c23b0; try clear c24; try clear c24b0; try clear c25; try clear c25b0; try clear c25b1; try clear c27; try clear q30; try clear hcz18_0; try clear hcz18_1; try clear hcz28_0; try clear hcz28_1; try clear hfz18_0; try clear hfz18_1; try clear hfz28_0; try clear hfz28_1; try clear hx333_0; try clear hx333_1; try clear hx339_0; try clear hx339_1; try clear p2; try clear p3; try clear p333; try clear p339; try clear q2; try clear q20; try clear q3; try clear q30; try clear q333; try clear q339
                 obtain ⟨x8_4, x48_4, rfl, rfl, HA, HK4, HO_9, HO_28, BK334, BK340, HR338, HR344, HB⟩ := hrel
                 cases gk with
                 | zero => exact absurd HA.out (by simp [spec_CountOfArea.l2])
                 | succ k4 =>
                  have H := HA.out
                  clear HA
                  simp only [spec_CountOfArea.l2] at H
                  by_cases c31 : x48_4 < (y341.length : Int)
                  ·rw [if_pos c31] at H
                   have c31b0 : decide (x48_4 < (y341.length : Int)) = true := decide_eq_true c31
                   clear c31
                   by_cases c32 : 0 ≤ x48_4
                   ·rw [if_pos c32] at H
                    have c32b0 : decide (0 ≤ x48_4) = true := decide_eq_true c32
                    clear c32
                    by_cases c33 : x48_4 < (y341.length : Int)
                    ·rw [if_pos c33] at H
                     have c33b0 : decide (x48_4 < (y341.length : Int)) = true := decide_eq_true c33
                     clear c33
                     replace H := Option.bind_eq_some_iff.mp H
                     obtain ⟨t347, A340, H⟩ := H
                     replace H : ((spec_l1Abs.f t347).bind fun t348 => (if t348 = a2 then (spec_CountOfArea.l2 k4 a2 (wrap64 (x8_4 + 1)) t330 t330 (t330.length : Int) x30_2 y335 (y335.length : Int) x39_3 y341 (y341.length : Int) (wrap64 (x48_4 + 1)) ((rd_T36 t330 x30_2).f0) ((rd_T36 t330 x30_2).f1) ((rd_T36 y335 x39_3).f0) ((rd_T36 y335 x39_3).f1)) else (spec_CountOfArea.l2 k4 a2 x8_4 t330 t330 (t330.length : Int) x30_2 y335 (y335.length : Int) x39_3 y341 (y341.length : Int) (wrap64 (x48_4 + 1)) ((rd_T36 t330 x30_2).f0) ((rd_T36 t330 x30_2).f1) ((rd_T36 y335 x39_3).f0) ((rd_T36 y335 x39_3).f1)))) = some (r1, r2) := H
                     have A34 := Aside0.mk A340
                     clear A340
                     replace H := Option.bind_eq_some_iff.mp H
                     obtain ⟨t348, A350, H⟩ := H
                     replace H : (if t348 = a2 then (spec_CountOfArea.l2 k4 a2 (wrap64 (x8_4 + 1)) t330 t330 (t330.length : Int) x30_2 y335 (y335.length : Int) x39_3 y341 (y341.length : Int) (wrap64 (x48_4 + 1)) ((rd_T36 t330 x30_2).f0) ((rd_T36 t330 x30_2).f1) ((rd_T36 y335 x39_3).f0) ((rd_T36 y335 x39_3).f1)) else (spec_CountOfArea.l2 k4 a2 x8_4 t330 t330 (t330.length : Int) x30_2 y335 (y335.length : Int) x39_3 y341 (y341.length : Int) (wrap64 (x48_4 + 1)) ((rd_T36 t330 x30_2).f0) ((rd_T36 t330 x30_2).f1) ((rd_T36 y335 x39_3).f0) ((rd_T36 y335 x39_3).f1))) = some (r1, r2) := H
                     have A35 := Aside0.mk A350
                     clear A350
                     by_cases c36 : t348 = a2
                     ·rw [if_pos c36] at H
                      have c36b0 : (t348 == a2) = true := beq_iff_eq.mpr c36
                      have c36b1 : (t348 != a2) = false := bne_eq_false_iff_eq.mpr c36
                      clear c36
                      have H' := Aside0.mk H
                      clear H
                      have p345 : 0 ≤ (x48_4 : Int) := odt_
                      have q345 : x48_4 < (y341.length : Int) := odt_
                      obtain ⟨ad345, e345, hx345_0, hx345_1⟩ := at_T36 (by repeat (first | (with_reducible exact HR344.out) | (with_reducible refine Kd.C_alloc ?_ _) | (with_reducible refine Kd.C_drewN ?_ _) | (with_reducible refine Kd.C_drew ?_) | exact HR344.out)) x48_4 p345 q345
                      obtain rfl : ad333 = ad345 := (by injection e345)
                      replace p345 := eq_true p345
                      replace q345 := eq_true q345
                      go_wp2_with (first | ((with_reducible refine gate_dst (N := 15) rfl ?_); refine box_event ?hg (N := 15) ?hd (cs := #[.int .i64 0, .int .i64 0]) (t := 36) ?hr ?_; (case hd => rfl); (case hg => rfl); (case hr => first | (go_simp; done) | (go_simp; rfl)); intro gb346 hg w37 hbox hb; have n0_ := Aside0.mk (Kd.R_below (Kd.R_elderB (rk_ HO_9.out) gb346 (Nat.le_of_eq hg.symm)) hb); have n1_ := Aside0.mk (Kd.R_below (Kd.R_elderB (rk_ HO_28.out) gb346 (Nat.le_of_eq hg.symm)) hb); have n2_ := bb_ BK334 hb; have n3_ := bb_ BK340 hb; have n4_ := Aside0.mk (Kd.C_below (by repeat (first | (with_reducible exact HR338.out) | (with_reducible refine Kd.C_alloc ?_ _) | (with_reducible refine Kd.C_drewN ?_ _) | (with_reducible refine Kd.C_drew ?_) | exact HR338.out)) hb); have n5_ := Aside0.mk (Kd.C_below (by repeat (first | (with_reducible exact HR344.out) | (with_reducible refine Kd.C_alloc ?_ _) | (with_reducible refine Kd.C_drewN ?_ _) | (with_reducible refine Kd.C_drew ?_) | exact HR344.out)) hb); have n6_ := Aside0.mk (below_step (hbg_) hb); have n7_ := Aside0.mk (hbox); have n8_ := Aside0.mk ((by rw [hg]; exact (below_size (hbg_)) : w.heap.size ≤ gb346)); have n9_ := Aside0.mk ((by rw [hg]; exact (below_size (hbg_)) : w.heap.size ≤ gb346)); have n10_ := Aside0.mk ((by rw [hg]; exact Nat.ne_of_lt (blk_lt (bk_ BK334.out)) : gb334 ≠ gb346)); have n11_ := Aside0.mk ((by rw [hg]; exact Nat.ne_of_gt (blk_lt (bk_ BK334.out)) : gb346 ≠ gb334)); have n12_ := Aside0.mk ((by rw [hg]; exact Nat.ne_of_lt (blk_lt (bk_ BK340.out)) : gb340 ≠ gb346)); have n13_ := Aside0.mk ((by rw [hg]; exact Nat.ne_of_gt (blk_lt (bk_ BK340.out)) : gb346 ≠ gb340)); clear HO_9; clear HO_28; clear BK334; clear BK340; clear HR338; clear HR344; clear HB; have HO_9 := n0_; have HO_28 := n1_; have BK334 := n2_; have BK340 := n3_; have HR338 := n4_; have HR344 := n5_; have HB := n6_; have BK346 := n7_; have GW346 := n8_; have GE346 := n9_; have NB334_346 := n10_; have NB346_334 := n11_; have NB340_346 := n12_; have NB346_340 := n13_; clear n0_ n1_ n2_ n3_ n4_ n5_ n6_ n7_ n8_ n9_ n10_ n11_ n12_ n13_; clear hb hbox hg; have hnb38 := NB346_334.out; have hnc38 := NB334_346.out; have hnb39 := NB346_340.out; have hnc39 := NB340_346.out; have hcz40_0 : w37.cell? ⟨gb346, 0, none⟩ = some (.int .i64 0) := (blk_cell BK346.out 0).trans rfl; have hcz40_1 : w37.cell? ⟨gb346, 1, none⟩ = some (.int .i64 0) := (blk_cell BK346.out 1).trans rfl; have hfz40_0 := blk_frozen BK346.out 0; have hfz40_1 := blk_frozen BK346.out 1) | ((with_reducible refine gate_store (t := 36) (p := 15) rfl ?_); refine store_event (t := 36) (p := 15) (v := ?vo_w41) (w1 := ((w37.setCell ⟨gb346, 0, none⟩ (.int .i64 ((rd_T36 y341 x48_4).f0))).setCell ⟨gb346, 1, none⟩ (.int .i64 ((rd_T36 y341 x48_4).f1)))) ?hg ?ho ?hn ?hr ?_; (case ho => rfl); (case hg => rfl); (case hn => rfl); (case hr => first | (go_simp; done) | (go_simp; rfl)); intro w41 hw; have n0_ : Aside0 (Kd.R k36 36 w41 w.heap.size (fun k_ => k_ ≠ gb334 ∧ k_ ≠ gb340 ∧ k_ ≠ gb346) (.slice (some ad333) t330.length co11) t330) := ⟨(by rw [hw]; exact (by (with_reducible repeat (first | apply Kd.R_alloc | apply Kd.R_drewN | apply Kd.R_drew)); exact Kd.R_mono (Kd.R_far (p := ⟨gb346, 1, none⟩) (Kd.R_far (p := ⟨gb346, 0, none⟩) (Kd.R_mono HO_9.out (fun k_ hk => (⟨hk, hk.2⟩ : _ ∧ k_ ≠ gb346))) (fun _ hk => hk.2) (.int .i64 ((rd_T36 y341 x48_4).f0))) (fun _ hk => hk.2) (.int .i64 ((rd_T36 y341 x48_4).f1))) (fun _ hk => ⟨hk.1.1.1, ⟨hk.1.1.2, hk.1.2⟩⟩)))⟩; have n1_ : Aside0 (Kd.R k36 36 w41 w.heap.size (fun k_ => k_ ≠ gb334 ∧ k_ ≠ gb340 ∧ k_ ≠ gb346) (.slice (some ad333) t330.length co11) t330) := ⟨(by rw [hw]; exact (by (with_reducible repeat (first | apply Kd.R_alloc | apply Kd.R_drewN | apply Kd.R_drew)); exact Kd.R_mono (Kd.R_far (p := ⟨gb346, 1, none⟩) (Kd.R_far (p := ⟨gb346, 0, none⟩) (Kd.R_mono HO_28.out (fun k_ hk => (⟨hk, hk.2⟩ : _ ∧ k_ ≠ gb346))) (fun _ hk => hk.2) (.int .i64 ((rd_T36 y341 x48_4).f0))) (fun _ hk => hk.2) (.int .i64 ((rd_T36 y341 x48_4).f1))) (fun _ hk => ⟨hk.1.1.1, ⟨hk.1.1.2, hk.1.2⟩⟩)))⟩; have n2_ : Aside0 (Kd.C k36 w41 (some ad333) y335.length y335) := ⟨(by rw [hw]; exact ((by skip; exact (show ∀ W_ : World, Kd.C k36 W_ (some ad333) (t330.take (x30_2 : Int).toNat).length (t330.take (x30_2 : Int).toNat) → Kd.C k36 W_ (some ad333) y335.length y335 from fun W_ h_ => by rw [Ny335.out]; exact h_) _ (Kd.C_take (m := (x30_2 : Int).toNat) ((Kd.R_reads' (show Kd.R k36 36 ((w37.setCell ⟨gb346, 0, none⟩ (.int .i64 ((rd_T36 y341 x48_4).f0))).setCell ⟨gb346, 1, none⟩ (.int .i64 ((rd_T36 y341 x48_4).f1))) w.heap.size (fun k_ => k_ ≠ gb334 ∧ k_ ≠ gb340 ∧ k_ ≠ gb346) (.slice (some ad333) t330.length co11) t330 from by (with_reducible repeat (first | apply Kd.R_alloc | apply Kd.R_drewN | apply Kd.R_drew)); exact Kd.R_mono (Kd.R_far (p := ⟨gb346, 1, none⟩) (Kd.R_far (p := ⟨gb346, 0, none⟩) (Kd.R_mono HO_9.out (fun k_ hk => (⟨hk, hk.2⟩ : _ ∧ k_ ≠ gb346))) (fun _ hk => hk.2) (.int .i64 ((rd_T36 y341 x48_4).f0))) (fun _ hk => hk.2) (.int .i64 ((rd_T36 y341 x48_4).f1))) (fun _ hk => ⟨hk.1.1.1, ⟨hk.1.1.2, hk.1.2⟩⟩))).2.2) KL20.out))))⟩; have n3_ : Aside0 (Kd.C k36 w41 (some ad333) y341.length y341) := ⟨(by rw [hw]; exact ((by skip; exact (show ∀ W_ : World, Kd.C k36 W_ (some ad333) (t330.take (x39_3 : Int).toNat).length (t330.take (x39_3 : Int).toNat) → Kd.C k36 W_ (some ad333) y341.length y341 from fun W_ h_ => by rw [Ny341.out]; exact h_) _ (Kd.C_take (m := (x39_3 : Int).toNat) ((Kd.R_reads' (show Kd.R k36 36 ((w37.setCell ⟨gb346, 0, none⟩ (.int .i64 ((rd_T36 y341 x48_4).f0))).setCell ⟨gb346, 1, none⟩ (.int .i64 ((rd_T36 y341 x48_4).f1))) w.heap.size (fun k_ => k_ ≠ gb334 ∧ k_ ≠ gb340 ∧ k_ ≠ gb346) (.slice (some ad333) t330.length co11) t330 from by (with_reducible repeat (first | apply Kd.R_alloc | apply Kd.R_drewN | apply Kd.R_drew)); exact Kd.R_mono (Kd.R_far (p := ⟨gb346, 1, none⟩) (Kd.R_far (p := ⟨gb346, 0, none⟩) (Kd.R_mono HO_9.out (fun k_ hk => (⟨hk, hk.2⟩ : _ ∧ k_ ≠ gb346))) (fun _ hk => hk.2) (.int .i64 ((rd_T36 y341 x48_4).f0))) (fun _ hk => hk.2) (.int .i64 ((rd_T36 y341 x48_4).f1))) (fun _ hk => ⟨hk.1.1.1, ⟨hk.1.1.2, hk.1.2⟩⟩))).2.2) KL30.out))))⟩; have n4_ : Aside0 (w41.heap[gb334]? = some (.cells #[.int .i64 ((rd_T36 t330 x30_2).f0), .int .i64 ((rd_T36 t330 x30_2).f1)] 36 (0, 0))) := ⟨(by rw [hw]; exact (bf2_ BK334 NB334_346))⟩; have n5_ : Aside0 (w41.heap[gb340]? = some (.cells #[.int .i64 ((rd_T36 y335 x39_3).f0), .int .i64 ((rd_T36 y335 x39_3).f1)] 36 (0, 0))) := ⟨(by rw [hw]; exact (bf2_ BK340 NB340_346))⟩; have n6_ : Aside0 (w41.heap[gb346]? = some (.cells #[.int .i64 ((rd_T36 y341 x48_4).f0), .int .i64 ((rd_T36 y341 x48_4).f1)] 36 (0, 0))) := ⟨(by rw [hw]; exact (by (with_reducible repeat (first | refine blk_drewN ?_ _ | refine blk_drew ?_ | refine blk_alloc ?_ _)); refine blk_put (cs := #[.int .i64 ((rd_T36 y341 x48_4).f0), .int .i64 0]) ?_ 1 _ rfl; (with_reducible repeat (first | refine blk_drewN ?_ _ | refine blk_drew ?_ | refine blk_alloc ?_ _)); refine blk_put (cs := #[.int .i64 0, .int .i64 0]) ?_ 0 _ rfl; (with_reducible repeat (first | refine blk_drewN ?_ _ | refine blk_drew ?_ | refine blk_alloc ?_ _)); exact BK346.out))⟩; have n7_ : Aside0 (Below w.heap.size w w41) := ⟨(by rw [hw]; exact (hbg_))⟩; clear hw; clear HO_9; clear HO_28; clear HR338; clear HR344; clear BK334; clear BK340; clear BK346; clear HB; have HO_9 := n0_; have HO_28 := n1_; have HR338 := n2_; have HR344 := n3_; have BK334 := n4_; have BK340 := n5_; have BK346 := n6_; have HB := n7_; clear n0_ n1_ n2_ n3_ n4_ n5_ n6_ n7_; have hnb42 := NB334_340.out; have hnc42 := NB340_334.out; have hcz43_0 : w41.cell? ⟨gb334, 0, none⟩ = some (.int .i64 ((rd_T36 t330 x30_2).f0)) := (blk_cell BK334.out 0).trans rfl; have hcz43_1 : w41.cell? ⟨gb334, 1, none⟩ = some (.int .i64 ((rd_T36 t330 x30_2).f1)) := (blk_cell BK334.out 1).trans rfl; have hfz43_0 := blk_frozen BK334.out 0; have hfz43_1 := blk_frozen BK334.out 1; have hcz44_0 : w41.cell? ⟨gb340, 0, none⟩ = some (.int .i64 ((rd_T36 y335 x39_3).f0)) := (blk_cell BK340.out 0).trans rfl; have hcz44_1 : w41.cell? ⟨gb340, 1, none⟩ = some (.int .i64 ((rd_T36 y335 x39_3).f1)) := (blk_cell BK340.out 1).trans rfl; have hfz44_0 := blk_frozen BK340.out 0; have hfz44_1 := blk_frozen BK340.out 1; have hcz45_0 : w41.cell? ⟨gb346, 0, none⟩ = some (.int .i64 ((rd_T36 y341 x48_4).f0)) := (blk_cell BK346.out 0).trans rfl; have hcz45_1 : w41.cell? ⟨gb346, 1, none⟩ = some (.int .i64 ((rd_T36 y341 x48_4).f1)) := (blk_cell BK346.out 1).trans rfl; have hfz45_0 := blk_frozen BK346.out 0; have hfz45_1 := blk_frozen BK346.out 1) | ((with_reducible refine gate_callee (f := 93) rfl ?_); refine goesL_ (some 55) rfl rfl Try.func93 (by kernel_rfl) rfl #[.agg #[.int .i64 ((rd_T36 t330 x30_2).f0), .int .i64 ((rd_T36 t330 x30_2).f1)], .agg #[.int .i64 ((rd_T36 y335 x39_3).f0), .int .i64 ((rd_T36 y335 x39_3).f1)], .agg #[.int .i64 ((rd_T36 y341 x48_4).f0), .int .i64 ((rd_T36 y341 x48_4).f1)]] rfl ga_ ?_; (with_reducible refine (spec_pgTurn.calls ((rd_T36 t330 x30_2).f0) ((rd_T36 t330 x30_2).f1) ((rd_T36 y335 x39_3).f0) ((rd_T36 y335 x39_3).f1) ((rd_T36 y341 x48_4).f0) ((rd_T36 y341 x48_4).f1) t347 _ A34.out).mono ?_); rintro e w46 ⟨rfl, hb⟩; refine ⟨_, rfl, ?_⟩; have n0_ := Aside0.mk (Kd.R_below (rk_ HO_9.out) hb); have n1_ := Aside0.mk (Kd.R_below (rk_ HO_28.out) hb); have n2_ := bb_ BK334 hb; have n3_ := bb_ BK340 hb; have n4_ := Aside0.mk (Kd.C_below (by repeat (first | (with_reducible exact HR338.out) | (with_reducible refine Kd.C_alloc ?_ _) | (with_reducible refine Kd.C_drewN ?_ _) | (with_reducible refine Kd.C_drew ?_) | exact HR338.out)) hb); have n5_ := Aside0.mk (Kd.C_below (by repeat (first | (with_reducible exact HR344.out) | (with_reducible refine Kd.C_alloc ?_ _) | (with_reducible refine Kd.C_drewN ?_ _) | (with_reducible refine Kd.C_drew ?_) | exact HR344.out)) hb); have n6_ := bb_ BK346 hb; have n7_ := Aside0.mk (below_step (hbg_) hb); clear HO_9; clear HO_28; clear BK334; clear BK340; clear HR338; clear HR344; clear BK346; clear HB; have HO_9 := n0_; have HO_28 := n1_; have BK334 := n2_; have BK340 := n3_; have HR338 := n4_; have HR344 := n5_; have BK346 := n6_; have HB := n7_; clear n0_ n1_ n2_ n3_ n4_ n5_ n6_ n7_; (try clear hb); (try clear hb2); (try clear hk); (try clear hi)) | ((with_reducible refine gate_callee (f := 92) rfl ?_); refine goesL_ (some 56) rfl rfl Try.func92 (by kernel_rfl) rfl #[.int .i64 t347] rfl ga_ ?_; (with_reducible refine (spec_l1Abs.calls t347 t348 _ A35.out).mono ?_); rintro e w' ⟨rfl, ⟨nd, rfl⟩⟩; refine ⟨_, rfl, ?_⟩))
                      go_roundg k4
                      case measure => have := HJ3.out; have := HK2.out; have := HK3.out; have := HK4.out; omega
                      case rel => exact ⟨(wrap64 (x8_4 + 1)), (wrap64 (x48_4 + 1)), (by first | rfl | (simp; done) | (simp [*]; done)), (by first | rfl | (simp; done) | (simp [*]; done)), H', ⟨by have := HJ3.out; have := HK2.out; have := HK3.out; have := HK4.out; omega⟩, ⟨by (with_reducible repeat (first | apply Kd.R_alloc | apply Kd.R_drewN | apply Kd.R_drew)); exact Kd.R_mono HO_9.out (fun _ hk => ⟨hk.1, hk.2.1⟩)⟩, ⟨by (with_reducible repeat (first | apply Kd.R_alloc | apply Kd.R_drewN | apply Kd.R_drew)); exact Kd.R_mono HO_28.out (fun _ hk => ⟨hk.1, hk.2.1⟩)⟩, ⟨bk_ BK334.out⟩, ⟨bk_ BK340.out⟩, ⟨by repeat (first | (with_reducible exact HR338.out) | (with_reducible refine Kd.C_alloc ?_ _) | (with_reducible refine Kd.C_drewN ?_ _) | (with_reducible refine Kd.C_drew ?_) | exact HR338.out)⟩, ⟨by repeat (first | (with_reducible exact HR344.out) | (with_reducible refine Kd.C_alloc ?_ _) | (with_reducible refine Kd.C_drewN ?_ _) | (with_reducible refine Kd.C_drew ?_) | exact HR344.out)⟩, ⟨hbg_⟩⟩
                     ·rw [if_neg c36] at H
                      have c36b0 : (t348 == a2) = false := beq_eq_false_iff_ne.mpr c36
                      have c36b1 : (t348 != a2) = true := bne_iff_ne.mpr c36
                      have H' := Aside0.mk H
                      clear H
                      have p345 : 0 ≤ (x48_4 : Int) := odt_
                      have q345 : x48_4 < (y341.length : Int) := odt_
                      obtain ⟨ad345, e345, hx345_0, hx345_1⟩ := at_T36 (by repeat (first | (with_reducible exact HR344.out) | (with_reducible refine Kd.C_alloc ?_ _) | (with_reducible refine Kd.C_drewN ?_ _) | (with_reducible refine Kd.C_drew ?_) | exact HR344.out)) x48_4 p345 q345
                      obtain rfl : ad333 = ad345 := (by injection e345)
                      replace p345 := eq_true p345
                      replace q345 := eq_true q345
                      go_wp2_with (first | ((with_reducible refine gate_dst (N := 15) rfl ?_); refine box_event ?hg (N := 15) ?hd (cs := #[.int .i64 0, .int .i64 0]) (t := 36) ?hr ?_; (case hd => rfl); (case hg => rfl); (case hr => first | (go_simp; done) | (go_simp; rfl)); intro gb346 hg w47 hbox hb; have n0_ := Aside0.mk (Kd.R_below (Kd.R_elderB (rk_ HO_9.out) gb346 (Nat.le_of_eq hg.symm)) hb); have n1_ := Aside0.mk (Kd.R_below (Kd.R_elderB (rk_ HO_28.out) gb346 (Nat.le_of_eq hg.symm)) hb); have n2_ := bb_ BK334 hb; have n3_ := bb_ BK340 hb; have n4_ := Aside0.mk (Kd.C_below (by repeat (first | (with_reducible exact HR338.out) | (with_reducible refine Kd.C_alloc ?_ _) | (with_reducible refine Kd.C_drewN ?_ _) | (with_reducible refine Kd.C_drew ?_) | exact HR338.out)) hb); have n5_ := Aside0.mk (Kd.C_below (by repeat (first | (with_reducible exact HR344.out) | (with_reducible refine Kd.C_alloc ?_ _) | (with_reducible refine Kd.C_drewN ?_ _) | (with_reducible refine Kd.C_drew ?_) | exact HR344.out)) hb); have n6_ := Aside0.mk (below_step (hbg_) hb); have n7_ := Aside0.mk (hbox); have n8_ := Aside0.mk ((by rw [hg]; exact (below_size (hbg_)) : w.heap.size ≤ gb346)); have n9_ := Aside0.mk ((by rw [hg]; exact (below_size (hbg_)) : w.heap.size ≤ gb346)); have n10_ := Aside0.mk ((by rw [hg]; exact Nat.ne_of_lt (blk_lt (bk_ BK334.out)) : gb334 ≠ gb346)); have n11_ := Aside0.mk ((by rw [hg]; exact Nat.ne_of_gt (blk_lt (bk_ BK334.out)) : gb346 ≠ gb334)); have n12_ := Aside0.mk ((by rw [hg]; exact Nat.ne_of_lt (blk_lt (bk_ BK340.out)) : gb340 ≠ gb346)); have n13_ := Aside0.mk ((by rw [hg]; exact Nat.ne_of_gt (blk_lt (bk_ BK340.out)) : gb346 ≠ gb340)); clear HO_9; clear HO_28; clear BK334; clear BK340; clear HR338; clear HR344; clear HB; have HO_9 := n0_; have HO_28 := n1_; have BK334 := n2_; have BK340 := n3_; have HR338 := n4_; have HR344 := n5_; have HB := n6_; have BK346 := n7_; have GW346 := n8_; have GE346 := n9_; have NB334_346 := n10_; have NB346_334 := n11_; have NB340_346 := n12_; have NB346_340 := n13_; clear n0_ n1_ n2_ n3_ n4_ n5_ n6_ n7_ n8_ n9_ n10_ n11_ n12_ n13_; clear hb hbox hg; have hnb48 := NB346_334.out; have hnc48 := NB334_346.out; have hnb49 := NB346_340.out; have hnc49 := NB340_346.out; have hcz50_0 : w47.cell? ⟨gb346, 0, none⟩ = some (.int .i64 0) := (blk_cell BK346.out 0).trans rfl; have hcz50_1 : w47.cell? ⟨gb346, 1, none⟩ = some (.int .i64 0) := (blk_cell BK346.out 1).trans rfl; have hfz50_0 := blk_frozen BK346.out 0; have hfz50_1 := blk_frozen BK346.out 1) | ((with_reducible refine gate_store (t := 36) (p := 15) rfl ?_); refine store_event (t := 36) (p := 15) (v := ?vo_w51) (w1 := ((w47.setCell ⟨gb346, 0, none⟩ (.int .i64 ((rd_T36 y341 x48_4).f0))).setCell ⟨gb346, 1, none⟩ (.int .i64 ((rd_T36 y341 x48_4).f1)))) ?hg ?ho ?hn ?hr ?_; (case ho => rfl); (case hg => rfl); (case hn => rfl); (case hr => first | (go_simp; done) | (go_simp; rfl)); intro w51 hw; have n0_ : Aside0 (Kd.R k36 36 w51 w.heap.size (fun k_ => k_ ≠ gb334 ∧ k_ ≠ gb340 ∧ k_ ≠ gb346) (.slice (some ad333) t330.length co11) t330) := ⟨(by rw [hw]; exact (by (with_reducible repeat (first | apply Kd.R_alloc | apply Kd.R_drewN | apply Kd.R_drew)); exact Kd.R_mono (Kd.R_far (p := ⟨gb346, 1, none⟩) (Kd.R_far (p := ⟨gb346, 0, none⟩) (Kd.R_mono HO_9.out (fun k_ hk => (⟨hk, hk.2⟩ : _ ∧ k_ ≠ gb346))) (fun _ hk => hk.2) (.int .i64 ((rd_T36 y341 x48_4).f0))) (fun _ hk => hk.2) (.int .i64 ((rd_T36 y341 x48_4).f1))) (fun _ hk => ⟨hk.1.1.1, ⟨hk.1.1.2, hk.1.2⟩⟩)))⟩; have n1_ : Aside0 (Kd.R k36 36 w51 w.heap.size (fun k_ => k_ ≠ gb334 ∧ k_ ≠ gb340 ∧ k_ ≠ gb346) (.slice (some ad333) t330.length co11) t330) := ⟨(by rw [hw]; exact (by (with_reducible repeat (first | apply Kd.R_alloc | apply Kd.R_drewN | apply Kd.R_drew)); exact Kd.R_mono (Kd.R_far (p := ⟨gb346, 1, none⟩) (Kd.R_far (p := ⟨gb346, 0, none⟩) (Kd.R_mono HO_28.out (fun k_ hk => (⟨hk, hk.2⟩ : _ ∧ k_ ≠ gb346))) (fun _ hk => hk.2) (.int .i64 ((rd_T36 y341 x48_4).f0))) (fun _ hk => hk.2) (.int .i64 ((rd_T36 y341 x48_4).f1))) (fun _ hk => ⟨hk.1.1.1, ⟨hk.1.1.2, hk.1.2⟩⟩)))⟩; have n2_ : Aside0 (Kd.C k36 w51 (some ad333) y335.length y335) := ⟨(by rw [hw]; exact ((by skip; exact (show ∀ W_ : World, Kd.C k36 W_ (some ad333) (t330.take (x30_2 : Int).toNat).length (t330.take (x30_2 : Int).toNat) → Kd.C k36 W_ (some ad333) y335.length y335 from fun W_ h_ => by rw [Ny335.out]; exact h_) _ (Kd.C_take (m := (x30_2 : Int).toNat) ((Kd.R_reads' (show Kd.R k36 36 ((w47.setCell ⟨gb346, 0, none⟩ (.int .i64 ((rd_T36 y341 x48_4).f0))).setCell ⟨gb346, 1, none⟩ (.int .i64 ((rd_T36 y341 x48_4).f1))) w.heap.size (fun k_ => k_ ≠ gb334 ∧ k_ ≠ gb340 ∧ k_ ≠ gb346) (.slice (some ad333) t330.length co11) t330 from by (with_reducible repeat (first | apply Kd.R_alloc | apply Kd.R_drewN | apply Kd.R_drew)); exact Kd.R_mono (Kd.R_far (p := ⟨gb346, 1, none⟩) (Kd.R_far (p := ⟨gb346, 0, none⟩) (Kd.R_mono HO_9.out (fun k_ hk => (⟨hk, hk.2⟩ : _ ∧ k_ ≠ gb346))) (fun _ hk => hk.2) (.int .i64 ((rd_T36 y341 x48_4).f0))) (fun _ hk => hk.2) (.int .i64 ((rd_T36 y341 x48_4).f1))) (fun _ hk => ⟨hk.1.1.1, ⟨hk.1.1.2, hk.1.2⟩⟩))).2.2) KL20.out))))⟩; have n3_ : Aside0 (Kd.C k36 w51 (some ad333) y341.length y341) := ⟨(by rw [hw]; exact ((by skip; exact (show ∀ W_ : World, Kd.C k36 W_ (some ad333) (t330.take (x39_3 : Int).toNat).length (t330.take (x39_3 : Int).toNat) → Kd.C k36 W_ (some ad333) y341.length y341 from fun W_ h_ => by rw [Ny341.out]; exact h_) _ (Kd.C_take (m := (x39_3 : Int).toNat) ((Kd.R_reads' (show Kd.R k36 36 ((w47.setCell ⟨gb346, 0, none⟩ (.int .i64 ((rd_T36 y341 x48_4).f0))).setCell ⟨gb346, 1, none⟩ (.int .i64 ((rd_T36 y341 x48_4).f1))) w.heap.size (fun k_ => k_ ≠ gb334 ∧ k_ ≠ gb340 ∧ k_ ≠ gb346) (.slice (some ad333) t330.length co11) t330 from by (with_reducible repeat (first | apply Kd.R_alloc | apply Kd.R_drewN | apply Kd.R_drew)); exact Kd.R_mono (Kd.R_far (p := ⟨gb346, 1, none⟩) (Kd.R_far (p := ⟨gb346, 0, none⟩) (Kd.R_mono HO_9.out (fun k_ hk => (⟨hk, hk.2⟩ : _ ∧ k_ ≠ gb346))) (fun _ hk => hk.2) (.int .i64 ((rd_T36 y341 x48_4).f0))) (fun _ hk => hk.2) (.int .i64 ((rd_T36 y341 x48_4).f1))) (fun _ hk => ⟨hk.1.1.1, ⟨hk.1.1.2, hk.1.2⟩⟩))).2.2) KL30.out))))⟩; have n4_ : Aside0 (w51.heap[gb334]? = some (.cells #[.int .i64 ((rd_T36 t330 x30_2).f0), .int .i64 ((rd_T36 t330 x30_2).f1)] 36 (0, 0))) := ⟨(by rw [hw]; exact (bf2_ BK334 NB334_346))⟩; have n5_ : Aside0 (w51.heap[gb340]? = some (.cells #[.int .i64 ((rd_T36 y335 x39_3).f0), .int .i64 ((rd_T36 y335 x39_3).f1)] 36 (0, 0))) := ⟨(by rw [hw]; exact (bf2_ BK340 NB340_346))⟩; have n6_ : Aside0 (w51.heap[gb346]? = some (.cells #[.int .i64 ((rd_T36 y341 x48_4).f0), .int .i64 ((rd_T36 y341 x48_4).f1)] 36 (0, 0))) := ⟨(by rw [hw]; exact (by (with_reducible repeat (first | refine blk_drewN ?_ _ | refine blk_drew ?_ | refine blk_alloc ?_ _)); refine blk_put (cs := #[.int .i64 ((rd_T36 y341 x48_4).f0), .int .i64 0]) ?_ 1 _ rfl; (with_reducible repeat (first | refine blk_drewN ?_ _ | refine blk_drew ?_ | refine blk_alloc ?_ _)); refine blk_put (cs := #[.int .i64 0, .int .i64 0]) ?_ 0 _ rfl; (with_reducible repeat (first | refine blk_drewN ?_ _ | refine blk_drew ?_ | refine blk_alloc ?_ _)); exact BK346.out))⟩; have n7_ : Aside0 (Below w.heap.size w w51) := ⟨(by rw [hw]; exact (hbg_))⟩; clear hw; clear HO_9; clear HO_28; clear HR338; clear HR344; clear BK334; clear BK340; clear BK346; clear HB; have HO_9 := n0_; have HO_28 := n1_; have HR338 := n2_; have HR344 := n3_; have BK334 := n4_; have BK340 := n5_; have BK346 := n6_; have HB := n7_; clear n0_ n1_ n2_ n3_ n4_ n5_ n6_ n7_; have hnb52 := NB334_340.out; have hnc52 := NB340_334.out; have hcz53_0 : w51.cell? ⟨gb334, 0, none⟩ = some (.int .i64 ((rd_T36 t330 x30_2).f0)) := (blk_cell BK334.out 0).trans rfl; have hcz53_1 : w51.cell? ⟨gb334, 1, none⟩ = some (.int .i64 ((rd_T36 t330 x30_2).f1)) := (blk_cell BK334.out 1).trans rfl; have hfz53_0 := blk_frozen BK334.out 0; have hfz53_1 := blk_frozen BK334.out 1; have hcz54_0 : w51.cell? ⟨gb340, 0, none⟩ = some (.int .i64 ((rd_T36 y335 x39_3).f0)) := (blk_cell BK340.out 0).trans rfl; have hcz54_1 : w51.cell? ⟨gb340, 1, none⟩ = some (.int .i64 ((rd_T36 y335 x39_3).f1)) := (blk_cell BK340.out 1).trans rfl; have hfz54_0 := blk_frozen BK340.out 0; have hfz54_1 := blk_frozen BK340.out 1; have hcz55_0 : w51.cell? ⟨gb346, 0, none⟩ = some (.int .i64 ((rd_T36 y341 x48_4).f0)) := (blk_cell BK346.out 0).trans rfl; have hcz55_1 : w51.cell? ⟨gb346, 1, none⟩ = some (.int .i64 ((rd_T36 y341 x48_4).f1)) := (blk_cell BK346.out 1).trans rfl; have hfz55_0 := blk_frozen BK346.out 0; have hfz55_1 := blk_frozen BK346.out 1) | ((with_reducible refine gate_callee (f := 93) rfl ?_); refine goesL_ (some 55) rfl rfl Try.func93 (by kernel_rfl) rfl #[.agg #[.int .i64 ((rd_T36 t330 x30_2).f0), .int .i64 ((rd_T36 t330 x30_2).f1)], .agg #[.int .i64 ((rd_T36 y335 x39_3).f0), .int .i64 ((rd_T36 y335 x39_3).f1)], .agg #[.int .i64 ((rd_T36 y341 x48_4).f0), .int .i64 ((rd_T36 y341 x48_4).f1)]] rfl ga_ ?_; (with_reducible refine (spec_pgTurn.calls ((rd_T36 t330 x30_2).f0) ((rd_T36 t330 x30_2).f1) ((rd_T36 y335 x39_3).f0) ((rd_T36 y335 x39_3).f1) ((rd_T36 y341 x48_4).f0) ((rd_T36 y341 x48_4).f1) t347 _ A34.out).mono ?_); rintro e w56 ⟨rfl, hb⟩; refine ⟨_, rfl, ?_⟩; have n0_ := Aside0.mk (Kd.R_below (rk_ HO_9.out) hb); have n1_ := Aside0.mk (Kd.R_below (rk_ HO_28.out) hb); have n2_ := bb_ BK334 hb; have n3_ := bb_ BK340 hb; have n4_ := Aside0.mk (Kd.C_below (by repeat (first | (with_reducible exact HR338.out) | (with_reducible refine Kd.C_alloc ?_ _) | (with_reducible refine Kd.C_drewN ?_ _) | (with_reducible refine Kd.C_drew ?_) | exact HR338.out)) hb); have n5_ := Aside0.mk (Kd.C_below (by repeat (first | (with_reducible exact HR344.out) | (with_reducible refine Kd.C_alloc ?_ _) | (with_reducible refine Kd.C_drewN ?_ _) | (with_reducible refine Kd.C_drew ?_) | exact HR344.out)) hb); have n6_ := bb_ BK346 hb; have n7_ := Aside0.mk (below_step (hbg_) hb); clear HO_9; clear HO_28; clear BK334; clear BK340; clear HR338; clear HR344; clear BK346; clear HB; have HO_9 := n0_; have HO_28 := n1_; have BK334 := n2_; have BK340 := n3_; have HR338 := n4_; have HR344 := n5_; have BK346 := n6_; have HB := n7_; clear n0_ n1_ n2_ n3_ n4_ n5_ n6_ n7_; (try clear hb); (try clear hb2); (try clear hk); (try clear hi)) | ((with_reducible refine gate_callee (f := 92) rfl ?_); refine goesL_ (some 56) rfl rfl Try.func92 (by kernel_rfl) rfl #[.int .i64 t347] rfl ga_ ?_; (with_reducible refine (spec_l1Abs.calls t347 t348 _ A35.out).mono ?_); rintro e w' ⟨rfl, ⟨nd, rfl⟩⟩; refine ⟨_, rfl, ?_⟩))
                      go_roundg k4
                      case measure => have := HJ3.out; have := HK2.out; have := HK3.out; have := HK4.out; omega
                      case rel => exact ⟨(x8_4), (wrap64 (x48_4 + 1)), (by first | rfl | (simp; done) | (simp [*]; done)), (by first | rfl | (simp; done) | (simp [*]; done)), H', ⟨by have := HJ3.out; have := HK2.out; have := HK3.out; have := HK4.out; omega⟩, ⟨by (with_reducible repeat (first | apply Kd.R_alloc | apply Kd.R_drewN | apply Kd.R_drew)); exact Kd.R_mono HO_9.out (fun _ hk => ⟨hk.1, hk.2.1⟩)⟩, ⟨by (with_reducible repeat (first | apply Kd.R_alloc | apply Kd.R_drewN | apply Kd.R_drew)); exact Kd.R_mono HO_28.out (fun _ hk => ⟨hk.1, hk.2.1⟩)⟩, ⟨bk_ BK334.out⟩, ⟨bk_ BK340.out⟩, ⟨by repeat (first | (with_reducible exact HR338.out) | (with_reducible refine Kd.C_alloc ?_ _) | (with_reducible refine Kd.C_drewN ?_ _) | (with_reducible refine Kd.C_drew ?_) | exact HR338.out)⟩, ⟨by repeat (first | (with_reducible exact HR344.out) | (with_reducible refine Kd.C_alloc ?_ _) | (with_reducible refine Kd.C_drewN ?_ _) | (with_reducible refine Kd.C_drew ?_) | exact HR344.out)⟩, ⟨hbg_⟩⟩
                    ·rw [if_neg c33] at H
                     exact absurd H (by simp)
                   ·rw [if_neg c32] at H
                    exact absurd H (by simp)
                  ·rw [if_neg c31] at H
                   have c31b0 : decide (x48_4 < (y341.length : Int)) = false := decide_eq_false c31
                   clear c31
                   have H' := Aside0.mk H
                   clear H
                   go_wp2
                   go_roundg k4
                   case measure => have := HJ3.out; have := HK2.out; have := HK3.out; have := HK4.out; omega
                   case rel => exact ⟨(x8_4), (wrap64 (x39_3 + 1)), (by first | rfl | (simp; done) | (simp [*]; done)), (by first | rfl | (simp; done) | (simp [*]; done)), H', ⟨by have := HJ3.out; have := HK2.out; have := HK3.out; have := HK4.out; omega⟩, ⟨by (with_reducible repeat (first | apply Kd.R_alloc | apply Kd.R_drewN | apply Kd.R_drew)); exact Kd.R_mono HO_9.out (fun _ hk => hk.1)⟩, ⟨by (with_reducible repeat (first | apply Kd.R_alloc | apply Kd.R_drewN | apply Kd.R_drew)); exact Kd.R_mono HO_28.out (fun _ hk => hk.1)⟩, ⟨bk_ BK334.out⟩, ⟨by repeat (first | (with_reducible exact HR338.out) | (with_reducible refine Kd.C_alloc ?_ _) | (with_reducible refine Kd.C_drewN ?_ _) | (with_reducible refine Kd.C_drew ?_) | exact HR338.out)⟩, ⟨hbg_⟩⟩
               ·rw [if_neg c25] at H
                exact absurd H (by simp)
              ·rw [if_neg c23] at H
               exact absurd H (by simp)
             ·rw [if_neg c22] at H
              exact absurd H (by simp)
            ·rw [if_neg c21] at H
             have c21b0 : decide (x39_3 < (y335.length : Int)) = false := decide_eq_false c21
             clear c21
             have H' := Aside0.mk H
             clear H
             go_wp2
             go_roundg k3
             case measure => have := HJ3.out; have := HK2.out; have := HK3.out; omega
             case rel => exact ⟨(x8_3), (wrap64 (x30_2 + 1)), (by first | rfl | (simp; done) | (simp [*]; done)), (by first | rfl | (simp; done) | (simp [*]; done)), H', ⟨by have := HJ3.out; have := HK2.out; have := HK3.out; omega⟩, ⟨by (with_reducible repeat (first | apply Kd.R_alloc | apply Kd.R_drewN | apply Kd.R_drew)); exact Kd.R_mono HO_9.out (fun _ hk => trivial)⟩, ⟨by (with_reducible repeat (first | apply Kd.R_alloc | apply Kd.R_drewN | apply Kd.R_drew)); exact Kd.R_mono HO_28.out (fun _ hk => trivial)⟩, ⟨hbg_⟩⟩
         ·rw [if_neg c16] at H
          exact absurd H (by simp)
        ·rw [if_neg c14] at H
         exact absurd H (by simp)
       ·rw [if_neg c13] at H
        exact absurd H (by simp)
      ·rw [if_neg c12] at H
       have c12b0 : decide (x30_2 < (t330.length : Int)) = false := decide_eq_false c12
       clear c12
       simp only [Option.some.injEq, Prod.mk.injEq] at H
       obtain ⟨rfl, rfl⟩ := H
       go_wp2
       go_ret2
       exact ⟨by first | rfl | (simp [errW_none, errW_some] <;> rfl) | (simp [*, errW_none, errW_some] <;> rfl), hb_⟩

end Go.Proofs.Ytmenfomcikfnmaa.MB
