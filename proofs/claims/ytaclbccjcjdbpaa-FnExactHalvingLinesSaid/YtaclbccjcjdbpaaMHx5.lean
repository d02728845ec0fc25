-- Written by a program of this session (wip/print/myprint.py) over the kit's printer; Lean checks it.
import Derived.Test.YtaclbccjcjdbpaaMHx0
import Derived.Test.YtaclbccjcjdbpaaMHx1
import Derived.Test.YtaclbccjcjdbpaaMHx4
namespace Go.Proofs.Ytaclbccjcjdbpaa.MH
open Go.RowKit Go.Proofs.YtaclbccjcjdbpaaW.PrintWords Go.Proofs.YtaclbccjcjdbpaaW.PrintLast Go.Proofs.YtaclbccjcjdbpaaW.PrintMore Go.Proofs.YtaclbccjcjdbpaaV
attribute [local go_sem] max2_int min2_int max_two min_two max_three min_three max_four min_four   -- for this text's walks alone
set_option linter.unusedVariables false
set_option linter.unusedSimpArgs false

attribute [local go_sem high] eqA34
/-! ### spec_HalvingLines: function 20 -/
mutual
def spec_HalvingLines.j0 : Nat → List (S34) → Bool → Option (Int × Bool)
  | 0, _, _ => none
  | k + 1, x0, x22 => if x22 = true then (some (0, false)) else (spec_HalvingLines.l0 k x0 0 x0 (x0.length : Int) 0)
def spec_HalvingLines.l0 : Nat → List (S34) → Int → List (S34) → Int → Int → Option (Int × Bool)
  | 0, _, _, _, _, _ => none
  | k + 1, x0, x4, x23, x24, x25 => if x25 < x24 then (if 0 ≤ x25 then (if x25 < (x23.length : Int) then (if x25 ≤ (x0.length : Int) then ((some (x0.take (x25 : Int).toNat : List (S34))).bind fun y135 => (spec_HalvingLines.l1 k x0 x4 x23 x24 x25 y135 (y135.length : Int) 0 ((rd_T34 x23 x25).f0) ((rd_T34 x23 x25).f1))) else (none)) else (none)) else (none)) else (some (x4, true))
def spec_HalvingLines.l1 : Nat → List (S34) → Int → List (S34) → Int → Int → List (S34) → Int → Int → Int → Int → Option (Int × Bool)
  | 0, _, _, _, _, _, _, _, _, _, _ => none
  | k + 1, x0, x4, x23, x24, x25, x32, x33, x34, x135000, x135001 => if x34 < x33 then (if 0 ≤ x34 then (if x34 < (x32.length : Int) then (spec_HalvingLines.l2 k x0 x4 0 0 x23 x24 x25 x32 x33 x34 x0 (x0.length : Int) 0 x135000 x135001 ((rd_T34 x32 x34).f0) ((rd_T34 x32 x34).f1)) else (none)) else (none)) else (spec_HalvingLines.l0 k x0 x4 x23 x24 (wrap64 (x25 + 1)))
def spec_HalvingLines.l2 : Nat → List (S34) → Int → Int → Int → List (S34) → Int → Int → List (S34) → Int → Int → List (S34) → Int → Int → Int → Int → Int → Int → Option (Int × Bool)
  | 0, _, _, _, _, _, _, _, _, _, _, _, _, _, _, _, _, _ => none
  | k + 1, x0, x4, x9, x10, x23, x24, x25, x32, x33, x34, x38, x39, x40, x135000, x135001, x141000, x141001 => if x40 < x39 then (if 0 ≤ x40 then (if x40 < (x38.length : Int) then ((spec_pgTurn.f x135000 x135001 x141000 x141001 ((rd_T34 x38 x40).f0) ((rd_T34 x38 x40).f1)).bind fun t143 => (if t143 > 0 then (spec_HalvingLines.l2 k x0 x4 (wrap64 (x9 + 1)) x10 x23 x24 x25 x32 x33 x34 x38 x39 (wrap64 (x40 + 1)) x135000 x135001 x141000 x141001) else (if t143 < 0 then (spec_HalvingLines.l2 k x0 x4 x9 (wrap64 (x10 + 1)) x23 x24 x25 x32 x33 x34 x38 x39 (wrap64 (x40 + 1)) x135000 x135001 x141000 x141001) else (if (!(((rd_T34 x38 x40).f0) == x135000) || (!(((rd_T34 x38 x40).f1) == x135001))) = true then (if (!(((rd_T34 x38 x40).f0) == x141000) || (!(((rd_T34 x38 x40).f1) == x141001))) = true then (some (0, false)) else (spec_HalvingLines.l2 k x0 x4 x9 x10 x23 x24 x25 x32 x33 x34 x38 x39 (wrap64 (x40 + 1)) x135000 x135001 x141000 x141001)) else (spec_HalvingLines.l2 k x0 x4 x9 x10 x23 x24 x25 x32 x33 x34 x38 x39 (wrap64 (x40 + 1)) x135000 x135001 x141000 x141001))))) else (none)) else (none)) else (if x9 = x10 then (spec_HalvingLines.l1 k x0 (wrap64 (x4 + 1)) x23 x24 x25 x32 x33 (wrap64 (x34 + 1)) x135000 x135001) else (spec_HalvingLines.l1 k x0 x4 x23 x24 x25 x32 x33 (wrap64 (x34 + 1)) x135000 x135001))
end
def spec_HalvingLines.f (k : Nat) (l0 : List (S34)) : Option (Int × Bool) := (spec_bdGood.f k l0).bind fun t132 => (if t132 = true then (spec_HalvingLines.j0 k l0 (((l0.length : Int) % 2) == 1)) else (spec_HalvingLines.j0 k l0 true))
theorem spec_HalvingLines.mono_l : ∀ k, (∀ y0 y1, LeO (spec_HalvingLines.j0 k y0 y1) (spec_HalvingLines.j0 (k + 1) y0 y1)) ∧ (∀ y0 y1 y2 y3 y4, LeO (spec_HalvingLines.l0 k y0 y1 y2 y3 y4) (spec_HalvingLines.l0 (k + 1) y0 y1 y2 y3 y4)) ∧ (∀ y0 y1 y2 y3 y4 y5 y6 y7 y8 y9, LeO (spec_HalvingLines.l1 k y0 y1 y2 y3 y4 y5 y6 y7 y8 y9) (spec_HalvingLines.l1 (k + 1) y0 y1 y2 y3 y4 y5 y6 y7 y8 y9)) ∧ (∀ y0 y1 y2 y3 y4 y5 y6 y7 y8 y9 y10 y11 y12 y13 y14 y15 y16, LeO (spec_HalvingLines.l2 k y0 y1 y2 y3 y4 y5 y6 y7 y8 y9 y10 y11 y12 y13 y14 y15 y16) (spec_HalvingLines.l2 (k + 1) y0 y1 y2 y3 y4 y5 y6 y7 y8 y9 y10 y11 y12 y13 y14 y15 y16))
  | 0 => ⟨fun _ _ r h => by simp [spec_HalvingLines.j0] at h, fun _ _ _ _ _ r h => by simp [spec_HalvingLines.l0] at h, fun _ _ _ _ _ _ _ _ _ _ r h => by simp [spec_HalvingLines.l1] at h, fun _ _ _ _ _ _ _ _ _ _ _ _ _ _ _ _ _ r h => by simp [spec_HalvingLines.l2] at h⟩
  | k + 1 => by
    obtain ⟨ih0, ih1, ih2, ih3⟩ := spec_HalvingLines.mono_l k
    refine ⟨?_, ?_, ?_, ?_⟩
    · intro y0 y1
      unfold spec_HalvingLines.j0
      repeat' first
      | (with_reducible exact ih0 _ _)
      | (with_reducible exact ih1 _ _ _ _ _)
      | (with_reducible exact ih2 _ _ _ _ _ _ _ _ _ _)
      | (with_reducible exact ih3 _ _ _ _ _ _ _ _ _ _ _ _ _ _ _ _ _)
      | (with_reducible exact spec_bdGood.mono _ _)
      | (with_reducible exact LeO.refl _)
      | (with_reducible exact LeO.none _)
      | (with_reducible refine LeO.ite ?_ ?_)
      | (with_reducible refine LeO.bind ?_ (fun _ => ?_))
      | exact ih0 _ _
      | exact ih1 _ _ _ _ _
      | exact ih2 _ _ _ _ _ _ _ _ _ _
      | exact ih3 _ _ _ _ _ _ _ _ _ _ _ _ _ _ _ _ _
      | exact spec_bdGood.mono _ _
      | exact LeO.none _
      | refine LeO.ite ?_ ?_
      | refine LeO.bind ?_ (fun _ => ?_)
    · intro y0 y1 y2 y3 y4
      unfold spec_HalvingLines.l0
      repeat' first
      | (with_reducible exact ih0 _ _)
      | (with_reducible exact ih1 _ _ _ _ _)
      | (with_reducible exact ih2 _ _ _ _ _ _ _ _ _ _)
      | (with_reducible exact ih3 _ _ _ _ _ _ _ _ _ _ _ _ _ _ _ _ _)
      | (with_reducible exact spec_bdGood.mono _ _)
      | (with_reducible exact LeO.refl _)
      | (with_reducible exact LeO.none _)
      | (with_reducible refine LeO.ite ?_ ?_)
      | (with_reducible refine LeO.bind ?_ (fun _ => ?_))
      | exact ih0 _ _
      | exact ih1 _ _ _ _ _
      | exact ih2 _ _ _ _ _ _ _ _ _ _
      | exact ih3 _ _ _ _ _ _ _ _ _ _ _ _ _ _ _ _ _
      | exact spec_bdGood.mono _ _
      | exact LeO.none _
      | refine LeO.ite ?_ ?_
      | refine LeO.bind ?_ (fun _ => ?_)
    · intro y0 y1 y2 y3 y4 y5 y6 y7 y8 y9
      unfold spec_HalvingLines.l1
      repeat' first
      | (with_reducible exact ih0 _ _)
      | (with_reducible exact ih1 _ _ _ _ _)
      | (with_reducible exact ih2 _ _ _ _ _ _ _ _ _ _)
      | (with_reducible exact ih3 _ _ _ _ _ _ _ _ _ _ _ _ _ _ _ _ _)
      | (with_reducible exact spec_bdGood.mono _ _)
      | (with_reducible exact LeO.refl _)
      | (with_reducible exact LeO.none _)
      | (with_reducible refine LeO.ite ?_ ?_)
      | (with_reducible refine LeO.bind ?_ (fun _ => ?_))
      | exact ih0 _ _
      | exact ih1 _ _ _ _ _
      | exact ih2 _ _ _ _ _ _ _ _ _ _
      | exact ih3 _ _ _ _ _ _ _ _ _ _ _ _ _ _ _ _ _
      | exact spec_bdGood.mono _ _
      | exact LeO.none _
      | refine LeO.ite ?_ ?_
      | refine LeO.bind ?_ (fun _ => ?_)
    · intro y0 y1 y2 y3 y4 y5 y6 y7 y8 y9 y10 y11 y12 y13 y14 y15 y16
      unfold spec_HalvingLines.l2
      repeat' first
      | (with_reducible exact ih0 _ _)
      | (with_reducible exact ih1 _ _ _ _ _)
      | (with_reducible exact ih2 _ _ _ _ _ _ _ _ _ _)
      | (with_reducible exact ih3 _ _ _ _ _ _ _ _ _ _ _ _ _ _ _ _ _)
      | (with_reducible exact spec_bdGood.mono _ _)
      | (with_reducible exact LeO.refl _)
      | (with_reducible exact LeO.none _)
      | (with_reducible refine LeO.ite ?_ ?_)
      | (with_reducible refine LeO.bind ?_ (fun _ => ?_))
      | exact ih0 _ _
      | exact ih1 _ _ _ _ _
      | exact ih2 _ _ _ _ _ _ _ _ _ _
      | exact ih3 _ _ _ _ _ _ _ _ _ _ _ _ _ _ _ _ _
      | exact spec_bdGood.mono _ _
      | exact LeO.none _
      | refine LeO.ite ?_ ?_
      | refine LeO.bind ?_ (fun _ => ?_)
theorem spec_HalvingLines.mono : ∀ a0 k, LeO (spec_HalvingLines.f k a0) (spec_HalvingLines.f (k + 1) a0) := by
  intro a0 k
  obtain ⟨ih0, ih1, ih2, ih3⟩ := spec_HalvingLines.mono_l k
  unfold spec_HalvingLines.f
  repeat' first
      | (with_reducible exact ih0 _ _)
      | (with_reducible exact ih1 _ _ _ _ _)
      | (with_reducible exact ih2 _ _ _ _ _ _ _ _ _ _)
      | (with_reducible exact ih3 _ _ _ _ _ _ _ _ _ _ _ _ _ _ _ _ _)
      | (with_reducible exact spec_bdGood.mono _ _)
      | (with_reducible exact LeO.refl _)
      | (with_reducible exact LeO.none _)
      | (with_reducible refine LeO.ite ?_ ?_)
      | (with_reducible refine LeO.bind ?_ (fun _ => ?_))
      | exact ih0 _ _
      | exact ih1 _ _ _ _ _
      | exact ih2 _ _ _ _ _ _ _ _ _ _
      | exact ih3 _ _ _ _ _ _ _ _ _ _ _ _ _ _ _ _ _
      | exact spec_bdGood.mono _ _
      | exact LeO.none _
      | refine LeO.ite ?_ ?_
      | refine LeO.bind ?_ (fun _ => ?_)
set_option maxHeartbeats 8000000 in
set_option maxRecDepth 100000 in
theorem spec_HalvingLines.calls (k : Nat) (A0 : Option Addr) (c0 : Nat) (l0 : List (S34)) (r1 : Int) (r2 : Bool) (w : World) (hr0 : Kd.C k34 w A0 l0.length l0) (hc0 : l0.length ≤ c0) (h : spec_HalvingLines.f k l0 = some (r1, r2)) :
    Calls Try.prog 20 #[.slice A0 l0.length c0] w fun e w' => e = .returned (.tuple #[.int .i64 r1, .bool r2]) ∧ Below w.heap.size w w' := by
  have hu34 := Try.underlying34
  have HR0 := Aside0.mk hr0
  have HC0 := Aside0.mk hc0
  clear hr0 hc0
  have HB := Aside0.mk (Below.refl w.heap.size w)
  have H : ((spec_bdGood.f k l0).bind fun t132 => (if t132 = true then (spec_HalvingLines.j0 k l0 (((l0.length : Int) % 2) == 1)) else (spec_HalvingLines.j0 k l0 true))) = some (r1, r2) := h
  clear h
  have HC2 := Aside0.mk H
  clear H
  go_enter Try.func20, Try.ntmps20
  go_upto_region 1 with (fail)
  go_cut [22] (fun v22 wc => ∃ (kq : Nat) (x22_1 : Bool), v22 = .bool x22_1 ∧ Aside0 (spec_HalvingLines.j0 kq l0 x22_1 = some (r1, r2)) ∧ Aside0 (kq ≤ k) ∧ Aside0 (Below w.heap.size w wc))
  case first =>
    have H := HC2.out
    clear HC2
    replace H := Option.bind_eq_some_iff.mp H
    obtain ⟨t132, A30, H⟩ := H
    replace H : (if t132 = true then (spec_HalvingLines.j0 k l0 (((l0.length : Int) % 2) == 1)) else (spec_HalvingLines.j0 k l0 true)) = some (r1, r2) := H
    have A3 := Aside0.mk A30
    clear A30
    by_cases c4 : t132 = true
    · subst c4
      have H1 : (spec_HalvingLines.j0 k l0 (((l0.length : Int) % 2) == 1)) = some (r1, r2) := by rw [if_pos rfl] at H; exact H
      clear H
      have H := H1
      clear H1
      have H' := Aside0.mk H
      clear H
      go_wp2_with (first | ((with_reducible refine gate_callee (f := 46) rfl ?_); refine goesL_ (some 15) rfl rfl Try.func46 (by kernel_rfl) rfl #[.slice A0 l0.length c0] rfl ga_ ?_; (with_reducible refine (spec_bdGood.calls k _ _ l0 true _ ?side1 ?side2 A3.out).mono ?_); (case side1 => repeat (first | exact (Kd.C_below HR0.out HB.out) | (with_reducible refine Kd.C_alloc ?_ _) | (with_reducible refine Kd.C_drewN ?_ _) | (with_reducible refine Kd.C_drew ?_))); (case side2 => exact HC0.out); rintro e w5 ⟨rfl, hb⟩; refine ⟨_, rfl, ?_⟩; have n0_ := Aside0.mk (below_step (hb_) hb); clear HB; have HB := n0_; clear n0_; (try clear hb); (try clear hb2); (try clear hk); (try clear hi)))
      go_meet
      case rel => exact ⟨_, ((((l0.length : Int) % 2) == 1)), (by first | rfl | (simp; done) | (simp [*]; done)), H', ⟨by first | omega | exact Nat.le_refl _⟩, ⟨hb_⟩⟩
    · replace c4 := Bool.eq_false_iff.mpr c4
      subst c4
      have H1 : (spec_HalvingLines.j0 k l0 true) = some (r1, r2) := by rw [if_neg (show ¬ (false = true) by decide)] at H; exact H
      clear H
      have H := H1
      clear H1
      have H' := Aside0.mk H
      clear H
      go_wp2_with (first | ((with_reducible refine gate_callee (f := 46) rfl ?_); refine goesL_ (some 15) rfl rfl Try.func46 (by kernel_rfl) rfl #[.slice A0 l0.length c0] rfl ga_ ?_; (with_reducible refine (spec_bdGood.calls k _ _ l0 false _ ?side1 ?side2 A3.out).mono ?_); (case side1 => repeat (first | exact (Kd.C_below HR0.out HB.out) | (with_reducible refine Kd.C_alloc ?_ _) | (with_reducible refine Kd.C_drewN ?_ _) | (with_reducible refine Kd.C_drew ?_))); (case side2 => exact HC0.out); rintro e w6 ⟨rfl, hb⟩; refine ⟨_, rfl, ?_⟩; have n0_ := Aside0.mk (below_step (hb_) hb); clear HB; have HB := n0_; clear n0_; (try clear hb); (try clear hb2); (try clear hk); (try clear hi)))
      go_meet
      case rel => exact ⟨_, (true), (by first | rfl | (simp; done) | (simp [*]; done)), H', ⟨by first | omega | exact Nat.le_refl _⟩, ⟨hb_⟩⟩
  case rest =>
    clear HC2
    try clear c2
    try clear p2
    try clear c4
    obtain ⟨kq, x22_1, rfl, HA, HJ1, HB⟩ := hcut
    cases kq with
    | zero => exact absurd HA.out (by simp [spec_HalvingLines.j0])
    | succ kj1 =>
      have H := HA.out
      clear HA
      simp only [spec_HalvingLines.j0] at H
      by_cases c7 : x22_1 = true
      · subst c7
        have H1 : (some (0, false)) = some (r1, r2) := by rw [if_pos rfl] at H; exact H
        clear H
        have H := H1
        clear H1
        simp only [Option.some.injEq, Prod.mk.injEq] at H
        obtain ⟨rfl, rfl⟩ := H
        go_wp2
        go_ret2
        exact ⟨by first | rfl | (simp [errW_none, errW_some] <;> rfl) | (simp [*, errW_none, errW_some] <;> rfl), hb_⟩
      · replace c7 := Bool.eq_false_iff.mpr c7
        subst c7
        have H1 : (spec_HalvingLines.l0 kj1 l0 0 l0 (l0.length : Int) 0) = some (r1, r2) := by rw [if_neg (show ¬ (false = true) by decide)] at H; exact H
        clear H
        have H := H1
        clear H1
        have H' := Aside0.mk H
        clear H
        go_wp2
        go_loopg [4, 25] kj1 (fun kq v4 v25 w' => ∃ (x4_2 : Int) (x25_2 : Int), v4 = .int .i64 x4_2 ∧ v25 = .int .i64 x25_2 ∧ Aside0 (spec_HalvingLines.l0 kq l0 x4_2 l0 (l0.length : Int) x25_2 = some (r1, r2)) ∧ Aside0 (kq ≤ kj1) ∧ Aside0 (Below w.heap.size w w'))
        case atStart => exact ⟨(0), (0), (by first | rfl | (simp; done) | (simp [*]; done)), (by first | rfl | (simp; done) | (simp [*]; done)), H', ⟨Nat.le_refl _⟩, ⟨hb_⟩⟩
        case round =>
          clear H'
          try clear c2
          try clear p2
          try clear c4
          try clear c7
          try clear p2
          obtain ⟨x4_2, x25_2, rfl, rfl, HA, HK2, HB⟩ := hrel
          cases gk with
          | zero => exact absurd HA.out (by simp [spec_HalvingLines.l0])
          | succ k2 =>
            have H := HA.out
            clear HA
            simp only [spec_HalvingLines.l0] at H
            by_cases c8 : x25_2 < (l0.length : Int)
            · rw [if_pos c8] at H
              have c8b0 : decide (x25_2 < (l0.length : Int)) = true := decide_eq_true c8
              clear c8
              by_cases c9 : 0 ≤ x25_2
              · rw [if_pos c9] at H
                have c9b0 : decide (0 ≤ x25_2) = true := decide_eq_true c9
                clear c9
                by_cases c10 : x25_2 < (l0.length : Int)
                · rw [if_pos c10] at H
                  have c10b0 : decide (x25_2 < (l0.length : Int)) = true := decide_eq_true c10
                  clear c10
                  have c11b0 := eq_true (odt_ : 0 ≤ x25_2)
                  by_cases c12 : x25_2 ≤ (l0.length : Int)
                  · rw [if_pos c12] at H
                    have c12b0 := eq_true c12
                    have c12b1 : decide (x25_2 ≤ (l0.length : Int)) = true := decide_eq_true c12
                    clear c12
                    obtain ⟨y135, hy135⟩ : ∃ y_ : List (S34), y_ = (l0.take (x25_2 : Int).toNat) := ⟨_, rfl⟩
                    replace H : (spec_HalvingLines.l1 k2 l0 x4_2 l0 (l0.length : Int) x25_2 y135 (y135.length : Int) 0 ((rd_T34 l0 x25_2).f0) ((rd_T34 l0 x25_2).f1)) = some (r1, r2) := by first | (rw [hy135]; with_reducible exact H) | (have H2_ := (Option.bind_some _ _).symm.trans H; rw [hy135]; with_reducible exact H2_) | (have H2_ := (Option.bind_some _ _).symm.trans H; with_reducible exact H2_) | with_reducible exact H | (rw [hy135]; exact H) | exact H
                    have Ny135 := Aside0.mk hy135
                    clear hy135
                    have H' := Aside0.mk H
                    clear H
                    have p133 : 0 ≤ (x25_2 : Int) := odt_
                    have q133 : x25_2 < (l0.length : Int) := odt_
                    obtain ⟨ad133, e133, hx133_0, hx133_1⟩ := at_T34 HR0.out x25_2 p133 q133
                    cases e133
                    replace hx133_0 := (HB.out.cell (World.block_lt_of_cell? w _ hx133_0)).trans hx133_0
                    replace hx133_1 := (HB.out.cell (World.block_lt_of_cell? w _ hx133_1)).trans hx133_1
                    replace p133 := eq_true p133
                    replace q133 := eq_true q133
                    go_wp2_with (first | ((with_reducible refine gate_dst (N := 6) rfl ?_); (try (refine gate_guard (by rfl) ?_; dsimp only)); refine box_event ?hg (N := 6) ?hd (cs := #[.int .i64 0, .int .i64 0]) (t := 34) ?hr ?_; (case hd => rfl); (case hg => rfl); (case hr => first | (go_simp; done) | (go_simp; rfl)); intro gb134 hg w13 hbox hb; have n0_ := Aside0.mk (below_step (hb_) hb); have n1_ := Aside0.mk (hbox); have n2_ := Aside0.mk ((by rw [hg]; exact (below_size (hb_)) : w.heap.size ≤ gb134)); have n3_ := Aside0.mk ((by rw [hg]; exact (below_size (hb_)) : w.heap.size ≤ gb134)); clear HB; have HB := n0_; have BK134 := n1_; have GW134 := n2_; have GE134 := n3_; clear n0_ n1_ n2_ n3_; clear hb hbox hg; have hcz14_0 : w13.cell? ⟨gb134, 0, none⟩ = some (.int .i64 0) := (blk_cell BK134.out 0).trans rfl; have hcz14_1 : w13.cell? ⟨gb134, 1, none⟩ = some (.int .i64 0) := (blk_cell BK134.out 1).trans rfl; have hfz14_0 := blk_frozen BK134.out 0; have hfz14_1 := blk_frozen BK134.out 1) | ((with_reducible refine gate_store (t := 34) (p := 6) rfl ?_); refine store_event (t := 34) (p := 6) (v := ?vo_w15) (w1 := ((w13.setCell ⟨gb134, 0, none⟩ (.int .i64 ((rd_T34 l0 x25_2).f0))).setCell ⟨gb134, 1, none⟩ (.int .i64 ((rd_T34 l0 x25_2).f1)))) ?hg ?ho ?hn ?hr ?_; (case ho => rfl); (case hg => rfl); (case hn => rfl); (case hr => first | (go_simp; done) | (go_simp; rfl)); intro w15 hw; have n0_ : Aside0 (w15.heap[gb134]? = some (.cells #[.int .i64 ((rd_T34 l0 x25_2).f0), .int .i64 ((rd_T34 l0 x25_2).f1)] 34 (0, 0))) := ⟨(by rw [hw]; exact (by (with_reducible repeat (first | refine blk_drewN ?_ _ | refine blk_drew ?_ | refine blk_alloc ?_ _)); refine blk_put (cs := #[.int .i64 ((rd_T34 l0 x25_2).f0), .int .i64 0]) ?_ 1 _ rfl; (with_reducible repeat (first | refine blk_drewN ?_ _ | refine blk_drew ?_ | refine blk_alloc ?_ _)); refine blk_put (cs := #[.int .i64 0, .int .i64 0]) ?_ 0 _ rfl; (with_reducible repeat (first | refine blk_drewN ?_ _ | refine blk_drew ?_ | refine blk_alloc ?_ _)); exact BK134.out))⟩; have n1_ : Aside0 (Below w.heap.size w w15) := ⟨(by rw [hw]; exact (hbg_))⟩; clear hw; clear BK134; clear HB; have BK134 := n0_; have HB := n1_; clear n0_ n1_; have q16 : (x25_2 : Int) ≤ ((l0.length : Int) : Int) := odt_; obtain ⟨i016, hi016, _, hsz16, _⟩ := info_parts info34; have hroom16 : l0.length ≤ c0 := HC0.out; have hC16 : Kd.C k34 _ (some ad133) l0.length l0 := HR0.out; have hcut16 := cut_to (P := Try.prog) 25 34 .i64 Try.underlying25 hi016 (some ad133) l0.length c0 x25_2 (odt_) q16 hroom16; have hr16 := Kd.C_take (m := (x25_2 : Int).toNat) hC16 (by omega); have hy16 : y135.length = (x25_2 : Int).toNat := (by rw [Ny135.out, List.length_take]; omega); rw [← Ny135.out] at hr16; rw [← hy16] at hcut16; have HR138 := Aside0.mk hr16; have HC138 := Aside0.mk (show y135.length ≤ c0 from by omega); clear hr16 hC16 hroom16 hi016 hsz16; have KY16 := Aside0.mk hy16; clear hy16; replace q16 := eq_true q16))
                    go_loopg [4, 34] k2 (fun kq v4 v34 w' => ∃ (x4_3 : Int) (x34_3 : Int), v4 = .int .i64 x4_3 ∧ v34 = .int .i64 x34_3 ∧ Aside0 (spec_HalvingLines.l1 kq l0 x4_3 l0 (l0.length : Int) x25_2 y135 (y135.length : Int) x34_3 ((rd_T34 l0 x25_2).f0) ((rd_T34 l0 x25_2).f1) = some (r1, r2)) ∧ Aside0 (kq ≤ k2) ∧ Aside0 (w'.heap[gb134]? = some (.cells #[.int .i64 ((rd_T34 l0 x25_2).f0), .int .i64 ((rd_T34 l0 x25_2).f1)] 34 (0, 0))) ∧ Aside0 (Below w.heap.size w w'))
                    case atStart => exact ⟨(x4_2), (0), (by first | rfl | (simp; done) | (simp [*]; done)), (by first | rfl | (simp; done) | (simp [*]; done)), H', ⟨Nat.le_refl _⟩, ⟨bk_ BK134.out⟩, ⟨hbg_⟩⟩
                    case round =>
                      clear H'
                      try clear c1
                      try clear p1
                      try clear q1
                      try clear hx1
                      try clear c2
                      try clear p2
                      try clear c4
                      try clear c7
                      try clear c8
                      try clear c8b0
                      try clear c9
                      try clear c9b0
                      try clear c10
                      try clear c10b0
                      try clear c11
                      try clear c11b0
                      try clear c12
                      try clear c12b0
                      try clear c12b1
                      try clear p13
                      try clear q13
                      try clear hx13
                      try clear q16
                      try clear hcz14_0
                      try clear hcz14_1
                      try clear hfz14_0
                      try clear hfz14_1
                      try clear hx133_0
                      try clear hx133_1
                      try clear p133
                      try clear p2
                      try clear q133
                      try clear q16
                      obtain ⟨x4_3, x34_3, rfl, rfl, HA, HK3, BK134, HB⟩ := hrel
                      cases gk with
                      | zero => exact absurd HA.out (by simp [spec_HalvingLines.l1])
                      | succ k3 =>
                        have H := HA.out
                        clear HA
                        simp only [spec_HalvingLines.l1] at H
                        by_cases c17 : x34_3 < (y135.length : Int)
                        · rw [if_pos c17] at H
                          have c17b0 : decide (x34_3 < (y135.length : Int)) = true := decide_eq_true c17
                          clear c17
                          by_cases c18 : 0 ≤ x34_3
                          · rw [if_pos c18] at H
                            have c18b0 : decide (0 ≤ x34_3) = true := decide_eq_true c18
                            clear c18
                            by_cases c19 : x34_3 < (y135.length : Int)
                            · rw [if_pos c19] at H
                              have c19b0 : decide (x34_3 < (y135.length : Int)) = true := decide_eq_true c19
                              clear c19
                              have H' := Aside0.mk H
                              clear H
                              have p139 : 0 ≤ (x34_3 : Int) := odt_
                              have q139 : x34_3 < (y135.length : Int) := odt_
                              obtain ⟨ad139, e139, hx139_0, hx139_1⟩ := at_T34 HR138.out x34_3 p139 q139
                              obtain rfl : ad133 = ad139 := (by injection e139)
                              replace hx139_0 := (HB.out.cell (World.block_lt_of_cell? w _ hx139_0)).trans hx139_0
                              replace hx139_1 := (HB.out.cell (World.block_lt_of_cell? w _ hx139_1)).trans hx139_1
                              replace p139 := eq_true p139
                              replace q139 := eq_true q139
                              go_wp2_with (first | ((with_reducible refine gate_dst (N := 8) rfl ?_); (try (refine gate_guard (by rfl) ?_; dsimp only)); refine box_event ?hg (N := 8) ?hd (cs := #[.int .i64 0, .int .i64 0]) (t := 34) ?hr ?_; (case hd => rfl); (case hg => rfl); (case hr => first | (go_simp; done) | (go_simp; rfl)); intro gb140 hg w20 hbox hb; have n0_ := bb_ BK134 hb; have n1_ := Aside0.mk (below_step (hbg_) hb); have n2_ := Aside0.mk (hbox); have n3_ := Aside0.mk ((by rw [hg]; exact (below_size (hbg_)) : w.heap.size ≤ gb140)); have n4_ := Aside0.mk ((by rw [hg]; exact (below_size (hbg_)) : w.heap.size ≤ gb140)); have n5_ := Aside0.mk ((by rw [hg]; exact Nat.ne_of_lt (blk_lt (bk_ BK134.out)) : gb134 ≠ gb140)); have n6_ := Aside0.mk ((by rw [hg]; exact Nat.ne_of_gt (blk_lt (bk_ BK134.out)) : gb140 ≠ gb134)); clear BK134; clear HB; have BK134 := n0_; have HB := n1_; have BK140 := n2_; have GW140 := n3_; have GE140 := n4_; have NB134_140 := n5_; have NB140_134 := n6_; clear n0_ n1_ n2_ n3_ n4_ n5_ n6_; clear hb hbox hg; have hnb21 := NB140_134.out; have hnc21 := NB134_140.out; have hcz22_0 : w20.cell? ⟨gb140, 0, none⟩ = some (.int .i64 0) := (blk_cell BK140.out 0).trans rfl; have hcz22_1 : w20.cell? ⟨gb140, 1, none⟩ = some (.int .i64 0) := (blk_cell BK140.out 1).trans rfl; have hfz22_0 := blk_frozen BK140.out 0; have hfz22_1 := blk_frozen BK140.out 1))
                              go_loopg [9, 10, 40] k3 (fun kq v9 v10 v40 w' => ∃ (x9_4 : Int) (x10_4 : Int) (x40_4 : Int), v9 = .int .i64 x9_4 ∧ v10 = .int .i64 x10_4 ∧ v40 = .int .i64 x40_4 ∧ Aside0 (spec_HalvingLines.l2 kq l0 x4_3 x9_4 x10_4 l0 (l0.length : Int) x25_2 y135 (y135.length : Int) x34_3 l0 (l0.length : Int) x40_4 ((rd_T34 l0 x25_2).f0) ((rd_T34 l0 x25_2).f1) ((rd_T34 y135 x34_3).f0) ((rd_T34 y135 x34_3).f1) = some (r1, r2)) ∧ Aside0 (kq ≤ k3) ∧ Aside0 (w'.heap[gb134]? = some (.cells #[.int .i64 ((rd_T34 l0 x25_2).f0), .int .i64 ((rd_T34 l0 x25_2).f1)] 34 (0, 0))) ∧ Aside0 (w'.heap[gb140]? = some (.cells #[.int .i64 ((rd_T34 y135 x34_3).f0), .int .i64 ((rd_T34 y135 x34_3).f1)] 34 (0, 0))) ∧ Aside0 (Below w.heap.size w w'))
                              case atStart => exact ⟨(0), (0), (0), (by first | rfl | (simp; done) | (simp [*]; done)), (by first | rfl | (simp; done) | (simp [*]; done)), (by first | rfl | (simp; done) | (simp [*]; done)), H', ⟨Nat.le_refl _⟩, ⟨by (with_reducible repeat (first | refine blk_drewN ?_ _ | refine blk_drew ?_ | refine blk_alloc ?_ _)); refine blk_far ?_ NB134_140.out _; (with_reducible repeat (first | refine blk_drewN ?_ _ | refine blk_drew ?_ | refine blk_alloc ?_ _)); refine blk_far ?_ NB134_140.out _; (with_reducible repeat (first | refine blk_drewN ?_ _ | refine blk_drew ?_ | refine blk_alloc ?_ _)); exact BK134.out⟩, ⟨by (with_reducible repeat (first | refine blk_drewN ?_ _ | refine blk_drew ?_ | refine blk_alloc ?_ _)); refine blk_put (cs := #[.int .i64 ((rd_T34 y135 x34_3).f0), .int .i64 0]) ?_ 1 _ rfl; (with_reducible repeat (first | refine blk_drewN ?_ _ | refine blk_drew ?_ | refine blk_alloc ?_ _)); refine blk_put (cs := #[.int .i64 0, .int .i64 0]) ?_ 0 _ rfl; (with_reducible repeat (first | refine blk_drewN ?_ _ | refine blk_drew ?_ | refine blk_alloc ?_ _)); exact BK140.out⟩, ⟨hbg_⟩⟩
                              case round =>
                                clear H'
                                try clear c1
                                try clear p1
                                try clear q1
                                try clear hx1
                                try clear c2
                                try clear p2
                                try clear c4
                                try clear c7
                                try clear c8
                                try clear c8b0
                                try clear c9
                                try clear c9b0
                                try clear c10
                                try clear c10b0
                                try clear c11
                                try clear c11b0
                                try clear c12
                                try clear c12b0
                                try clear c12b1
                                try clear p13
                                try clear q13
                                try clear hx13
                                try clear q16
                                try clear c17
                                try clear c17b0
                                try clear c18
                                try clear c18b0
                                try clear c19
                                try clear c19b0
                                try clear c20
                                try clear c21
                                try clear hcz14_0
                                try clear hcz14_1
                                try clear hcz22_0
                                try clear hcz22_1
                                try clear hfz14_0
                                try clear hfz14_1
                                try clear hfz22_0
                                try clear hfz22_1
                                try clear hx133_0
                                try clear hx133_1
                                try clear hx139_0
                                try clear hx139_1
                                try clear p1
                                try clear p13
                                try clear p133
                                try clear p139
                                try clear p2
                                try clear q1
                                try clear q13
                                try clear q133
                                try clear q139
                                try clear q16
                                obtain ⟨x9_4, x10_4, x40_4, rfl, rfl, rfl, HA, HK4, BK134, BK140, HB⟩ := hrel
                                cases gk with
                                | zero => exact absurd HA.out (by simp [spec_HalvingLines.l2])
                                | succ k4 =>
                                  have H := HA.out
                                  clear HA
                                  simp only [spec_HalvingLines.l2] at H
                                  by_cases c23 : x40_4 < (l0.length : Int)
                                  · rw [if_pos c23] at H
                                    have c23b0 : decide (x40_4 < (l0.length : Int)) = true := decide_eq_true c23
                                    clear c23
                                    by_cases c24 : 0 ≤ x40_4
                                    · rw [if_pos c24] at H
                                      have c24b0 : decide (0 ≤ x40_4) = true := decide_eq_true c24
                                      clear c24
                                      by_cases c25 : x40_4 < (l0.length : Int)
                                      · rw [if_pos c25] at H
                                        have c25b0 : decide (x40_4 < (l0.length : Int)) = true := decide_eq_true c25
                                        clear c25
                                        replace H := Option.bind_eq_some_iff.mp H
                                        obtain ⟨t143, A260, H⟩ := H
                                        replace H : (if t143 > 0 then (spec_HalvingLines.l2 k4 l0 x4_3 (wrap64 (x9_4 + 1)) x10_4 l0 (l0.length : Int) x25_2 y135 (y135.length : Int) x34_3 l0 (l0.length : Int) (wrap64 (x40_4 + 1)) ((rd_T34 l0 x25_2).f0) ((rd_T34 l0 x25_2).f1) ((rd_T34 y135 x34_3).f0) ((rd_T34 y135 x34_3).f1)) else (if t143 < 0 then (spec_HalvingLines.l2 k4 l0 x4_3 x9_4 (wrap64 (x10_4 + 1)) l0 (l0.length : Int) x25_2 y135 (y135.length : Int) x34_3 l0 (l0.length : Int) (wrap64 (x40_4 + 1)) ((rd_T34 l0 x25_2).f0) ((rd_T34 l0 x25_2).f1) ((rd_T34 y135 x34_3).f0) ((rd_T34 y135 x34_3).f1)) else (if (!(((rd_T34 l0 x40_4).f0) == ((rd_T34 l0 x25_2).f0)) || (!(((rd_T34 l0 x40_4).f1) == ((rd_T34 l0 x25_2).f1)))) = true then (if (!(((rd_T34 l0 x40_4).f0) == ((rd_T34 y135 x34_3).f0)) || (!(((rd_T34 l0 x40_4).f1) == ((rd_T34 y135 x34_3).f1)))) = true then (some (0, false)) else (spec_HalvingLines.l2 k4 l0 x4_3 x9_4 x10_4 l0 (l0.length : Int) x25_2 y135 (y135.length : Int) x34_3 l0 (l0.length : Int) (wrap64 (x40_4 + 1)) ((rd_T34 l0 x25_2).f0) ((rd_T34 l0 x25_2).f1) ((rd_T34 y135 x34_3).f0) ((rd_T34 y135 x34_3).f1))) else (spec_HalvingLines.l2 k4 l0 x4_3 x9_4 x10_4 l0 (l0.length : Int) x25_2 y135 (y135.length : Int) x34_3 l0 (l0.length : Int) (wrap64 (x40_4 + 1)) ((rd_T34 l0 x25_2).f0) ((rd_T34 l0 x25_2).f1) ((rd_T34 y135 x34_3).f0) ((rd_T34 y135 x34_3).f1))))) = some (r1, r2) := H
                                        have A26 := Aside0.mk A260
                                        clear A260
                                        by_cases c27 : t143 > 0
                                        · rw [if_pos c27] at H
                                          have c27b0 : decide (0 < t143) = true := decide_eq_true c27
                                          clear c27
                                          have H' := Aside0.mk H
                                          clear H
                                          have p141 : 0 ≤ (x40_4 : Int) := odt_
                                          have q141 : x40_4 < (l0.length : Int) := odt_
                                          obtain ⟨ad141, e141, hx141_0, hx141_1⟩ := at_T34 HR0.out x40_4 p141 q141
                                          obtain rfl : ad133 = ad141 := (by injection e141)
                                          replace hx141_0 := (HB.out.cell (World.block_lt_of_cell? w _ hx141_0)).trans hx141_0
                                          replace hx141_1 := (HB.out.cell (World.block_lt_of_cell? w _ hx141_1)).trans hx141_1
                                          replace p141 := eq_true p141
                                          replace q141 := eq_true q141
                                          go_wp2_with (first | ((with_reducible refine gate_dst (N := 12) rfl ?_); (try (refine gate_guard (by rfl) ?_; dsimp only)); refine box_event ?hg (N := 12) ?hd (cs := #[.int .i64 0, .int .i64 0]) (t := 34) ?hr ?_; (case hd => rfl); (case hg => rfl); (case hr => first | (go_simp; done) | (go_simp; rfl)); intro gb142 hg w28 hbox hb; have n0_ := bb_ BK134 hb; have n1_ := bb_ BK140 hb; have n2_ := Aside0.mk (below_step (hbg_) hb); have n3_ := Aside0.mk (hbox); have n4_ := Aside0.mk ((by rw [hg]; exact (below_size (hbg_)) : w.heap.size ≤ gb142)); have n5_ := Aside0.mk ((by rw [hg]; exact (below_size (hbg_)) : w.heap.size ≤ gb142)); have n6_ := Aside0.mk ((by rw [hg]; exact Nat.ne_of_lt (blk_lt (bk_ BK134.out)) : gb134 ≠ gb142)); have n7_ := Aside0.mk ((by rw [hg]; exact Nat.ne_of_gt (blk_lt (bk_ BK134.out)) : gb142 ≠ gb134)); have n8_ := Aside0.mk ((by rw [hg]; exact Nat.ne_of_lt (blk_lt (bk_ BK140.out)) : gb140 ≠ gb142)); have n9_ := Aside0.mk ((by rw [hg]; exact Nat.ne_of_gt (blk_lt (bk_ BK140.out)) : gb142 ≠ gb140)); clear BK134; clear BK140; clear HB; have BK134 := n0_; have BK140 := n1_; have HB := n2_; have BK142 := n3_; have GW142 := n4_; have GE142 := n5_; have NB134_142 := n6_; have NB142_134 := n7_; have NB140_142 := n8_; have NB142_140 := n9_; clear n0_ n1_ n2_ n3_ n4_ n5_ n6_ n7_ n8_ n9_; clear hb hbox hg; have hnb29 := NB142_134.out; have hnc29 := NB134_142.out; have hnb30 := NB142_140.out; have hnc30 := NB140_142.out; have hcz31_0 : w28.cell? ⟨gb142, 0, none⟩ = some (.int .i64 0) := (blk_cell BK142.out 0).trans rfl; have hcz31_1 : w28.cell? ⟨gb142, 1, none⟩ = some (.int .i64 0) := (blk_cell BK142.out 1).trans rfl; have hfz31_0 := blk_frozen BK142.out 0; have hfz31_1 := blk_frozen BK142.out 1; have hnb32 := NB134_140.out; have hnc32 := NB140_134.out; have hcz33_0 : w28.cell? ⟨gb134, 0, none⟩ = some (.int .i64 ((rd_T34 l0 x25_2).f0)) := (blk_cell BK134.out 0).trans rfl; have hcz33_1 : w28.cell? ⟨gb134, 1, none⟩ = some (.int .i64 ((rd_T34 l0 x25_2).f1)) := (blk_cell BK134.out 1).trans rfl; have hfz33_0 := blk_frozen BK134.out 0; have hfz33_1 := blk_frozen BK134.out 1; have hcz34_0 : w28.cell? ⟨gb140, 0, none⟩ = some (.int .i64 ((rd_T34 y135 x34_3).f0)) := (blk_cell BK140.out 0).trans rfl; have hcz34_1 : w28.cell? ⟨gb140, 1, none⟩ = some (.int .i64 ((rd_T34 y135 x34_3).f1)) := (blk_cell BK140.out 1).trans rfl; have hfz34_0 := blk_frozen BK140.out 0; have hfz34_1 := blk_frozen BK140.out 1) | ((with_reducible refine gate_callee (f := 50) rfl ?_); refine goesL_ (some 47) rfl rfl Try.func50 (by kernel_rfl) rfl #[.agg #[.int .i64 ((rd_T34 l0 x25_2).f0), .int .i64 ((rd_T34 l0 x25_2).f1)], .agg #[.int .i64 ((rd_T34 y135 x34_3).f0), .int .i64 ((rd_T34 y135 x34_3).f1)], .agg #[.int .i64 ((rd_T34 l0 x40_4).f0), .int .i64 ((rd_T34 l0 x40_4).f1)]] rfl ga_ ?_; (with_reducible refine (spec_pgTurn.calls ((rd_T34 l0 x25_2).f0) ((rd_T34 l0 x25_2).f1) ((rd_T34 y135 x34_3).f0) ((rd_T34 y135 x34_3).f1) ((rd_T34 l0 x40_4).f0) ((rd_T34 l0 x40_4).f1) t143 _ A26.out).mono ?_); rintro e w35 ⟨rfl, hb⟩; refine ⟨_, rfl, ?_⟩; have n0_ := Aside0.mk (blk_below (g := gb134) (o := .cells #[.int .i64 ((rd_T34 l0 x25_2).f0), .int .i64 ((rd_T34 l0 x25_2).f1)] 34 (0, 0)) (bf2_ BK134 NB134_142) hb); have n1_ := Aside0.mk (blk_below (g := gb140) (o := .cells #[.int .i64 ((rd_T34 y135 x34_3).f0), .int .i64 ((rd_T34 y135 x34_3).f1)] 34 (0, 0)) (bf2_ BK140 NB140_142) hb); have n2_ := Aside0.mk (blk_below (g := gb142) (o := .cells #[.int .i64 ((rd_T34 l0 x40_4).f0), .int .i64 ((rd_T34 l0 x40_4).f1)] 34 (0, 0)) (by (with_reducible repeat (first | refine blk_drewN ?_ _ | refine blk_drew ?_ | refine blk_alloc ?_ _)); refine blk_put (cs := #[.int .i64 ((rd_T34 l0 x40_4).f0), .int .i64 0]) ?_ 1 _ rfl; (with_reducible repeat (first | refine blk_drewN ?_ _ | refine blk_drew ?_ | refine blk_alloc ?_ _)); refine blk_put (cs := #[.int .i64 0, .int .i64 0]) ?_ 0 _ rfl; (with_reducible repeat (first | refine blk_drewN ?_ _ | refine blk_drew ?_ | refine blk_alloc ?_ _)); exact BK142.out) hb); have n3_ := Aside0.mk (below_step (hbg_) hb); clear BK134; clear BK140; clear BK142; clear HB; have BK134 := n0_; have BK140 := n1_; have BK142 := n2_; have HB := n3_; clear n0_ n1_ n2_ n3_; (try clear hb); (try clear hb2); (try clear hk); (try clear hi)))
                                          go_roundg k4
                                          case measure => have := HJ1.out; have := HK2.out; have := HK3.out; have := HK4.out; omega
                                          case rel => exact ⟨(wrap64 (x9_4 + 1)), (x10_4), (wrap64 (x40_4 + 1)), (by first | rfl | (simp; done) | (simp [*]; done)), (by first | rfl | (simp; done) | (simp [*]; done)), (by first | rfl | (simp; done) | (simp [*]; done)), H', ⟨by have := HJ1.out; have := HK2.out; have := HK3.out; have := HK4.out; omega⟩, ⟨bk_ BK134.out⟩, ⟨bk_ BK140.out⟩, ⟨hbg_⟩⟩
                                        · rw [if_neg c27] at H
                                          have c27b0 : decide (0 < t143) = false := decide_eq_false c27
                                          clear c27
                                          by_cases c36 : t143 < 0
                                          · rw [if_pos c36] at H
                                            have c36b0 : decide (t143 < 0) = true := decide_eq_true c36
                                            clear c36
                                            have H' := Aside0.mk H
                                            clear H
                                            have p141 : 0 ≤ (x40_4 : Int) := odt_
                                            have q141 : x40_4 < (l0.length : Int) := odt_
                                            obtain ⟨ad141, e141, hx141_0, hx141_1⟩ := at_T34 HR0.out x40_4 p141 q141
                                            obtain rfl : ad133 = ad141 := (by injection e141)
                                            replace hx141_0 := (HB.out.cell (World.block_lt_of_cell? w _ hx141_0)).trans hx141_0
                                            replace hx141_1 := (HB.out.cell (World.block_lt_of_cell? w _ hx141_1)).trans hx141_1
                                            replace p141 := eq_true p141
                                            replace q141 := eq_true q141
                                            go_wp2_with (first | ((with_reducible refine gate_dst (N := 12) rfl ?_); (try (refine gate_guard (by rfl) ?_; dsimp only)); refine box_event ?hg (N := 12) ?hd (cs := #[.int .i64 0, .int .i64 0]) (t := 34) ?hr ?_; (case hd => rfl); (case hg => rfl); (case hr => first | (go_simp; done) | (go_simp; rfl)); intro gb142 hg w37 hbox hb; have n0_ := bb_ BK134 hb; have n1_ := bb_ BK140 hb; have n2_ := Aside0.mk (below_step (hbg_) hb); have n3_ := Aside0.mk (hbox); have n4_ := Aside0.mk ((by rw [hg]; exact (below_size (hbg_)) : w.heap.size ≤ gb142)); have n5_ := Aside0.mk ((by rw [hg]; exact (below_size (hbg_)) : w.heap.size ≤ gb142)); have n6_ := Aside0.mk ((by rw [hg]; exact Nat.ne_of_lt (blk_lt (bk_ BK134.out)) : gb134 ≠ gb142)); have n7_ := Aside0.mk ((by rw [hg]; exact Nat.ne_of_gt (blk_lt (bk_ BK134.out)) : gb142 ≠ gb134)); have n8_ := Aside0.mk ((by rw [hg]; exact Nat.ne_of_lt (blk_lt (bk_ BK140.out)) : gb140 ≠ gb142)); have n9_ := Aside0.mk ((by rw [hg]; exact Nat.ne_of_gt (blk_lt (bk_ BK140.out)) : gb142 ≠ gb140)); clear BK134; clear BK140; clear HB; have BK134 := n0_; have BK140 := n1_; have HB := n2_; have BK142 := n3_; have GW142 := n4_; have GE142 := n5_; have NB134_142 := n6_; have NB142_134 := n7_; have NB140_142 := n8_; have NB142_140 := n9_; clear n0_ n1_ n2_ n3_ n4_ n5_ n6_ n7_ n8_ n9_; clear hb hbox hg; have hnb38 := NB142_134.out; have hnc38 := NB134_142.out; have hnb39 := NB142_140.out; have hnc39 := NB140_142.out; have hcz40_0 : w37.cell? ⟨gb142, 0, none⟩ = some (.int .i64 0) := (blk_cell BK142.out 0).trans rfl; have hcz40_1 : w37.cell? ⟨gb142, 1, none⟩ = some (.int .i64 0) := (blk_cell BK142.out 1).trans rfl; have hfz40_0 := blk_frozen BK142.out 0; have hfz40_1 := blk_frozen BK142.out 1; have hnb41 := NB134_140.out; have hnc41 := NB140_134.out; have hcz42_0 : w37.cell? ⟨gb134, 0, none⟩ = some (.int .i64 ((rd_T34 l0 x25_2).f0)) := (blk_cell BK134.out 0).trans rfl; have hcz42_1 : w37.cell? ⟨gb134, 1, none⟩ = some (.int .i64 ((rd_T34 l0 x25_2).f1)) := (blk_cell BK134.out 1).trans rfl; have hfz42_0 := blk_frozen BK134.out 0; have hfz42_1 := blk_frozen BK134.out 1; have hcz43_0 : w37.cell? ⟨gb140, 0, none⟩ = some (.int .i64 ((rd_T34 y135 x34_3).f0)) := (blk_cell BK140.out 0).trans rfl; have hcz43_1 : w37.cell? ⟨gb140, 1, none⟩ = some (.int .i64 ((rd_T34 y135 x34_3).f1)) := (blk_cell BK140.out 1).trans rfl; have hfz43_0 := blk_frozen BK140.out 0; have hfz43_1 := blk_frozen BK140.out 1) | ((with_reducible refine gate_callee (f := 50) rfl ?_); refine goesL_ (some 47) rfl rfl Try.func50 (by kernel_rfl) rfl #[.agg #[.int .i64 ((rd_T34 l0 x25_2).f0), .int .i64 ((rd_T34 l0 x25_2).f1)], .agg #[.int .i64 ((rd_T34 y135 x34_3).f0), .int .i64 ((rd_T34 y135 x34_3).f1)], .agg #[.int .i64 ((rd_T34 l0 x40_4).f0), .int .i64 ((rd_T34 l0 x40_4).f1)]] rfl ga_ ?_; (with_reducible refine (spec_pgTurn.calls ((rd_T34 l0 x25_2).f0) ((rd_T34 l0 x25_2).f1) ((rd_T34 y135 x34_3).f0) ((rd_T34 y135 x34_3).f1) ((rd_T34 l0 x40_4).f0) ((rd_T34 l0 x40_4).f1) t143 _ A26.out).mono ?_); rintro e w44 ⟨rfl, hb⟩; refine ⟨_, rfl, ?_⟩; have n0_ := Aside0.mk (blk_below (g := gb134) (o := .cells #[.int .i64 ((rd_T34 l0 x25_2).f0), .int .i64 ((rd_T34 l0 x25_2).f1)] 34 (0, 0)) (bf2_ BK134 NB134_142) hb); have n1_ := Aside0.mk (blk_below (g := gb140) (o := .cells #[.int .i64 ((rd_T34 y135 x34_3).f0), .int .i64 ((rd_T34 y135 x34_3).f1)] 34 (0, 0)) (bf2_ BK140 NB140_142) hb); have n2_ := Aside0.mk (blk_below (g := gb142) (o := .cells #[.int .i64 ((rd_T34 l0 x40_4).f0), .int .i64 ((rd_T34 l0 x40_4).f1)] 34 (0, 0)) (by (with_reducible repeat (first | refine blk_drewN ?_ _ | refine blk_drew ?_ | refine blk_alloc ?_ _)); refine blk_put (cs := #[.int .i64 ((rd_T34 l0 x40_4).f0), .int .i64 0]) ?_ 1 _ rfl; (with_reducible repeat (first | refine blk_drewN ?_ _ | refine blk_drew ?_ | refine blk_alloc ?_ _)); refine blk_put (cs := #[.int .i64 0, .int .i64 0]) ?_ 0 _ rfl; (with_reducible repeat (first | refine blk_drewN ?_ _ | refine blk_drew ?_ | refine blk_alloc ?_ _)); exact BK142.out) hb); have n3_ := Aside0.mk (below_step (hbg_) hb); clear BK134; clear BK140; clear BK142; clear HB; have BK134 := n0_; have BK140 := n1_; have BK142 := n2_; have HB := n3_; clear n0_ n1_ n2_ n3_; (try clear hb); (try clear hb2); (try clear hk); (try clear hi)))
                                            go_roundg k4
                                            case measure => have := HJ1.out; have := HK2.out; have := HK3.out; have := HK4.out; omega
                                            case rel => exact ⟨(x9_4), (wrap64 (x10_4 + 1)), (wrap64 (x40_4 + 1)), (by first | rfl | (simp; done) | (simp [*]; done)), (by first | rfl | (simp; done) | (simp [*]; done)), (by first | rfl | (simp; done) | (simp [*]; done)), H', ⟨by have := HJ1.out; have := HK2.out; have := HK3.out; have := HK4.out; omega⟩, ⟨bk_ BK134.out⟩, ⟨bk_ BK140.out⟩, ⟨hbg_⟩⟩
                                          · rw [if_neg c36] at H
                                            have c36b0 : decide (t143 < 0) = false := decide_eq_false c36
                                            clear c36
                                            by_cases c45 : (!(((rd_T34 l0 x40_4).f0) == ((rd_T34 l0 x25_2).f0)) || (!(((rd_T34 l0 x40_4).f1) == ((rd_T34 l0 x25_2).f1)))) = true
                                            · rw [if_pos c45] at H
                                              have c45b0 : (!(((rd_T34 l0 x40_4).f0) == ((rd_T34 l0 x25_2).f0)) || (!(((rd_T34 l0 x40_4).f1) == ((rd_T34 l0 x25_2).f1)))) = true := c45
                                              clear c45
                                              by_cases c46 : (!(((rd_T34 l0 x40_4).f0) == ((rd_T34 y135 x34_3).f0)) || (!(((rd_T34 l0 x40_4).f1) == ((rd_T34 y135 x34_3).f1)))) = true
                                              · rw [if_pos c46] at H
                                                have c46b0 : (!(((rd_T34 l0 x40_4).f0) == ((rd_T34 y135 x34_3).f0)) || (!(((rd_T34 l0 x40_4).f1) == ((rd_T34 y135 x34_3).f1)))) = true := c46
                                                clear c46
                                                simp only [Option.some.injEq, Prod.mk.injEq] at H
                                                obtain ⟨rfl, rfl⟩ := H
                                                have p141 : 0 ≤ (x40_4 : Int) := odt_
                                                have q141 : x40_4 < (l0.length : Int) := odt_
                                                obtain ⟨ad141, e141, hx141_0, hx141_1⟩ := at_T34 HR0.out x40_4 p141 q141
                                                obtain rfl : ad133 = ad141 := (by injection e141)
                                                replace hx141_0 := (HB.out.cell (World.block_lt_of_cell? w _ hx141_0)).trans hx141_0
                                                replace hx141_1 := (HB.out.cell (World.block_lt_of_cell? w _ hx141_1)).trans hx141_1
                                                replace p141 := eq_true p141
                                                replace q141 := eq_true q141
                                                go_wp2_with (first | ((with_reducible refine gate_dst (N := 12) rfl ?_); (try (refine gate_guard (by rfl) ?_; dsimp only)); refine box_event ?hg (N := 12) ?hd (cs := #[.int .i64 0, .int .i64 0]) (t := 34) ?hr ?_; (case hd => rfl); (case hg => rfl); (case hr => first | (go_simp; done) | (go_simp; rfl)); intro gb142 hg w47 hbox hb; have n0_ := bb_ BK134 hb; have n1_ := bb_ BK140 hb; have n2_ := Aside0.mk (below_step (hbg_) hb); have n3_ := Aside0.mk (hbox); have n4_ := Aside0.mk ((by rw [hg]; exact (below_size (hbg_)) : w.heap.size ≤ gb142)); have n5_ := Aside0.mk ((by rw [hg]; exact (below_size (hbg_)) : w.heap.size ≤ gb142)); have n6_ := Aside0.mk ((by rw [hg]; exact Nat.ne_of_lt (blk_lt (bk_ BK134.out)) : gb134 ≠ gb142)); have n7_ := Aside0.mk ((by rw [hg]; exact Nat.ne_of_gt (blk_lt (bk_ BK134.out)) : gb142 ≠ gb134)); have n8_ := Aside0.mk ((by rw [hg]; exact Nat.ne_of_lt (blk_lt (bk_ BK140.out)) : gb140 ≠ gb142)); have n9_ := Aside0.mk ((by rw [hg]; exact Nat.ne_of_gt (blk_lt (bk_ BK140.out)) : gb142 ≠ gb140)); clear BK134; clear BK140; clear HB; have BK134 := n0_; have BK140 := n1_; have HB := n2_; have BK142 := n3_; have GW142 := n4_; have GE142 := n5_; have NB134_142 := n6_; have NB142_134 := n7_; have NB140_142 := n8_; have NB142_140 := n9_; clear n0_ n1_ n2_ n3_ n4_ n5_ n6_ n7_ n8_ n9_; clear hb hbox hg; have hnb48 := NB142_134.out; have hnc48 := NB134_142.out; have hnb49 := NB142_140.out; have hnc49 := NB140_142.out; have hcz50_0 : w47.cell? ⟨gb142, 0, none⟩ = some (.int .i64 0) := (blk_cell BK142.out 0).trans rfl; have hcz50_1 : w47.cell? ⟨gb142, 1, none⟩ = some (.int .i64 0) := (blk_cell BK142.out 1).trans rfl; have hfz50_0 := blk_frozen BK142.out 0; have hfz50_1 := blk_frozen BK142.out 1; have hnb51 := NB134_140.out; have hnc51 := NB140_134.out; have hcz52_0 : w47.cell? ⟨gb134, 0, none⟩ = some (.int .i64 ((rd_T34 l0 x25_2).f0)) := (blk_cell BK134.out 0).trans rfl; have hcz52_1 : w47.cell? ⟨gb134, 1, none⟩ = some (.int .i64 ((rd_T34 l0 x25_2).f1)) := (blk_cell BK134.out 1).trans rfl; have hfz52_0 := blk_frozen BK134.out 0; have hfz52_1 := blk_frozen BK134.out 1; have hcz53_0 : w47.cell? ⟨gb140, 0, none⟩ = some (.int .i64 ((rd_T34 y135 x34_3).f0)) := (blk_cell BK140.out 0).trans rfl; have hcz53_1 : w47.cell? ⟨gb140, 1, none⟩ = some (.int .i64 ((rd_T34 y135 x34_3).f1)) := (blk_cell BK140.out 1).trans rfl; have hfz53_0 := blk_frozen BK140.out 0; have hfz53_1 := blk_frozen BK140.out 1) | ((with_reducible refine gate_callee (f := 50) rfl ?_); refine goesL_ (some 47) rfl rfl Try.func50 (by kernel_rfl) rfl #[.agg #[.int .i64 ((rd_T34 l0 x25_2).f0), .int .i64 ((rd_T34 l0 x25_2).f1)], .agg #[.int .i64 ((rd_T34 y135 x34_3).f0), .int .i64 ((rd_T34 y135 x34_3).f1)], .agg #[.int .i64 ((rd_T34 l0 x40_4).f0), .int .i64 ((rd_T34 l0 x40_4).f1)]] rfl ga_ ?_; (with_reducible refine (spec_pgTurn.calls ((rd_T34 l0 x25_2).f0) ((rd_T34 l0 x25_2).f1) ((rd_T34 y135 x34_3).f0) ((rd_T34 y135 x34_3).f1) ((rd_T34 l0 x40_4).f0) ((rd_T34 l0 x40_4).f1) t143 _ A26.out).mono ?_); rintro e w54 ⟨rfl, hb⟩; refine ⟨_, rfl, ?_⟩; have n0_ := Aside0.mk (blk_below (g := gb134) (o := .cells #[.int .i64 ((rd_T34 l0 x25_2).f0), .int .i64 ((rd_T34 l0 x25_2).f1)] 34 (0, 0)) (bf2_ BK134 NB134_142) hb); have n1_ := Aside0.mk (blk_below (g := gb140) (o := .cells #[.int .i64 ((rd_T34 y135 x34_3).f0), .int .i64 ((rd_T34 y135 x34_3).f1)] 34 (0, 0)) (bf2_ BK140 NB140_142) hb); have n2_ := Aside0.mk (blk_below (g := gb142) (o := .cells #[.int .i64 ((rd_T34 l0 x40_4).f0), .int .i64 ((rd_T34 l0 x40_4).f1)] 34 (0, 0)) (by (with_reducible repeat (first | refine blk_drewN ?_ _ | refine blk_drew ?_ | refine blk_alloc ?_ _)); refine blk_put (cs := #[.int .i64 ((rd_T34 l0 x40_4).f0), .int .i64 0]) ?_ 1 _ rfl; (with_reducible repeat (first | refine blk_drewN ?_ _ | refine blk_drew ?_ | refine blk_alloc ?_ _)); refine blk_put (cs := #[.int .i64 0, .int .i64 0]) ?_ 0 _ rfl; (with_reducible repeat (first | refine blk_drewN ?_ _ | refine blk_drew ?_ | refine blk_alloc ?_ _)); exact BK142.out) hb); have n3_ := Aside0.mk (below_step (hbg_) hb); clear BK134; clear BK140; clear BK142; clear HB; have BK134 := n0_; have BK140 := n1_; have BK142 := n2_; have HB := n3_; clear n0_ n1_ n2_ n3_; (try clear hb); (try clear hb2); (try clear hk); (try clear hi); have hcz55_0 : w54.cell? ⟨gb142, 0, none⟩ = some (.int .i64 ((rd_T34 l0 x40_4).f0)) := (blk_cell BK142.out 0).trans rfl; have hcz55_1 : w54.cell? ⟨gb142, 1, none⟩ = some (.int .i64 ((rd_T34 l0 x40_4).f1)) := (blk_cell BK142.out 1).trans rfl; have hfz55_0 := blk_frozen BK142.out 0; have hfz55_1 := blk_frozen BK142.out 1; have hcz56_0 : w54.cell? ⟨gb134, 0, none⟩ = some (.int .i64 ((rd_T34 l0 x25_2).f0)) := (blk_cell BK134.out 0).trans rfl; have hcz56_1 : w54.cell? ⟨gb134, 1, none⟩ = some (.int .i64 ((rd_T34 l0 x25_2).f1)) := (blk_cell BK134.out 1).trans rfl; have hfz56_0 := blk_frozen BK134.out 0; have hfz56_1 := blk_frozen BK134.out 1; have hcz57_0 : w54.cell? ⟨gb140, 0, none⟩ = some (.int .i64 ((rd_T34 y135 x34_3).f0)) := (blk_cell BK140.out 0).trans rfl; have hcz57_1 : w54.cell? ⟨gb140, 1, none⟩ = some (.int .i64 ((rd_T34 y135 x34_3).f1)) := (blk_cell BK140.out 1).trans rfl; have hfz57_0 := blk_frozen BK140.out 0; have hfz57_1 := blk_frozen BK140.out 1))
                                                go_ret2
                                                exact ⟨by first | rfl | (simp [errW_none, errW_some] <;> rfl) | (simp [*, errW_none, errW_some] <;> rfl), hbg_⟩
                                              · rw [if_neg c46] at H
                                                have c46b0 : (!(((rd_T34 l0 x40_4).f0) == ((rd_T34 y135 x34_3).f0)) || (!(((rd_T34 l0 x40_4).f1) == ((rd_T34 y135 x34_3).f1)))) = false := by simpa using c46
                                                clear c46
                                                have H' := Aside0.mk H
                                                clear H
                                                have p141 : 0 ≤ (x40_4 : Int) := odt_
                                                have q141 : x40_4 < (l0.length : Int) := odt_
                                                obtain ⟨ad141, e141, hx141_0, hx141_1⟩ := at_T34 HR0.out x40_4 p141 q141
                                                obtain rfl : ad133 = ad141 := (by injection e141)
                                                replace hx141_0 := (HB.out.cell (World.block_lt_of_cell? w _ hx141_0)).trans hx141_0
                                                replace hx141_1 := (HB.out.cell (World.block_lt_of_cell? w _ hx141_1)).trans hx141_1
                                                replace p141 := eq_true p141
                                                replace q141 := eq_true q141
                                                go_wp2_with (first | ((with_reducible refine gate_dst (N := 12) rfl ?_); (try (refine gate_guard (by rfl) ?_; dsimp only)); refine box_event ?hg (N := 12) ?hd (cs := #[.int .i64 0, .int .i64 0]) (t := 34) ?hr ?_; (case hd => rfl); (case hg => rfl); (case hr => first | (go_simp; done) | (go_simp; rfl)); intro gb142 hg w58 hbox hb; have n0_ := bb_ BK134 hb; have n1_ := bb_ BK140 hb; have n2_ := Aside0.mk (below_step (hbg_) hb); have n3_ := Aside0.mk (hbox); have n4_ := Aside0.mk ((by rw [hg]; exact (below_size (hbg_)) : w.heap.size ≤ gb142)); have n5_ := Aside0.mk ((by rw [hg]; exact (below_size (hbg_)) : w.heap.size ≤ gb142)); have n6_ := Aside0.mk ((by rw [hg]; exact Nat.ne_of_lt (blk_lt (bk_ BK134.out)) : gb134 ≠ gb142)); have n7_ := Aside0.mk ((by rw [hg]; exact Nat.ne_of_gt (blk_lt (bk_ BK134.out)) : gb142 ≠ gb134)); have n8_ := Aside0.mk ((by rw [hg]; exact Nat.ne_of_lt (blk_lt (bk_ BK140.out)) : gb140 ≠ gb142)); have n9_ := Aside0.mk ((by rw [hg]; exact Nat.ne_of_gt (blk_lt (bk_ BK140.out)) : gb142 ≠ gb140)); clear BK134; clear BK140; clear HB; have BK134 := n0_; have BK140 := n1_; have HB := n2_; have BK142 := n3_; have GW142 := n4_; have GE142 := n5_; have NB134_142 := n6_; have NB142_134 := n7_; have NB140_142 := n8_; have NB142_140 := n9_; clear n0_ n1_ n2_ n3_ n4_ n5_ n6_ n7_ n8_ n9_; clear hb hbox hg; have hnb59 := NB142_134.out; have hnc59 := NB134_142.out; have hnb60 := NB142_140.out; have hnc60 := NB140_142.out; have hcz61_0 : w58.cell? ⟨gb142, 0, none⟩ = some (.int .i64 0) := (blk_cell BK142.out 0).trans rfl; have hcz61_1 : w58.cell? ⟨gb142, 1, none⟩ = some (.int .i64 0) := (blk_cell BK142.out 1).trans rfl; have hfz61_0 := blk_frozen BK142.out 0; have hfz61_1 := blk_frozen BK142.out 1; have hnb62 := NB134_140.out; have hnc62 := NB140_134.out; have hcz63_0 : w58.cell? ⟨gb134, 0, none⟩ = some (.int .i64 ((rd_T34 l0 x25_2).f0)) := (blk_cell BK134.out 0).trans rfl; have hcz63_1 : w58.cell? ⟨gb134, 1, none⟩ = some (.int .i64 ((rd_T34 l0 x25_2).f1)) := (blk_cell BK134.out 1).trans rfl; have hfz63_0 := blk_frozen BK134.out 0; have hfz63_1 := blk_frozen BK134.out 1; have hcz64_0 : w58.cell? ⟨gb140, 0, none⟩ = some (.int .i64 ((rd_T34 y135 x34_3).f0)) := (blk_cell BK140.out 0).trans rfl; have hcz64_1 : w58.cell? ⟨gb140, 1, none⟩ = some (.int .i64 ((rd_T34 y135 x34_3).f1)) := (blk_cell BK140.out 1).trans rfl; have hfz64_0 := blk_frozen BK140.out 0; have hfz64_1 := blk_frozen BK140.out 1) | ((with_reducible refine gate_callee (f := 50) rfl ?_); refine goesL_ (some 47) rfl rfl Try.func50 (by kernel_rfl) rfl #[.agg #[.int .i64 ((rd_T34 l0 x25_2).f0), .int .i64 ((rd_T34 l0 x25_2).f1)], .agg #[.int .i64 ((rd_T34 y135 x34_3).f0), .int .i64 ((rd_T34 y135 x34_3).f1)], .agg #[.int .i64 ((rd_T34 l0 x40_4).f0), .int .i64 ((rd_T34 l0 x40_4).f1)]] rfl ga_ ?_; (with_reducible refine (spec_pgTurn.calls ((rd_T34 l0 x25_2).f0) ((rd_T34 l0 x25_2).f1) ((rd_T34 y135 x34_3).f0) ((rd_T34 y135 x34_3).f1) ((rd_T34 l0 x40_4).f0) ((rd_T34 l0 x40_4).f1) t143 _ A26.out).mono ?_); rintro e w65 ⟨rfl, hb⟩; refine ⟨_, rfl, ?_⟩; have n0_ := Aside0.mk (blk_below (g := gb134) (o := .cells #[.int .i64 ((rd_T34 l0 x25_2).f0), .int .i64 ((rd_T34 l0 x25_2).f1)] 34 (0, 0)) (bf2_ BK134 NB134_142) hb); have n1_ := Aside0.mk (blk_below (g := gb140) (o := .cells #[.int .i64 ((rd_T34 y135 x34_3).f0), .int .i64 ((rd_T34 y135 x34_3).f1)] 34 (0, 0)) (bf2_ BK140 NB140_142) hb); have n2_ := Aside0.mk (blk_below (g := gb142) (o := .cells #[.int .i64 ((rd_T34 l0 x40_4).f0), .int .i64 ((rd_T34 l0 x40_4).f1)] 34 (0, 0)) (by (with_reducible repeat (first | refine blk_drewN ?_ _ | refine blk_drew ?_ | refine blk_alloc ?_ _)); refine blk_put (cs := #[.int .i64 ((rd_T34 l0 x40_4).f0), .int .i64 0]) ?_ 1 _ rfl; (with_reducible repeat (first | refine blk_drewN ?_ _ | refine blk_drew ?_ | refine blk_alloc ?_ _)); refine blk_put (cs := #[.int .i64 0, .int .i64 0]) ?_ 0 _ rfl; (with_reducible repeat (first | refine blk_drewN ?_ _ | refine blk_drew ?_ | refine blk_alloc ?_ _)); exact BK142.out) hb); have n3_ := Aside0.mk (below_step (hbg_) hb); clear BK134; clear BK140; clear BK142; clear HB; have BK134 := n0_; have BK140 := n1_; have BK142 := n2_; have HB := n3_; clear n0_ n1_ n2_ n3_; (try clear hb); (try clear hb2); (try clear hk); (try clear hi); have hcz66_0 : w65.cell? ⟨gb142, 0, none⟩ = some (.int .i64 ((rd_T34 l0 x40_4).f0)) := (blk_cell BK142.out 0).trans rfl; have hcz66_1 : w65.cell? ⟨gb142, 1, none⟩ = some (.int .i64 ((rd_T34 l0 x40_4).f1)) := (blk_cell BK142.out 1).trans rfl; have hfz66_0 := blk_frozen BK142.out 0; have hfz66_1 := blk_frozen BK142.out 1; have hcz67_0 : w65.cell? ⟨gb134, 0, none⟩ = some (.int .i64 ((rd_T34 l0 x25_2).f0)) := (blk_cell BK134.out 0).trans rfl; have hcz67_1 : w65.cell? ⟨gb134, 1, none⟩ = some (.int .i64 ((rd_T34 l0 x25_2).f1)) := (blk_cell BK134.out 1).trans rfl; have hfz67_0 := blk_frozen BK134.out 0; have hfz67_1 := blk_frozen BK134.out 1; have hcz68_0 : w65.cell? ⟨gb140, 0, none⟩ = some (.int .i64 ((rd_T34 y135 x34_3).f0)) := (blk_cell BK140.out 0).trans rfl; have hcz68_1 : w65.cell? ⟨gb140, 1, none⟩ = some (.int .i64 ((rd_T34 y135 x34_3).f1)) := (blk_cell BK140.out 1).trans rfl; have hfz68_0 := blk_frozen BK140.out 0; have hfz68_1 := blk_frozen BK140.out 1))
                                                go_roundg k4
                                                case measure => have := HJ1.out; have := HK2.out; have := HK3.out; have := HK4.out; omega
                                                case rel => exact ⟨(x9_4), (x10_4), (wrap64 (x40_4 + 1)), (by first | rfl | (simp; done) | (simp [*]; done)), (by first | rfl | (simp; done) | (simp [*]; done)), (by first | rfl | (simp; done) | (simp [*]; done)), H', ⟨by have := HJ1.out; have := HK2.out; have := HK3.out; have := HK4.out; omega⟩, ⟨bk_ BK134.out⟩, ⟨bk_ BK140.out⟩, ⟨hbg_⟩⟩
                                            · rw [if_neg c45] at H
                                              have c45b0 : (!(((rd_T34 l0 x40_4).f0) == ((rd_T34 l0 x25_2).f0)) || (!(((rd_T34 l0 x40_4).f1) == ((rd_T34 l0 x25_2).f1)))) = false := by simpa using c45
                                              clear c45
                                              have H' := Aside0.mk H
                                              clear H
                                              have p141 : 0 ≤ (x40_4 : Int) := odt_
                                              have q141 : x40_4 < (l0.length : Int) := odt_
                                              obtain ⟨ad141, e141, hx141_0, hx141_1⟩ := at_T34 HR0.out x40_4 p141 q141
                                              obtain rfl : ad133 = ad141 := (by injection e141)
                                              replace hx141_0 := (HB.out.cell (World.block_lt_of_cell? w _ hx141_0)).trans hx141_0
                                              replace hx141_1 := (HB.out.cell (World.block_lt_of_cell? w _ hx141_1)).trans hx141_1
                                              replace p141 := eq_true p141
                                              replace q141 := eq_true q141
                                              go_wp2_with (first | ((with_reducible refine gate_dst (N := 12) rfl ?_); (try (refine gate_guard (by rfl) ?_; dsimp only)); refine box_event ?hg (N := 12) ?hd (cs := #[.int .i64 0, .int .i64 0]) (t := 34) ?hr ?_; (case hd => rfl); (case hg => rfl); (case hr => first | (go_simp; done) | (go_simp; rfl)); intro gb142 hg w69 hbox hb; have n0_ := bb_ BK134 hb; have n1_ := bb_ BK140 hb; have n2_ := Aside0.mk (below_step (hbg_) hb); have n3_ := Aside0.mk (hbox); have n4_ := Aside0.mk ((by rw [hg]; exact (below_size (hbg_)) : w.heap.size ≤ gb142)); have n5_ := Aside0.mk ((by rw [hg]; exact (below_size (hbg_)) : w.heap.size ≤ gb142)); have n6_ := Aside0.mk ((by rw [hg]; exact Nat.ne_of_lt (blk_lt (bk_ BK134.out)) : gb134 ≠ gb142)); have n7_ := Aside0.mk ((by rw [hg]; exact Nat.ne_of_gt (blk_lt (bk_ BK134.out)) : gb142 ≠ gb134)); have n8_ := Aside0.mk ((by rw [hg]; exact Nat.ne_of_lt (blk_lt (bk_ BK140.out)) : gb140 ≠ gb142)); have n9_ := Aside0.mk ((by rw [hg]; exact Nat.ne_of_gt (blk_lt (bk_ BK140.out)) : gb142 ≠ gb140)); clear BK134; clear BK140; clear HB; have BK134 := n0_; have BK140 := n1_; have HB := n2_; have BK142 := n3_; have GW142 := n4_; have GE142 := n5_; have NB134_142 := n6_; have NB142_134 := n7_; have NB140_142 := n8_; have NB142_140 := n9_; clear n0_ n1_ n2_ n3_ n4_ n5_ n6_ n7_ n8_ n9_; clear hb hbox hg; have hnb70 := NB142_134.out; have hnc70 := NB134_142.out; have hnb71 := NB142_140.out; have hnc71 := NB140_142.out; have hcz72_0 : w69.cell? ⟨gb142, 0, none⟩ = some (.int .i64 0) := (blk_cell BK142.out 0).trans rfl; have hcz72_1 : w69.cell? ⟨gb142, 1, none⟩ = some (.int .i64 0) := (blk_cell BK142.out 1).trans rfl; have hfz72_0 := blk_frozen BK142.out 0; have hfz72_1 := blk_frozen BK142.out 1; have hnb73 := NB134_140.out; have hnc73 := NB140_134.out; have hcz74_0 : w69.cell? ⟨gb134, 0, none⟩ = some (.int .i64 ((rd_T34 l0 x25_2).f0)) := (blk_cell BK134.out 0).trans rfl; have hcz74_1 : w69.cell? ⟨gb134, 1, none⟩ = some (.int .i64 ((rd_T34 l0 x25_2).f1)) := (blk_cell BK134.out 1).trans rfl; have hfz74_0 := blk_frozen BK134.out 0; have hfz74_1 := blk_frozen BK134.out 1; have hcz75_0 : w69.cell? ⟨gb140, 0, none⟩ = some (.int .i64 ((rd_T34 y135 x34_3).f0)) := (blk_cell BK140.out 0).trans rfl; have hcz75_1 : w69.cell? ⟨gb140, 1, none⟩ = some (.int .i64 ((rd_T34 y135 x34_3).f1)) := (blk_cell BK140.out 1).trans rfl; have hfz75_0 := blk_frozen BK140.out 0; have hfz75_1 := blk_frozen BK140.out 1) | ((with_reducible refine gate_callee (f := 50) rfl ?_); refine goesL_ (some 47) rfl rfl Try.func50 (by kernel_rfl) rfl #[.agg #[.int .i64 ((rd_T34 l0 x25_2).f0), .int .i64 ((rd_T34 l0 x25_2).f1)], .agg #[.int .i64 ((rd_T34 y135 x34_3).f0), .int .i64 ((rd_T34 y135 x34_3).f1)], .agg #[.int .i64 ((rd_T34 l0 x40_4).f0), .int .i64 ((rd_T34 l0 x40_4).f1)]] rfl ga_ ?_; (with_reducible refine (spec_pgTurn.calls ((rd_T34 l0 x25_2).f0) ((rd_T34 l0 x25_2).f1) ((rd_T34 y135 x34_3).f0) ((rd_T34 y135 x34_3).f1) ((rd_T34 l0 x40_4).f0) ((rd_T34 l0 x40_4).f1) t143 _ A26.out).mono ?_); rintro e w76 ⟨rfl, hb⟩; refine ⟨_, rfl, ?_⟩; have n0_ := Aside0.mk (blk_below (g := gb134) (o := .cells #[.int .i64 ((rd_T34 l0 x25_2).f0), .int .i64 ((rd_T34 l0 x25_2).f1)] 34 (0, 0)) (bf2_ BK134 NB134_142) hb); have n1_ := Aside0.mk (blk_below (g := gb140) (o := .cells #[.int .i64 ((rd_T34 y135 x34_3).f0), .int .i64 ((rd_T34 y135 x34_3).f1)] 34 (0, 0)) (bf2_ BK140 NB140_142) hb); have n2_ := Aside0.mk (blk_below (g := gb142) (o := .cells #[.int .i64 ((rd_T34 l0 x40_4).f0), .int .i64 ((rd_T34 l0 x40_4).f1)] 34 (0, 0)) (by (with_reducible repeat (first | refine blk_drewN ?_ _ | refine blk_drew ?_ | refine blk_alloc ?_ _)); refine blk_put (cs := #[.int .i64 ((rd_T34 l0 x40_4).f0), .int .i64 0]) ?_ 1 _ rfl; (with_reducible repeat (first | refine blk_drewN ?_ _ | refine blk_drew ?_ | refine blk_alloc ?_ _)); refine blk_put (cs := #[.int .i64 0, .int .i64 0]) ?_ 0 _ rfl; (with_reducible repeat (first | refine blk_drewN ?_ _ | refine blk_drew ?_ | refine blk_alloc ?_ _)); exact BK142.out) hb); have n3_ := Aside0.mk (below_step (hbg_) hb); clear BK134; clear BK140; clear BK142; clear HB; have BK134 := n0_; have BK140 := n1_; have BK142 := n2_; have HB := n3_; clear n0_ n1_ n2_ n3_; (try clear hb); (try clear hb2); (try clear hk); (try clear hi); have hcz77_0 : w76.cell? ⟨gb142, 0, none⟩ = some (.int .i64 ((rd_T34 l0 x40_4).f0)) := (blk_cell BK142.out 0).trans rfl; have hcz77_1 : w76.cell? ⟨gb142, 1, none⟩ = some (.int .i64 ((rd_T34 l0 x40_4).f1)) := (blk_cell BK142.out 1).trans rfl; have hfz77_0 := blk_frozen BK142.out 0; have hfz77_1 := blk_frozen BK142.out 1; have hcz78_0 : w76.cell? ⟨gb134, 0, none⟩ = some (.int .i64 ((rd_T34 l0 x25_2).f0)) := (blk_cell BK134.out 0).trans rfl; have hcz78_1 : w76.cell? ⟨gb134, 1, none⟩ = some (.int .i64 ((rd_T34 l0 x25_2).f1)) := (blk_cell BK134.out 1).trans rfl; have hfz78_0 := blk_frozen BK134.out 0; have hfz78_1 := blk_frozen BK134.out 1))
                                              go_roundg k4
                                              case measure => have := HJ1.out; have := HK2.out; have := HK3.out; have := HK4.out; omega
                                              case rel => exact ⟨(x9_4), (x10_4), (wrap64 (x40_4 + 1)), (by first | rfl | (simp; done) | (simp [*]; done)), (by first | rfl | (simp; done) | (simp [*]; done)), (by first | rfl | (simp; done) | (simp [*]; done)), H', ⟨by have := HJ1.out; have := HK2.out; have := HK3.out; have := HK4.out; omega⟩, ⟨bk_ BK134.out⟩, ⟨bk_ BK140.out⟩, ⟨hbg_⟩⟩
                                      · rw [if_neg c25] at H
                                        exact absurd H (by simp)
                                    · rw [if_neg c24] at H
                                      exact absurd H (by simp)
                                  · rw [if_neg c23] at H
                                    have c23b0 : decide (x40_4 < (l0.length : Int)) = false := decide_eq_false c23
                                    clear c23
                                    by_cases c79 : x9_4 = x10_4
                                    · rw [if_pos c79] at H
                                      have c79b0 : (x9_4 == x10_4) = true := beq_iff_eq.mpr c79
                                      have c79b1 : (x9_4 != x10_4) = false := bne_eq_false_iff_eq.mpr c79
                                      clear c79
                                      have H' := Aside0.mk H
                                      clear H
                                      go_wp2
                                      go_roundg k4
                                      case measure => have := HJ1.out; have := HK2.out; have := HK3.out; have := HK4.out; omega
                                      case rel => exact ⟨(wrap64 (x4_3 + 1)), (wrap64 (x34_3 + 1)), (by first | rfl | (simp; done) | (simp [*]; done)), (by first | rfl | (simp; done) | (simp [*]; done)), H', ⟨by have := HJ1.out; have := HK2.out; have := HK3.out; have := HK4.out; omega⟩, ⟨bk_ BK134.out⟩, ⟨hbg_⟩⟩
                                    · rw [if_neg c79] at H
                                      have c79b0 : (x9_4 == x10_4) = false := beq_eq_false_iff_ne.mpr c79
                                      have c79b1 : (x9_4 != x10_4) = true := bne_iff_ne.mpr c79
                                      have H' := Aside0.mk H
                                      clear H
                                      go_wp2
                                      go_roundg k4
                                      case measure => have := HJ1.out; have := HK2.out; have := HK3.out; have := HK4.out; omega
                                      case rel => exact ⟨(x4_3), (wrap64 (x34_3 + 1)), (by first | rfl | (simp; done) | (simp [*]; done)), (by first | rfl | (simp; done) | (simp [*]; done)), H', ⟨by have := HJ1.out; have := HK2.out; have := HK3.out; have := HK4.out; omega⟩, ⟨bk_ BK134.out⟩, ⟨hbg_⟩⟩
                            · rw [if_neg c19] at H
                              exact absurd H (by simp)
                          · rw [if_neg c18] at H
                            exact absurd H (by simp)
                        · rw [if_neg c17] at H
                          have c17b0 : decide (x34_3 < (y135.length : Int)) = false := decide_eq_false c17
                          clear c17
                          have H' := Aside0.mk H
                          clear H
                          go_wp2
                          go_roundg k3
                          case measure => have := HJ1.out; have := HK2.out; have := HK3.out; omega
                          case rel => exact ⟨(x4_3), (wrap64 (x25_2 + 1)), (by first | rfl | (simp; done) | (simp [*]; done)), (by first | rfl | (simp; done) | (simp [*]; done)), H', ⟨by have := HJ1.out; have := HK2.out; have := HK3.out; omega⟩, ⟨hbg_⟩⟩
                  · rw [if_neg c12] at H
                    exact absurd H (by simp)
                · rw [if_neg c10] at H
                  exact absurd H (by simp)
              · rw [if_neg c9] at H
                exact absurd H (by simp)
            · rw [if_neg c8] at H
              have c8b0 : decide (x25_2 < (l0.length : Int)) = false := decide_eq_false c8
              clear c8
              simp only [Option.some.injEq, Prod.mk.injEq] at H
              obtain ⟨rfl, rfl⟩ := H
              go_wp2
              go_ret2
              exact ⟨by first | rfl | (simp [errW_none, errW_some] <;> rfl) | (simp [*, errW_none, errW_some] <;> rfl), hb_⟩

end Go.Proofs.Ytaclbccjcjdbpaa.MH
