-- Written by a program of this session (wip/print/myprint.py) over the kit's printer; Lean checks it.
import Derived.Test.YtmenfomcikfnmaaMBx0
import Derived.Test.YtmenfomcikfnmaaMBx1
import Derived.Test.YtmenfomcikfnmaaMBx7
import Derived.Test.YtmenfomcikfnmaaMBx18
import Derived.Test.YtmenfomcikfnmaaMBx21
namespace Go.Proofs.Ytmenfomcikfnmaa.MB
open Go.RowKit Go.Proofs.YtmenfomcikfnmaaW.PrintWords Go.Proofs.YtmenfomcikfnmaaW.PrintLast Go.Proofs.YtmenfomcikfnmaaW.PrintMore Go.Proofs.YtmenfomcikfnmaaV
attribute [local go_sem] max2_int min2_int max_two min_two max_three min_three max_four min_four   -- for this text's walks alone
set_option linter.unusedVariables false
set_option linter.unusedSimpArgs false

attribute [local go_sem high] eqA36
/-! ### spec_PegsSeen: function 47 -/
mutual
def spec_PegsSeen.j0 : Nat → Int → Int → Bool → Int → Int → Option (Int × Bool)
 | 0, _, _, _, _, _ => none
 | k + 1, x0, x1, x30, x394000, x394001 => if x30 = true then (some (0, false)) else ((spec_ctPegs.f k x0 x1).bind fun t397 => (spec_PegsSeen.l0 k 0 t397 (t397.length : Int) 0 x394000 x394001))
def spec_PegsSeen.l0 : Nat → Int → List (S36) → Int → Int → Int → Int → Option (Int × Bool)
 | 0, _, _, _, _, _, _ => none
 | k + 1, x8, x33, x34, x35, x394000, x394001 => if x35 < x34 then (if 0 ≤ x35 then (if x35 < (x33.length : Int) then (if (!(((rd_T36 x33 x35).f0) == x394000) || (!(((rd_T36 x33 x35).f1) == x394001))) = true then ((spec_pgStep.f k x394000 x394001 ((rd_T36 x33 x35).f0) ((rd_T36 x33 x35).f1)).bind fun t402 => (if t402 = 1 then (spec_PegsSeen.l0 k (wrap64 (x8 + 1)) x33 x34 (wrap64 (x35 + 1)) x394000 x394001) else (spec_PegsSeen.l0 k x8 x33 x34 (wrap64 (x35 + 1)) x394000 x394001))) else (spec_PegsSeen.l0 k x8 x33 x34 (wrap64 (x35 + 1)) x394000 x394001)) else (none)) else (none)) else (some (x8, true))
end
def spec_PegsSeen.f (k : Nat) (a0 : Int) (a1 : Int) (a2_0 : Int) (a2_1 : Int) : Option (Int × Bool) := (spec_ctBoard.f a0 a1 12).bind fun t394 => (if t394 = true then ((spec_l1In.f a2_0 0 (wrap64 (a0 - 1))).bind fun t395 => (if t395 = true then ((spec_l1In.f a2_1 0 (wrap64 (a1 - 1))).bind fun t396 => (spec_PegsSeen.j0 k a0 a1 (!t396) a2_0 a2_1)) else (spec_PegsSeen.j0 k a0 a1 true a2_0 a2_1))) else (spec_PegsSeen.j0 k a0 a1 true a2_0 a2_1))
theorem spec_PegsSeen.mono_l : ∀ k, (∀ y0 y1 y2 y3 y4, LeO (spec_PegsSeen.j0 k y0 y1 y2 y3 y4) (spec_PegsSeen.j0 (k + 1) y0 y1 y2 y3 y4)) ∧ (∀ y0 y1 y2 y3 y4 y5, LeO (spec_PegsSeen.l0 k y0 y1 y2 y3 y4 y5) (spec_PegsSeen.l0 (k + 1) y0 y1 y2 y3 y4 y5))
 | 0 => ⟨fun _ _ _ _ _ r h => by simp [spec_PegsSeen.j0] at h, fun _ _ _ _ _ _ r h => by simp [spec_PegsSeen.l0] at h⟩
 | k + 1 => by
  obtain ⟨ih0, ih1⟩ := spec_PegsSeen.mono_l k
  refine ⟨?_, ?_⟩
  ·intro y0 y1 y2 y3 y4
   unfold spec_PegsSeen.j0
   repeat' first
   | (with_reducible exact ih0 _ _ _ _ _)
   | (with_reducible exact ih1 _ _ _ _ _ _)
   | (with_reducible exact spec_ctPegs.mono _ _ _)
   | (with_reducible exact spec_pgStep.mono _ _ _ _ _)
   | (with_reducible exact LeO.refl _)
   | (with_reducible exact LeO.none _)
   | (with_reducible refine LeO.ite ?_ ?_)
   | (with_reducible refine LeO.bind ?_ (fun _ => ?_))
   | exact ih0 _ _ _ _ _
   | exact ih1 _ _ _ _ _ _
   | exact spec_ctPegs.mono _ _ _
   | exact spec_pgStep.mono _ _ _ _ _
   | exact LeO.none _
   | refine LeO.ite ?_ ?_
   | refine LeO.bind ?_ (fun _ => ?_)
  ·intro y0 y1 y2 y3 y4 y5
   unfold spec_PegsSeen.l0
   repeat' first
   | (with_reducible exact ih0 _ _ _ _ _)
   | (with_reducible exact ih1 _ _ _ _ _ _)
   | (with_reducible exact spec_ctPegs.mono _ _ _)
   | (with_reducible exact spec_pgStep.mono _ _ _ _ _)
   | (with_reducible exact LeO.refl _)
   | (with_reducible exact LeO.none _)
   | (with_reducible refine LeO.ite ?_ ?_)
   | (with_reducible refine LeO.bind ?_ (fun _ => ?_))
   | exact ih0 _ _ _ _ _
   | exact ih1 _ _ _ _ _ _
   | exact spec_ctPegs.mono _ _ _
   | exact spec_pgStep.mono _ _ _ _ _
   | exact LeO.none _
   | refine LeO.ite ?_ ?_
   | refine LeO.bind ?_ (fun _ => ?_)
theorem spec_PegsSeen.mono : ∀ a0 a1 a2 a3 k, LeO (spec_PegsSeen.f k a0 a1 a2 a3) (spec_PegsSeen.f (k + 1) a0 a1 a2 a3) := by
 intro a0 a1 a2 a3 k
 obtain ⟨ih0, ih1⟩ := spec_PegsSeen.mono_l k
 unfold spec_PegsSeen.f
 repeat' first
   | (with_reducible exact ih0 _ _ _ _ _)
   | (with_reducible exact ih1 _ _ _ _ _ _)
   | (with_reducible exact spec_ctPegs.mono _ _ _)
   | (with_reducible exact spec_pgStep.mono _ _ _ _ _)
   | (with_reducible exact LeO.refl _)
   | (with_reducible exact LeO.none _)
   | (with_reducible refine LeO.ite ?_ ?_)
   | (with_reducible refine LeO.bind ?_ (fun _ => ?_))
   | exact ih0 _ _ _ _ _
   | exact ih1 _ _ _ _ _ _
   | exact spec_ctPegs.mono _ _ _
   | exact spec_pgStep.mono _ _ _ _ _
   | exact LeO.none _
   | refine LeO.ite ?_ ?_
   | refine LeO.bind ?_ (fun _ => ?_)
set_option maxHeartbeats 8000000 in
set_option maxRecDepth 100000 in
theorem spec_PegsSeen.calls (k : Nat) (a0 : Int) (a1 : Int) (a2_0 : Int) (a2_1 : Int) (r1 : Int) (r2 : Bool) (w : World) (h : spec_PegsSeen.f k a0 a1 a2_0 a2_1 = some (r1, r2)) :
  Calls Try.prog 47 #[.int .i64 a0, .int .i64 a1, .agg #[.int .i64 a2_0, .int .i64 a2_1]] w fun e w' => e = .returned (.tuple #[.int .i64 r1, .bool r2]) ∧ Below w.heap.size w w' := by
 have hu36 := Try.underlying36
 have HB := Aside0.mk (Below.refl w.heap.size w)
 have H : ((spec_ctBoard.f a0 a1 12).bind fun t394 => (if t394 = true then ((spec_l1In.f a2_0 0 (wrap64 (a0 - 1))).bind fun t395 => (if t395 = true then ((spec_l1In.f a2_1 0 (wrap64 (a1 - 1))).bind fun t396 => (spec_PegsSeen.j0 k a0 a1 (!t396) a2_0 a2_1)) else (spec_PegsSeen.j0 k a0 a1 true a2_0 a2_1))) else (spec_PegsSeen.j0 k a0 a1 true a2_0 a2_1))) = some (r1, r2) := h
 clear h
 have HC4 := Aside0.mk H
 clear H
 go_enter Try.func47, Try.ntmps47
 go_upto_region 1 with (first | ((with_reducible refine gate_dst (N := 5) rfl ?_); refine box_event ?hg (N := 5) ?hd (cs := #[.int .i64 a2_0, .int .i64 a2_1]) (t := 36) ?hr ?_; (case hd => rfl); (case hg => rfl); (case hr => first | (go_simp; done) | (go_simp; rfl)); intro gb393 hg w5 hbox hb; have n0_ := Aside0.mk (below_step (hb_) hb); have n1_ := Aside0.mk (hbox); have n2_ := Aside0.mk ((by rw [hg]; exact (below_size (hb_)) : w.heap.size ≤ gb393)); have n3_ := Aside0.mk ((by rw [hg]; exact (below_size (hb_)) : w.heap.size ≤ gb393)); clear HB; have HB := n0_; have BK393 := n1_; have GW393 := n2_; have GE393 := n3_; clear n0_ n1_ n2_ n3_; clear hb hbox hg))
 (try simp only [Act.put, List.setIfInBounds_toArray, List.set_cons_zero, List.set_cons_succ])
 go_cut [30] (fun v30 wc => ∃ (kq : Nat) (x30_3 : Bool), v30 = .bool x30_3 ∧ Aside0 (spec_PegsSeen.j0 kq a0 a1 x30_3 a2_0 a2_1 = some (r1, r2)) ∧ Aside0 (kq ≤ k) ∧ Aside0 (wc.heap[gb393]? = some (.cells #[.int .i64 a2_0, .int .i64 a2_1] 36 (0, 0))) ∧ Aside0 (Below w.heap.size w wc))
 case first =>
  have H := HC4.out
  clear HC4
  replace H := Option.bind_eq_some_iff.mp H
  obtain ⟨t394, A60, H⟩ := H
  replace H : (if t394 = true then ((spec_l1In.f a2_0 0 (wrap64 (a0 - 1))).bind fun t395 => (if t395 = true then ((spec_l1In.f a2_1 0 (wrap64 (a1 - 1))).bind fun t396 => (spec_PegsSeen.j0 k a0 a1 (!t396) a2_0 a2_1)) else (spec_PegsSeen.j0 k a0 a1 true a2_0 a2_1))) else (spec_PegsSeen.j0 k a0 a1 true a2_0 a2_1)) = some (r1, r2) := H
  have A6 := Aside0.mk A60
  clear A60
  by_cases c7 : t394 = true
  ·subst c7
   have H1 : ((spec_l1In.f a2_0 0 (wrap64 (a0 - 1))).bind fun t395 => (if t395 = true then ((spec_l1In.f a2_1 0 (wrap64 (a1 - 1))).bind fun t396 => (spec_PegsSeen.j0 k a0 a1 (!t396) a2_0 a2_1)) else (spec_PegsSeen.j0 k a0 a1 true a2_0 a2_1))) = some (r1, r2) := by rw [if_pos rfl] at H; exact H
   clear H
   have H := H1
   clear H1
   replace H := Option.bind_eq_some_iff.mp H
   obtain ⟨t395, A80, H⟩ := H
   replace H : (if t395 = true then ((spec_l1In.f a2_1 0 (wrap64 (a1 - 1))).bind fun t396 => (spec_PegsSeen.j0 k a0 a1 (!t396) a2_0 a2_1)) else (spec_PegsSeen.j0 k a0 a1 true a2_0 a2_1)) = some (r1, r2) := H
   have A8 := Aside0.mk A80
   clear A80
   by_cases c9 : t395 = true
   ·subst c9
    have H1 : ((spec_l1In.f a2_1 0 (wrap64 (a1 - 1))).bind fun t396 => (spec_PegsSeen.j0 k a0 a1 (!t396) a2_0 a2_1)) = some (r1, r2) := by rw [if_pos rfl] at H; exact H
    clear H
    have H := H1
    clear H1
    replace H := Option.bind_eq_some_iff.mp H
    obtain ⟨t396, A100, H⟩ := H
    replace H : (spec_PegsSeen.j0 k a0 a1 (!t396) a2_0 a2_1) = some (r1, r2) := H
    have A10 := Aside0.mk A100
    clear A100
    have H' := Aside0.mk H
    clear H
    go_wp2_with (first | ((with_reducible refine gate_callee (f := 57) rfl ?_); refine goesL_ (some 13) rfl rfl Try.func57 (by kernel_rfl) rfl #[.int .i64 a0, .int .i64 a1, .int .i64 12] rfl ga_ ?_; (with_reducible refine (spec_ctBoard.calls a0 a1 12 true _ A6.out).mono ?_); rintro e w' ⟨rfl, ⟨nd, rfl⟩⟩; refine ⟨_, rfl, ?_⟩; have hcz11_0 : w5.cell? ⟨gb393, 0, none⟩ = some (.int .i64 a2_0) := (blk_cell BK393.out 0).trans rfl; have hcz11_1 : w5.cell? ⟨gb393, 1, none⟩ = some (.int .i64 a2_1) := (blk_cell BK393.out 1).trans rfl; have hfz11_0 := blk_frozen BK393.out 0; have hfz11_1 := blk_frozen BK393.out 1) | (go_at_call 91; (with_reducible refine (spec_l1In.calls a2_0 0 (wrap64 (a0 - 1)) true _ A8.out).mono ?_); rintro e w' ⟨rfl, ⟨nd, rfl⟩⟩) | (go_at_call 91; (with_reducible refine (spec_l1In.calls a2_1 0 (wrap64 (a1 - 1)) t396 _ A10.out).mono ?_); rintro e w' ⟨rfl, ⟨nd, rfl⟩⟩))
    go_meet
    case rel => exact ⟨_, (!t396), (by first | rfl | (simp; done) | (simp [*]; done)), H', ⟨by first | omega | exact Nat.le_refl _⟩, ⟨bk_ BK393.out⟩, ⟨hbg_⟩⟩
   ·replace c9 := Bool.eq_false_iff.mpr c9
    subst c9
    have H1 : (spec_PegsSeen.j0 k a0 a1 true a2_0 a2_1) = some (r1, r2) := by rw [if_neg (show ¬ (false = true) by decide)] at H; exact H
    clear H
    have H := H1
    clear H1
    have H' := Aside0.mk H
    clear H
    go_wp2_with (first | ((with_reducible refine gate_callee (f := 57) rfl ?_); refine goesL_ (some 13) rfl rfl Try.func57 (by kernel_rfl) rfl #[.int .i64 a0, .int .i64 a1, .int .i64 12] rfl ga_ ?_; (with_reducible refine (spec_ctBoard.calls a0 a1 12 true _ A6.out).mono ?_); rintro e w' ⟨rfl, ⟨nd, rfl⟩⟩; refine ⟨_, rfl, ?_⟩; have hcz12_0 : w5.cell? ⟨gb393, 0, none⟩ = some (.int .i64 a2_0) := (blk_cell BK393.out 0).trans rfl; have hcz12_1 : w5.cell? ⟨gb393, 1, none⟩ = some (.int .i64 a2_1) := (blk_cell BK393.out 1).trans rfl; have hfz12_0 := blk_frozen BK393.out 0; have hfz12_1 := blk_frozen BK393.out 1) | (go_at_call 91; (with_reducible refine (spec_l1In.calls a2_0 0 (wrap64 (a0 - 1)) false _ A8.out).mono ?_); rintro e w' ⟨rfl, ⟨nd, rfl⟩⟩))
    go_meet
    case rel => exact ⟨_, (true), (by first | rfl | (simp; done) | (simp [*]; done)), H', ⟨by first | omega | exact Nat.le_refl _⟩, ⟨bk_ BK393.out⟩, ⟨hbg_⟩⟩
  ·replace c7 := Bool.eq_false_iff.mpr c7
   subst c7
   have H1 : (spec_PegsSeen.j0 k a0 a1 true a2_0 a2_1) = some (r1, r2) := by rw [if_neg (show ¬ (false = true) by decide)] at H; exact H
   clear H
   have H := H1
   clear H1
   have H' := Aside0.mk H
   clear H
   go_wp2_with (first | ((with_reducible refine gate_callee (f := 57) rfl ?_); refine goesL_ (some 13) rfl rfl Try.func57 (by kernel_rfl) rfl #[.int .i64 a0, .int .i64 a1, .int .i64 12] rfl ga_ ?_; (with_reducible refine (spec_ctBoard.calls a0 a1 12 false _ A6.out).mono ?_); rintro e w' ⟨rfl, ⟨nd, rfl⟩⟩; refine ⟨_, rfl, ?_⟩))
   go_meet
   case rel => exact ⟨_, (true), (by first | rfl | (simp; done) | (simp [*]; done)), H', ⟨by first | omega | exact Nat.le_refl _⟩, ⟨bk_ BK393.out⟩, ⟨hbg_⟩⟩
 case rest =>
  clear HC4
  try clear p2; try clear c4; try clear c5; try clear p6; try clear c7; try clear c9; try clear hcz11_0; try clear hcz11_1; try clear hcz12_0; try clear hcz12_1; try clear hfz11_0; try clear hfz11_1; try clear hfz12_0; try clear hfz12_1
  obtain ⟨kq, x30_3, rfl, HA, HJ3, BK393, HB⟩ := hcut
  cases kq with
  | zero => exact absurd HA.out (by simp [spec_PegsSeen.j0])
  | succ kj3 =>
   have H := HA.out
   clear HA
   simp only [spec_PegsSeen.j0] at H
   by_cases c13 : x30_3 = true
   ·subst c13
    have H1 : (some (0, false)) = some (r1, r2) := by rw [if_pos rfl] at H; exact H
    clear H
    have H := H1
    clear H1
    simp only [Option.some.injEq, Prod.mk.injEq] at H
    obtain ⟨rfl, rfl⟩ := H
    go_wp2
    go_ret2
    exact ⟨by first | rfl | (simp [errW_none, errW_some] <;> rfl) | (simp [*, errW_none, errW_some] <;> rfl), hbg_⟩
   ·replace c13 := Bool.eq_false_iff.mpr c13
    subst c13
    have H1 : ((spec_ctPegs.f kj3 a0 a1).bind fun t397 => (spec_PegsSeen.l0 kj3 0 t397 (t397.length : Int) 0 a2_0 a2_1)) = some (r1, r2) := by rw [if_neg (show ¬ (false = true) by decide)] at H; exact H
    clear H
    have H := H1
    clear H1
    replace H := Option.bind_eq_some_iff.mp H
    obtain ⟨t397, A140, H⟩ := H
    replace H : (spec_PegsSeen.l0 kj3 0 t397 (t397.length : Int) 0 a2_0 a2_1) = some (r1, r2) := H
    have A14 := Aside0.mk A140
    clear A140
    have H' := Aside0.mk H
    clear H
    go_wp2_with (first | ((with_reducible refine gate_callee (f := 58) rfl ?_); refine goesL_ (some 33) rfl rfl Try.func58 (by kernel_rfl) rfl #[.int .i64 a0, .int .i64 a1] rfl ga_ ?_; (with_reducible refine (spec_ctPegs.calls kj3 a0 a1 t397 _ A14.out).mono ?_); rintro e w15 ⟨v398, rfl, ho0, hb⟩; refine ⟨_, rfl, ?_⟩; have n0_ := Aside0.mk (Kd.R_lower (Kd.R_newB ho0 (g := gb393) (o := .cells #[.int .i64 a2_0, .int .i64 a2_1] 36 (0, 0)) (bk_ BK393.out)) (below_size (hbg_))); have n1_ := bb_ BK393 hb; have n2_ := Aside0.mk (below_step (hbg_) hb); clear BK393; clear HB; have HO399 := n0_; have BK393 := n1_; have HB := n2_; clear n0_ n1_ n2_; (try clear hb); (try clear hb2); (try clear hk); (try clear hi); (try clear ho0); obtain ⟨Ao16, co16, eo16⟩ := Kd.R_slice HO399.out; subst eo16))
    go_loopg [8, 35] kj3 (fun kq v8 v35 w' => ∃ (x8_2 : Int) (x35_2 : Int), v8 = .int .i64 x8_2 ∧ v35 = .int .i64 x35_2 ∧ Aside0 (spec_PegsSeen.l0 kq x8_2 t397 (t397.length : Int) x35_2 a2_0 a2_1 = some (r1, r2)) ∧ Aside0 (kq ≤ kj3) ∧ Aside0 (Kd.R k36 36 w' w.heap.size (fun k_ => k_ ≠ gb393) (.slice Ao16 t397.length co16) t397) ∧ Aside0 (w'.heap[gb393]? = some (.cells #[.int .i64 a2_0, .int .i64 a2_1] 36 (0, 0))) ∧ Aside0 (Below w.heap.size w w'))
    case atStart => exact ⟨(0), (0), (by first | rfl | (simp; done) | (simp [*]; done)), (by first | rfl | (simp; done) | (simp [*]; done)), H', ⟨Nat.le_refl _⟩, ⟨by (with_reducible repeat (first | apply Kd.R_alloc | apply Kd.R_drewN | apply Kd.R_drew)); exact Kd.R_mono HO399.out (fun _ hk => hk.2)⟩, ⟨bk_ BK393.out⟩, ⟨hbg_⟩⟩
    case round =>
     clear H'
     try clear c1; try clear p2; try clear c4; try clear c5; try clear p6; try clear c7; try clear c9; try clear c13; try clear hcz11_0; try clear hcz11_1; try clear hcz12_0; try clear hcz12_1; try clear hfz11_0; try clear hfz11_1; try clear hfz12_0; try clear hfz12_1; try clear p2; try clear p6
     obtain ⟨x8_2, x35_2, rfl, rfl, HA, HK2, HO_33, BK393, HB⟩ := hrel
     cases gk with
     | zero => exact absurd HA.out (by simp [spec_PegsSeen.l0])
     | succ k2 =>
      have H := HA.out
      clear HA
      simp only [spec_PegsSeen.l0] at H
      by_cases c17 : x35_2 < (t397.length : Int)
      ·rw [if_pos c17] at H
       have c17b0 : decide (x35_2 < (t397.length : Int)) = true := decide_eq_true c17
       clear c17
       by_cases c18 : 0 ≤ x35_2
       ·rw [if_pos c18] at H
        have c18b0 : decide (0 ≤ x35_2) = true := decide_eq_true c18
        clear c18
        by_cases c19 : x35_2 < (t397.length : Int)
        ·rw [if_pos c19] at H
         have c19b0 : decide (x35_2 < (t397.length : Int)) = true := decide_eq_true c19
         clear c19
         by_cases c20 : (!(((rd_T36 t397 x35_2).f0) == a2_0) || (!(((rd_T36 t397 x35_2).f1) == a2_1))) = true
         ·rw [if_pos c20] at H
          have c20b0 : (!(((rd_T36 t397 x35_2).f0) == a2_0) || (!(((rd_T36 t397 x35_2).f1) == a2_1))) = true := c20
          clear c20
          replace H := Option.bind_eq_some_iff.mp H
          obtain ⟨t402, A210, H⟩ := H
          replace H : (if t402 = 1 then (spec_PegsSeen.l0 k2 (wrap64 (x8_2 + 1)) t397 (t397.length : Int) (wrap64 (x35_2 + 1)) a2_0 a2_1) else (spec_PegsSeen.l0 k2 x8_2 t397 (t397.length : Int) (wrap64 (x35_2 + 1)) a2_0 a2_1)) = some (r1, r2) := H
          have A21 := Aside0.mk A210
          clear A210
          by_cases c22 : t402 = 1
          ·rw [if_pos c22] at H
           have c22b0 : (t402 == 1) = true := beq_iff_eq.mpr c22
           have c22b1 : (t402 != 1) = false := bne_eq_false_iff_eq.mpr c22
           clear c22
           have H' := Aside0.mk H
           clear H
           have p400 : 0 ≤ (x35_2 : Int) := odt_
           have q400 : x35_2 < (t397.length : Int) := odt_
           obtain ⟨ad400, e400, hx400_0, hx400_1⟩ := at_T36 (Kd.R_reads' HO_33.out).2.2 x35_2 p400 q400
           cases e400
           replace p400 := eq_true p400
           replace q400 := eq_true q400
           go_wp2_with (first | ((with_reducible refine gate_dst (N := 10) rfl ?_); refine box_event ?hg (N := 10) ?hd (cs := #[.int .i64 0, .int .i64 0]) (t := 36) ?hr ?_; (case hd => rfl); (case hg => rfl); (case hr => first | (go_simp; done) | (go_simp; rfl)); intro gb401 hg w23 hbox hb; have n0_ := Aside0.mk (Kd.R_below (Kd.R_elderB (rk_ HO_33.out) gb401 (Nat.le_of_eq hg.symm)) hb); have n1_ := bb_ BK393 hb; have n2_ := Aside0.mk (below_step (hbg_) hb); have n3_ := Aside0.mk (hbox); have n4_ := Aside0.mk ((by rw [hg]; exact (below_size (hbg_)) : w.heap.size ≤ gb401)); have n5_ := Aside0.mk ((by rw [hg]; exact (below_size (hbg_)) : w.heap.size ≤ gb401)); have n6_ := Aside0.mk ((by rw [hg]; exact Nat.ne_of_lt (blk_lt (bk_ BK393.out)) : gb393 ≠ gb401)); have n7_ := Aside0.mk ((by rw [hg]; exact Nat.ne_of_gt (blk_lt (bk_ BK393.out)) : gb401 ≠ gb393)); clear HO_33; clear BK393; clear HB; have HO_33 := n0_; have BK393 := n1_; have HB := n2_; have BK401 := n3_; have GW401 := n4_; have GE401 := n5_; have NB393_401 := n6_; have NB401_393 := n7_; clear n0_ n1_ n2_ n3_ n4_ n5_ n6_ n7_; clear hb hbox hg; have hnb24 := NB401_393.out; have hnc24 := NB393_401.out; have hcz25_0 : w23.cell? ⟨gb401, 0, none⟩ = some (.int .i64 0) := (blk_cell BK401.out 0).trans rfl; have hcz25_1 : w23.cell? ⟨gb401, 1, none⟩ = some (.int .i64 0) := (blk_cell BK401.out 1).trans rfl; have hfz25_0 := blk_frozen BK401.out 0; have hfz25_1 := blk_frozen BK401.out 1; have hcz26_0 : w23.cell? ⟨gb393, 0, none⟩ = some (.int .i64 a2_0) := (blk_cell BK393.out 0).trans rfl; have hcz26_1 : w23.cell? ⟨gb393, 1, none⟩ = some (.int .i64 a2_1) := (blk_cell BK393.out 1).trans rfl; have hfz26_0 := blk_frozen BK393.out 0; have hfz26_1 := blk_frozen BK393.out 1) | (go_at_call 97; (with_reducible refine (spec_pgStep.calls k2 a2_0 a2_1 ((rd_T36 t397 x35_2).f0) ((rd_T36 t397 x35_2).f1) t402 _ A21.out).mono ?_); rintro e w27 ⟨rfl, hb⟩; have n0_ := Aside0.mk (Kd.R_below (by (with_reducible repeat (first | apply Kd.R_alloc | apply Kd.R_drewN | apply Kd.R_drew)); exact (Kd.R_mono (Kd.R_far (p := ⟨gb401, 1, none⟩) (Kd.R_far (p := ⟨gb401, 0, none⟩) (Kd.R_mono HO_33.out (fun k_ hk => (⟨hk, hk.2⟩ : _ ∧ k_ ≠ gb401))) (fun _ hk => hk.2) (.int .i64 ((rd_T36 t397 x35_2).f0))) (fun _ hk => hk.2) (.int .i64 ((rd_T36 t397 x35_2).f1))) (fun _ h_ => h_.1))) hb); have n1_ := Aside0.mk (blk_below (g := gb393) (o := .cells #[.int .i64 a2_0, .int .i64 a2_1] 36 (0, 0)) (bf2_ BK393 NB393_401) hb); have n2_ := Aside0.mk (blk_below (g := gb401) (o := .cells #[.int .i64 ((rd_T36 t397 x35_2).f0), .int .i64 ((rd_T36 t397 x35_2).f1)] 36 (0, 0)) (by (with_reducible repeat (first | refine blk_drewN ?_ _ | refine blk_drew ?_ | refine blk_alloc ?_ _)); refine blk_put (cs := #[.int .i64 ((rd_T36 t397 x35_2).f0), .int .i64 0]) ?_ 1 _ rfl; (with_reducible repeat (first | refine blk_drewN ?_ _ | refine blk_drew ?_ | refine blk_alloc ?_ _)); refine blk_put (cs := #[.int .i64 0, .int .i64 0]) ?_ 0 _ rfl; (with_reducible repeat (first | refine blk_drewN ?_ _ | refine blk_drew ?_ | refine blk_alloc ?_ _)); exact BK401.out) hb); have n3_ := Aside0.mk (below_step (hbg_) hb); clear HO_33; clear BK393; clear BK401; clear HB; have HO_33 := n0_; have BK393 := n1_; have BK401 := n2_; have HB := n3_; clear n0_ n1_ n2_ n3_; (try clear hb); (try clear hb2); (try clear hk); (try clear hi)))
           go_roundg k2
           case measure => have := HJ3.out; have := HK2.out; omega
           case rel => exact ⟨(wrap64 (x8_2 + 1)), (wrap64 (x35_2 + 1)), (by first | rfl | (simp; done) | (simp [*]; done)), (by first | rfl | (simp; done) | (simp [*]; done)), H', ⟨by have := HJ3.out; have := HK2.out; omega⟩, ⟨by (with_reducible repeat (first | apply Kd.R_alloc | apply Kd.R_drewN | apply Kd.R_drew)); exact Kd.R_mono HO_33.out (fun _ hk => hk.1)⟩, ⟨bk_ BK393.out⟩, ⟨hbg_⟩⟩
          ·rw [if_neg c22] at H
           have c22b0 : (t402 == 1) = false := beq_eq_false_iff_ne.mpr c22
           have c22b1 : (t402 != 1) = true := bne_iff_ne.mpr c22
           have H' := Aside0.mk H
           clear H
           have p400 : 0 ≤ (x35_2 : Int) := odt_
           have q400 : x35_2 < (t397.length : Int) := odt_
           obtain ⟨ad400, e400, hx400_0, hx400_1⟩ := at_T36 (Kd.R_reads' HO_33.out).2.2 x35_2 p400 q400
           cases e400
           replace p400 := eq_true p400
           replace q400 := eq_true q400
           go_wp2_with (first | ((with_reducible refine gate_dst (N := 10) rfl ?_); refine box_event ?hg (N := 10) ?hd (cs := #[.int .i64 0, .int .i64 0]) (t := 36) ?hr ?_; (case hd => rfl); (case hg => rfl); (case hr => first | (go_simp; done) | (go_simp; rfl)); intro gb401 hg w28 hbox hb; have n0_ := Aside0.mk (Kd.R_below (Kd.R_elderB (rk_ HO_33.out) gb401 (Nat.le_of_eq hg.symm)) hb); have n1_ := bb_ BK393 hb; have n2_ := Aside0.mk (below_step (hbg_) hb); have n3_ := Aside0.mk (hbox); have n4_ := Aside0.mk ((by rw [hg]; exact (below_size (hbg_)) : w.heap.size ≤ gb401)); have n5_ := Aside0.mk ((by rw [hg]; exact (below_size (hbg_)) : w.heap.size ≤ gb401)); have n6_ := Aside0.mk ((by rw [hg]; exact Nat.ne_of_lt (blk_lt (bk_ BK393.out)) : gb393 ≠ gb401)); have n7_ := Aside0.mk ((by rw [hg]; exact Nat.ne_of_gt (blk_lt (bk_ BK393.out)) : gb401 ≠ gb393)); clear HO_33; clear BK393; clear HB; have HO_33 := n0_; have BK393 := n1_; have HB := n2_; have BK401 := n3_; have GW401 := n4_; have GE401 := n5_; have NB393_401 := n6_; have NB401_393 := n7_; clear n0_ n1_ n2_ n3_ n4_ n5_ n6_ n7_; clear hb hbox hg; have hnb29 := NB401_393.out; have hnc29 := NB393_401.out; have hcz30_0 : w28.cell? ⟨gb401, 0, none⟩ = some (.int .i64 0) := (blk_cell BK401.out 0).trans rfl; have hcz30_1 : w28.cell? ⟨gb401, 1, none⟩ = some (.int .i64 0) := (blk_cell BK401.out 1).trans rfl; have hfz30_0 := blk_frozen BK401.out 0; have hfz30_1 := blk_frozen BK401.out 1; have hcz31_0 : w28.cell? ⟨gb393, 0, none⟩ = some (.int .i64 a2_0) := (blk_cell BK393.out 0).trans rfl; have hcz31_1 : w28.cell? ⟨gb393, 1, none⟩ = some (.int .i64 a2_1) := (blk_cell BK393.out 1).trans rfl; have hfz31_0 := blk_frozen BK393.out 0; have hfz31_1 := blk_frozen BK393.out 1) | (go_at_call 97; (with_reducible refine (spec_pgStep.calls k2 a2_0 a2_1 ((rd_T36 t397 x35_2).f0) ((rd_T36 t397 x35_2).f1) t402 _ A21.out).mono ?_); rintro e w32 ⟨rfl, hb⟩; have n0_ := Aside0.mk (Kd.R_below (by (with_reducible repeat (first | apply Kd.R_alloc | apply Kd.R_drewN | apply Kd.R_drew)); exact (Kd.R_mono (Kd.R_far (p := ⟨gb401, 1, none⟩) (Kd.R_far (p := ⟨gb401, 0, none⟩) (Kd.R_mono HO_33.out (fun k_ hk => (⟨hk, hk.2⟩ : _ ∧ k_ ≠ gb401))) (fun _ hk => hk.2) (.int .i64 ((rd_T36 t397 x35_2).f0))) (fun _ hk => hk.2) (.int .i64 ((rd_T36 t397 x35_2).f1))) (fun _ h_ => h_.1))) hb); have n1_ := Aside0.mk (blk_below (g := gb393) (o := .cells #[.int .i64 a2_0, .int .i64 a2_1] 36 (0, 0)) (bf2_ BK393 NB393_401) hb); have n2_ := Aside0.mk (blk_below (g := gb401) (o := .cells #[.int .i64 ((rd_T36 t397 x35_2).f0), .int .i64 ((rd_T36 t397 x35_2).f1)] 36 (0, 0)) (by (with_reducible repeat (first | refine blk_drewN ?_ _ | refine blk_drew ?_ | refine blk_alloc ?_ _)); refine blk_put (cs := #[.int .i64 ((rd_T36 t397 x35_2).f0), .int .i64 0]) ?_ 1 _ rfl; (with_reducible repeat (first | refine blk_drewN ?_ _ | refine blk_drew ?_ | refine blk_alloc ?_ _)); refine blk_put (cs := #[.int .i64 0, .int .i64 0]) ?_ 0 _ rfl; (with_reducible repeat (first | refine blk_drewN ?_ _ | refine blk_drew ?_ | refine blk_alloc ?_ _)); exact BK401.out) hb); have n3_ := Aside0.mk (below_step (hbg_) hb); clear HO_33; clear BK393; clear BK401; clear HB; have HO_33 := n0_; have BK393 := n1_; have BK401 := n2_; have HB := n3_; clear n0_ n1_ n2_ n3_; (try clear hb); (try clear hb2); (try clear hk); (try clear hi)))
           go_roundg k2
           case measure => have := HJ3.out; have := HK2.out; omega
           case rel => exact ⟨(x8_2), (wrap64 (x35_2 + 1)), (by first | rfl | (simp; done) | (simp [*]; done)), (by first | rfl | (simp; done) | (simp [*]; done)), H', ⟨by have := HJ3.out; have := HK2.out; omega⟩, ⟨by (with_reducible repeat (first | apply Kd.R_alloc | apply Kd.R_drewN | apply Kd.R_drew)); exact Kd.R_mono HO_33.out (fun _ hk => hk.1)⟩, ⟨bk_ BK393.out⟩, ⟨hbg_⟩⟩
         ·rw [if_neg c20] at H
          have c20b0 : (!(((rd_T36 t397 x35_2).f0) == a2_0) || (!(((rd_T36 t397 x35_2).f1) == a2_1))) = false := by simpa using c20
          clear c20
          have H' := Aside0.mk H
          clear H
          have p400 : 0 ≤ (x35_2 : Int) := odt_
          have q400 : x35_2 < (t397.length : Int) := odt_
          obtain ⟨ad400, e400, hx400_0, hx400_1⟩ := at_T36 (Kd.R_reads' HO_33.out).2.2 x35_2 p400 q400
          cases e400
          replace p400 := eq_true p400
          replace q400 := eq_true q400
          go_wp2_with (first | ((with_reducible refine gate_dst (N := 10) rfl ?_); refine box_event ?hg (N := 10) ?hd (cs := #[.int .i64 0, .int .i64 0]) (t := 36) ?hr ?_; (case hd => rfl); (case hg => rfl); (case hr => first | (go_simp; done) | (go_simp; rfl)); intro gb401 hg w33 hbox hb; have n0_ := Aside0.mk (Kd.R_below (Kd.R_elderB (rk_ HO_33.out) gb401 (Nat.le_of_eq hg.symm)) hb); have n1_ := bb_ BK393 hb; have n2_ := Aside0.mk (below_step (hbg_) hb); have n3_ := Aside0.mk (hbox); have n4_ := Aside0.mk ((by rw [hg]; exact (below_size (hbg_)) : w.heap.size ≤ gb401)); have n5_ := Aside0.mk ((by rw [hg]; exact (below_size (hbg_)) : w.heap.size ≤ gb401)); have n6_ := Aside0.mk ((by rw [hg]; exact Nat.ne_of_lt (blk_lt (bk_ BK393.out)) : gb393 ≠ gb401)); have n7_ := Aside0.mk ((by rw [hg]; exact Nat.ne_of_gt (blk_lt (bk_ BK393.out)) : gb401 ≠ gb393)); clear HO_33; clear BK393; clear HB; have HO_33 := n0_; have BK393 := n1_; have HB := n2_; have BK401 := n3_; have GW401 := n4_; have GE401 := n5_; have NB393_401 := n6_; have NB401_393 := n7_; clear n0_ n1_ n2_ n3_ n4_ n5_ n6_ n7_; clear hb hbox hg; have hnb34 := NB401_393.out; have hnc34 := NB393_401.out; have hcz35_0 : w33.cell? ⟨gb401, 0, none⟩ = some (.int .i64 0) := (blk_cell BK401.out 0).trans rfl; have hcz35_1 : w33.cell? ⟨gb401, 1, none⟩ = some (.int .i64 0) := (blk_cell BK401.out 1).trans rfl; have hfz35_0 := blk_frozen BK401.out 0; have hfz35_1 := blk_frozen BK401.out 1; have hcz36_0 : w33.cell? ⟨gb393, 0, none⟩ = some (.int .i64 a2_0) := (blk_cell BK393.out 0).trans rfl; have hcz36_1 : w33.cell? ⟨gb393, 1, none⟩ = some (.int .i64 a2_1) := (blk_cell BK393.out 1).trans rfl; have hfz36_0 := blk_frozen BK393.out 0; have hfz36_1 := blk_frozen BK393.out 1))
          go_roundg k2
          case measure => have := HJ3.out; have := HK2.out; omega
          case rel => exact ⟨(x8_2), (wrap64 (x35_2 + 1)), (by first | rfl | (simp; done) | (simp [*]; done)), (by first | rfl | (simp; done) | (simp [*]; done)), H', ⟨by have := HJ3.out; have := HK2.out; omega⟩, ⟨by (with_reducible repeat (first | apply Kd.R_alloc | apply Kd.R_drewN | apply Kd.R_drew)); exact Kd.R_mono (Kd.R_far (p := ⟨gb401, 1, none⟩) (Kd.R_far (p := ⟨gb401, 0, none⟩) (Kd.R_mono HO_33.out (fun k_ hk => (⟨hk, hk.2⟩ : _ ∧ k_ ≠ gb401))) (fun _ hk => hk.2) (.int .i64 ((rd_T36 t397 x35_2).f0))) (fun _ hk => hk.2) (.int .i64 ((rd_T36 t397 x35_2).f1))) (fun _ hk => hk.1.1)⟩, ⟨by (with_reducible repeat (first | refine blk_drewN ?_ _ | refine blk_drew ?_ | refine blk_alloc ?_ _)); refine blk_far ?_ NB393_401.out _; (with_reducible repeat (first | refine blk_drewN ?_ _ | refine blk_drew ?_ | refine blk_alloc ?_ _)); refine blk_far ?_ NB393_401.out _; (with_reducible repeat (first | refine blk_drewN ?_ _ | refine blk_drew ?_ | refine blk_alloc ?_ _)); exact BK393.out⟩, ⟨hbg_⟩⟩
        ·rw [if_neg c19] at H
         exact absurd H (by simp)
       ·rw [if_neg c18] at H
        exact absurd H (by simp)
      ·rw [if_neg c17] at H
       have c17b0 : decide (x35_2 < (t397.length : Int)) = false := decide_eq_false c17
       clear c17
       simp only [Option.some.injEq, Prod.mk.injEq] at H
       obtain ⟨rfl, rfl⟩ := H
       go_wp2
       go_ret2
       exact ⟨by first | rfl | (simp [errW_none, errW_some] <;> rfl) | (simp [*, errW_none, errW_some] <;> rfl), hbg_⟩

end Go.Proofs.Ytmenfomcikfnmaa.MB
