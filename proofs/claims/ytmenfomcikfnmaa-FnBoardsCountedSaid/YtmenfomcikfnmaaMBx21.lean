-- Written by a program of this session (wip/print/myprint.py) over the kit's printer; Lean checks it.
import Derived.Test.YtmenfomcikfnmaaMBx0
import Derived.Test.YtmenfomcikfnmaaMBx2
import Derived.Test.YtmenfomcikfnmaaMBx3
import Derived.Test.YtmenfomcikfnmaaMBx7
import Derived.Test.YtmenfomcikfnmaaMBx20
namespace Go.Proofs.Ytmenfomcikfnmaa.MB
open Go.RowKit Go.Proofs.YtmenfomcikfnmaaW.PrintWords Go.Proofs.YtmenfomcikfnmaaW.PrintLast Go.Proofs.YtmenfomcikfnmaaW.PrintMore Go.Proofs.YtmenfomcikfnmaaV
attribute [local go_sem] max2_int min2_int max_two min_two max_three min_three max_four min_four   -- for this text's walks alone
set_option linter.unusedVariables false
set_option linter.unusedSimpArgs false

/-! ### impl_PegsSeen: function 46 -/
mutual
def impl_PegsSeen.j0 : Nat → Int → Int → Bool → Int → Int → Option (Int × Bool)
 | 0, _, _, _, _, _ => none
 | k + 1, x0, x1, x21, x382000, x382001 => if x21 = true then (some (0, false)) else ((impl_board.f k x0 x1).bind fun t384 => (impl_PegsSeen.l0 k 0 t384 (t384.length : Int) 0 x382000 x382001))
def impl_PegsSeen.l0 : Nat → Int → List (S36) → Int → Int → Int → Int → Option (Int × Bool)
 | 0, _, _, _, _, _, _ => none
 | k + 1, x8, x24, x25, x26, x382000, x382001 => if x26 < x25 then (if 0 ≤ x26 then (if x26 < (x24.length : Int) then ((impl_steps.f k x382000 x382001 ((rd_T36 x24 x26).f0) ((rd_T36 x24 x26).f1)).bind fun t389 => (if t389 = 1 then (impl_PegsSeen.l0 k (wrap64 (x8 + 1)) x24 x25 (wrap64 (x26 + 1)) x382000 x382001) else (impl_PegsSeen.l0 k x8 x24 x25 (wrap64 (x26 + 1)) x382000 x382001))) else (none)) else (none)) else (some (x8, true))
end
def impl_PegsSeen.f (k : Nat) (a0 : Int) (a1 : Int) (a2_0 : Int) (a2_1 : Int) : Option (Int × Bool) := (impl_isBoard.f a0 a1 12).bind fun t382 => (if t382 = true then ((impl_isOnBoard.f a0 a1 a2_0 a2_1).bind fun t383 => (impl_PegsSeen.j0 k a0 a1 (!t383) a2_0 a2_1)) else (impl_PegsSeen.j0 k a0 a1 true a2_0 a2_1))
theorem impl_PegsSeen.mono_l : ∀ k, (∀ y0 y1 y2 y3 y4, LeO (impl_PegsSeen.j0 k y0 y1 y2 y3 y4) (impl_PegsSeen.j0 (k + 1) y0 y1 y2 y3 y4)) ∧ (∀ y0 y1 y2 y3 y4 y5, LeO (impl_PegsSeen.l0 k y0 y1 y2 y3 y4 y5) (impl_PegsSeen.l0 (k + 1) y0 y1 y2 y3 y4 y5))
 | 0 => ⟨fun _ _ _ _ _ r h => by simp [impl_PegsSeen.j0] at h, fun _ _ _ _ _ _ r h => by simp [impl_PegsSeen.l0] at h⟩
 | k + 1 => by
  obtain ⟨ih0, ih1⟩ := impl_PegsSeen.mono_l k
  refine ⟨?_, ?_⟩
  ·intro y0 y1 y2 y3 y4
   unfold impl_PegsSeen.j0
   repeat' first
   | (with_reducible exact ih0 _ _ _ _ _)
   | (with_reducible exact ih1 _ _ _ _ _ _)
   | (with_reducible exact impl_board.mono _ _ _)
   | (with_reducible exact impl_steps.mono _ _ _ _ _)
   | (with_reducible exact LeO.refl _)
   | (with_reducible exact LeO.none _)
   | (with_reducible refine LeO.ite ?_ ?_)
   | (with_reducible refine LeO.bind ?_ (fun _ => ?_))
   | exact ih0 _ _ _ _ _
   | exact ih1 _ _ _ _ _ _
   | exact impl_board.mono _ _ _
   | exact impl_steps.mono _ _ _ _ _
   | exact LeO.none _
   | refine LeO.ite ?_ ?_
   | refine LeO.bind ?_ (fun _ => ?_)
  ·intro y0 y1 y2 y3 y4 y5
   unfold impl_PegsSeen.l0
   repeat' first
   | (with_reducible exact ih0 _ _ _ _ _)
   | (with_reducible exact ih1 _ _ _ _ _ _)
   | (with_reducible exact impl_board.mono _ _ _)
   | (with_reducible exact impl_steps.mono _ _ _ _ _)
   | (with_reducible exact LeO.refl _)
   | (with_reducible exact LeO.none _)
   | (with_reducible refine LeO.ite ?_ ?_)
   | (with_reducible refine LeO.bind ?_ (fun _ => ?_))
   | exact ih0 _ _ _ _ _
   | exact ih1 _ _ _ _ _ _
   | exact impl_board.mono _ _ _
   | exact impl_steps.mono _ _ _ _ _
   | exact LeO.none _
   | refine LeO.ite ?_ ?_
   | refine LeO.bind ?_ (fun _ => ?_)
theorem impl_PegsSeen.mono : ∀ a0 a1 a2 a3 k, LeO (impl_PegsSeen.f k a0 a1 a2 a3) (impl_PegsSeen.f (k + 1) a0 a1 a2 a3) := by
 intro a0 a1 a2 a3 k
 obtain ⟨ih0, ih1⟩ := impl_PegsSeen.mono_l k
 unfold impl_PegsSeen.f
 repeat' first
   | (with_reducible exact ih0 _ _ _ _ _)
   | (with_reducible exact ih1 _ _ _ _ _ _)
   | (with_reducible exact impl_board.mono _ _ _)
   | (with_reducible exact impl_steps.mono _ _ _ _ _)
   | (with_reducible exact LeO.refl _)
   | (with_reducible exact LeO.none _)
   | (with_reducible refine LeO.ite ?_ ?_)
   | (with_reducible refine LeO.bind ?_ (fun _ => ?_))
   | exact ih0 _ _ _ _ _
   | exact ih1 _ _ _ _ _ _
   | exact impl_board.mono _ _ _
   | exact impl_steps.mono _ _ _ _ _
   | exact LeO.none _
   | refine LeO.ite ?_ ?_
   | refine LeO.bind ?_ (fun _ => ?_)
set_option maxHeartbeats 8000000 in
set_option maxRecDepth 100000 in
theorem impl_PegsSeen.calls (k : Nat) (a0 : Int) (a1 : Int) (a2_0 : Int) (a2_1 : Int) (r1 : Int) (r2 : Bool) (w : World) (h : impl_PegsSeen.f k a0 a1 a2_0 a2_1 = some (r1, r2)) :
  Calls Try.prog 46 #[.int .i64 a0, .int .i64 a1, .agg #[.int .i64 a2_0, .int .i64 a2_1]] w fun e w' => e = .returned (.tuple #[.int .i64 r1, .bool r2]) ∧ Below w.heap.size w w' := by
 have hu36 := Try.underlying36
 have HB := Aside0.mk (Below.refl w.heap.size w)
 have H : ((impl_isBoard.f a0 a1 12).bind fun t382 => (if t382 = true then ((impl_isOnBoard.f a0 a1 a2_0 a2_1).bind fun t383 => (impl_PegsSeen.j0 k a0 a1 (!t383) a2_0 a2_1)) else (impl_PegsSeen.j0 k a0 a1 true a2_0 a2_1))) = some (r1, r2) := h
 clear h
 have HC4 := Aside0.mk H
 clear H
 go_enter Try.func46, Try.ntmps46
 go_upto_region 1 with (first | ((with_reducible refine gate_dst (N := 5) rfl ?_); refine box_event ?hg (N := 5) ?hd (cs := #[.int .i64 a2_0, .int .i64 a2_1]) (t := 36) ?hr ?_; (case hd => rfl); (case hg => rfl); (case hr => first | (go_simp; done) | (go_simp; rfl)); intro gb381 hg w5 hbox hb; have n0_ := Aside0.mk (below_step (hb_) hb); have n1_ := Aside0.mk (hbox); have n2_ := Aside0.mk ((by rw [hg]; exact (below_size (hb_)) : w.heap.size ≤ gb381)); have n3_ := Aside0.mk ((by rw [hg]; exact (below_size (hb_)) : w.heap.size ≤ gb381)); clear HB; have HB := n0_; have BK381 := n1_; have GW381 := n2_; have GE381 := n3_; clear n0_ n1_ n2_ n3_; clear hb hbox hg))
 (try simp only [Act.put, List.setIfInBounds_toArray, List.set_cons_zero, List.set_cons_succ])
 go_cut [21] (fun v21 wc => ∃ (kq : Nat) (x21_3 : Bool), v21 = .bool x21_3 ∧ Aside0 (impl_PegsSeen.j0 kq a0 a1 x21_3 a2_0 a2_1 = some (r1, r2)) ∧ Aside0 (kq ≤ k) ∧ Aside0 (wc.heap[gb381]? = some (.cells #[.int .i64 a2_0, .int .i64 a2_1] 36 (0, 0))) ∧ Aside0 (Below w.heap.size w wc))
 case first =>
  have H := HC4.out
  clear HC4
  replace H := Option.bind_eq_some_iff.mp H
  obtain ⟨t382, A60, H⟩ := H
  replace H : (if t382 = true then ((impl_isOnBoard.f a0 a1 a2_0 a2_1).bind fun t383 => (impl_PegsSeen.j0 k a0 a1 (!t383) a2_0 a2_1)) else (impl_PegsSeen.j0 k a0 a1 true a2_0 a2_1)) = some (r1, r2) := H
  have A6 := Aside0.mk A60
  clear A60
  by_cases c7 : t382 = true
  ·subst c7
   have H1 : ((impl_isOnBoard.f a0 a1 a2_0 a2_1).bind fun t383 => (impl_PegsSeen.j0 k a0 a1 (!t383) a2_0 a2_1)) = some (r1, r2) := by rw [if_pos rfl] at H; exact H
   clear H
   have H := H1
   clear H1
   replace H := Option.bind_eq_some_iff.mp H
   obtain ⟨t383, A80, H⟩ := H
   replace H : (impl_PegsSeen.j0 k a0 a1 (!t383) a2_0 a2_1) = some (r1, r2) := H
   have A8 := Aside0.mk A80
   clear A80
   have H' := Aside0.mk H
   clear H
   go_wp2_with (first | ((with_reducible refine gate_callee (f := 51) rfl ?_); refine goesL_ (some 13) rfl rfl Try.func51 (by kernel_rfl) rfl #[.int .i64 a0, .int .i64 a1, .int .i64 12] rfl ga_ ?_; (with_reducible refine (impl_isBoard.calls a0 a1 12 true _ A6.out).mono ?_); rintro e w' ⟨rfl, ⟨nd, rfl⟩⟩; refine ⟨_, rfl, ?_⟩; have hcz9_0 : w5.cell? ⟨gb381, 0, none⟩ = some (.int .i64 a2_0) := (blk_cell BK381.out 0).trans rfl; have hcz9_1 : w5.cell? ⟨gb381, 1, none⟩ = some (.int .i64 a2_1) := (blk_cell BK381.out 1).trans rfl; have hfz9_0 := blk_frozen BK381.out 0; have hfz9_1 := blk_frozen BK381.out 1) | (go_at_call 95; (with_reducible refine (impl_isOnBoard.calls a0 a1 a2_0 a2_1 t383 _ A8.out).mono ?_); rintro e w10 ⟨rfl, hb⟩; have n0_ := bb_ BK381 hb; have n1_ := Aside0.mk (below_step (hbg_) hb); clear BK381; clear HB; have BK381 := n0_; have HB := n1_; clear n0_ n1_; (try clear hb); (try clear hb2); (try clear hk); (try clear hi)))
   go_meet
   case rel => exact ⟨_, (!t383), (by first | rfl | (simp; done) | (simp [*]; done)), H', ⟨by first | omega | exact Nat.le_refl _⟩, ⟨bk_ BK381.out⟩, ⟨hbg_⟩⟩
  ·replace c7 := Bool.eq_false_iff.mpr c7
   subst c7
   have H1 : (impl_PegsSeen.j0 k a0 a1 true a2_0 a2_1) = some (r1, r2) := by rw [if_neg (show ¬ (false = true) by decide)] at H; exact H
   clear H
   have H := H1
   clear H1
   have H' := Aside0.mk H
   clear H
   go_wp2_with (first | ((with_reducible refine gate_callee (f := 51) rfl ?_); refine goesL_ (some 13) rfl rfl Try.func51 (by kernel_rfl) rfl #[.int .i64 a0, .int .i64 a1, .int .i64 12] rfl ga_ ?_; (with_reducible refine (impl_isBoard.calls a0 a1 12 false _ A6.out).mono ?_); rintro e w' ⟨rfl, ⟨nd, rfl⟩⟩; refine ⟨_, rfl, ?_⟩))
   go_meet
   case rel => exact ⟨_, (true), (by first | rfl | (simp; done) | (simp [*]; done)), H', ⟨by first | omega | exact Nat.le_refl _⟩, ⟨bk_ BK381.out⟩, ⟨hbg_⟩⟩
 case rest =>
  clear HC4
  try clear p2; try clear c4; try clear c5; try clear c7; try clear hcz9_0; try clear hcz9_1; try clear hfz9_0; try clear hfz9_1
  obtain ⟨kq, x21_3, rfl, HA, HJ3, BK381, HB⟩ := hcut
  cases kq with
  | zero => exact absurd HA.out (by simp [impl_PegsSeen.j0])
  | succ kj3 =>
   have H := HA.out
   clear HA
   simp only [impl_PegsSeen.j0] at H
   by_cases c11 : x21_3 = true
   ·subst c11
    have H1 : (some (0, false)) = some (r1, r2) := by rw [if_pos rfl] at H; exact H
    clear H
    have H := H1
    clear H1
    simp only [Option.some.injEq, Prod.mk.injEq] at H
    obtain ⟨rfl, rfl⟩ := H
    go_wp2
    go_ret2
    exact ⟨by first | rfl | (simp [errW_none, errW_some] <;> rfl) | (simp [*, errW_none, errW_some] <;> rfl), hbg_⟩
   ·replace c11 := Bool.eq_false_iff.mpr c11
    subst c11
    have H1 : ((impl_board.f kj3 a0 a1).bind fun t384 => (impl_PegsSeen.l0 kj3 0 t384 (t384.length : Int) 0 a2_0 a2_1)) = some (r1, r2) := by rw [if_neg (show ¬ (false = true) by decide)] at H; exact H
    clear H
    have H := H1
    clear H1
    replace H := Option.bind_eq_some_iff.mp H
    obtain ⟨t384, A120, H⟩ := H
    replace H : (impl_PegsSeen.l0 kj3 0 t384 (t384.length : Int) 0 a2_0 a2_1) = some (r1, r2) := H
    have A12 := Aside0.mk A120
    clear A120
    have H' := Aside0.mk H
    clear H
    go_wp2_with (first | ((with_reducible refine gate_callee (f := 52) rfl ?_); refine goesL_ (some 24) rfl rfl Try.func52 (by kernel_rfl) rfl #[.int .i64 a0, .int .i64 a1] rfl ga_ ?_; (with_reducible refine (impl_board.calls kj3 a0 a1 t384 _ A12.out).mono ?_); rintro e w13 ⟨v385, rfl, ho0, hb⟩; refine ⟨_, rfl, ?_⟩; have n0_ := Aside0.mk (Kd.R_lower (Kd.R_newB ho0 (g := gb381) (o := .cells #[.int .i64 a2_0, .int .i64 a2_1] 36 (0, 0)) (bk_ BK381.out)) (below_size (hbg_))); have n1_ := bb_ BK381 hb; have n2_ := Aside0.mk (below_step (hbg_) hb); clear BK381; clear HB; have HO386 := n0_; have BK381 := n1_; have HB := n2_; clear n0_ n1_ n2_; (try clear hb); (try clear hb2); (try clear hk); (try clear hi); (try clear ho0); obtain ⟨Ao14, co14, eo14⟩ := Kd.R_slice HO386.out; subst eo14))
    go_loopg [8, 26] kj3 (fun kq v8 v26 w' => ∃ (x8_2 : Int) (x26_2 : Int), v8 = .int .i64 x8_2 ∧ v26 = .int .i64 x26_2 ∧ Aside0 (impl_PegsSeen.l0 kq x8_2 t384 (t384.length : Int) x26_2 a2_0 a2_1 = some (r1, r2)) ∧ Aside0 (kq ≤ kj3) ∧ Aside0 (Kd.R k36 36 w' w.heap.size (fun k_ => k_ ≠ gb381) (.slice Ao14 t384.length co14) t384) ∧ Aside0 (w'.heap[gb381]? = some (.cells #[.int .i64 a2_0, .int .i64 a2_1] 36 (0, 0))) ∧ Aside0 (Below w.heap.size w w'))
    case atStart => exact ⟨(0), (0), (by first | rfl | (simp; done) | (simp [*]; done)), (by first | rfl | (simp; done) | (simp [*]; done)), H', ⟨Nat.le_refl _⟩, ⟨by (with_reducible repeat (first | apply Kd.R_alloc | apply Kd.R_drewN | apply Kd.R_drew)); exact Kd.R_mono HO386.out (fun _ hk => hk.2)⟩, ⟨bk_ BK381.out⟩, ⟨hbg_⟩⟩
    case round =>
     clear H'
     try clear c1; try clear p2; try clear c4; try clear c5; try clear c7; try clear c11; try clear hcz9_0; try clear hcz9_1; try clear hfz9_0; try clear hfz9_1; try clear p2
     obtain ⟨x8_2, x26_2, rfl, rfl, HA, HK2, HO_24, BK381, HB⟩ := hrel
     cases gk with
     | zero => exact absurd HA.out (by simp [impl_PegsSeen.l0])
     | succ k2 =>
      have H := HA.out
      clear HA
      simp only [impl_PegsSeen.l0] at H
      by_cases c15 : x26_2 < (t384.length : Int)
      ·rw [if_pos c15] at H
       have c15b0 : decide (x26_2 < (t384.length : Int)) = true := decide_eq_true c15
       clear c15
       by_cases c16 : 0 ≤ x26_2
       ·rw [if_pos c16] at H
        have c16b0 : decide (0 ≤ x26_2) = true := decide_eq_true c16
        clear c16
        by_cases c17 : x26_2 < (t384.length : Int)
        ·rw [if_pos c17] at H
         have c17b0 : decide (x26_2 < (t384.length : Int)) = true := decide_eq_true c17
         clear c17
         replace H := Option.bind_eq_some_iff.mp H
         obtain ⟨t389, A180, H⟩ := H
         replace H : (if t389 = 1 then (impl_PegsSeen.l0 k2 (wrap64 (x8_2 + 1)) t384 (t384.length : Int) (wrap64 (x26_2 + 1)) a2_0 a2_1) else (impl_PegsSeen.l0 k2 x8_2 t384 (t384.length : Int) (wrap64 (x26_2 + 1)) a2_0 a2_1)) = some (r1, r2) := H
         have A18 := Aside0.mk A180
         clear A180
         by_cases c19 : t389 = 1
         ·rw [if_pos c19] at H
          have c19b0 : (t389 == 1) = true := beq_iff_eq.mpr c19
          have c19b1 : (t389 != 1) = false := bne_eq_false_iff_eq.mpr c19
          clear c19
          have H' := Aside0.mk H
          clear H
          have p387 : 0 ≤ (x26_2 : Int) := odt_
          have q387 : x26_2 < (t384.length : Int) := odt_
          obtain ⟨ad387, e387, hx387_0, hx387_1⟩ := at_T36 (Kd.R_reads' HO_24.out).2.2 x26_2 p387 q387
          cases e387
          replace p387 := eq_true p387
          replace q387 := eq_true q387
          go_wp2_with (first | ((with_reducible refine gate_dst (N := 10) rfl ?_); refine box_event ?hg (N := 10) ?hd (cs := #[.int .i64 0, .int .i64 0]) (t := 36) ?hr ?_; (case hd => rfl); (case hg => rfl); (case hr => first | (go_simp; done) | (go_simp; rfl)); intro gb388 hg w20 hbox hb; have n0_ := Aside0.mk (Kd.R_below (Kd.R_elderB (rk_ HO_24.out) gb388 (Nat.le_of_eq hg.symm)) hb); have n1_ := bb_ BK381 hb; have n2_ := Aside0.mk (below_step (hbg_) hb); have n3_ := Aside0.mk (hbox); have n4_ := Aside0.mk ((by rw [hg]; exact (below_size (hbg_)) : w.heap.size ≤ gb388)); have n5_ := Aside0.mk ((by rw [hg]; exact (below_size (hbg_)) : w.heap.size ≤ gb388)); have n6_ := Aside0.mk ((by rw [hg]; exact Nat.ne_of_lt (blk_lt (bk_ BK381.out)) : gb381 ≠ gb388)); have n7_ := Aside0.mk ((by rw [hg]; exact Nat.ne_of_gt (blk_lt (bk_ BK381.out)) : gb388 ≠ gb381)); clear HO_24; clear BK381; clear HB; have HO_24 := n0_; have BK381 := n1_; have HB := n2_; have BK388 := n3_; have GW388 := n4_; have GE388 := n5_; have NB381_388 := n6_; have NB388_381 := n7_; clear n0_ n1_ n2_ n3_ n4_ n5_ n6_ n7_; clear hb hbox hg; have hnb21 := NB388_381.out; have hnc21 := NB381_388.out; have hcz22_0 : w20.cell? ⟨gb388, 0, none⟩ = some (.int .i64 0) := (blk_cell BK388.out 0).trans rfl; have hcz22_1 : w20.cell? ⟨gb388, 1, none⟩ = some (.int .i64 0) := (blk_cell BK388.out 1).trans rfl; have hfz22_0 := blk_frozen BK388.out 0; have hfz22_1 := blk_frozen BK388.out 1; have hcz23_0 : w20.cell? ⟨gb381, 0, none⟩ = some (.int .i64 a2_0) := (blk_cell BK381.out 0).trans rfl; have hcz23_1 : w20.cell? ⟨gb381, 1, none⟩ = some (.int .i64 a2_1) := (blk_cell BK381.out 1).trans rfl; have hfz23_0 := blk_frozen BK381.out 0; have hfz23_1 := blk_frozen BK381.out 1) | ((with_reducible refine gate_callee (f := 96) rfl ?_); refine goesL_ (some 32) rfl rfl Try.func96 (by kernel_rfl) rfl #[.agg #[.int .i64 a2_0, .int .i64 a2_1], .agg #[.int .i64 ((rd_T36 t384 x26_2).f0), .int .i64 ((rd_T36 t384 x26_2).f1)]] rfl ga_ ?_; (with_reducible refine (impl_steps.calls k2 a2_0 a2_1 ((rd_T36 t384 x26_2).f0) ((rd_T36 t384 x26_2).f1) t389 _ A18.out).mono ?_); rintro e w24 ⟨rfl, hb⟩; refine ⟨_, rfl, ?_⟩; have n0_ := Aside0.mk (Kd.R_below (by (with_reducible repeat (first | apply Kd.R_alloc | apply Kd.R_drewN | apply Kd.R_drew)); exact (Kd.R_mono (Kd.R_far (p := ⟨gb388, 1, none⟩) (Kd.R_far (p := ⟨gb388, 0, none⟩) (Kd.R_mono HO_24.out (fun k_ hk => (⟨hk, hk.2⟩ : _ ∧ k_ ≠ gb388))) (fun _ hk => hk.2) (.int .i64 ((rd_T36 t384 x26_2).f0))) (fun _ hk => hk.2) (.int .i64 ((rd_T36 t384 x26_2).f1))) (fun _ h_ => h_.1))) hb); have n1_ := Aside0.mk (blk_below (g := gb381) (o := .cells #[.int .i64 a2_0, .int .i64 a2_1] 36 (0, 0)) (bf2_ BK381 NB381_388) hb); have n2_ := Aside0.mk (blk_below (g := gb388) (o := .cells #[.int .i64 ((rd_T36 t384 x26_2).f0), .int .i64 ((rd_T36 t384 x26_2).f1)] 36 (0, 0)) (by (with_reducible repeat (first | refine blk_drewN ?_ _ | refine blk_drew ?_ | refine blk_alloc ?_ _)); refine blk_put (cs := #[.int .i64 ((rd_T36 t384 x26_2).f0), .int .i64 0]) ?_ 1 _ rfl; (with_reducible repeat (first | refine blk_drewN ?_ _ | refine blk_drew ?_ | refine blk_alloc ?_ _)); refine blk_put (cs := #[.int .i64 0, .int .i64 0]) ?_ 0 _ rfl; (with_reducible repeat (first | refine blk_drewN ?_ _ | refine blk_drew ?_ | refine blk_alloc ?_ _)); exact BK388.out) hb); have n3_ := Aside0.mk (below_step (hbg_) hb); clear HO_24; clear BK381; clear BK388; clear HB; have HO_24 := n0_; have BK381 := n1_; have BK388 := n2_; have HB := n3_; clear n0_ n1_ n2_ n3_; (try clear hb); (try clear hb2); (try clear hk); (try clear hi)))
          go_roundg k2
          case measure => have := HJ3.out; have := HK2.out; omega
          case rel => exact ⟨(wrap64 (x8_2 + 1)), (wrap64 (x26_2 + 1)), (by first | rfl | (simp; done) | (simp [*]; done)), (by first | rfl | (simp; done) | (simp [*]; done)), H', ⟨by have := HJ3.out; have := HK2.out; omega⟩, ⟨by (with_reducible repeat (first | apply Kd.R_alloc | apply Kd.R_drewN | apply Kd.R_drew)); exact Kd.R_mono HO_24.out (fun _ hk => hk.1)⟩, ⟨bk_ BK381.out⟩, ⟨hbg_⟩⟩
         ·rw [if_neg c19] at H
          have c19b0 : (t389 == 1) = false := beq_eq_false_iff_ne.mpr c19
          have c19b1 : (t389 != 1) = true := bne_iff_ne.mpr c19
          have H' := Aside0.mk H
          clear H
          have p387 : 0 ≤ (x26_2 : Int) := odt_
          have q387 : x26_2 < (t384.length : Int) := odt_
          obtain ⟨ad387, e387, hx387_0, hx387_1⟩ := at_T36 (Kd.R_reads' HO_24.out).2.2 x26_2 p387 q387
          cases e387
          replace p387 := eq_true p387
          replace q387 := eq_true q387
          go_wp2_with (first | ((with_reducible refine gate_dst (N := 10) rfl ?_); refine box_event ?hg (N := 10) ?hd (cs := #[.int .i64 0, .int .i64 0]) (t := 36) ?hr ?_; (case hd => rfl); (case hg => rfl); (case hr => first | (go_simp; done) | (go_simp; rfl)); intro gb388 hg w25 hbox hb; have n0_ := Aside0.mk (Kd.R_below (Kd.R_elderB (rk_ HO_24.out) gb388 (Nat.le_of_eq hg.symm)) hb); have n1_ := bb_ BK381 hb; have n2_ := Aside0.mk (below_step (hbg_) hb); have n3_ := Aside0.mk (hbox); have n4_ := Aside0.mk ((by rw [hg]; exact (below_size (hbg_)) : w.heap.size ≤ gb388)); have n5_ := Aside0.mk ((by rw [hg]; exact (below_size (hbg_)) : w.heap.size ≤ gb388)); have n6_ := Aside0.mk ((by rw [hg]; exact Nat.ne_of_lt (blk_lt (bk_ BK381.out)) : gb381 ≠ gb388)); have n7_ := Aside0.mk ((by rw [hg]; exact Nat.ne_of_gt (blk_lt (bk_ BK381.out)) : gb388 ≠ gb381)); clear HO_24; clear BK381; clear HB; have HO_24 := n0_; have BK381 := n1_; have HB := n2_; have BK388 := n3_; have GW388 := n4_; have GE388 := n5_; have NB381_388 := n6_; have NB388_381 := n7_; clear n0_ n1_ n2_ n3_ n4_ n5_ n6_ n7_; clear hb hbox hg; have hnb26 := NB388_381.out; have hnc26 := NB381_388.out; have hcz27_0 : w25.cell? ⟨gb388, 0, none⟩ = some (.int .i64 0) := (blk_cell BK388.out 0).trans rfl; have hcz27_1 : w25.cell? ⟨gb388, 1, none⟩ = some (.int .i64 0) := (blk_cell BK388.out 1).trans rfl; have hfz27_0 := blk_frozen BK388.out 0; have hfz27_1 := blk_frozen BK388.out 1; have hcz28_0 : w25.cell? ⟨gb381, 0, none⟩ = some (.int .i64 a2_0) := (blk_cell BK381.out 0).trans rfl; have hcz28_1 : w25.cell? ⟨gb381, 1, none⟩ = some (.int .i64 a2_1) := (blk_cell BK381.out 1).trans rfl; have hfz28_0 := blk_frozen BK381.out 0; have hfz28_1 := blk_frozen BK381.out 1) | ((with_reducible refine gate_callee (f := 96) rfl ?_); refine goesL_ (some 32) rfl rfl Try.func96 (by kernel_rfl) rfl #[.agg #[.int .i64 a2_0, .int .i64 a2_1], .agg #[.int .i64 ((rd_T36 t384 x26_2).f0), .int .i64 ((rd_T36 t384 x26_2).f1)]] rfl ga_ ?_; (with_reducible refine (impl_steps.calls k2 a2_0 a2_1 ((rd_T36 t384 x26_2).f0) ((rd_T36 t384 x26_2).f1) t389 _ A18.out).mono ?_); rintro e w29 ⟨rfl, hb⟩; refine ⟨_, rfl, ?_⟩; have n0_ := Aside0.mk (Kd.R_below (by (with_reducible repeat (first | apply Kd.R_alloc | apply Kd.R_drewN | apply Kd.R_drew)); exact (Kd.R_mono (Kd.R_far (p := ⟨gb388, 1, none⟩) (Kd.R_far (p := ⟨gb388, 0, none⟩) (Kd.R_mono HO_24.out (fun k_ hk => (⟨hk, hk.2⟩ : _ ∧ k_ ≠ gb388))) (fun _ hk => hk.2) (.int .i64 ((rd_T36 t384 x26_2).f0))) (fun _ hk => hk.2) (.int .i64 ((rd_T36 t384 x26_2).f1))) (fun _ h_ => h_.1))) hb); have n1_ := Aside0.mk (blk_below (g := gb381) (o := .cells #[.int .i64 a2_0, .int .i64 a2_1] 36 (0, 0)) (bf2_ BK381 NB381_388) hb); have n2_ := Aside0.mk (blk_below (g := gb388) (o := .cells #[.int .i64 ((rd_T36 t384 x26_2).f0), .int .i64 ((rd_T36 t384 x26_2).f1)] 36 (0, 0)) (by (with_reducible repeat (first | refine blk_drewN ?_ _ | refine blk_drew ?_ | refine blk_alloc ?_ _)); refine blk_put (cs := #[.int .i64 ((rd_T36 t384 x26_2).f0), .int .i64 0]) ?_ 1 _ rfl; (with_reducible repeat (first | refine blk_drewN ?_ _ | refine blk_drew ?_ | refine blk_alloc ?_ _)); refine blk_put (cs := #[.int .i64 0, .int .i64 0]) ?_ 0 _ rfl; (with_reducible repeat (first | refine blk_drewN ?_ _ | refine blk_drew ?_ | refine blk_alloc ?_ _)); exact BK388.out) hb); have n3_ := Aside0.mk (below_step (hbg_) hb); clear HO_24; clear BK381; clear BK388; clear HB; have HO_24 := n0_; have BK381 := n1_; have BK388 := n2_; have HB := n3_; clear n0_ n1_ n2_ n3_; (try clear hb); (try clear hb2); (try clear hk); (try clear hi)))
          go_roundg k2
          case measure => have := HJ3.out; have := HK2.out; omega
          case rel => exact ⟨(x8_2), (wrap64 (x26_2 + 1)), (by first | rfl | (simp; done) | (simp [*]; done)), (by first | rfl | (simp; done) | (simp [*]; done)), H', ⟨by have := HJ3.out; have := HK2.out; omega⟩, ⟨by (with_reducible repeat (first | apply Kd.R_alloc | apply Kd.R_drewN | apply Kd.R_drew)); exact Kd.R_mono HO_24.out (fun _ hk => hk.1)⟩, ⟨bk_ BK381.out⟩, ⟨hbg_⟩⟩
        ·rw [if_neg c17] at H
         exact absurd H (by simp)
       ·rw [if_neg c16] at H
        exact absurd H (by simp)
      ·rw [if_neg c15] at H
       have c15b0 : decide (x26_2 < (t384.length : Int)) = false := decide_eq_false c15
       clear c15
       simp only [Option.some.injEq, Prod.mk.injEq] at H
       obtain ⟨rfl, rfl⟩ := H
       go_wp2
       go_ret2
       exact ⟨by first | rfl | (simp [errW_none, errW_some] <;> rfl) | (simp [*, errW_none, errW_some] <;> rfl), hbg_⟩

/-! ### spec_pgStep: function 97 -/
def spec_pgStep.f (k : Nat) (a0_0 : Int) (a0_1 : Int) (a1_0 : Int) (a1_1 : Int) : Option (Int) := (spec_pgCommon.f k (wrap64 (a0_0 - a1_0)) (wrap64 (a0_1 - a1_1))).bind fun t392 => (some t392)
theorem spec_pgStep.mono : ∀ a0 a1 a2 a3 k, LeO (spec_pgStep.f k a0 a1 a2 a3) (spec_pgStep.f (k + 1) a0 a1 a2 a3) := by
 intro a0 a1 a2 a3 k
 unfold spec_pgStep.f
 repeat' first
   | (with_reducible exact spec_pgCommon.mono _ _ _)
   | (with_reducible exact LeO.refl _)
   | (with_reducible exact LeO.none _)
   | (with_reducible refine LeO.ite ?_ ?_)
   | (with_reducible refine LeO.bind ?_ (fun _ => ?_))
   | exact spec_pgCommon.mono _ _ _
   | exact LeO.none _
   | refine LeO.ite ?_ ?_
   | refine LeO.bind ?_ (fun _ => ?_)
set_option maxHeartbeats 8000000 in
set_option maxRecDepth 100000 in
theorem spec_pgStep.calls (k : Nat) (a0_0 : Int) (a0_1 : Int) (a1_0 : Int) (a1_1 : Int) (r : Int) (w : World) (h : spec_pgStep.f k a0_0 a0_1 a1_0 a1_1 = some r) :
  Calls Try.prog 97 #[.agg #[.int .i64 a0_0, .int .i64 a0_1], .agg #[.int .i64 a1_0, .int .i64 a1_1]] w fun e w' => e = .returned (.int .i64 r) ∧ Below w.heap.size w w' := by
 have hu36 := Try.underlying36
 have HB := Aside0.mk (Below.refl w.heap.size w)
 have H : ((spec_pgCommon.f k (wrap64 (a0_0 - a1_0)) (wrap64 (a0_1 - a1_1))).bind fun t392 => (some t392)) = some r := h
 clear h
 replace H := Option.bind_eq_some_iff.mp H
 obtain ⟨t392, A30, H⟩ := H
 replace H : (some t392) = some r := H
 have A3 := Aside0.mk A30
 clear A30
 obtain rfl := Option.some.inj H
 go_enter Try.func97, Try.ntmps97
 go_wp2_with (first | ((with_reducible refine gate_dst (N := 2) rfl ?_); refine box_event ?hg (N := 2) ?hd (cs := #[.int .i64 a0_0, .int .i64 a0_1]) (t := 36) ?hr ?_; (case hd => rfl); (case hg => rfl); (case hr => first | (go_simp; done) | (go_simp; rfl)); intro gb390 hg w4 hbox hb; have n0_ := Aside0.mk (below_step (hb_) hb); have n1_ := Aside0.mk (hbox); have n2_ := Aside0.mk ((by rw [hg]; exact (below_size (hb_)) : w.heap.size ≤ gb390)); have n3_ := Aside0.mk ((by rw [hg]; exact (below_size (hb_)) : w.heap.size ≤ gb390)); clear HB; have HB := n0_; have BK390 := n1_; have GW390 := n2_; have GE390 := n3_; clear n0_ n1_ n2_ n3_; clear hb hbox hg) | ((with_reducible refine gate_dst (N := 3) rfl ?_); refine box_event ?hg (N := 3) ?hd (cs := #[.int .i64 a1_0, .int .i64 a1_1]) (t := 36) ?hr ?_; (case hd => rfl); (case hg => rfl); (case hr => first | (go_simp; done) | (go_simp; rfl)); intro gb391 hg w5 hbox hb; have n0_ := bb_ BK390 hb; have n1_ := Aside0.mk (below_step (hbg_) hb); have n2_ := Aside0.mk (hbox); have n3_ := Aside0.mk ((by rw [hg]; exact (below_size (hbg_)) : w.heap.size ≤ gb391)); have n4_ := Aside0.mk ((by rw [hg]; exact (below_size (hbg_)) : w.heap.size ≤ gb391)); have n5_ := Aside0.mk ((by rw [hg]; exact Nat.ne_of_lt (blk_lt (bk_ BK390.out)) : gb390 ≠ gb391)); have n6_ := Aside0.mk ((by rw [hg]; exact Nat.ne_of_gt (blk_lt (bk_ BK390.out)) : gb391 ≠ gb390)); clear BK390; clear HB; have BK390 := n0_; have HB := n1_; have BK391 := n2_; have GW391 := n3_; have GE391 := n4_; have NB390_391 := n5_; have NB391_390 := n6_; clear n0_ n1_ n2_ n3_ n4_ n5_ n6_; clear hb hbox hg; have hnb6 := NB390_391.out; have hnc6 := NB391_390.out; have hcz7_0 : w5.cell? ⟨gb390, 0, none⟩ = some (.int .i64 a0_0) := (blk_cell BK390.out 0).trans rfl; have hcz7_1 : w5.cell? ⟨gb390, 1, none⟩ = some (.int .i64 a0_1) := (blk_cell BK390.out 1).trans rfl; have hfz7_0 := blk_frozen BK390.out 0; have hfz7_1 := blk_frozen BK390.out 1; have hcz8_0 : w5.cell? ⟨gb391, 0, none⟩ = some (.int .i64 a1_0) := (blk_cell BK391.out 0).trans rfl; have hcz8_1 : w5.cell? ⟨gb391, 1, none⟩ = some (.int .i64 a1_1) := (blk_cell BK391.out 1).trans rfl; have hfz8_0 := blk_frozen BK391.out 0; have hfz8_1 := blk_frozen BK391.out 1) | ((with_reducible refine gate_callee (f := 80) rfl ?_); refine goesL_ (some 15) rfl rfl Try.func80 (by kernel_rfl) rfl #[.int .i64 (wrap64 (a0_0 - a1_0)), .int .i64 (wrap64 (a0_1 - a1_1))] rfl ga_ ?_; (with_reducible refine (spec_pgCommon.calls k (wrap64 (a0_0 - a1_0)) (wrap64 (a0_1 - a1_1)) t392 _ A3.out).mono ?_); rintro e w' ⟨rfl, ⟨nd, rfl⟩⟩; refine ⟨_, rfl, ?_⟩))
 go_ret
 exact ⟨by first | rfl | (simp [errW_none, errW_some] <;> rfl) | (simp [*, errW_none, errW_some] <;> rfl), hbg_⟩

end Go.Proofs.Ytmenfomcikfnmaa.MB
