-- Written by a program of this session (wip/print/myprint.py) over the kit's printer; Lean checks it.
import Derived.Test.YtmenfomcikfnmaaMBx0
import Derived.Test.YtmenfomcikfnmaaMBx2
import Derived.Test.YtmenfomcikfnmaaMBx3
import Derived.Test.YtmenfomcikfnmaaMBx4
import Derived.Test.YtmenfomcikfnmaaMBx9
namespace Go.Proofs.Ytmenfomcikfnmaa.MB
open Go.RowKit Go.Proofs.YtmenfomcikfnmaaW.PrintWords Go.Proofs.YtmenfomcikfnmaaW.PrintLast Go.Proofs.YtmenfomcikfnmaaW.PrintMore Go.Proofs.YtmenfomcikfnmaaV
attribute [local go_sem] max2_int min2_int max_two min_two max_three min_three max_four min_four   -- for this text's walks alone
set_option linter.unusedVariables false
set_option linter.unusedSimpArgs false

/-! ### impl_straight_c1: function 81 -/
mutual
def impl_straight_c1.l0 : Nat → Int → Int → List (S36) → Int → Int → Int → Option (Int)
 | 0, _, _, _, _, _, _ => none
 | k + 1, x0, x1, x13, x14, x15, x3000 => if x15 < x14 then (if 0 ≤ x15 then (if x15 < (x13.length : Int) then ((impl_board.f k x0 x1).bind fun t220 => (impl_straight_c1.l1 k x0 x1 x13 x14 x15 t220 (t220.length : Int) 0 x3000 ((rd_T36 x13 x15).f0) ((rd_T36 x13 x15).f1))) else (none)) else (none)) else (some x3000)
def impl_straight_c1.l1 : Nat → Int → Int → List (S36) → Int → Int → List (S36) → Int → Int → Int → Int → Int → Option (Int)
 | 0, _, _, _, _, _, _, _, _, _, _, _ => none
 | k + 1, x0, x1, x13, x14, x15, x21, x22, x23, x3000, x220000, x220001 => if x23 < x22 then (if 0 ≤ x23 then (if x23 < (x21.length : Int) then ((impl_Peg_less.f ((rd_T36 x21 x23).f0) ((rd_T36 x21 x23).f1) x220000 x220001).bind fun bt225 => ((impl_isOnBoard.f x0 x1 bt225.1 bt225.2).bind fun t227 => (if t227 = true then (impl_straight_c1.l1 k x0 x1 x13 x14 x15 x21 x22 (wrap64 (x23 + 1)) x3000 x220000 x220001) else (impl_straight_c1.l2 k x0 x1 0 x13 x14 x15 x21 x22 x23 x3000 x220000 x220001 ((rd_T36 x21 x23).f0) ((rd_T36 x21 x23).f1))))) else (none)) else (none)) else (impl_straight_c1.l0 k x0 x1 x13 x14 (wrap64 (x15 + 1)) x3000)
def impl_straight_c1.l2 : Nat → Int → Int → Int → List (S36) → Int → Int → List (S36) → Int → Int → Int → Int → Int → Int → Int → Option (Int)
 | 0, _, _, _, _, _, _, _, _, _, _, _, _, _, _ => none
 | k + 1, x0, x1, x10, x13, x14, x15, x21, x22, x23, x3000, x220000, x220001, x225000, x225001 => (impl_isOnBoard.f x0 x1 x225000 x225001).bind fun t228 => (if t228 = true then ((impl_Peg_plus.f x225000 x225001 x220000 x220001).bind fun bt229 => (impl_straight_c1.l2 k x0 x1 (wrap64 (x10 + 1)) x13 x14 x15 x21 x22 x23 x3000 x220000 x220001 bt229.1 bt229.2)) else (if x10 > 1 then ((impl_CountStraight_1.f x10 x3000).bind fun t231 => (impl_straight_c1.l1 k x0 x1 x13 x14 x15 x21 x22 (wrap64 (x23 + 1)) t231 x220000 x220001)) else (impl_straight_c1.l1 k x0 x1 x13 x14 x15 x21 x22 (wrap64 (x23 + 1)) x3000 x220000 x220001)))
end
def impl_straight_c1.f (k : Nat) (a0 : Int) (a1 : Int) (s2_0 : Int) : Option (Int) := (impl_slopes.f k a0 a1).bind fun t215 => (impl_straight_c1.l0 k a0 a1 t215 (t215.length : Int) 0 s2_0)
theorem impl_straight_c1.mono_l : ∀ k, (∀ y0 y1 y2 y3 y4 y5, LeO (impl_straight_c1.l0 k y0 y1 y2 y3 y4 y5) (impl_straight_c1.l0 (k + 1) y0 y1 y2 y3 y4 y5)) ∧ (∀ y0 y1 y2 y3 y4 y5 y6 y7 y8 y9 y10, LeO (impl_straight_c1.l1 k y0 y1 y2 y3 y4 y5 y6 y7 y8 y9 y10) (impl_straight_c1.l1 (k + 1) y0 y1 y2 y3 y4 y5 y6 y7 y8 y9 y10)) ∧ (∀ y0 y1 y2 y3 y4 y5 y6 y7 y8 y9 y10 y11 y12 y13, LeO (impl_straight_c1.l2 k y0 y1 y2 y3 y4 y5 y6 y7 y8 y9 y10 y11 y12 y13) (impl_straight_c1.l2 (k + 1) y0 y1 y2 y3 y4 y5 y6 y7 y8 y9 y10 y11 y12 y13))
 | 0 => ⟨fun _ _ _ _ _ _ r h => by simp [impl_straight_c1.l0] at h, fun _ _ _ _ _ _ _ _ _ _ _ r h => by simp [impl_straight_c1.l1] at h, fun _ _ _ _ _ _ _ _ _ _ _ _ _ _ r h => by simp [impl_straight_c1.l2] at h⟩
 | k + 1 => by
  obtain ⟨ih0, ih1, ih2⟩ := impl_straight_c1.mono_l k
  refine ⟨?_, ?_, ?_⟩
  ·intro y0 y1 y2 y3 y4 y5
   unfold impl_straight_c1.l0
   repeat' first
   | (with_reducible exact ih0 _ _ _ _ _ _)
   | (with_reducible exact ih1 _ _ _ _ _ _ _ _ _ _ _)
   | (with_reducible exact ih2 _ _ _ _ _ _ _ _ _ _ _ _ _ _)
   | (with_reducible exact impl_board.mono _ _ _)
   | (with_reducible exact impl_slopes.mono _ _ _)
   | (with_reducible exact LeO.refl _)
   | (with_reducible exact LeO.none _)
   | (with_reducible refine LeO.ite ?_ ?_)
   | (with_reducible refine LeO.bind ?_ (fun _ => ?_))
   | exact ih0 _ _ _ _ _ _
   | exact ih1 _ _ _ _ _ _ _ _ _ _ _
   | exact ih2 _ _ _ _ _ _ _ _ _ _ _ _ _ _
   | exact impl_board.mono _ _ _
   | exact impl_slopes.mono _ _ _
   | exact LeO.none _
   | refine LeO.ite ?_ ?_
   | refine LeO.bind ?_ (fun _ => ?_)
  ·intro y0 y1 y2 y3 y4 y5 y6 y7 y8 y9 y10
   unfold impl_straight_c1.l1
   repeat' first
   | (with_reducible exact ih0 _ _ _ _ _ _)
   | (with_reducible exact ih1 _ _ _ _ _ _ _ _ _ _ _)
   | (with_reducible exact ih2 _ _ _ _ _ _ _ _ _ _ _ _ _ _)
   | (with_reducible exact impl_board.mono _ _ _)
   | (with_reducible exact impl_slopes.mono _ _ _)
   | (with_reducible exact LeO.refl _)
   | (with_reducible exact LeO.none _)
   | (with_reducible refine LeO.ite ?_ ?_)
   | (with_reducible refine LeO.bind ?_ (fun _ => ?_))
   | exact ih0 _ _ _ _ _ _
   | exact ih1 _ _ _ _ _ _ _ _ _ _ _
   | exact ih2 _ _ _ _ _ _ _ _ _ _ _ _ _ _
   | exact impl_board.mono _ _ _
   | exact impl_slopes.mono _ _ _
   | exact LeO.none _
   | refine LeO.ite ?_ ?_
   | refine LeO.bind ?_ (fun _ => ?_)
  ·intro y0 y1 y2 y3 y4 y5 y6 y7 y8 y9 y10 y11 y12 y13
   unfold impl_straight_c1.l2
   repeat' first
   | (with_reducible exact ih0 _ _ _ _ _ _)
   | (with_reducible exact ih1 _ _ _ _ _ _ _ _ _ _ _)
   | (with_reducible exact ih2 _ _ _ _ _ _ _ _ _ _ _ _ _ _)
   | (with_reducible exact impl_board.mono _ _ _)
   | (with_reducible exact impl_slopes.mono _ _ _)
   | (with_reducible exact LeO.refl _)
   | (with_reducible exact LeO.none _)
   | (with_reducible refine LeO.ite ?_ ?_)
   | (with_reducible refine LeO.bind ?_ (fun _ => ?_))
   | exact ih0 _ _ _ _ _ _
   | exact ih1 _ _ _ _ _ _ _ _ _ _ _
   | exact ih2 _ _ _ _ _ _ _ _ _ _ _ _ _ _
   | exact impl_board.mono _ _ _
   | exact impl_slopes.mono _ _ _
   | exact LeO.none _
   | refine LeO.ite ?_ ?_
   | refine LeO.bind ?_ (fun _ => ?_)
theorem impl_straight_c1.mono : ∀ a0 a1 a2 k, LeO (impl_straight_c1.f k a0 a1 a2) (impl_straight_c1.f (k + 1) a0 a1 a2) := by
 intro a0 a1 a2 k
 obtain ⟨ih0, ih1, ih2⟩ := impl_straight_c1.mono_l k
 unfold impl_straight_c1.f
 repeat' first
   | (with_reducible exact ih0 _ _ _ _ _ _)
   | (with_reducible exact ih1 _ _ _ _ _ _ _ _ _ _ _)
   | (with_reducible exact ih2 _ _ _ _ _ _ _ _ _ _ _ _ _ _)
   | (with_reducible exact impl_board.mono _ _ _)
   | (with_reducible exact impl_slopes.mono _ _ _)
   | (with_reducible exact LeO.refl _)
   | (with_reducible exact LeO.none _)
   | (with_reducible refine LeO.ite ?_ ?_)
   | (with_reducible refine LeO.bind ?_ (fun _ => ?_))
   | exact ih0 _ _ _ _ _ _
   | exact ih1 _ _ _ _ _ _ _ _ _ _ _
   | exact ih2 _ _ _ _ _ _ _ _ _ _ _ _ _ _
   | exact impl_board.mono _ _ _
   | exact impl_slopes.mono _ _ _
   | exact LeO.none _
   | refine LeO.ite ?_ ?_
   | refine LeO.bind ?_ (fun _ => ?_)
set_option maxHeartbeats 8000000 in
set_option maxRecDepth 100000 in
theorem impl_straight_c1.calls (k : Nat) (a0 : Int) (a1 : Int) (g : Nat) (s2_0 : Int) (r : Int) (w0 w : World) (hI : IsS3 w0 w g s2_0) (hB : Below w0.heap.size w0 w) (h : impl_straight_c1.f k a0 a1 s2_0 = some r) :
  Calls Try.prog 81 #[.int .i64 a0, .int .i64 a1, .func (.func 82) #[] #[.pointer (some ⟨g, 0, none⟩)]] w fun e w' => e = .returned (.tuple #[]) ∧ IsS3 w0 w' g r ∧ Below w0.heap.size w0 w' ∧ KeepBut w w' g none := by
 have hu36 := Try.underlying36
 have HI2 := Aside0.mk hI
 have HK := Aside0.mk (KeepBut.refl w g none)
 have HL := Aside0.mk hB.size
 clear hI
 have HW0 := Aside0.mk hB.size
 have HB := Aside0.mk hB
 clear hB
 have H : ((impl_slopes.f k a0 a1).bind fun t215 => (impl_straight_c1.l0 k a0 a1 t215 (t215.length : Int) 0 s2_0)) = some r := h
 clear h
 replace H := Option.bind_eq_some_iff.mp H
 obtain ⟨t215, A40, H⟩ := H
 replace H : (impl_straight_c1.l0 k a0 a1 t215 (t215.length : Int) 0 s2_0) = some r := H
 have A4 := Aside0.mk A40
 clear A40
 have H' := Aside0.mk H
 clear H
 go_enter Try.func81, Try.ntmps81
 go_wp2_with (first | ((with_reducible refine gate_callee (f := 79) rfl ?_); refine goesL_ (some 13) rfl rfl Try.func79 (by kernel_rfl) rfl #[.int .i64 a0, .int .i64 a1] rfl ga_ ?_; (with_reducible refine (impl_slopes.calls k a0 a1 t215 _ A4.out).mono ?_); rintro e w5 ⟨v216, rfl, ho0, hb⟩; refine ⟨_, rfl, ?_⟩; have n0_ := Aside0.mk (Kd.R_lower ho0 (keep_size (w := w) (g := g) (row := none) (by repeat (first | (with_reducible first | exact HK.out | apply KeepBut.set_ | apply keep_drewN | apply keep_drew | apply keep_alloc) | exact HK.out)))); have n1_ := Aside0.mk (IsS3.below (by repeat (first | (with_reducible first | exact HI2.out | apply IsS3.alloc | apply IsS3.drewN | apply IsS3.drew | apply IsS3.set_0) | exact HI2.out)) hb); have n2_ := Aside0.mk (KeepBut.trans (by repeat (first | (with_reducible first | exact HK.out | apply KeepBut.set_ | apply keep_drewN | apply keep_drew | apply keep_alloc) | exact HK.out)) (KeepBut.of_below hb g none) (.inl rfl)); have n3_ := Aside0.mk (below_step (by repeat (first | (with_reducible first | exact HB.out | apply below_alloc | apply pw_below_drewN | apply below_drew1 | refine below_set ?_ (IsS3.ge HI2.out)) | exact HB.out)) hb); clear HI2; clear HK; clear HB; have HO217 := n0_; have HI2 := n1_; have HK := n2_; have HB := n3_; clear n0_ n1_ n2_ n3_; (try clear hb); (try clear hb2); (try clear hk); (try clear hi); (try clear ho0); obtain ⟨Ao6, co6, eo6⟩ := Kd.R_slice HO217.out; subst eo6))
 go_loopg [15] k (fun kq v15 w' => ∃ (x15_1 : Int) (x3000_1 : Int), v15 = .int .i64 x15_1 ∧ Aside0 (impl_straight_c1.l0 kq a0 a1 t215 (t215.length : Int) x15_1 x3000_1 = some r) ∧ Aside0 (kq ≤ k) ∧ Aside0 (Kd.R k36 36 w' w.heap.size (fun _ => True) (.slice Ao6 t215.length co6) t215) ∧ Aside0 (IsS3 w0 w' g x3000_1) ∧ Aside0 (KeepBut w w' g none) ∧ Aside0 (Below w0.heap.size w0 w'))
 case atStart => exact ⟨(0), (s2_0), (by first | rfl | (simp; done) | (simp [*]; done)), H', ⟨Nat.le_refl _⟩, ⟨rk_ HO217.out⟩, ⟨by repeat (first | (with_reducible first | exact HI2.out | apply IsS3.alloc | apply IsS3.drewN | apply IsS3.drew | apply IsS3.set_0) | exact HI2.out)⟩, ⟨by repeat (first | (with_reducible first | exact HK.out | apply KeepBut.set_ | apply keep_drewN | apply keep_drew | apply keep_alloc) | exact HK.out)⟩, ⟨by repeat (first | (with_reducible first | exact HB.out | apply below_alloc | apply pw_below_drewN | apply below_drew1 | refine below_set ?_ (IsS3.ge HI2.out)) | exact HB.out)⟩⟩
 case round =>
  clear H'
  try clear c1; try clear p2
  obtain ⟨x15_1, x3000_1, rfl, HA, HK1, HO_13, HI2, HK, HB⟩ := hrel
  cases gk with
  | zero => exact absurd HA.out (by simp [impl_straight_c1.l0])
  | succ k1 =>
   have H := HA.out
   clear HA
   simp only [impl_straight_c1.l0] at H
   by_cases c7 : x15_1 < (t215.length : Int)
   ·rw [if_pos c7] at H
    have c7b0 : decide (x15_1 < (t215.length : Int)) = true := decide_eq_true c7
    clear c7
    by_cases c8 : 0 ≤ x15_1
    ·rw [if_pos c8] at H
     have c8b0 : decide (0 ≤ x15_1) = true := decide_eq_true c8
     clear c8
     by_cases c9 : x15_1 < (t215.length : Int)
     ·rw [if_pos c9] at H
      have c9b0 : decide (x15_1 < (t215.length : Int)) = true := decide_eq_true c9
      clear c9
      replace H := Option.bind_eq_some_iff.mp H
      obtain ⟨t220, A100, H⟩ := H
      replace H : (impl_straight_c1.l1 k1 a0 a1 t215 (t215.length : Int) x15_1 t220 (t220.length : Int) 0 x3000_1 ((rd_T36 t215 x15_1).f0) ((rd_T36 t215 x15_1).f1)) = some r := H
      have A10 := Aside0.mk A100
      clear A100
      have H' := Aside0.mk H
      clear H
      have p218 : 0 ≤ (x15_1 : Int) := odt_
      have q218 : x15_1 < (t215.length : Int) := odt_
      obtain ⟨ad218, e218, hx218_0, hx218_1⟩ := at_T36 (Kd.R_reads' HO_13.out).2.2 x15_1 p218 q218
      cases e218
      replace p218 := eq_true p218
      replace q218 := eq_true q218
      go_wp2_with (first | ((with_reducible refine gate_dst (N := 7) rfl ?_); refine box_event ?hg (N := 7) ?hd (cs := #[.int .i64 0, .int .i64 0]) (t := 36) ?hr ?_; (case hd => rfl); (case hg => rfl); (case hr => first | (go_simp; done) | (go_simp; rfl)); intro gb219 hg w11 hbox hb; have n0_ := Aside0.mk (Kd.R_below (Kd.R_elderB (rk_ HO_13.out) gb219 (Nat.le_of_eq hg.symm)) hb); have n1_ := Aside0.mk (IsS3.below (by repeat (first | (with_reducible first | exact HI2.out | apply IsS3.alloc | apply IsS3.drewN | apply IsS3.drew | apply IsS3.set_0) | exact HI2.out)) hb); have n2_ := Aside0.mk (KeepBut.trans (by repeat (first | (with_reducible first | exact HK.out | apply KeepBut.set_ | apply keep_drewN | apply keep_drew | apply keep_alloc) | exact HK.out)) (KeepBut.of_below hb g none) (.inl rfl)); have n3_ := Aside0.mk (below_step (by repeat (first | (with_reducible first | exact HB.out | apply below_alloc | apply pw_below_drewN | apply below_drew1 | refine below_set ?_ (IsS3.ge HI2.out)) | exact HB.out)) hb); have n4_ := Aside0.mk (hbox); have n5_ := Aside0.mk ((by rw [hg]; exact (keep_size (w := w) (g := g) (row := none) (by repeat (first | (with_reducible first | exact HK.out | apply KeepBut.set_ | apply keep_drewN | apply keep_drew | apply keep_alloc) | exact HK.out))) : w.heap.size ≤ gb219)); have n6_ := Aside0.mk ((Nat.le_trans HW0.out (by rw [hg]; exact (keep_size (w := w) (g := g) (row := none) (by repeat (first | (with_reducible first | exact HK.out | apply KeepBut.set_ | apply keep_drewN | apply keep_drew | apply keep_alloc) | exact HK.out))) : w.heap.size ≤ gb219) : w0.heap.size ≤ gb219)); have n7_ := Aside0.mk ((by rw [hg]; exact Nat.ne_of_lt (IsS3.lt (show IsS3 w0 _ g x3000_1 from by repeat (first | (with_reducible first | exact HI2.out | apply IsS3.alloc | apply IsS3.drewN | apply IsS3.drew | apply IsS3.set_0) | exact HI2.out))) : g ≠ gb219)); have n8_ := Aside0.mk ((by rw [hg]; exact Nat.ne_of_gt (IsS3.lt (show IsS3 w0 _ g x3000_1 from by repeat (first | (with_reducible first | exact HI2.out | apply IsS3.alloc | apply IsS3.drewN | apply IsS3.drew | apply IsS3.set_0) | exact HI2.out))) : gb219 ≠ g)); clear HO_13; clear HI2; clear HK; clear HB; have HO_13 := n0_; have HI2 := n1_; have HK := n2_; have HB := n3_; have BK219 := n4_; have GW219 := n5_; have GE219 := n6_; have NB2_219 := n7_; have NB219_2 := n8_; clear n0_ n1_ n2_ n3_ n4_ n5_ n6_ n7_ n8_; clear hb hbox hg; have hnb12 := NB219_2.out; have hnc12 := NB2_219.out; have hcz13_0 : w11.cell? ⟨gb219, 0, none⟩ = some (.int .i64 0) := (blk_cell BK219.out 0).trans rfl; have hcz13_1 : w11.cell? ⟨gb219, 1, none⟩ = some (.int .i64 0) := (blk_cell BK219.out 1).trans rfl; have hfz13_0 := blk_frozen BK219.out 0; have hfz13_1 := blk_frozen BK219.out 1) | ((with_reducible refine gate_callee (f := 52) rfl ?_); refine goesL_ (some 21) rfl rfl Try.func52 (by kernel_rfl) rfl #[.int .i64 a0, .int .i64 a1] rfl ga_ ?_; (with_reducible refine (impl_board.calls k1 a0 a1 t220 _ A10.out).mono ?_); rintro e w14 ⟨v221, rfl, ho0, hb⟩; refine ⟨_, rfl, ?_⟩; have n0_ := Aside0.mk (Kd.R_elder' (by (with_reducible repeat (first | apply Kd.R_alloc | apply Kd.R_drewN | apply Kd.R_drew)); exact (Kd.R_mono (Kd.R_far (p := ⟨gb219, 1, none⟩) (Kd.R_far (p := ⟨gb219, 0, none⟩) (Kd.R_mono HO_13.out (fun k_ hk => (⟨hk, hk.2⟩ : _ ∧ k_ ≠ gb219))) (fun _ hk => hk.2) (.int .i64 ((rd_T36 t215 x15_1).f0))) (fun _ hk => hk.2) (.int .i64 ((rd_T36 t215 x15_1).f1))) (fun _ h_ => h_.1))) (Kd.R_base ho0) hb); have n1_ := Aside0.mk (Kd.R_lower (Kd.R_newB (Kd.R_new' ho0 (Kd.R_lt (by (with_reducible repeat (first | apply Kd.R_alloc | apply Kd.R_drewN | apply Kd.R_drew)); exact (Kd.R_mono (Kd.R_far (p := ⟨gb219, 1, none⟩) (Kd.R_far (p := ⟨gb219, 0, none⟩) (Kd.R_mono HO_13.out (fun k_ hk => (⟨hk, hk.2⟩ : _ ∧ k_ ≠ gb219))) (fun _ hk => hk.2) (.int .i64 ((rd_T36 t215 x15_1).f0))) (fun _ hk => hk.2) (.int .i64 ((rd_T36 t215 x15_1).f1))) (fun _ h_ => h_.1))))) (g := gb219) (o := .cells #[.int .i64 ((rd_T36 t215 x15_1).f0), .int .i64 ((rd_T36 t215 x15_1).f1)] 36 (0, 0)) (by (with_reducible repeat (first | refine blk_drewN ?_ _ | refine blk_drew ?_ | refine blk_alloc ?_ _)); refine blk_put (cs := #[.int .i64 ((rd_T36 t215 x15_1).f0), .int .i64 0]) ?_ 1 _ rfl; (with_reducible repeat (first | refine blk_drewN ?_ _ | refine blk_drew ?_ | refine blk_alloc ?_ _)); refine blk_put (cs := #[.int .i64 0, .int .i64 0]) ?_ 0 _ rfl; (with_reducible repeat (first | refine blk_drewN ?_ _ | refine blk_drew ?_ | refine blk_alloc ?_ _)); exact BK219.out)) (keep_size (w := w) (g := g) (row := none) (by repeat (first | (with_reducible first | exact HK.out | apply KeepBut.set_ | apply keep_drewN | apply keep_drew | apply keep_alloc | refine keep_far ?_ GW219.out _) | exact HK.out)))); have n2_ := Aside0.mk (IsS3.below (show IsS3 w0 ((w11.setCell ⟨gb219, 0, none⟩ (.int .i64 ((rd_T36 t215 x15_1).f0))).setCell ⟨gb219, 1, none⟩ (.int .i64 ((rd_T36 t215 x15_1).f1))) g x3000_1 from by repeat (first | (with_reducible first | exact HI2.out | apply IsS3.alloc | apply IsS3.drewN | apply IsS3.drew | apply IsS3.set_0 | refine IsS3.far ?_ NB2_219.out _) | exact HI2.out)) hb); have n3_ := Aside0.mk (blk_below (g := gb219) (o := .cells #[.int .i64 ((rd_T36 t215 x15_1).f0), .int .i64 ((rd_T36 t215 x15_1).f1)] 36 (0, 0)) (by (with_reducible repeat (first | refine blk_drewN ?_ _ | refine blk_drew ?_ | refine blk_alloc ?_ _)); refine blk_put (cs := #[.int .i64 ((rd_T36 t215 x15_1).f0), .int .i64 0]) ?_ 1 _ rfl; (with_reducible repeat (first | refine blk_drewN ?_ _ | refine blk_drew ?_ | refine blk_alloc ?_ _)); refine blk_put (cs := #[.int .i64 0, .int .i64 0]) ?_ 0 _ rfl; (with_reducible repeat (first | refine blk_drewN ?_ _ | refine blk_drew ?_ | refine blk_alloc ?_ _)); exact BK219.out) hb); have n4_ := Aside0.mk (KeepBut.trans (by repeat (first | (with_reducible first | exact HK.out | apply KeepBut.set_ | apply keep_drewN | apply keep_drew | apply keep_alloc | refine keep_far ?_ GW219.out _) | exact HK.out)) (KeepBut.of_below hb g none) (.inl rfl)); have n5_ := Aside0.mk (below_step (by repeat (first | (with_reducible first | exact HB.out | apply below_alloc | apply pw_below_drewN | apply below_drew1 | refine below_set ?_ (IsS3.ge HI2.out) | refine below_set ?_ GE219.out) | exact HB.out)) hb); clear HO_13; clear HI2; clear BK219; clear HK; clear HB; have HO_13 := n0_; have HO222 := n1_; have HI2 := n2_; have BK219 := n3_; have HK := n4_; have HB := n5_; clear n0_ n1_ n2_ n3_ n4_ n5_; (try clear hb); (try clear hb2); (try clear hk); (try clear hi); (try clear ho0); obtain ⟨Ao15, co15, eo15⟩ := Kd.R_slice HO222.out; subst eo15))
      go_loopg [23] k1 (fun kq v23 w' => ∃ (x23_2 : Int) (x3000_2 : Int), v23 = .int .i64 x23_2 ∧ Aside0 (impl_straight_c1.l1 kq a0 a1 t215 (t215.length : Int) x15_1 t220 (t220.length : Int) x23_2 x3000_2 ((rd_T36 t215 x15_1).f0) ((rd_T36 t215 x15_1).f1) = some r) ∧ Aside0 (kq ≤ k1) ∧ Aside0 (Kd.R k36 36 w' w.heap.size (fun k_ => some k_ ≠ ((.slice Ao15 t220.length co15) : Value).ownBlock ∧ k_ ≠ gb219) (.slice (some ad218) t215.length co6) t215) ∧ Aside0 (Kd.R k36 36 w' w.heap.size (fun k_ => some k_ ≠ ((.slice (some ad218) t215.length co6) : Value).ownBlock ∧ k_ ≠ gb219) (.slice Ao15 t220.length co15) t220) ∧ Aside0 (w'.heap[gb219]? = some (.cells #[.int .i64 ((rd_T36 t215 x15_1).f0), .int .i64 ((rd_T36 t215 x15_1).f1)] 36 (0, 0))) ∧ Aside0 (IsS3 w0 w' g x3000_2) ∧ Aside0 (KeepBut w w' g none) ∧ Aside0 (Below w0.heap.size w0 w'))
      case atStart => exact ⟨(0), (x3000_1), (by first | rfl | (simp; done) | (simp [*]; done)), H', ⟨Nat.le_refl _⟩, ⟨by (with_reducible repeat (first | apply Kd.R_alloc | apply Kd.R_drewN | apply Kd.R_drew)); exact Kd.R_mono HO_13.out (fun _ hk => ⟨hk.2, hk.1.2⟩)⟩, ⟨by (with_reducible repeat (first | apply Kd.R_alloc | apply Kd.R_drewN | apply Kd.R_drew)); exact Kd.R_mono HO222.out (fun _ hk => ⟨hk.1.2, hk.2⟩)⟩, ⟨bk_ BK219.out⟩, ⟨by repeat (first | (with_reducible first | exact HI2.out | apply IsS3.alloc | apply IsS3.drewN | apply IsS3.drew | apply IsS3.set_0 | refine IsS3.far ?_ NB2_219.out _) | exact HI2.out)⟩, ⟨by repeat (first | (with_reducible first | exact HK.out | apply KeepBut.set_ | apply keep_drewN | apply keep_drew | apply keep_alloc | refine keep_far ?_ GW219.out _) | exact HK.out)⟩, ⟨by repeat (first | (with_reducible first | exact HB.out | apply below_alloc | apply pw_below_drewN | apply below_drew1 | refine below_set ?_ (IsS3.ge HI2.out) | refine below_set ?_ GE219.out) | exact HB.out)⟩⟩
      case round =>
       clear H'
       try clear c1; try clear p2; try clear q2; try clear hx2; try clear c5; try clear c7; try clear c7b0; try clear c8; try clear c8b0; try clear c9; try clear c9b0; try clear c12; try clear hcz13_0; try clear hcz13_1; try clear hfz13_0; try clear hfz13_1; try clear hx218_0; try clear hx218_1; try clear p2; try clear p218; try clear q218
       obtain ⟨x23_2, x3000_2, rfl, HA, HK2, HO_13, HO_21, BK219, HI2, HK, HB⟩ := hrel
       cases gk with
       | zero => exact absurd HA.out (by simp [impl_straight_c1.l1])
       | succ k2 =>
        have H := HA.out
        clear HA
        simp only [impl_straight_c1.l1] at H
        by_cases c16 : x23_2 < (t220.length : Int)
        ·rw [if_pos c16] at H
         have c16b0 : decide (x23_2 < (t220.length : Int)) = true := decide_eq_true c16
         clear c16
         by_cases c17 : 0 ≤ x23_2
         ·rw [if_pos c17] at H
          have c17b0 : decide (0 ≤ x23_2) = true := decide_eq_true c17
          clear c17
          by_cases c18 : x23_2 < (t220.length : Int)
          ·rw [if_pos c18] at H
           have c18b0 : decide (x23_2 < (t220.length : Int)) = true := decide_eq_true c18
           clear c18
           replace H := Option.bind_eq_some_iff.mp H
           obtain ⟨⟨t225, t226⟩, A190, H⟩ := H
           replace H : ((impl_isOnBoard.f a0 a1 t225 t226).bind fun t227 => (if t227 = true then (impl_straight_c1.l1 k2 a0 a1 t215 (t215.length : Int) x15_1 t220 (t220.length : Int) (wrap64 (x23_2 + 1)) x3000_2 ((rd_T36 t215 x15_1).f0) ((rd_T36 t215 x15_1).f1)) else (impl_straight_c1.l2 k2 a0 a1 0 t215 (t215.length : Int) x15_1 t220 (t220.length : Int) x23_2 x3000_2 ((rd_T36 t215 x15_1).f0) ((rd_T36 t215 x15_1).f1) ((rd_T36 t220 x23_2).f0) ((rd_T36 t220 x23_2).f1)))) = some r := H
           have A19 := Aside0.mk A190
           clear A190
           replace H := Option.bind_eq_some_iff.mp H
           obtain ⟨t227, A200, H⟩ := H
           replace H : (if t227 = true then (impl_straight_c1.l1 k2 a0 a1 t215 (t215.length : Int) x15_1 t220 (t220.length : Int) (wrap64 (x23_2 + 1)) x3000_2 ((rd_T36 t215 x15_1).f0) ((rd_T36 t215 x15_1).f1)) else (impl_straight_c1.l2 k2 a0 a1 0 t215 (t215.length : Int) x15_1 t220 (t220.length : Int) x23_2 x3000_2 ((rd_T36 t215 x15_1).f0) ((rd_T36 t215 x15_1).f1) ((rd_T36 t220 x23_2).f0) ((rd_T36 t220 x23_2).f1))) = some r := H
           have A20 := Aside0.mk A200
           clear A200
           by_cases c21 : t227 = true
           ·subst c21
            have H1 : (impl_straight_c1.l1 k2 a0 a1 t215 (t215.length : Int) x15_1 t220 (t220.length : Int) (wrap64 (x23_2 + 1)) x3000_2 ((rd_T36 t215 x15_1).f0) ((rd_T36 t215 x15_1).f1)) = some r := by rw [if_pos rfl] at H; exact H
            clear H
            have H := H1
            clear H1
            have H' := Aside0.mk H
            clear H
            have p223 : 0 ≤ (x23_2 : Int) := odt_
            have q223 : x23_2 < (t220.length : Int) := odt_
            obtain ⟨ad223, e223, hx223_0, hx223_1⟩ := at_T36 (Kd.R_reads' HO_21.out).2.2 x23_2 p223 q223
            cases e223
            replace p223 := eq_true p223
            replace q223 := eq_true q223
            go_wp2_with (first | ((with_reducible refine gate_dst (N := 9) rfl ?_); refine box_event ?hg (N := 9) ?hd (cs := #[.int .i64 0, .int .i64 0]) (t := 36) ?hr ?_; (case hd => rfl); (case hg => rfl); (case hr => first | (go_simp; done) | (go_simp; rfl)); intro gb224 hg w22 hbox hb; have n0_ := Aside0.mk (Kd.R_below (Kd.R_elderB (rk_ HO_13.out) gb224 (Nat.le_of_eq hg.symm)) hb); have n1_ := Aside0.mk (Kd.R_below (Kd.R_elderB (rk_ HO_21.out) gb224 (Nat.le_of_eq hg.symm)) hb); have n2_ := bb_ BK219 hb; have n3_ := Aside0.mk (IsS3.below (by repeat (first | (with_reducible first | exact HI2.out | apply IsS3.alloc | apply IsS3.drewN | apply IsS3.drew | apply IsS3.set_0 | refine IsS3.far ?_ NB2_219.out _) | exact HI2.out)) hb); have n4_ := Aside0.mk (KeepBut.trans (by repeat (first | (with_reducible first | exact HK.out | apply KeepBut.set_ | apply keep_drewN | apply keep_drew | apply keep_alloc | refine keep_far ?_ GW219.out _) | exact HK.out)) (KeepBut.of_below hb g none) (.inl rfl)); have n5_ := Aside0.mk (below_step (by repeat (first | (with_reducible first | exact HB.out | apply below_alloc | apply pw_below_drewN | apply below_drew1 | refine below_set ?_ (IsS3.ge HI2.out) | refine below_set ?_ GE219.out) | exact HB.out)) hb); have n6_ := Aside0.mk (hbox); have n7_ := Aside0.mk ((by rw [hg]; exact (keep_size (w := w) (g := g) (row := none) (by repeat (first | (with_reducible first | exact HK.out | apply KeepBut.set_ | apply keep_drewN | apply keep_drew | apply keep_alloc | refine keep_far ?_ GW219.out _) | exact HK.out))) : w.heap.size ≤ gb224)); have n8_ := Aside0.mk ((Nat.le_trans HW0.out (by rw [hg]; exact (keep_size (w := w) (g := g) (row := none) (by repeat (first | (with_reducible first | exact HK.out | apply KeepBut.set_ | apply keep_drewN | apply keep_drew | apply keep_alloc | refine keep_far ?_ GW219.out _) | exact HK.out))) : w.heap.size ≤ gb224) : w0.heap.size ≤ gb224)); have n9_ := Aside0.mk ((by rw [hg]; exact Nat.ne_of_lt (blk_lt (bk_ BK219.out)) : gb219 ≠ gb224)); have n10_ := Aside0.mk ((by rw [hg]; exact Nat.ne_of_gt (blk_lt (bk_ BK219.out)) : gb224 ≠ gb219)); have n11_ := Aside0.mk ((by rw [hg]; exact Nat.ne_of_lt (IsS3.lt (show IsS3 w0 _ g x3000_2 from by repeat (first | (with_reducible first | exact HI2.out | apply IsS3.alloc | apply IsS3.drewN | apply IsS3.drew | apply IsS3.set_0 | refine IsS3.far ?_ NB2_219.out _) | exact HI2.out))) : g ≠ gb224)); have n12_ := Aside0.mk ((by rw [hg]; exact Nat.ne_of_gt (IsS3.lt (show IsS3 w0 _ g x3000_2 from by repeat (first | (with_reducible first | exact HI2.out | apply IsS3.alloc | apply IsS3.drewN | apply IsS3.drew | apply IsS3.set_0 | refine IsS3.far ?_ NB2_219.out _) | exact HI2.out))) : gb224 ≠ g)); clear HO_13; clear HO_21; clear BK219; clear HI2; clear HK; clear HB; have HO_13 := n0_; have HO_21 := n1_; have BK219 := n2_; have HI2 := n3_; have HK := n4_; have HB := n5_; have BK224 := n6_; have GW224 := n7_; have GE224 := n8_; have NB219_224 := n9_; have NB224_219 := n10_; have NB2_224 := n11_; have NB224_2 := n12_; clear n0_ n1_ n2_ n3_ n4_ n5_ n6_ n7_ n8_ n9_ n10_ n11_ n12_; clear hb hbox hg; have hnb23 := NB224_219.out; have hnc23 := NB219_224.out; have hnb24 := NB224_2.out; have hnc24 := NB2_224.out; have hcz25_0 : w22.cell? ⟨gb224, 0, none⟩ = some (.int .i64 0) := (blk_cell BK224.out 0).trans rfl; have hcz25_1 : w22.cell? ⟨gb224, 1, none⟩ = some (.int .i64 0) := (blk_cell BK224.out 1).trans rfl; have hfz25_0 := blk_frozen BK224.out 0; have hfz25_1 := blk_frozen BK224.out 1; have hnb26 := NB219_2.out; have hnc26 := NB2_219.out; have hcz27_0 : w22.cell? ⟨gb219, 0, none⟩ = some (.int .i64 ((rd_T36 t215 x15_1).f0)) := (blk_cell BK219.out 0).trans rfl; have hcz27_1 : w22.cell? ⟨gb219, 1, none⟩ = some (.int .i64 ((rd_T36 t215 x15_1).f1)) := (blk_cell BK219.out 1).trans rfl; have hfz27_0 := blk_frozen BK219.out 0; have hfz27_1 := blk_frozen BK219.out 1) | ((with_reducible refine gate_callee (f := 54) rfl ?_); refine goesL_ (some 31) rfl rfl Try.func54 (by kernel_rfl) rfl #[.agg #[.int .i64 ((rd_T36 t220 x23_2).f0), .int .i64 ((rd_T36 t220 x23_2).f1)], .agg #[.int .i64 ((rd_T36 t215 x15_1).f0), .int .i64 ((rd_T36 t215 x15_1).f1)]] rfl ga_ ?_; (with_reducible refine (impl_Peg_less.calls ((rd_T36 t220 x23_2).f0) ((rd_T36 t220 x23_2).f1) ((rd_T36 t215 x15_1).f0) ((rd_T36 t215 x15_1).f1) t225 t226 _ A19.out).mono ?_); rintro e w28 ⟨rfl, hb⟩; refine ⟨_, rfl, ?_⟩; have n0_ := Aside0.mk (Kd.R_below (by (with_reducible repeat (first | apply Kd.R_alloc | apply Kd.R_drewN | apply Kd.R_drew)); exact (Kd.R_mono (Kd.R_far (p := ⟨gb224, 1, none⟩) (Kd.R_far (p := ⟨gb224, 0, none⟩) (Kd.R_mono HO_13.out (fun k_ hk => (⟨hk, hk.2⟩ : _ ∧ k_ ≠ gb224))) (fun _ hk => hk.2) (.int .i64 ((rd_T36 t220 x23_2).f0))) (fun _ hk => hk.2) (.int .i64 ((rd_T36 t220 x23_2).f1))) (fun _ h_ => h_.1))) hb); have n1_ := Aside0.mk (Kd.R_below (by (with_reducible repeat (first | apply Kd.R_alloc | apply Kd.R_drewN | apply Kd.R_drew)); exact (Kd.R_mono (Kd.R_far (p := ⟨gb224, 1, none⟩) (Kd.R_far (p := ⟨gb224, 0, none⟩) (Kd.R_mono HO_21.out (fun k_ hk => (⟨hk, hk.2⟩ : _ ∧ k_ ≠ gb224))) (fun _ hk => hk.2) (.int .i64 ((rd_T36 t220 x23_2).f0))) (fun _ hk => hk.2) (.int .i64 ((rd_T36 t220 x23_2).f1))) (fun _ h_ => h_.1))) hb); have n2_ := Aside0.mk (blk_below (g := gb219) (o := .cells #[.int .i64 ((rd_T36 t215 x15_1).f0), .int .i64 ((rd_T36 t215 x15_1).f1)] 36 (0, 0)) (bf2_ BK219 NB219_224) hb); have n3_ := Aside0.mk (IsS3.below (show IsS3 w0 ((w22.setCell ⟨gb224, 0, none⟩ (.int .i64 ((rd_T36 t220 x23_2).f0))).setCell ⟨gb224, 1, none⟩ (.int .i64 ((rd_T36 t220 x23_2).f1))) g x3000_2 from by repeat (first | (with_reducible first | exact HI2.out | apply IsS3.alloc | apply IsS3.drewN | apply IsS3.drew | apply IsS3.set_0 | refine IsS3.far ?_ NB2_219.out _ | refine IsS3.far ?_ NB2_224.out _) | exact HI2.out)) hb); have n4_ := Aside0.mk (blk_below (g := gb224) (o := .cells #[.int .i64 ((rd_T36 t220 x23_2).f0), .int .i64 ((rd_T36 t220 x23_2).f1)] 36 (0, 0)) (by (with_reducible repeat (first | refine blk_drewN ?_ _ | refine blk_drew ?_ | refine blk_alloc ?_ _)); refine blk_put (cs := #[.int .i64 ((rd_T36 t220 x23_2).f0), .int .i64 0]) ?_ 1 _ rfl; (with_reducible repeat (first | refine blk_drewN ?_ _ | refine blk_drew ?_ | refine blk_alloc ?_ _)); refine blk_put (cs := #[.int .i64 0, .int .i64 0]) ?_ 0 _ rfl; (with_reducible repeat (first | refine blk_drewN ?_ _ | refine blk_drew ?_ | refine blk_alloc ?_ _)); exact BK224.out) hb); have n5_ := Aside0.mk (KeepBut.trans (by repeat (first | (with_reducible first | exact HK.out | apply KeepBut.set_ | apply keep_drewN | apply keep_drew | apply keep_alloc | refine keep_far ?_ GW219.out _ | refine keep_far ?_ GW224.out _) | exact HK.out)) (KeepBut.of_below hb g none) (.inl rfl)); have n6_ := Aside0.mk (below_step (by repeat (first | (with_reducible first | exact HB.out | apply below_alloc | apply pw_below_drewN | apply below_drew1 | refine below_set ?_ (IsS3.ge HI2.out) | refine below_set ?_ GE219.out | refine below_set ?_ GE224.out) | exact HB.out)) hb); clear HO_13; clear HO_21; clear BK219; clear HI2; clear BK224; clear HK; clear HB; have HO_13 := n0_; have HO_21 := n1_; have BK219 := n2_; have HI2 := n3_; have BK224 := n4_; have HK := n5_; have HB := n6_; clear n0_ n1_ n2_ n3_ n4_ n5_ n6_; (try clear hb); (try clear hb2); (try clear hk); (try clear hi)) | ((with_reducible refine gate_callee (f := 95) rfl ?_); refine goesL_ (some 32) rfl rfl Try.func95 (by kernel_rfl) rfl #[.int .i64 a0, .int .i64 a1, .agg #[.int .i64 t225, .int .i64 t226]] rfl ga_ ?_; (with_reducible refine (impl_isOnBoard.calls a0 a1 t225 t226 true _ A20.out).mono ?_); rintro e w29 ⟨rfl, hb⟩; refine ⟨_, rfl, ?_⟩; have n0_ := Aside0.mk (Kd.R_below (rk_ HO_13.out) hb); have n1_ := Aside0.mk (Kd.R_below (rk_ HO_21.out) hb); have n2_ := bb_ BK219 hb; have n3_ := Aside0.mk (IsS3.below (by repeat (first | (with_reducible first | exact HI2.out | apply IsS3.alloc | apply IsS3.drewN | apply IsS3.drew | apply IsS3.set_0 | refine IsS3.far ?_ NB2_219.out _ | refine IsS3.far ?_ NB2_224.out _) | exact HI2.out)) hb); have n4_ := bb_ BK224 hb; have n5_ := Aside0.mk (KeepBut.trans (by repeat (first | (with_reducible first | exact HK.out | apply KeepBut.set_ | apply keep_drewN | apply keep_drew | apply keep_alloc | refine keep_far ?_ GW219.out _ | refine keep_far ?_ GW224.out _) | exact HK.out)) (KeepBut.of_below hb g none) (.inl rfl)); have n6_ := Aside0.mk (below_step (by repeat (first | (with_reducible first | exact HB.out | apply below_alloc | apply pw_below_drewN | apply below_drew1 | refine below_set ?_ (IsS3.ge HI2.out) | refine below_set ?_ GE219.out | refine below_set ?_ GE224.out) | exact HB.out)) hb); clear HO_13; clear HO_21; clear BK219; clear HI2; clear BK224; clear HK; clear HB; have HO_13 := n0_; have HO_21 := n1_; have BK219 := n2_; have HI2 := n3_; have BK224 := n4_; have HK := n5_; have HB := n6_; clear n0_ n1_ n2_ n3_ n4_ n5_ n6_; (try clear hb); (try clear hb2); (try clear hk); (try clear hi)))
            go_roundg k2
            case measure => have := HK1.out; have := HK2.out; omega
            case rel => exact ⟨(wrap64 (x23_2 + 1)), (x3000_2), (by first | rfl | (simp; done) | (simp [*]; done)), H', ⟨by have := HK1.out; have := HK2.out; omega⟩, ⟨by (with_reducible repeat (first | apply Kd.R_alloc | apply Kd.R_drewN | apply Kd.R_drew)); exact Kd.R_mono HO_13.out (fun _ hk => ⟨hk.1.1, hk.1.2⟩)⟩, ⟨by (with_reducible repeat (first | apply Kd.R_alloc | apply Kd.R_drewN | apply Kd.R_drew)); exact Kd.R_mono HO_21.out (fun _ hk => ⟨hk.1.1, hk.1.2⟩)⟩, ⟨bk_ BK219.out⟩, ⟨by repeat (first | (with_reducible first | exact HI2.out | apply IsS3.alloc | apply IsS3.drewN | apply IsS3.drew | apply IsS3.set_0 | refine IsS3.far ?_ NB2_219.out _ | refine IsS3.far ?_ NB2_224.out _) | exact HI2.out)⟩, ⟨by repeat (first | (with_reducible first | exact HK.out | apply KeepBut.set_ | apply keep_drewN | apply keep_drew | apply keep_alloc | refine keep_far ?_ GW219.out _ | refine keep_far ?_ GW224.out _) | exact HK.out)⟩, ⟨by repeat (first | (with_reducible first | exact HB.out | apply below_alloc | apply pw_below_drewN | apply below_drew1 | refine below_set ?_ (IsS3.ge HI2.out) | refine below_set ?_ GE219.out | refine below_set ?_ GE224.out) | exact HB.out)⟩⟩
           ·replace c21 := Bool.eq_false_iff.mpr c21
            subst c21
            have H1 : (impl_straight_c1.l2 k2 a0 a1 0 t215 (t215.length : Int) x15_1 t220 (t220.length : Int) x23_2 x3000_2 ((rd_T36 t215 x15_1).f0) ((rd_T36 t215 x15_1).f1) ((rd_T36 t220 x23_2).f0) ((rd_T36 t220 x23_2).f1)) = some r := by rw [if_neg (show ¬ (false = true) by decide)] at H; exact H
            clear H
            have H := H1
            clear H1
            have H' := Aside0.mk H
            clear H
            have p223 : 0 ≤ (x23_2 : Int) := odt_
            have q223 : x23_2 < (t220.length : Int) := odt_
            obtain ⟨ad223, e223, hx223_0, hx223_1⟩ := at_T36 (Kd.R_reads' HO_21.out).2.2 x23_2 p223 q223
            cases e223
            replace p223 := eq_true p223
            replace q223 := eq_true q223
            go_wp2_with (first | ((with_reducible refine gate_dst (N := 9) rfl ?_); refine box_event ?hg (N := 9) ?hd (cs := #[.int .i64 0, .int .i64 0]) (t := 36) ?hr ?_; (case hd => rfl); (case hg => rfl); (case hr => first | (go_simp; done) | (go_simp; rfl)); intro gb224 hg w30 hbox hb; have n0_ := Aside0.mk (Kd.R_below (Kd.R_elderB (rk_ HO_13.out) gb224 (Nat.le_of_eq hg.symm)) hb); have n1_ := Aside0.mk (Kd.R_below (Kd.R_elderB (rk_ HO_21.out) gb224 (Nat.le_of_eq hg.symm)) hb); have n2_ := bb_ BK219 hb; have n3_ := Aside0.mk (IsS3.below (by repeat (first | (with_reducible first | exact HI2.out | apply IsS3.alloc | apply IsS3.drewN | apply IsS3.drew | apply IsS3.set_0 | refine IsS3.far ?_ NB2_219.out _) | exact HI2.out)) hb); have n4_ := Aside0.mk (KeepBut.trans (by repeat (first | (with_reducible first | exact HK.out | apply KeepBut.set_ | apply keep_drewN | apply keep_drew | apply keep_alloc | refine keep_far ?_ GW219.out _) | exact HK.out)) (KeepBut.of_below hb g none) (.inl rfl)); have n5_ := Aside0.mk (below_step (by repeat (first | (with_reducible first | exact HB.out | apply below_alloc | apply pw_below_drewN | apply below_drew1 | refine below_set ?_ (IsS3.ge HI2.out) | refine below_set ?_ GE219.out) | exact HB.out)) hb); have n6_ := Aside0.mk (hbox); have n7_ := Aside0.mk ((by rw [hg]; exact (keep_size (w := w) (g := g) (row := none) (by repeat (first | (with_reducible first | exact HK.out | apply KeepBut.set_ | apply keep_drewN | apply keep_drew | apply keep_alloc | refine keep_far ?_ GW219.out _) | exact HK.out))) : w.heap.size ≤ gb224)); have n8_ := Aside0.mk ((Nat.le_trans HW0.out (by rw [hg]; exact (keep_size (w := w) (g := g) (row := none) (by repeat (first | (with_reducible first | exact HK.out | apply KeepBut.set_ | apply keep_drewN | apply keep_drew | apply keep_alloc | refine keep_far ?_ GW219.out _) | exact HK.out))) : w.heap.size ≤ gb224) : w0.heap.size ≤ gb224)); have n9_ := Aside0.mk ((by rw [hg]; exact Nat.ne_of_lt (blk_lt (bk_ BK219.out)) : gb219 ≠ gb224)); have n10_ := Aside0.mk ((by rw [hg]; exact Nat.ne_of_gt (blk_lt (bk_ BK219.out)) : gb224 ≠ gb219)); have n11_ := Aside0.mk ((by rw [hg]; exact Nat.ne_of_lt (IsS3.lt (show IsS3 w0 _ g x3000_2 from by repeat (first | (with_reducible first | exact HI2.out | apply IsS3.alloc | apply IsS3.drewN | apply IsS3.drew | apply IsS3.set_0 | refine IsS3.far ?_ NB2_219.out _) | exact HI2.out))) : g ≠ gb224)); have n12_ := Aside0.mk ((by rw [hg]; exact Nat.ne_of_gt (IsS3.lt (show IsS3 w0 _ g x3000_2 from by repeat (first | (with_reducible first | exact HI2.out | apply IsS3.alloc | apply IsS3.drewN | apply IsS3.drew | apply IsS3.set_0 | refine IsS3.far ?_ NB2_219.out _) | exact HI2.out))) : gb224 ≠ g)); clear HO_13; clear HO_21; clear BK219; clear HI2; clear HK; clear HB; have HO_13 := n0_; have HO_21 := n1_; have BK219 := n2_; have HI2 := n3_; have HK := n4_; have HB := n5_; have BK224 := n6_; have GW224 := n7_; have GE224 := n8_; have NB219_224 := n9_; have NB224_219 := n10_; have NB2_224 := n11_; have NB224_2 := n12_; clear n0_ n1_ n2_ n3_ n4_ n5_ n6_ n7_ n8_ n9_ n10_ n11_ n12_; clear hb hbox hg; have hnb31 := NB224_219.out; have hnc31 := NB219_224.out; have hnb32 := NB224_2.out; have hnc32 := NB2_224.out; have hcz33_0 : w30.cell? ⟨gb224, 0, none⟩ = some (.int .i64 0) := (blk_cell BK224.out 0).trans rfl; have hcz33_1 : w30.cell? ⟨gb224, 1, none⟩ = some (.int .i64 0) := (blk_cell BK224.out 1).trans rfl; have hfz33_0 := blk_frozen BK224.out 0; have hfz33_1 := blk_frozen BK224.out 1; have hnb34 := NB219_2.out; have hnc34 := NB2_219.out; have hcz35_0 : w30.cell? ⟨gb219, 0, none⟩ = some (.int .i64 ((rd_T36 t215 x15_1).f0)) := (blk_cell BK219.out 0).trans rfl; have hcz35_1 : w30.cell? ⟨gb219, 1, none⟩ = some (.int .i64 ((rd_T36 t215 x15_1).f1)) := (blk_cell BK219.out 1).trans rfl; have hfz35_0 := blk_frozen BK219.out 0; have hfz35_1 := blk_frozen BK219.out 1) | ((with_reducible refine gate_callee (f := 54) rfl ?_); refine goesL_ (some 31) rfl rfl Try.func54 (by kernel_rfl) rfl #[.agg #[.int .i64 ((rd_T36 t220 x23_2).f0), .int .i64 ((rd_T36 t220 x23_2).f1)], .agg #[.int .i64 ((rd_T36 t215 x15_1).f0), .int .i64 ((rd_T36 t215 x15_1).f1)]] rfl ga_ ?_; (with_reducible refine (impl_Peg_less.calls ((rd_T36 t220 x23_2).f0) ((rd_T36 t220 x23_2).f1) ((rd_T36 t215 x15_1).f0) ((rd_T36 t215 x15_1).f1) t225 t226 _ A19.out).mono ?_); rintro e w36 ⟨rfl, hb⟩; refine ⟨_, rfl, ?_⟩; have n0_ := Aside0.mk (Kd.R_below (by (with_reducible repeat (first | apply Kd.R_alloc | apply Kd.R_drewN | apply Kd.R_drew)); exact (Kd.R_mono (Kd.R_far (p := ⟨gb224, 1, none⟩) (Kd.R_far (p := ⟨gb224, 0, none⟩) (Kd.R_mono HO_13.out (fun k_ hk => (⟨hk, hk.2⟩ : _ ∧ k_ ≠ gb224))) (fun _ hk => hk.2) (.int .i64 ((rd_T36 t220 x23_2).f0))) (fun _ hk => hk.2) (.int .i64 ((rd_T36 t220 x23_2).f1))) (fun _ h_ => h_.1))) hb); have n1_ := Aside0.mk (Kd.R_below (by (with_reducible repeat (first | apply Kd.R_alloc | apply Kd.R_drewN | apply Kd.R_drew)); exact (Kd.R_mono (Kd.R_far (p := ⟨gb224, 1, none⟩) (Kd.R_far (p := ⟨gb224, 0, none⟩) (Kd.R_mono HO_21.out (fun k_ hk => (⟨hk, hk.2⟩ : _ ∧ k_ ≠ gb224))) (fun _ hk => hk.2) (.int .i64 ((rd_T36 t220 x23_2).f0))) (fun _ hk => hk.2) (.int .i64 ((rd_T36 t220 x23_2).f1))) (fun _ h_ => h_.1))) hb); have n2_ := Aside0.mk (blk_below (g := gb219) (o := .cells #[.int .i64 ((rd_T36 t215 x15_1).f0), .int .i64 ((rd_T36 t215 x15_1).f1)] 36 (0, 0)) (bf2_ BK219 NB219_224) hb); have n3_ := Aside0.mk (IsS3.below (show IsS3 w0 ((w30.setCell ⟨gb224, 0, none⟩ (.int .i64 ((rd_T36 t220 x23_2).f0))).setCell ⟨gb224, 1, none⟩ (.int .i64 ((rd_T36 t220 x23_2).f1))) g x3000_2 from by repeat (first | (with_reducible first | exact HI2.out | apply IsS3.alloc | apply IsS3.drewN | apply IsS3.drew | apply IsS3.set_0 | refine IsS3.far ?_ NB2_219.out _ | refine IsS3.far ?_ NB2_224.out _) | exact HI2.out)) hb); have n4_ := Aside0.mk (blk_below (g := gb224) (o := .cells #[.int .i64 ((rd_T36 t220 x23_2).f0), .int .i64 ((rd_T36 t220 x23_2).f1)] 36 (0, 0)) (by (with_reducible repeat (first | refine blk_drewN ?_ _ | refine blk_drew ?_ | refine blk_alloc ?_ _)); refine blk_put (cs := #[.int .i64 ((rd_T36 t220 x23_2).f0), .int .i64 0]) ?_ 1 _ rfl; (with_reducible repeat (first | refine blk_drewN ?_ _ | refine blk_drew ?_ | refine blk_alloc ?_ _)); refine blk_put (cs := #[.int .i64 0, .int .i64 0]) ?_ 0 _ rfl; (with_reducible repeat (first | refine blk_drewN ?_ _ | refine blk_drew ?_ | refine blk_alloc ?_ _)); exact BK224.out) hb); have n5_ := Aside0.mk (KeepBut.trans (by repeat (first | (with_reducible first | exact HK.out | apply KeepBut.set_ | apply keep_drewN | apply keep_drew | apply keep_alloc | refine keep_far ?_ GW219.out _ | refine keep_far ?_ GW224.out _) | exact HK.out)) (KeepBut.of_below hb g none) (.inl rfl)); have n6_ := Aside0.mk (below_step (by repeat (first | (with_reducible first | exact HB.out | apply below_alloc | apply pw_below_drewN | apply below_drew1 | refine below_set ?_ (IsS3.ge HI2.out) | refine below_set ?_ GE219.out | refine below_set ?_ GE224.out) | exact HB.out)) hb); clear HO_13; clear HO_21; clear BK219; clear HI2; clear BK224; clear HK; clear HB; have HO_13 := n0_; have HO_21 := n1_; have BK219 := n2_; have HI2 := n3_; have BK224 := n4_; have HK := n5_; have HB := n6_; clear n0_ n1_ n2_ n3_ n4_ n5_ n6_; (try clear hb); (try clear hb2); (try clear hk); (try clear hi)) | ((with_reducible refine gate_callee (f := 95) rfl ?_); refine goesL_ (some 32) rfl rfl Try.func95 (by kernel_rfl) rfl #[.int .i64 a0, .int .i64 a1, .agg #[.int .i64 t225, .int .i64 t226]] rfl ga_ ?_; (with_reducible refine (impl_isOnBoard.calls a0 a1 t225 t226 false _ A20.out).mono ?_); rintro e w37 ⟨rfl, hb⟩; refine ⟨_, rfl, ?_⟩; have n0_ := Aside0.mk (Kd.R_below (rk_ HO_13.out) hb); have n1_ := Aside0.mk (Kd.R_below (rk_ HO_21.out) hb); have n2_ := bb_ BK219 hb; have n3_ := Aside0.mk (IsS3.below (by repeat (first | (with_reducible first | exact HI2.out | apply IsS3.alloc | apply IsS3.drewN | apply IsS3.drew | apply IsS3.set_0 | refine IsS3.far ?_ NB2_219.out _ | refine IsS3.far ?_ NB2_224.out _) | exact HI2.out)) hb); have n4_ := bb_ BK224 hb; have n5_ := Aside0.mk (KeepBut.trans (by repeat (first | (with_reducible first | exact HK.out | apply KeepBut.set_ | apply keep_drewN | apply keep_drew | apply keep_alloc | refine keep_far ?_ GW219.out _ | refine keep_far ?_ GW224.out _) | exact HK.out)) (KeepBut.of_below hb g none) (.inl rfl)); have n6_ := Aside0.mk (below_step (by repeat (first | (with_reducible first | exact HB.out | apply below_alloc | apply pw_below_drewN | apply below_drew1 | refine below_set ?_ (IsS3.ge HI2.out) | refine below_set ?_ GE219.out | refine below_set ?_ GE224.out) | exact HB.out)) hb); clear HO_13; clear HO_21; clear BK219; clear HI2; clear BK224; clear HK; clear HB; have HO_13 := n0_; have HO_21 := n1_; have BK219 := n2_; have HI2 := n3_; have BK224 := n4_; have HK := n5_; have HB := n6_; clear n0_ n1_ n2_ n3_ n4_ n5_ n6_; (try clear hb); (try clear hb2); (try clear hk); (try clear hi)))
            go_loopg [10] k2 (fun kq v10 w' => ∃ (x10_3 : Int) (x225000_3 : Int) (x225001_3 : Int), v10 = .int .i64 x10_3 ∧ Aside0 (impl_straight_c1.l2 kq a0 a1 x10_3 t215 (t215.length : Int) x15_1 t220 (t220.length : Int) x23_2 x3000_2 ((rd_T36 t215 x15_1).f0) ((rd_T36 t215 x15_1).f1) x225000_3 x225001_3 = some r) ∧ Aside0 (kq ≤ k2) ∧ Aside0 (Kd.R k36 36 w' w.heap.size (fun k_ => some k_ ≠ ((.slice (some ad223) t220.length co15) : Value).ownBlock ∧ k_ ≠ gb219 ∧ k_ ≠ gb224) (.slice (some ad218) t215.length co6) t215) ∧ Aside0 (Kd.R k36 36 w' w.heap.size (fun k_ => some k_ ≠ ((.slice (some ad218) t215.length co6) : Value).ownBlock ∧ k_ ≠ gb219 ∧ k_ ≠ gb224) (.slice (some ad223) t220.length co15) t220) ∧ Aside0 (w'.heap[gb219]? = some (.cells #[.int .i64 ((rd_T36 t215 x15_1).f0), .int .i64 ((rd_T36 t215 x15_1).f1)] 36 (0, 0))) ∧ Aside0 (w'.heap[gb224]? = some (.cells #[.int .i64 x225000_3, .int .i64 x225001_3] 36 (0, 0))) ∧ Aside0 (IsS3 w0 w' g x3000_2) ∧ Aside0 (KeepBut w w' g none) ∧ Aside0 (Below w0.heap.size w0 w'))
            case atStart => exact ⟨(0), ((rd_T36 t220 x23_2).f0), ((rd_T36 t220 x23_2).f1), (by first | rfl | (simp; done) | (simp [*]; done)), H', ⟨Nat.le_refl _⟩, ⟨by (with_reducible repeat (first | apply Kd.R_alloc | apply Kd.R_drewN | apply Kd.R_drew)); exact Kd.R_mono HO_13.out (fun _ hk => ⟨hk.1.1, ⟨hk.1.2, hk.2⟩⟩)⟩, ⟨by (with_reducible repeat (first | apply Kd.R_alloc | apply Kd.R_drewN | apply Kd.R_drew)); exact Kd.R_mono HO_21.out (fun _ hk => ⟨hk.1.1, ⟨hk.1.2, hk.2⟩⟩)⟩, ⟨bk_ BK219.out⟩, ⟨bk_ BK224.out⟩, ⟨by repeat (first | (with_reducible first | exact HI2.out | apply IsS3.alloc | apply IsS3.drewN | apply IsS3.drew | apply IsS3.set_0 | refine IsS3.far ?_ NB2_219.out _ | refine IsS3.far ?_ NB2_224.out _) | exact HI2.out)⟩, ⟨by repeat (first | (with_reducible first | exact HK.out | apply KeepBut.set_ | apply keep_drewN | apply keep_drew | apply keep_alloc | refine keep_far ?_ GW219.out _ | refine keep_far ?_ GW224.out _) | exact HK.out)⟩, ⟨by repeat (first | (with_reducible first | exact HB.out | apply below_alloc | apply pw_below_drewN | apply below_drew1 | refine below_set ?_ (IsS3.ge HI2.out) | refine below_set ?_ GE219.out | refine below_set ?_ GE224.out) | exact HB.out)⟩⟩
            case round =>
             clear H'
             try clear c1; try clear c2; try clear p2; try clear q2; try clear hx2; try clear c3; try clear c5; try clear p6; try clear c7; try clear c7b0; try clear c8; try clear c8b0; try clear c9; try clear c9b0; try clear c12; try clear c16; try clear c16b0; try clear c17; try clear c17b0; try clear c18; try clear c18b0; try clear c21; try clear p21; try clear q21; try clear hx21; try clear p22; try clear q22; try clear hx22; try clear c23; try clear c24; try clear c26; try clear c31; try clear c32; try clear c34; try clear hcz13_0; try clear hcz13_1; try clear hcz25_0; try clear hcz25_1; try clear hcz27_0; try clear hcz27_1; try clear hcz33_0; try clear hcz33_1; try clear hcz35_0; try clear hcz35_1; try clear hfz13_0; try clear hfz13_1; try clear hfz25_0; try clear hfz25_1; try clear hfz27_0; try clear hfz27_1; try clear hfz33_0; try clear hfz33_1; try clear hfz35_0; try clear hfz35_1; try clear hx218_0; try clear hx218_1; try clear hx223_0; try clear hx223_1; try clear p2; try clear p218; try clear p223; try clear q2; try clear q218; try clear q223
             obtain ⟨x10_3, x225000_3, x225001_3, rfl, HA, HK3, HO_13, HO_21, BK219, BK224, HI2, HK, HB⟩ := hrel
             cases gk with
             | zero => exact absurd HA.out (by simp [impl_straight_c1.l2])
             | succ k3 =>
              have H := HA.out
              clear HA
              simp only [impl_straight_c1.l2] at H
              replace H := Option.bind_eq_some_iff.mp H
              obtain ⟨t228, A380, H⟩ := H
              replace H : (if t228 = true then ((impl_Peg_plus.f x225000_3 x225001_3 ((rd_T36 t215 x15_1).f0) ((rd_T36 t215 x15_1).f1)).bind fun bt229 => (impl_straight_c1.l2 k3 a0 a1 (wrap64 (x10_3 + 1)) t215 (t215.length : Int) x15_1 t220 (t220.length : Int) x23_2 x3000_2 ((rd_T36 t215 x15_1).f0) ((rd_T36 t215 x15_1).f1) bt229.1 bt229.2)) else (if x10_3 > 1 then ((impl_CountStraight_1.f x10_3 x3000_2).bind fun t231 => (impl_straight_c1.l1 k3 a0 a1 t215 (t215.length : Int) x15_1 t220 (t220.length : Int) (wrap64 (x23_2 + 1)) t231 ((rd_T36 t215 x15_1).f0) ((rd_T36 t215 x15_1).f1))) else (impl_straight_c1.l1 k3 a0 a1 t215 (t215.length : Int) x15_1 t220 (t220.length : Int) (wrap64 (x23_2 + 1)) x3000_2 ((rd_T36 t215 x15_1).f0) ((rd_T36 t215 x15_1).f1)))) = some r := H
              have A38 := Aside0.mk A380
              clear A380
              by_cases c39 : t228 = true
              ·subst c39
               have H1 : ((impl_Peg_plus.f x225000_3 x225001_3 ((rd_T36 t215 x15_1).f0) ((rd_T36 t215 x15_1).f1)).bind fun bt229 => (impl_straight_c1.l2 k3 a0 a1 (wrap64 (x10_3 + 1)) t215 (t215.length : Int) x15_1 t220 (t220.length : Int) x23_2 x3000_2 ((rd_T36 t215 x15_1).f0) ((rd_T36 t215 x15_1).f1) bt229.1 bt229.2)) = some r := by rw [if_pos rfl] at H; exact H
               clear H
               have H := H1
               clear H1
               replace H := Option.bind_eq_some_iff.mp H
               obtain ⟨⟨t229, t230⟩, A400, H⟩ := H
               replace H : (impl_straight_c1.l2 k3 a0 a1 (wrap64 (x10_3 + 1)) t215 (t215.length : Int) x15_1 t220 (t220.length : Int) x23_2 x3000_2 ((rd_T36 t215 x15_1).f0) ((rd_T36 t215 x15_1).f1) t229 t230) = some r := H
               have A40 := Aside0.mk A400
               clear A400
               have H' := Aside0.mk H
               clear H
               have hnb41 := NB224_219.out
               have hnc41 := NB219_224.out
               have hnb42 := NB224_2.out
               have hnc42 := NB2_224.out
               have hcz43_0 : wr.cell? ⟨gb224, 0, none⟩ = some (.int .i64 x225000_3) := (blk_cell BK224.out 0).trans rfl
               have hcz43_1 : wr.cell? ⟨gb224, 1, none⟩ = some (.int .i64 x225001_3) := (blk_cell BK224.out 1).trans rfl
               have hfz43_0 := blk_frozen BK224.out 0
               have hfz43_1 := blk_frozen BK224.out 1
               go_wp2_with (first | ((with_reducible refine gate_callee (f := 95) rfl ?_); refine goesL_ (some 36) rfl rfl Try.func95 (by kernel_rfl) rfl #[.int .i64 a0, .int .i64 a1, .agg #[.int .i64 x225000_3, .int .i64 x225001_3]] rfl ga_ ?_; (with_reducible refine (impl_isOnBoard.calls a0 a1 x225000_3 x225001_3 true _ A38.out).mono ?_); rintro e w44 ⟨rfl, hb⟩; refine ⟨_, rfl, ?_⟩; have n0_ := Aside0.mk (Kd.R_below (rk_ HO_13.out) hb); have n1_ := Aside0.mk (Kd.R_below (rk_ HO_21.out) hb); have n2_ := bb_ BK219 hb; have n3_ := bb_ BK224 hb; have n4_ := Aside0.mk (IsS3.below (by repeat (first | (with_reducible first | exact HI2.out | apply IsS3.alloc | apply IsS3.drewN | apply IsS3.drew | apply IsS3.set_0 | refine IsS3.far ?_ NB2_219.out _ | refine IsS3.far ?_ NB2_224.out _) | exact HI2.out)) hb); have n5_ := Aside0.mk (KeepBut.trans (by repeat (first | (with_reducible first | exact HK.out | apply KeepBut.set_ | apply keep_drewN | apply keep_drew | apply keep_alloc | refine keep_far ?_ GW219.out _ | refine keep_far ?_ GW224.out _) | exact HK.out)) (KeepBut.of_below hb g none) (.inl rfl)); have n6_ := Aside0.mk (below_step (by repeat (first | (with_reducible first | exact HB.out | apply below_alloc | apply pw_below_drewN | apply below_drew1 | refine below_set ?_ (IsS3.ge HI2.out) | refine below_set ?_ GE219.out | refine below_set ?_ GE224.out) | exact HB.out)) hb); clear HO_13; clear HO_21; clear BK219; clear BK224; clear HI2; clear HK; clear HB; have HO_13 := n0_; have HO_21 := n1_; have BK219 := n2_; have BK224 := n3_; have HI2 := n4_; have HK := n5_; have HB := n6_; clear n0_ n1_ n2_ n3_ n4_ n5_ n6_; (try clear hb); (try clear hb2); (try clear hk); (try clear hi); have hcz45_0 : w44.cell? ⟨gb224, 0, none⟩ = some (.int .i64 x225000_3) := (blk_cell BK224.out 0).trans rfl; have hcz45_1 : w44.cell? ⟨gb224, 1, none⟩ = some (.int .i64 x225001_3) := (blk_cell BK224.out 1).trans rfl; have hfz45_0 := blk_frozen BK224.out 0; have hfz45_1 := blk_frozen BK224.out 1; have hnb46 := NB219_2.out; have hnc46 := NB2_219.out; have hcz47_0 : w44.cell? ⟨gb219, 0, none⟩ = some (.int .i64 ((rd_T36 t215 x15_1).f0)) := (blk_cell BK219.out 0).trans rfl; have hcz47_1 : w44.cell? ⟨gb219, 1, none⟩ = some (.int .i64 ((rd_T36 t215 x15_1).f1)) := (blk_cell BK219.out 1).trans rfl; have hfz47_0 := blk_frozen BK219.out 0; have hfz47_1 := blk_frozen BK219.out 1) | ((with_reducible refine gate_callee (f := 53) rfl ?_); refine goesL_ (some 39) rfl rfl Try.func53 (by kernel_rfl) rfl #[.agg #[.int .i64 x225000_3, .int .i64 x225001_3], .agg #[.int .i64 ((rd_T36 t215 x15_1).f0), .int .i64 ((rd_T36 t215 x15_1).f1)]] rfl ga_ ?_; (with_reducible refine (impl_Peg_plus.calls x225000_3 x225001_3 ((rd_T36 t215 x15_1).f0) ((rd_T36 t215 x15_1).f1) t229 t230 _ A40.out).mono ?_); rintro e w48 ⟨rfl, hb⟩; refine ⟨_, rfl, ?_⟩; have n0_ := Aside0.mk (Kd.R_below (rk_ HO_13.out) hb); have n1_ := Aside0.mk (Kd.R_below (rk_ HO_21.out) hb); have n2_ := bb_ BK219 hb; have n3_ := bb_ BK224 hb; have n4_ := Aside0.mk (IsS3.below (by repeat (first | (with_reducible first | exact HI2.out | apply IsS3.alloc | apply IsS3.drewN | apply IsS3.drew | apply IsS3.set_0 | refine IsS3.far ?_ NB2_219.out _ | refine IsS3.far ?_ NB2_224.out _) | exact HI2.out)) hb); have n5_ := Aside0.mk (KeepBut.trans (by repeat (first | (with_reducible first | exact HK.out | apply KeepBut.set_ | apply keep_drewN | apply keep_drew | apply keep_alloc | refine keep_far ?_ GW219.out _ | refine keep_far ?_ GW224.out _) | exact HK.out)) (KeepBut.of_below hb g none) (.inl rfl)); have n6_ := Aside0.mk (below_step (by repeat (first | (with_reducible first | exact HB.out | apply below_alloc | apply pw_below_drewN | apply below_drew1 | refine below_set ?_ (IsS3.ge HI2.out) | refine below_set ?_ GE219.out | refine below_set ?_ GE224.out) | exact HB.out)) hb); clear HO_13; clear HO_21; clear BK219; clear BK224; clear HI2; clear HK; clear HB; have HO_13 := n0_; have HO_21 := n1_; have BK219 := n2_; have BK224 := n3_; have HI2 := n4_; have HK := n5_; have HB := n6_; clear n0_ n1_ n2_ n3_ n4_ n5_ n6_; (try clear hb); (try clear hb2); (try clear hk); (try clear hi); have hcz49_0 : w48.cell? ⟨gb224, 0, none⟩ = some (.int .i64 x225000_3) := (blk_cell BK224.out 0).trans rfl; have hcz49_1 : w48.cell? ⟨gb224, 1, none⟩ = some (.int .i64 x225001_3) := (blk_cell BK224.out 1).trans rfl; have hfz49_0 := blk_frozen BK224.out 0; have hfz49_1 := blk_frozen BK224.out 1))
               go_roundg k3
               case measure => have := HK1.out; have := HK2.out; have := HK3.out; omega
               case rel => exact ⟨(wrap64 (x10_3 + 1)), (t229), (t230), (by first | rfl | (simp; done) | (simp [*]; done)), H', ⟨by have := HK1.out; have := HK2.out; have := HK3.out; omega⟩, ⟨by (with_reducible repeat (first | apply Kd.R_alloc | apply Kd.R_drewN | apply Kd.R_drew)); exact Kd.R_mono (Kd.R_far (p := ⟨gb224, 1, none⟩) (Kd.R_far (p := ⟨gb224, 0, none⟩) (Kd.R_mono HO_13.out (fun k_ hk => (⟨hk, hk.2.2⟩ : _ ∧ k_ ≠ gb224))) (fun _ hk => hk.2) (.int .i64 t229)) (fun _ hk => hk.2) (.int .i64 t230)) (fun _ hk => ⟨hk.1.1, ⟨hk.1.2.1, hk.1.2.2⟩⟩)⟩, ⟨by (with_reducible repeat (first | apply Kd.R_alloc | apply Kd.R_drewN | apply Kd.R_drew)); exact Kd.R_mono (Kd.R_far (p := ⟨gb224, 1, none⟩) (Kd.R_far (p := ⟨gb224, 0, none⟩) (Kd.R_mono HO_21.out (fun k_ hk => (⟨hk, hk.2.2⟩ : _ ∧ k_ ≠ gb224))) (fun _ hk => hk.2) (.int .i64 t229)) (fun _ hk => hk.2) (.int .i64 t230)) (fun _ hk => ⟨hk.1.1, ⟨hk.1.2.1, hk.1.2.2⟩⟩)⟩, ⟨by (with_reducible repeat (first | refine blk_drewN ?_ _ | refine blk_drew ?_ | refine blk_alloc ?_ _)); refine blk_far ?_ NB219_224.out _; (with_reducible repeat (first | refine blk_drewN ?_ _ | refine blk_drew ?_ | refine blk_alloc ?_ _)); refine blk_far ?_ NB219_224.out _; (with_reducible repeat (first | refine blk_drewN ?_ _ | refine blk_drew ?_ | refine blk_alloc ?_ _)); exact BK219.out⟩, ⟨by (with_reducible repeat (first | refine blk_drewN ?_ _ | refine blk_drew ?_ | refine blk_alloc ?_ _)); refine blk_put (cs := #[.int .i64 t229, .int .i64 x225001_3]) ?_ 1 _ rfl; (with_reducible repeat (first | refine blk_drewN ?_ _ | refine blk_drew ?_ | refine blk_alloc ?_ _)); refine blk_put (cs := #[.int .i64 x225000_3, .int .i64 x225001_3]) ?_ 0 _ rfl; (with_reducible repeat (first | refine blk_drewN ?_ _ | refine blk_drew ?_ | refine blk_alloc ?_ _)); exact BK224.out⟩, ⟨by repeat (first | (with_reducible first | exact HI2.out | apply IsS3.alloc | apply IsS3.drewN | apply IsS3.drew | apply IsS3.set_0 | refine IsS3.far ?_ NB2_219.out _ | refine IsS3.far ?_ NB2_224.out _) | exact HI2.out)⟩, ⟨by repeat (first | (with_reducible first | exact HK.out | apply KeepBut.set_ | apply keep_drewN | apply keep_drew | apply keep_alloc | refine keep_far ?_ GW219.out _ | refine keep_far ?_ GW224.out _) | exact HK.out)⟩, ⟨by repeat (first | (with_reducible first | exact HB.out | apply below_alloc | apply pw_below_drewN | apply below_drew1 | refine below_set ?_ (IsS3.ge HI2.out) | refine below_set ?_ GE219.out | refine below_set ?_ GE224.out) | exact HB.out)⟩⟩
              ·replace c39 := Bool.eq_false_iff.mpr c39
               subst c39
               have H1 : (if x10_3 > 1 then ((impl_CountStraight_1.f x10_3 x3000_2).bind fun t231 => (impl_straight_c1.l1 k3 a0 a1 t215 (t215.length : Int) x15_1 t220 (t220.length : Int) (wrap64 (x23_2 + 1)) t231 ((rd_T36 t215 x15_1).f0) ((rd_T36 t215 x15_1).f1))) else (impl_straight_c1.l1 k3 a0 a1 t215 (t215.length : Int) x15_1 t220 (t220.length : Int) (wrap64 (x23_2 + 1)) x3000_2 ((rd_T36 t215 x15_1).f0) ((rd_T36 t215 x15_1).f1))) = some r := by rw [if_neg (show ¬ (false = true) by decide)] at H; exact H
               clear H
               have H := H1
               clear H1
               by_cases c50 : x10_3 > 1
               ·rw [if_pos c50] at H
                have c50b0 : decide (1 < x10_3) = true := decide_eq_true c50
                clear c50
                replace H := Option.bind_eq_some_iff.mp H
                obtain ⟨t231, A510, H⟩ := H
                replace H : (impl_straight_c1.l1 k3 a0 a1 t215 (t215.length : Int) x15_1 t220 (t220.length : Int) (wrap64 (x23_2 + 1)) t231 ((rd_T36 t215 x15_1).f0) ((rd_T36 t215 x15_1).f1)) = some r := H
                have A51 := Aside0.mk A510
                clear A510
                have H' := Aside0.mk H
                clear H
                have hnb52 := NB224_219.out
                have hnc52 := NB219_224.out
                have hnb53 := NB224_2.out
                have hnc53 := NB2_224.out
                have hcz54_0 : wr.cell? ⟨gb224, 0, none⟩ = some (.int .i64 x225000_3) := (blk_cell BK224.out 0).trans rfl
                have hcz54_1 : wr.cell? ⟨gb224, 1, none⟩ = some (.int .i64 x225001_3) := (blk_cell BK224.out 1).trans rfl
                have hfz54_0 := blk_frozen BK224.out 0
                have hfz54_1 := blk_frozen BK224.out 1
                go_wp2_with (first | ((with_reducible refine gate_callee (f := 95) rfl ?_); refine goesL_ (some 36) rfl rfl Try.func95 (by kernel_rfl) rfl #[.int .i64 a0, .int .i64 a1, .agg #[.int .i64 x225000_3, .int .i64 x225001_3]] rfl ga_ ?_; (with_reducible refine (impl_isOnBoard.calls a0 a1 x225000_3 x225001_3 false _ A38.out).mono ?_); rintro e w55 ⟨rfl, hb⟩; refine ⟨_, rfl, ?_⟩; have n0_ := Aside0.mk (Kd.R_below (rk_ HO_13.out) hb); have n1_ := Aside0.mk (Kd.R_below (rk_ HO_21.out) hb); have n2_ := bb_ BK219 hb; have n3_ := bb_ BK224 hb; have n4_ := Aside0.mk (IsS3.below (by repeat (first | (with_reducible first | exact HI2.out | apply IsS3.alloc | apply IsS3.drewN | apply IsS3.drew | apply IsS3.set_0 | refine IsS3.far ?_ NB2_219.out _ | refine IsS3.far ?_ NB2_224.out _) | exact HI2.out)) hb); have n5_ := Aside0.mk (KeepBut.trans (by repeat (first | (with_reducible first | exact HK.out | apply KeepBut.set_ | apply keep_drewN | apply keep_drew | apply keep_alloc | refine keep_far ?_ GW219.out _ | refine keep_far ?_ GW224.out _) | exact HK.out)) (KeepBut.of_below hb g none) (.inl rfl)); have n6_ := Aside0.mk (below_step (by repeat (first | (with_reducible first | exact HB.out | apply below_alloc | apply pw_below_drewN | apply below_drew1 | refine below_set ?_ (IsS3.ge HI2.out) | refine below_set ?_ GE219.out | refine below_set ?_ GE224.out) | exact HB.out)) hb); clear HO_13; clear HO_21; clear BK219; clear BK224; clear HI2; clear HK; clear HB; have HO_13 := n0_; have HO_21 := n1_; have BK219 := n2_; have BK224 := n3_; have HI2 := n4_; have HK := n5_; have HB := n6_; clear n0_ n1_ n2_ n3_ n4_ n5_ n6_; (try clear hb); (try clear hb2); (try clear hk); (try clear hi)) | ((with_reducible refine gate_via (s := 44) rfl ?_); refine goesD_ (some 46) rfl rfl (f := 82) Try.func82 (by kernel_rfl) rfl #[.int .i64 x10_3] #[.pointer (some ⟨g, 0, none⟩)] #[.int .i64 x10_3, .pointer (some ⟨g, 0, none⟩)] rfl rfl rfl (by (try simp only [List.map_toArray, List.map_cons, List.map_nil]); first | done | rfl) ?_; (with_reducible refine (impl_CountStraight_1.calls x10_3 g x3000_2 t231 w0 _ ?side1 ?side2 A51.out).mono ?_); (case side1 => repeat (first | (with_reducible first | exact HI2.out | apply IsS3.alloc | apply IsS3.drewN | apply IsS3.drew | apply IsS3.set_0 | refine IsS3.far ?_ NB2_219.out _ | refine IsS3.far ?_ NB2_224.out _) | exact HI2.out)); (case side2 => repeat (first | (with_reducible first | exact HB.out | apply below_alloc | apply pw_below_drewN | apply below_drew1 | refine below_set ?_ (IsS3.ge HI2.out) | refine below_set ?_ GE219.out | refine below_set ?_ GE224.out) | exact HB.out)); rintro e w56 ⟨rfl, hi, hb, hk⟩; refine ⟨_, rfl, ?_⟩; have n0_ := Aside0.mk (Kd.R_mono (Kd.R_keep (IsS3.apart (show IsS3 w0 _ g x3000_2 from by repeat (first | (with_reducible first | exact HI2.out | apply IsS3.alloc | apply IsS3.drewN | apply IsS3.drew | apply IsS3.set_0 | refine IsS3.far ?_ NB2_219.out _ | refine IsS3.far ?_ NB2_224.out _) | exact HI2.out)) (rk_ HO_13.out) (by decide)) hk (fun _ h => h.2)) (fun _ h => h.1)); have n1_ := Aside0.mk (Kd.R_mono (Kd.R_keep (IsS3.apart (show IsS3 w0 _ g x3000_2 from by repeat (first | (with_reducible first | exact HI2.out | apply IsS3.alloc | apply IsS3.drewN | apply IsS3.drew | apply IsS3.set_0 | refine IsS3.far ?_ NB2_219.out _ | refine IsS3.far ?_ NB2_224.out _) | exact HI2.out)) (rk_ HO_21.out) (by decide)) hk (fun _ h => h.2)) (fun _ h => h.1)); have n2_ := Aside0.mk (KeepBut.blk hk (g' := gb219) (o := .cells #[.int .i64 ((rd_T36 t215 x15_1).f0), .int .i64 ((rd_T36 t215 x15_1).f1)] 36 (0, 0)) (bk_ BK219.out) NB219_2.out (by simp)); have n3_ := Aside0.mk (KeepBut.blk hk (g' := gb224) (o := .cells #[.int .i64 x225000_3, .int .i64 x225001_3] 36 (0, 0)) (bk_ BK224.out) NB224_2.out (by simp)); have n4_ := Aside0.mk (KeepBut.trans (by repeat (first | (with_reducible first | exact HK.out | apply KeepBut.set_ | apply keep_drewN | apply keep_drew | apply keep_alloc | refine keep_far ?_ GW219.out _ | refine keep_far ?_ GW224.out _) | exact HK.out)) hk (.inl rfl)); have n5_ := Aside0.mk (hb); have n6_ := Aside0.mk (hi); clear HO_13; clear HO_21; clear BK219; clear BK224; clear HK; clear HB; clear HI2; have HO_13 := n0_; have HO_21 := n1_; have BK219 := n2_; have BK224 := n3_; have HK := n4_; have HB := n5_; have HI2 := n6_; clear n0_ n1_ n2_ n3_ n4_ n5_ n6_; (try clear hb); (try clear hb2); (try clear hk); (try clear hi)))
                go_roundg k3
                case measure => have := HK1.out; have := HK2.out; have := HK3.out; omega
                case rel => exact ⟨(wrap64 (x23_2 + 1)), (t231), (by first | rfl | (simp; done) | (simp [*]; done)), H', ⟨by have := HK1.out; have := HK2.out; have := HK3.out; omega⟩, ⟨by (with_reducible repeat (first | apply Kd.R_alloc | apply Kd.R_drewN | apply Kd.R_drew)); exact Kd.R_mono HO_13.out (fun _ hk => ⟨hk.1, hk.2.1⟩)⟩, ⟨by (with_reducible repeat (first | apply Kd.R_alloc | apply Kd.R_drewN | apply Kd.R_drew)); exact Kd.R_mono HO_21.out (fun _ hk => ⟨hk.1, hk.2.1⟩)⟩, ⟨bk_ BK219.out⟩, ⟨by repeat (first | (with_reducible first | exact HI2.out | apply IsS3.alloc | apply IsS3.drewN | apply IsS3.drew | apply IsS3.set_0 | refine IsS3.far ?_ NB2_219.out _ | refine IsS3.far ?_ NB2_224.out _) | exact HI2.out)⟩, ⟨by repeat (first | (with_reducible first | exact HK.out | apply KeepBut.set_ | apply keep_drewN | apply keep_drew | apply keep_alloc | refine keep_far ?_ GW219.out _ | refine keep_far ?_ GW224.out _) | exact HK.out)⟩, ⟨by repeat (first | (with_reducible first | exact HB.out | apply below_alloc | apply pw_below_drewN | apply below_drew1 | refine below_set ?_ (IsS3.ge HI2.out) | refine below_set ?_ GE219.out | refine below_set ?_ GE224.out) | exact HB.out)⟩⟩
               ·rw [if_neg c50] at H
                have c50b0 : decide (1 < x10_3) = false := decide_eq_false c50
                clear c50
                have H' := Aside0.mk H
                clear H
                have hnb57 := NB224_219.out
                have hnc57 := NB219_224.out
                have hnb58 := NB224_2.out
                have hnc58 := NB2_224.out
                have hcz59_0 : wr.cell? ⟨gb224, 0, none⟩ = some (.int .i64 x225000_3) := (blk_cell BK224.out 0).trans rfl
                have hcz59_1 : wr.cell? ⟨gb224, 1, none⟩ = some (.int .i64 x225001_3) := (blk_cell BK224.out 1).trans rfl
                have hfz59_0 := blk_frozen BK224.out 0
                have hfz59_1 := blk_frozen BK224.out 1
                go_wp2_with (first | ((with_reducible refine gate_callee (f := 95) rfl ?_); refine goesL_ (some 36) rfl rfl Try.func95 (by kernel_rfl) rfl #[.int .i64 a0, .int .i64 a1, .agg #[.int .i64 x225000_3, .int .i64 x225001_3]] rfl ga_ ?_; (with_reducible refine (impl_isOnBoard.calls a0 a1 x225000_3 x225001_3 false _ A38.out).mono ?_); rintro e w60 ⟨rfl, hb⟩; refine ⟨_, rfl, ?_⟩; have n0_ := Aside0.mk (Kd.R_below (rk_ HO_13.out) hb); have n1_ := Aside0.mk (Kd.R_below (rk_ HO_21.out) hb); have n2_ := bb_ BK219 hb; have n3_ := bb_ BK224 hb; have n4_ := Aside0.mk (IsS3.below (by repeat (first | (with_reducible first | exact HI2.out | apply IsS3.alloc | apply IsS3.drewN | apply IsS3.drew | apply IsS3.set_0 | refine IsS3.far ?_ NB2_219.out _ | refine IsS3.far ?_ NB2_224.out _) | exact HI2.out)) hb); have n5_ := Aside0.mk (KeepBut.trans (by repeat (first | (with_reducible first | exact HK.out | apply KeepBut.set_ | apply keep_drewN | apply keep_drew | apply keep_alloc | refine keep_far ?_ GW219.out _ | refine keep_far ?_ GW224.out _) | exact HK.out)) (KeepBut.of_below hb g none) (.inl rfl)); have n6_ := Aside0.mk (below_step (by repeat (first | (with_reducible first | exact HB.out | apply below_alloc | apply pw_below_drewN | apply below_drew1 | refine below_set ?_ (IsS3.ge HI2.out) | refine below_set ?_ GE219.out | refine below_set ?_ GE224.out) | exact HB.out)) hb); clear HO_13; clear HO_21; clear BK219; clear BK224; clear HI2; clear HK; clear HB; have HO_13 := n0_; have HO_21 := n1_; have BK219 := n2_; have BK224 := n3_; have HI2 := n4_; have HK := n5_; have HB := n6_; clear n0_ n1_ n2_ n3_ n4_ n5_ n6_; (try clear hb); (try clear hb2); (try clear hk); (try clear hi)))
                go_roundg k3
                case measure => have := HK1.out; have := HK2.out; have := HK3.out; omega
                case rel => exact ⟨(wrap64 (x23_2 + 1)), (x3000_2), (by first | rfl | (simp; done) | (simp [*]; done)), H', ⟨by have := HK1.out; have := HK2.out; have := HK3.out; omega⟩, ⟨by (with_reducible repeat (first | apply Kd.R_alloc | apply Kd.R_drewN | apply Kd.R_drew)); exact Kd.R_mono HO_13.out (fun _ hk => ⟨hk.1, hk.2.1⟩)⟩, ⟨by (with_reducible repeat (first | apply Kd.R_alloc | apply Kd.R_drewN | apply Kd.R_drew)); exact Kd.R_mono HO_21.out (fun _ hk => ⟨hk.1, hk.2.1⟩)⟩, ⟨bk_ BK219.out⟩, ⟨by repeat (first | (with_reducible first | exact HI2.out | apply IsS3.alloc | apply IsS3.drewN | apply IsS3.drew | apply IsS3.set_0 | refine IsS3.far ?_ NB2_219.out _ | refine IsS3.far ?_ NB2_224.out _) | exact HI2.out)⟩, ⟨by repeat (first | (with_reducible first | exact HK.out | apply KeepBut.set_ | apply keep_drewN | apply keep_drew | apply keep_alloc | refine keep_far ?_ GW219.out _ | refine keep_far ?_ GW224.out _) | exact HK.out)⟩, ⟨by repeat (first | (with_reducible first | exact HB.out | apply below_alloc | apply pw_below_drewN | apply below_drew1 | refine below_set ?_ (IsS3.ge HI2.out) | refine below_set ?_ GE219.out | refine below_set ?_ GE224.out) | exact HB.out)⟩⟩
          ·rw [if_neg c18] at H
           exact absurd H (by simp)
         ·rw [if_neg c17] at H
          exact absurd H (by simp)
        ·rw [if_neg c16] at H
         have c16b0 : decide (x23_2 < (t220.length : Int)) = false := decide_eq_false c16
         clear c16
         have H' := Aside0.mk H
         clear H
         go_wp2
         go_roundg k2
         case measure => have := HK1.out; have := HK2.out; omega
         case rel => exact ⟨(wrap64 (x15_1 + 1)), (x3000_2), (by first | rfl | (simp; done) | (simp [*]; done)), H', ⟨by have := HK1.out; have := HK2.out; omega⟩, ⟨by (with_reducible repeat (first | apply Kd.R_alloc | apply Kd.R_drewN | apply Kd.R_drew)); exact Kd.R_mono HO_13.out (fun _ hk => trivial)⟩, ⟨by repeat (first | (with_reducible first | exact HI2.out | apply IsS3.alloc | apply IsS3.drewN | apply IsS3.drew | apply IsS3.set_0 | refine IsS3.far ?_ NB2_219.out _) | exact HI2.out)⟩, ⟨by repeat (first | (with_reducible first | exact HK.out | apply KeepBut.set_ | apply keep_drewN | apply keep_drew | apply keep_alloc | refine keep_far ?_ GW219.out _) | exact HK.out)⟩, ⟨by repeat (first | (with_reducible first | exact HB.out | apply below_alloc | apply pw_below_drewN | apply below_drew1 | refine below_set ?_ (IsS3.ge HI2.out) | refine below_set ?_ GE219.out) | exact HB.out)⟩⟩
     ·rw [if_neg c9] at H
      exact absurd H (by simp)
    ·rw [if_neg c8] at H
     exact absurd H (by simp)
   ·rw [if_neg c7] at H
    have c7b0 : decide (x15_1 < (t215.length : Int)) = false := decide_eq_false c7
    clear c7
    obtain rfl := Option.some.inj H
    go_wp2
    first | go_end0 | ((try simp only [Exit.inBlock, Exit.then]); refine bodyPost_ret (results_none rfl _ _ _) rfl ?_)
    exact ⟨by first | rfl | (simp [errW_none, errW_some] <;> rfl) | (simp [*, errW_none, errW_some] <;> rfl), by repeat (first | (with_reducible first | exact HI2.out | apply IsS3.alloc | apply IsS3.drewN | apply IsS3.drew | apply IsS3.set_0) | exact HI2.out), by repeat (first | (with_reducible first | exact HB.out | apply below_alloc | apply pw_below_drewN | apply below_drew1 | refine below_set ?_ (IsS3.ge HI2.out)) | exact HB.out), by repeat (first | (with_reducible first | exact HK.out | apply KeepBut.set_ | apply keep_drewN | apply keep_drew | apply keep_alloc) | exact HK.out)⟩

end Go.Proofs.Ytmenfomcikfnmaa.MB
