-- Written by a program of this session (wip/print/myprint.py) over the kit's printer; Lean checks it.
import Derived.Test.YtmenfomcikfnmaaMBx0
import Derived.Test.YtmenfomcikfnmaaMBx2
import Derived.Test.YtmenfomcikfnmaaMBx3
import Derived.Test.YtmenfomcikfnmaaMBx4
namespace Go.Proofs.Ytmenfomcikfnmaa.MB
open Go.RowKit Go.Proofs.YtmenfomcikfnmaaW.PrintWords Go.Proofs.YtmenfomcikfnmaaW.PrintLast Go.Proofs.YtmenfomcikfnmaaW.PrintMore Go.Proofs.YtmenfomcikfnmaaV
attribute [local go_sem] max2_int min2_int max_two min_two max_three min_three max_four min_four   -- for this text's walks alone
set_option linter.unusedVariables false
set_option linter.unusedSimpArgs false

/-! ### impl_straight: function 81 -/
mutual
def impl_straight.l0 : Nat → Int → Int → List (S36) → Int → Int → Int → Option (Int)
 | 0, _, _, _, _, _, _ => none
 | k + 1, x0, x1, x13, x14, x15, x3000 => if x15 < x14 then (if 0 ≤ x15 then (if x15 < (x13.length : Int) then ((impl_board.f k x0 x1).bind fun t136 => (impl_straight.l1 k x0 x1 x13 x14 x15 t136 (t136.length : Int) 0 x3000 ((rd_T36 x13 x15).f0) ((rd_T36 x13 x15).f1))) else (none)) else (none)) else (some x3000)
def impl_straight.l1 : Nat → Int → Int → List (S36) → Int → Int → List (S36) → Int → Int → Int → Int → Int → Option (Int)
 | 0, _, _, _, _, _, _, _, _, _, _, _ => none
 | k + 1, x0, x1, x13, x14, x15, x21, x22, x23, x3000, x136000, x136001 => if x23 < x22 then (if 0 ≤ x23 then (if x23 < (x21.length : Int) then ((impl_Peg_less.f ((rd_T36 x21 x23).f0) ((rd_T36 x21 x23).f1) x136000 x136001).bind fun bt141 => ((impl_isOnBoard.f x0 x1 bt141.1 bt141.2).bind fun t143 => (if t143 = true then (impl_straight.l1 k x0 x1 x13 x14 x15 x21 x22 (wrap64 (x23 + 1)) x3000 x136000 x136001) else (impl_straight.l2 k x0 x1 0 x13 x14 x15 x21 x22 x23 x3000 x136000 x136001 ((rd_T36 x21 x23).f0) ((rd_T36 x21 x23).f1))))) else (none)) else (none)) else (impl_straight.l0 k x0 x1 x13 x14 (wrap64 (x15 + 1)) x3000)
def impl_straight.l2 : Nat → Int → Int → Int → List (S36) → Int → Int → List (S36) → Int → Int → Int → Int → Int → Int → Int → Option (Int)
 | 0, _, _, _, _, _, _, _, _, _, _, _, _, _, _ => none
 | k + 1, x0, x1, x10, x13, x14, x15, x21, x22, x23, x3000, x136000, x136001, x141000, x141001 => (impl_isOnBoard.f x0 x1 x141000 x141001).bind fun t144 => (if t144 = true then ((impl_Peg_plus.f x141000 x141001 x136000 x136001).bind fun bt145 => (impl_straight.l2 k x0 x1 (wrap64 (x10 + 1)) x13 x14 x15 x21 x22 x23 x3000 x136000 x136001 bt145.1 bt145.2)) else (if x10 > 1 then ((impl_inLine_1.f k x10 x3000).bind fun t147 => (impl_straight.l1 k x0 x1 x13 x14 x15 x21 x22 (wrap64 (x23 + 1)) t147 x136000 x136001)) else (impl_straight.l1 k x0 x1 x13 x14 x15 x21 x22 (wrap64 (x23 + 1)) x3000 x136000 x136001)))
end
def impl_straight.f (k : Nat) (a0 : Int) (a1 : Int) (s2_0 : Int) : Option (Int) := (impl_slopes.f k a0 a1).bind fun t131 => (impl_straight.l0 k a0 a1 t131 (t131.length : Int) 0 s2_0)
theorem impl_straight.mono_l : ∀ k, (∀ y0 y1 y2 y3 y4 y5, LeO (impl_straight.l0 k y0 y1 y2 y3 y4 y5) (impl_straight.l0 (k + 1) y0 y1 y2 y3 y4 y5)) ∧ (∀ y0 y1 y2 y3 y4 y5 y6 y7 y8 y9 y10, LeO (impl_straight.l1 k y0 y1 y2 y3 y4 y5 y6 y7 y8 y9 y10) (impl_straight.l1 (k + 1) y0 y1 y2 y3 y4 y5 y6 y7 y8 y9 y10)) ∧ (∀ y0 y1 y2 y3 y4 y5 y6 y7 y8 y9 y10 y11 y12 y13, LeO (impl_straight.l2 k y0 y1 y2 y3 y4 y5 y6 y7 y8 y9 y10 y11 y12 y13) (impl_straight.l2 (k + 1) y0 y1 y2 y3 y4 y5 y6 y7 y8 y9 y10 y11 y12 y13))
 | 0 => ⟨fun _ _ _ _ _ _ r h => by simp [impl_straight.l0] at h, fun _ _ _ _ _ _ _ _ _ _ _ r h => by simp [impl_straight.l1] at h, fun _ _ _ _ _ _ _ _ _ _ _ _ _ _ r h => by simp [impl_straight.l2] at h⟩
 | k + 1 => by
  obtain ⟨ih0, ih1, ih2⟩ := impl_straight.mono_l k
  refine ⟨?_, ?_, ?_⟩
  ·intro y0 y1 y2 y3 y4 y5
   unfold impl_straight.l0
   repeat' first
   | (with_reducible exact ih0 _ _ _ _ _ _)
   | (with_reducible exact ih1 _ _ _ _ _ _ _ _ _ _ _)
   | (with_reducible exact ih2 _ _ _ _ _ _ _ _ _ _ _ _ _ _)
   | (with_reducible exact impl_board.mono _ _ _)
   | (with_reducible exact impl_inLine_1.mono _ _ _)
   | (with_reducible exact impl_slopes.mono _ _ _)
   | (with_reducible exact LeO.refl _)
   | (with_reducible exact LeO.none _)
   | (with_reducible refine LeO.ite ?_ ?_)
   | (with_reducible refine LeO.bind ?_ (fun _ => ?_))
   | exact ih0 _ _ _ _ _ _
   | exact ih1 _ _ _ _ _ _ _ _ _ _ _
   | exact ih2 _ _ _ _ _ _ _ _ _ _ _ _ _ _
   | exact impl_board.mono _ _ _
   | exact impl_inLine_1.mono _ _ _
   | exact impl_slopes.mono _ _ _
   | exact LeO.none _
   | refine LeO.ite ?_ ?_
   | refine LeO.bind ?_ (fun _ => ?_)
  ·intro y0 y1 y2 y3 y4 y5 y6 y7 y8 y9 y10
   unfold impl_straight.l1
   repeat' first
   | (with_reducible exact ih0 _ _ _ _ _ _)
   | (with_reducible exact ih1 _ _ _ _ _ _ _ _ _ _ _)
   | (with_reducible exact ih2 _ _ _ _ _ _ _ _ _ _ _ _ _ _)
   | (with_reducible exact impl_board.mono _ _ _)
   | (with_reducible exact impl_inLine_1.mono _ _ _)
   | (with_reducible exact impl_slopes.mono _ _ _)
   | (with_reducible exact LeO.refl _)
   | (with_reducible exact LeO.none _)
   | (with_reducible refine LeO.ite ?_ ?_)
   | (with_reducible refine LeO.bind ?_ (fun _ => ?_))
   | exact ih0 _ _ _ _ _ _
   | exact ih1 _ _ _ _ _ _ _ _ _ _ _
   | exact ih2 _ _ _ _ _ _ _ _ _ _ _ _ _ _
   | exact impl_board.mono _ _ _
   | exact impl_inLine_1.mono _ _ _
   | exact impl_slopes.mono _ _ _
   | exact LeO.none _
   | refine LeO.ite ?_ ?_
   | refine LeO.bind ?_ (fun _ => ?_)
  ·intro y0 y1 y2 y3 y4 y5 y6 y7 y8 y9 y10 y11 y12 y13
   unfold impl_straight.l2
   repeat' first
   | (with_reducible exact ih0 _ _ _ _ _ _)
   | (with_reducible exact ih1 _ _ _ _ _ _ _ _ _ _ _)
   | (with_reducible exact ih2 _ _ _ _ _ _ _ _ _ _ _ _ _ _)
   | (with_reducible exact impl_board.mono _ _ _)
   | (with_reducible exact impl_inLine_1.mono _ _ _)
   | (with_reducible exact impl_slopes.mono _ _ _)
   | (with_reducible exact LeO.refl _)
   | (with_reducible exact LeO.none _)
   | (with_reducible refine LeO.ite ?_ ?_)
   | (with_reducible refine LeO.bind ?_ (fun _ => ?_))
   | exact ih0 _ _ _ _ _ _
   | exact ih1 _ _ _ _ _ _ _ _ _ _ _
   | exact ih2 _ _ _ _ _ _ _ _ _ _ _ _ _ _
   | exact impl_board.mono _ _ _
   | exact impl_inLine_1.mono _ _ _
   | exact impl_slopes.mono _ _ _
   | exact LeO.none _
   | refine LeO.ite ?_ ?_
   | refine LeO.bind ?_ (fun _ => ?_)
theorem impl_straight.mono : ∀ a0 a1 a2 k, LeO (impl_straight.f k a0 a1 a2) (impl_straight.f (k + 1) a0 a1 a2) := by
 intro a0 a1 a2 k
 obtain ⟨ih0, ih1, ih2⟩ := impl_straight.mono_l k
 unfold impl_straight.f
 repeat' first
   | (with_reducible exact ih0 _ _ _ _ _ _)
   | (with_reducible exact ih1 _ _ _ _ _ _ _ _ _ _ _)
   | (with_reducible exact ih2 _ _ _ _ _ _ _ _ _ _ _ _ _ _)
   | (with_reducible exact impl_board.mono _ _ _)
   | (with_reducible exact impl_inLine_1.mono _ _ _)
   | (with_reducible exact impl_slopes.mono _ _ _)
   | (with_reducible exact LeO.refl _)
   | (with_reducible exact LeO.none _)
   | (with_reducible refine LeO.ite ?_ ?_)
   | (with_reducible refine LeO.bind ?_ (fun _ => ?_))
   | exact ih0 _ _ _ _ _ _
   | exact ih1 _ _ _ _ _ _ _ _ _ _ _
   | exact ih2 _ _ _ _ _ _ _ _ _ _ _ _ _ _
   | exact impl_board.mono _ _ _
   | exact impl_inLine_1.mono _ _ _
   | exact impl_slopes.mono _ _ _
   | exact LeO.none _
   | refine LeO.ite ?_ ?_
   | refine LeO.bind ?_ (fun _ => ?_)
set_option maxHeartbeats 8000000 in
set_option maxRecDepth 100000 in
theorem impl_straight.calls (k : Nat) (a0 : Int) (a1 : Int) (g : Nat) (s2_0 : Int) (r : Int) (w0 w : World) (hI : IsS3 w0 w g s2_0) (hB : Below w0.heap.size w0 w) (h : impl_straight.f k a0 a1 s2_0 = some r) :
  Calls Try.prog 81 #[.int .i64 a0, .int .i64 a1, .func (.func 100) #[] #[.pointer (some ⟨g, 0, none⟩)]] w fun e w' => e = .returned (.tuple #[]) ∧ IsS3 w0 w' g r ∧ Below w0.heap.size w0 w' ∧ KeepBut w w' g none := by
 have hu36 := Try.underlying36
 have HI2 := Aside0.mk hI
 have HK := Aside0.mk (KeepBut.refl w g none)
 have HL := Aside0.mk hB.size
 clear hI
 have HW0 := Aside0.mk hB.size
 have HB := Aside0.mk hB
 clear hB
 have H : ((impl_slopes.f k a0 a1).bind fun t131 => (impl_straight.l0 k a0 a1 t131 (t131.length : Int) 0 s2_0)) = some r := h
 clear h
 replace H := Option.bind_eq_some_iff.mp H
 obtain ⟨t131, A40, H⟩ := H
 replace H : (impl_straight.l0 k a0 a1 t131 (t131.length : Int) 0 s2_0) = some r := H
 have A4 := Aside0.mk A40
 clear A40
 have H' := Aside0.mk H
 clear H
 go_enter Try.func81, Try.ntmps81
 go_wp2_with (first | ((with_reducible refine gate_callee (f := 79) rfl ?_); refine goesL_ (some 13) rfl rfl Try.func79 (by kernel_rfl) rfl #[.int .i64 a0, .int .i64 a1] rfl ga_ ?_; (with_reducible refine (impl_slopes.calls k a0 a1 t131 _ A4.out).mono ?_); rintro e w5 ⟨v132, rfl, ho0, hb⟩; refine ⟨_, rfl, ?_⟩; have n0_ := Aside0.mk (Kd.R_lower ho0 (keep_size (w := w) (g := g) (row := none) (by repeat (first | (with_reducible first | exact HK.out | apply KeepBut.set_ | apply keep_drewN | apply keep_drew | apply keep_alloc) | exact HK.out)))); have n1_ := Aside0.mk (IsS3.below (by repeat (first | (with_reducible first | exact HI2.out | apply IsS3.alloc | apply IsS3.drewN | apply IsS3.drew | apply IsS3.set_0) | exact HI2.out)) hb); have n2_ := Aside0.mk (KeepBut.trans (by repeat (first | (with_reducible first | exact HK.out | apply KeepBut.set_ | apply keep_drewN | apply keep_drew | apply keep_alloc) | exact HK.out)) (KeepBut.of_below hb g none) (.inl rfl)); have n3_ := Aside0.mk (below_step (by repeat (first | (with_reducible first | exact HB.out | apply below_alloc | apply pw_below_drewN | apply below_drew1 | refine below_set ?_ (IsS3.ge HI2.out)) | exact HB.out)) hb); clear HI2; clear HK; clear HB; have HO133 := n0_; have HI2 := n1_; have HK := n2_; have HB := n3_; clear n0_ n1_ n2_ n3_; (try clear hb); (try clear hb2); (try clear hk); (try clear hi); (try clear ho0); obtain ⟨Ao6, co6, eo6⟩ := Kd.R_slice HO133.out; subst eo6))
 go_loopg [15] k (fun kq v15 w' => ∃ (x15_1 : Int) (x3000_1 : Int), v15 = .int .i64 x15_1 ∧ Aside0 (impl_straight.l0 kq a0 a1 t131 (t131.length : Int) x15_1 x3000_1 = some r) ∧ Aside0 (kq ≤ k) ∧ Aside0 (Kd.R k36 36 w' w.heap.size (fun _ => True) (.slice Ao6 t131.length co6) t131) ∧ Aside0 (IsS3 w0 w' g x3000_1) ∧ Aside0 (KeepBut w w' g none) ∧ Aside0 (Below w0.heap.size w0 w'))
 case atStart => exact ⟨(0), (s2_0), (by first | rfl | (simp; done) | (simp [*]; done)), H', ⟨Nat.le_refl _⟩, ⟨rk_ HO133.out⟩, ⟨by repeat (first | (with_reducible first | exact HI2.out | apply IsS3.alloc | apply IsS3.drewN | apply IsS3.drew | apply IsS3.set_0) | exact HI2.out)⟩, ⟨by repeat (first | (with_reducible first | exact HK.out | apply KeepBut.set_ | apply keep_drewN | apply keep_drew | apply keep_alloc) | exact HK.out)⟩, ⟨by repeat (first | (with_reducible first | exact HB.out | apply below_alloc | apply pw_below_drewN | apply below_drew1 | refine below_set ?_ (IsS3.ge HI2.out)) | exact HB.out)⟩⟩
 case round =>
  clear H'
  try clear p2
  obtain ⟨x15_1, x3000_1, rfl, HA, HK1, HO_13, HI2, HK, HB⟩ := hrel
  cases gk with
  | zero => exact absurd HA.out (by simp [impl_straight.l0])
  | succ k1 =>
   have H := HA.out
   clear HA
   simp only [impl_straight.l0] at H
   by_cases c7 : x15_1 < (t131.length : Int)
   ·rw [if_pos c7] at H
    have c7b0 : decide (x15_1 < (t131.length : Int)) = true := decide_eq_true c7
    clear c7
    by_cases c8 : 0 ≤ x15_1
    ·rw [if_pos c8] at H
     have c8b0 : decide (0 ≤ x15_1) = true := decide_eq_true c8
     clear c8
     by_cases c9 : x15_1 < (t131.length : Int)
     ·rw [if_pos c9] at H
      have c9b0 : decide (x15_1 < (t131.length : Int)) = true := decide_eq_true c9
      clear c9
      replace H := Option.bind_eq_some_iff.mp H
      obtain ⟨t136, A100, H⟩ := H
      replace H : (impl_straight.l1 k1 a0 a1 t131 (t131.length : Int) x15_1 t136 (t136.length : Int) 0 x3000_1 ((rd_T36 t131 x15_1).f0) ((rd_T36 t131 x15_1).f1)) = some r := H
      have A10 := Aside0.mk A100
      clear A100
      have H' := Aside0.mk H
      clear H
      have p134 : 0 ≤ (x15_1 : Int) := odt_
      have q134 : x15_1 < (t131.length : Int) := odt_
      obtain ⟨ad134, e134, hx134_0, hx134_1⟩ := at_T36 (Kd.R_reads' HO_13.out).2.2 x15_1 p134 q134
      cases e134
      replace p134 := eq_true p134
      replace q134 := eq_true q134
      go_wp2_with (first | ((with_reducible refine gate_dst (N := 7) rfl ?_); refine box_event ?hg (N := 7) ?hd (cs := #[.int .i64 0, .int .i64 0]) (t := 36) ?hr ?_; (case hd => rfl); (case hg => rfl); (case hr => first | (go_simp; done) | (go_simp; rfl)); intro gb135 hg w11 hbox hb; have n0_ := Aside0.mk (Kd.R_below (Kd.R_elderB (rk_ HO_13.out) gb135 (Nat.le_of_eq hg.symm)) hb); have n1_ := Aside0.mk (IsS3.below (by repeat (first | (with_reducible first | exact HI2.out | apply IsS3.alloc | apply IsS3.drewN | apply IsS3.drew | apply IsS3.set_0) | exact HI2.out)) hb); have n2_ := Aside0.mk (KeepBut.trans (by repeat (first | (with_reducible first | exact HK.out | apply KeepBut.set_ | apply keep_drewN | apply keep_drew | apply keep_alloc) | exact HK.out)) (KeepBut.of_below hb g none) (.inl rfl)); have n3_ := Aside0.mk (below_step (by repeat (first | (with_reducible first | exact HB.out | apply below_alloc | apply pw_below_drewN | apply below_drew1 | refine below_set ?_ (IsS3.ge HI2.out)) | exact HB.out)) hb); have n4_ := Aside0.mk (hbox); have n5_ := Aside0.mk ((by rw [hg]; exact (keep_size (w := w) (g := g) (row := none) (by repeat (first | (with_reducible first | exact HK.out | apply KeepBut.set_ | apply keep_drewN | apply keep_drew | apply keep_alloc) | exact HK.out))) : w.heap.size ≤ gb135)); have n6_ := Aside0.mk ((Nat.le_trans HW0.out (by rw [hg]; exact (keep_size (w := w) (g := g) (row := none) (by repeat (first | (with_reducible first | exact HK.out | apply KeepBut.set_ | apply keep_drewN | apply keep_drew | apply keep_alloc) | exact HK.out))) : w.heap.size ≤ gb135) : w0.heap.size ≤ gb135)); have n7_ := Aside0.mk ((by rw [hg]; exact Nat.ne_of_lt (IsS3.lt (show IsS3 w0 _ g x3000_1 from by repeat (first | (with_reducible first | exact HI2.out | apply IsS3.alloc | apply IsS3.drewN | apply IsS3.drew | apply IsS3.set_0) | exact HI2.out))) : g ≠ gb135)); have n8_ := Aside0.mk ((by rw [hg]; exact Nat.ne_of_gt (IsS3.lt (show IsS3 w0 _ g x3000_1 from by repeat (first | (with_reducible first | exact HI2.out | apply IsS3.alloc | apply IsS3.drewN | apply IsS3.drew | apply IsS3.set_0) | exact HI2.out))) : gb135 ≠ g)); clear HO_13; clear HI2; clear HK; clear HB; have HO_13 := n0_; have HI2 := n1_; have HK := n2_; have HB := n3_; have BK135 := n4_; have GW135 := n5_; have GE135 := n6_; have NB2_135 := n7_; have NB135_2 := n8_; clear n0_ n1_ n2_ n3_ n4_ n5_ n6_ n7_ n8_; clear hb hbox hg; have hnb12 := NB135_2.out; have hnc12 := NB2_135.out; have hcz13_0 : w11.cell? ⟨gb135, 0, none⟩ = some (.int .i64 0) := (blk_cell BK135.out 0).trans rfl; have hcz13_1 : w11.cell? ⟨gb135, 1, none⟩ = some (.int .i64 0) := (blk_cell BK135.out 1).trans rfl; have hfz13_0 := blk_frozen BK135.out 0; have hfz13_1 := blk_frozen BK135.out 1) | ((with_reducible refine gate_callee (f := 52) rfl ?_); refine goesL_ (some 21) rfl rfl Try.func52 (by kernel_rfl) rfl #[.int .i64 a0, .int .i64 a1] rfl ga_ ?_; (with_reducible refine (impl_board.calls k1 a0 a1 t136 _ A10.out).mono ?_); rintro e w14 ⟨v137, rfl, ho0, hb⟩; refine ⟨_, rfl, ?_⟩; have n0_ := Aside0.mk (Kd.R_elder' (by (with_reducible repeat (first | apply Kd.R_alloc | apply Kd.R_drewN | apply Kd.R_drew)); exact (Kd.R_mono (Kd.R_far (p := ⟨gb135, 1, none⟩) (Kd.R_far (p := ⟨gb135, 0, none⟩) (Kd.R_mono HO_13.out (fun k_ hk => (⟨hk, hk.2⟩ : _ ∧ k_ ≠ gb135))) (fun _ hk => hk.2) (.int .i64 ((rd_T36 t131 x15_1).f0))) (fun _ hk => hk.2) (.int .i64 ((rd_T36 t131 x15_1).f1))) (fun _ h_ => h_.1))) (Kd.R_base ho0) hb); have n1_ := Aside0.mk (Kd.R_lower (Kd.R_newB (Kd.R_new' ho0 (Kd.R_lt (by (with_reducible repeat (first | apply Kd.R_alloc | apply Kd.R_drewN | apply Kd.R_drew)); exact (Kd.R_mono (Kd.R_far (p := ⟨gb135, 1, none⟩) (Kd.R_far (p := ⟨gb135, 0, none⟩) (Kd.R_mono HO_13.out (fun k_ hk => (⟨hk, hk.2⟩ : _ ∧ k_ ≠ gb135))) (fun _ hk => hk.2) (.int .i64 ((rd_T36 t131 x15_1).f0))) (fun _ hk => hk.2) (.int .i64 ((rd_T36 t131 x15_1).f1))) (fun _ h_ => h_.1))))) (g := gb135) (o := .cells #[.int .i64 ((rd_T36 t131 x15_1).f0), .int .i64 ((rd_T36 t131 x15_1).f1)] 36 (0, 0)) (by (with_reducible repeat (first | refine blk_drewN ?_ _ | refine blk_drew ?_ | refine blk_alloc ?_ _)); refine blk_put (cs := #[.int .i64 ((rd_T36 t131 x15_1).f0), .int .i64 0]) ?_ 1 _ rfl; (with_reducible repeat (first | refine blk_drewN ?_ _ | refine blk_drew ?_ | refine blk_alloc ?_ _)); refine blk_put (cs := #[.int .i64 0, .int .i64 0]) ?_ 0 _ rfl; (with_reducible repeat (first | refine blk_drewN ?_ _ | refine blk_drew ?_ | refine blk_alloc ?_ _)); exact BK135.out)) (keep_size (w := w) (g := g) (row := none) (by repeat (first | (with_reducible first | exact HK.out | apply KeepBut.set_ | apply keep_drewN | apply keep_drew | apply keep_alloc | refine keep_far ?_ GW135.out _) | exact HK.out)))); have n2_ := Aside0.mk (IsS3.below (show IsS3 w0 ((w11.setCell ⟨gb135, 0, none⟩ (.int .i64 ((rd_T36 t131 x15_1).f0))).setCell ⟨gb135, 1, none⟩ (.int .i64 ((rd_T36 t131 x15_1).f1))) g x3000_1 from by repeat (first | (with_reducible first | exact HI2.out | apply IsS3.alloc | apply IsS3.drewN | apply IsS3.drew | apply IsS3.set_0 | refine IsS3.far ?_ NB2_135.out _) | exact HI2.out)) hb); have n3_ := Aside0.mk (blk_below (g := gb135) (o := .cells #[.int .i64 ((rd_T36 t131 x15_1).f0), .int .i64 ((rd_T36 t131 x15_1).f1)] 36 (0, 0)) (by (with_reducible repeat (first | refine blk_drewN ?_ _ | refine blk_drew ?_ | refine blk_alloc ?_ _)); refine blk_put (cs := #[.int .i64 ((rd_T36 t131 x15_1).f0), .int .i64 0]) ?_ 1 _ rfl; (with_reducible repeat (first | refine blk_drewN ?_ _ | refine blk_drew ?_ | refine blk_alloc ?_ _)); refine blk_put (cs := #[.int .i64 0, .int .i64 0]) ?_ 0 _ rfl; (with_reducible repeat (first | refine blk_drewN ?_ _ | refine blk_drew ?_ | refine blk_alloc ?_ _)); exact BK135.out) hb); have n4_ := Aside0.mk (KeepBut.trans (by repeat (first | (with_reducible first | exact HK.out | apply KeepBut.set_ | apply keep_drewN | apply keep_drew | apply keep_alloc | refine keep_far ?_ GW135.out _) | exact HK.out)) (KeepBut.of_below hb g none) (.inl rfl)); have n5_ := Aside0.mk (below_step (by repeat (first | (with_reducible first | exact HB.out | apply below_alloc | apply pw_below_drewN | apply below_drew1 | refine below_set ?_ (IsS3.ge HI2.out) | refine below_set ?_ GE135.out) | exact HB.out)) hb); clear HO_13; clear HI2; clear BK135; clear HK; clear HB; have HO_13 := n0_; have HO138 := n1_; have HI2 := n2_; have BK135 := n3_; have HK := n4_; have HB := n5_; clear n0_ n1_ n2_ n3_ n4_ n5_; (try clear hb); (try clear hb2); (try clear hk); (try clear hi); (try clear ho0); obtain ⟨Ao15, co15, eo15⟩ := Kd.R_slice HO138.out; subst eo15))
      go_loopg [23] k1 (fun kq v23 w' => ∃ (x23_2 : Int) (x3000_2 : Int), v23 = .int .i64 x23_2 ∧ Aside0 (impl_straight.l1 kq a0 a1 t131 (t131.length : Int) x15_1 t136 (t136.length : Int) x23_2 x3000_2 ((rd_T36 t131 x15_1).f0) ((rd_T36 t131 x15_1).f1) = some r) ∧ Aside0 (kq ≤ k1) ∧ Aside0 (Kd.R k36 36 w' w.heap.size (fun k_ => some k_ ≠ ((.slice Ao15 t136.length co15) : Value).ownBlock ∧ k_ ≠ gb135) (.slice (some ad134) t131.length co6) t131) ∧ Aside0 (Kd.R k36 36 w' w.heap.size (fun k_ => some k_ ≠ ((.slice (some ad134) t131.length co6) : Value).ownBlock ∧ k_ ≠ gb135) (.slice Ao15 t136.length co15) t136) ∧ Aside0 (w'.heap[gb135]? = some (.cells #[.int .i64 ((rd_T36 t131 x15_1).f0), .int .i64 ((rd_T36 t131 x15_1).f1)] 36 (0, 0))) ∧ Aside0 (IsS3 w0 w' g x3000_2) ∧ Aside0 (KeepBut w w' g none) ∧ Aside0 (Below w0.heap.size w0 w'))
      case atStart => exact ⟨(0), (x3000_1), (by first | rfl | (simp; done) | (simp [*]; done)), H', ⟨Nat.le_refl _⟩, ⟨by (with_reducible repeat (first | apply Kd.R_alloc | apply Kd.R_drewN | apply Kd.R_drew)); exact Kd.R_mono HO_13.out (fun _ hk => ⟨hk.2, hk.1.2⟩)⟩, ⟨by (with_reducible repeat (first | apply Kd.R_alloc | apply Kd.R_drewN | apply Kd.R_drew)); exact Kd.R_mono HO138.out (fun _ hk => ⟨hk.1.2, hk.2⟩)⟩, ⟨bk_ BK135.out⟩, ⟨by repeat (first | (with_reducible first | exact HI2.out | apply IsS3.alloc | apply IsS3.drewN | apply IsS3.drew | apply IsS3.set_0 | refine IsS3.far ?_ NB2_135.out _) | exact HI2.out)⟩, ⟨by repeat (first | (with_reducible first | exact HK.out | apply KeepBut.set_ | apply keep_drewN | apply keep_drew | apply keep_alloc | refine keep_far ?_ GW135.out _) | exact HK.out)⟩, ⟨by repeat (first | (with_reducible first | exact HB.out | apply below_alloc | apply pw_below_drewN | apply below_drew1 | refine below_set ?_ (IsS3.ge HI2.out) | refine below_set ?_ GE135.out) | exact HB.out)⟩⟩
      case round =>
       clear H'
       try clear c1; try clear p1; try clear q1; try clear hx1; try clear p2; try clear c5; try clear c7; try clear c7b0; try clear c8; try clear c8b0; try clear c9; try clear c9b0; try clear c12; try clear p13; try clear q13; try clear hx13; try clear hcz13_0; try clear hcz13_1; try clear hfz13_0; try clear hfz13_1; try clear hx134_0; try clear hx134_1; try clear p134; try clear p2; try clear q134
       obtain ⟨x23_2, x3000_2, rfl, HA, HK2, HO_13, HO_21, BK135, HI2, HK, HB⟩ := hrel
       cases gk with
       | zero => exact absurd HA.out (by simp [impl_straight.l1])
       | succ k2 =>
        have H := HA.out
        clear HA
        simp only [impl_straight.l1] at H
        by_cases c16 : x23_2 < (t136.length : Int)
        ·rw [if_pos c16] at H
         have c16b0 : decide (x23_2 < (t136.length : Int)) = true := decide_eq_true c16
         clear c16
         by_cases c17 : 0 ≤ x23_2
         ·rw [if_pos c17] at H
          have c17b0 : decide (0 ≤ x23_2) = true := decide_eq_true c17
          clear c17
          by_cases c18 : x23_2 < (t136.length : Int)
          ·rw [if_pos c18] at H
           have c18b0 : decide (x23_2 < (t136.length : Int)) = true := decide_eq_true c18
           clear c18
           replace H := Option.bind_eq_some_iff.mp H
           obtain ⟨⟨t141, t142⟩, A190, H⟩ := H
           replace H : ((impl_isOnBoard.f a0 a1 t141 t142).bind fun t143 => (if t143 = true then (impl_straight.l1 k2 a0 a1 t131 (t131.length : Int) x15_1 t136 (t136.length : Int) (wrap64 (x23_2 + 1)) x3000_2 ((rd_T36 t131 x15_1).f0) ((rd_T36 t131 x15_1).f1)) else (impl_straight.l2 k2 a0 a1 0 t131 (t131.length : Int) x15_1 t136 (t136.length : Int) x23_2 x3000_2 ((rd_T36 t131 x15_1).f0) ((rd_T36 t131 x15_1).f1) ((rd_T36 t136 x23_2).f0) ((rd_T36 t136 x23_2).f1)))) = some r := H
           have A19 := Aside0.mk A190
           clear A190
           replace H := Option.bind_eq_some_iff.mp H
           obtain ⟨t143, A200, H⟩ := H
           replace H : (if t143 = true then (impl_straight.l1 k2 a0 a1 t131 (t131.length : Int) x15_1 t136 (t136.length : Int) (wrap64 (x23_2 + 1)) x3000_2 ((rd_T36 t131 x15_1).f0) ((rd_T36 t131 x15_1).f1)) else (impl_straight.l2 k2 a0 a1 0 t131 (t131.length : Int) x15_1 t136 (t136.length : Int) x23_2 x3000_2 ((rd_T36 t131 x15_1).f0) ((rd_T36 t131 x15_1).f1) ((rd_T36 t136 x23_2).f0) ((rd_T36 t136 x23_2).f1))) = some r := H
           have A20 := Aside0.mk A200
           clear A200
           by_cases c21 : t143 = true
           ·subst c21
            have H1 : (impl_straight.l1 k2 a0 a1 t131 (t131.length : Int) x15_1 t136 (t136.length : Int) (wrap64 (x23_2 + 1)) x3000_2 ((rd_T36 t131 x15_1).f0) ((rd_T36 t131 x15_1).f1)) = some r := by rw [if_pos rfl] at H; exact H
            clear H
            have H := H1
            clear H1
            have H' := Aside0.mk H
            clear H
            have p139 : 0 ≤ (x23_2 : Int) := odt_
            have q139 : x23_2 < (t136.length : Int) := odt_
            obtain ⟨ad139, e139, hx139_0, hx139_1⟩ := at_T36 (Kd.R_reads' HO_21.out).2.2 x23_2 p139 q139
            cases e139
            replace p139 := eq_true p139
            replace q139 := eq_true q139
            go_wp2_with (first | ((with_reducible refine gate_dst (N := 9) rfl ?_); refine box_event ?hg (N := 9) ?hd (cs := #[.int .i64 0, .int .i64 0]) (t := 36) ?hr ?_; (case hd => rfl); (case hg => rfl); (case hr => first | (go_simp; done) | (go_simp; rfl)); intro gb140 hg w22 hbox hb; have n0_ := Aside0.mk (Kd.R_below (Kd.R_elderB (rk_ HO_13.out) gb140 (Nat.le_of_eq hg.symm)) hb); have n1_ := Aside0.mk (Kd.R_below (Kd.R_elderB (rk_ HO_21.out) gb140 (Nat.le_of_eq hg.symm)) hb); have n2_ := bb_ BK135 hb; have n3_ := Aside0.mk (IsS3.below (by repeat (first | (with_reducible first | exact HI2.out | apply IsS3.alloc | apply IsS3.drewN | apply IsS3.drew | apply IsS3.set_0 | refine IsS3.far ?_ NB2_135.out _) | exact HI2.out)) hb); have n4_ := Aside0.mk (KeepBut.trans (by repeat (first | (with_reducible first | exact HK.out | apply KeepBut.set_ | apply keep_drewN | apply keep_drew | apply keep_alloc | refine keep_far ?_ GW135.out _) | exact HK.out)) (KeepBut.of_below hb g none) (.inl rfl)); have n5_ := Aside0.mk (below_step (by repeat (first | (with_reducible first | exact HB.out | apply below_alloc | apply pw_below_drewN | apply below_drew1 | refine below_set ?_ (IsS3.ge HI2.out) | refine below_set ?_ GE135.out) | exact HB.out)) hb); have n6_ := Aside0.mk (hbox); have n7_ := Aside0.mk ((by rw [hg]; exact (keep_size (w := w) (g := g) (row := none) (by repeat (first | (with_reducible first | exact HK.out | apply KeepBut.set_ | apply keep_drewN | apply keep_drew | apply keep_alloc | refine keep_far ?_ GW135.out _) | exact HK.out))) : w.heap.size ≤ gb140)); have n8_ := Aside0.mk ((Nat.le_trans HW0.out (by rw [hg]; exact (keep_size (w := w) (g := g) (row := none) (by repeat (first | (with_reducible first | exact HK.out | apply KeepBut.set_ | apply keep_drewN | apply keep_drew | apply keep_alloc | refine keep_far ?_ GW135.out _) | exact HK.out))) : w.heap.size ≤ gb140) : w0.heap.size ≤ gb140)); have n9_ := Aside0.mk ((by rw [hg]; exact Nat.ne_of_lt (blk_lt (bk_ BK135.out)) : gb135 ≠ gb140)); have n10_ := Aside0.mk ((by rw [hg]; exact Nat.ne_of_gt (blk_lt (bk_ BK135.out)) : gb140 ≠ gb135)); have n11_ := Aside0.mk ((by rw [hg]; exact Nat.ne_of_lt (IsS3.lt (show IsS3 w0 _ g x3000_2 from by repeat (first | (with_reducible first | exact HI2.out | apply IsS3.alloc | apply IsS3.drewN | apply IsS3.drew | apply IsS3.set_0 | refine IsS3.far ?_ NB2_135.out _) | exact HI2.out))) : g ≠ gb140)); have n12_ := Aside0.mk ((by rw [hg]; exact Nat.ne_of_gt (IsS3.lt (show IsS3 w0 _ g x3000_2 from by repeat (first | (with_reducible first | exact HI2.out | apply IsS3.alloc | apply IsS3.drewN | apply IsS3.drew | apply IsS3.set_0 | refine IsS3.far ?_ NB2_135.out _) | exact HI2.out))) : gb140 ≠ g)); clear HO_13; clear HO_21; clear BK135; clear HI2; clear HK; clear HB; have HO_13 := n0_; have HO_21 := n1_; have BK135 := n2_; have HI2 := n3_; have HK := n4_; have HB := n5_; have BK140 := n6_; have GW140 := n7_; have GE140 := n8_; have NB135_140 := n9_; have NB140_135 := n10_; have NB2_140 := n11_; have NB140_2 := n12_; clear n0_ n1_ n2_ n3_ n4_ n5_ n6_ n7_ n8_ n9_ n10_ n11_ n12_; clear hb hbox hg; have hnb23 := NB140_135.out; have hnc23 := NB135_140.out; have hnb24 := NB140_2.out; have hnc24 := NB2_140.out; have hcz25_0 : w22.cell? ⟨gb140, 0, none⟩ = some (.int .i64 0) := (blk_cell BK140.out 0).trans rfl; have hcz25_1 : w22.cell? ⟨gb140, 1, none⟩ = some (.int .i64 0) := (blk_cell BK140.out 1).trans rfl; have hfz25_0 := blk_frozen BK140.out 0; have hfz25_1 := blk_frozen BK140.out 1; have hnb26 := NB135_2.out; have hnc26 := NB2_135.out; have hcz27_0 : w22.cell? ⟨gb135, 0, none⟩ = some (.int .i64 ((rd_T36 t131 x15_1).f0)) := (blk_cell BK135.out 0).trans rfl; have hcz27_1 : w22.cell? ⟨gb135, 1, none⟩ = some (.int .i64 ((rd_T36 t131 x15_1).f1)) := (blk_cell BK135.out 1).trans rfl; have hfz27_0 := blk_frozen BK135.out 0; have hfz27_1 := blk_frozen BK135.out 1) | ((with_reducible refine gate_callee (f := 54) rfl ?_); refine goesL_ (some 31) rfl rfl Try.func54 (by kernel_rfl) rfl #[.agg #[.int .i64 ((rd_T36 t136 x23_2).f0), .int .i64 ((rd_T36 t136 x23_2).f1)], .agg #[.int .i64 ((rd_T36 t131 x15_1).f0), .int .i64 ((rd_T36 t131 x15_1).f1)]] rfl ga_ ?_; (with_reducible refine (impl_Peg_less.calls ((rd_T36 t136 x23_2).f0) ((rd_T36 t136 x23_2).f1) ((rd_T36 t131 x15_1).f0) ((rd_T36 t131 x15_1).f1) t141 t142 _ A19.out).mono ?_); rintro e w28 ⟨rfl, hb⟩; refine ⟨_, rfl, ?_⟩; have n0_ := Aside0.mk (Kd.R_below (by (with_reducible repeat (first | apply Kd.R_alloc | apply Kd.R_drewN | apply Kd.R_drew)); exact (Kd.R_mono (Kd.R_far (p := ⟨gb140, 1, none⟩) (Kd.R_far (p := ⟨gb140, 0, none⟩) (Kd.R_mono HO_13.out (fun k_ hk => (⟨hk, hk.2⟩ : _ ∧ k_ ≠ gb140))) (fun _ hk => hk.2) (.int .i64 ((rd_T36 t136 x23_2).f0))) (fun _ hk => hk.2) (.int .i64 ((rd_T36 t136 x23_2).f1))) (fun _ h_ => h_.1))) hb); have n1_ := Aside0.mk (Kd.R_below (by (with_reducible repeat (first | apply Kd.R_alloc | apply Kd.R_drewN | apply Kd.R_drew)); exact (Kd.R_mono (Kd.R_far (p := ⟨gb140, 1, none⟩) (Kd.R_far (p := ⟨gb140, 0, none⟩) (Kd.R_mono HO_21.out (fun k_ hk => (⟨hk, hk.2⟩ : _ ∧ k_ ≠ gb140))) (fun _ hk => hk.2) (.int .i64 ((rd_T36 t136 x23_2).f0))) (fun _ hk => hk.2) (.int .i64 ((rd_T36 t136 x23_2).f1))) (fun _ h_ => h_.1))) hb); have n2_ := Aside0.mk (blk_below (g := gb135) (o := .cells #[.int .i64 ((rd_T36 t131 x15_1).f0), .int .i64 ((rd_T36 t131 x15_1).f1)] 36 (0, 0)) (bf2_ BK135 NB135_140) hb); have n3_ := Aside0.mk (IsS3.below (show IsS3 w0 ((w22.setCell ⟨gb140, 0, none⟩ (.int .i64 ((rd_T36 t136 x23_2).f0))).setCell ⟨gb140, 1, none⟩ (.int .i64 ((rd_T36 t136 x23_2).f1))) g x3000_2 from by repeat (first | (with_reducible first | exact HI2.out | apply IsS3.alloc | apply IsS3.drewN | apply IsS3.drew | apply IsS3.set_0 | refine IsS3.far ?_ NB2_135.out _ | refine IsS3.far ?_ NB2_140.out _) | exact HI2.out)) hb); have n4_ := Aside0.mk (blk_below (g := gb140) (o := .cells #[.int .i64 ((rd_T36 t136 x23_2).f0), .int .i64 ((rd_T36 t136 x23_2).f1)] 36 (0, 0)) (by (with_reducible repeat (first | refine blk_drewN ?_ _ | refine blk_drew ?_ | refine blk_alloc ?_ _)); refine blk_put (cs := #[.int .i64 ((rd_T36 t136 x23_2).f0), .int .i64 0]) ?_ 1 _ rfl; (with_reducible repeat (first | refine blk_drewN ?_ _ | refine blk_drew ?_ | refine blk_alloc ?_ _)); refine blk_put (cs := #[.int .i64 0, .int .i64 0]) ?_ 0 _ rfl; (with_reducible repeat (first | refine blk_drewN ?_ _ | refine blk_drew ?_ | refine blk_alloc ?_ _)); exact BK140.out) hb); have n5_ := Aside0.mk (KeepBut.trans (by repeat (first | (with_reducible first | exact HK.out | apply KeepBut.set_ | apply keep_drewN | apply keep_drew | apply keep_alloc | refine keep_far ?_ GW135.out _ | refine keep_far ?_ GW140.out _) | exact HK.out)) (KeepBut.of_below hb g none) (.inl rfl)); have n6_ := Aside0.mk (below_step (by repeat (first | (with_reducible first | exact HB.out | apply below_alloc | apply pw_below_drewN | apply below_drew1 | refine below_set ?_ (IsS3.ge HI2.out) | refine below_set ?_ GE135.out | refine below_set ?_ GE140.out) | exact HB.out)) hb); clear HO_13; clear HO_21; clear BK135; clear HI2; clear BK140; clear HK; clear HB; have HO_13 := n0_; have HO_21 := n1_; have BK135 := n2_; have HI2 := n3_; have BK140 := n4_; have HK := n5_; have HB := n6_; clear n0_ n1_ n2_ n3_ n4_ n5_ n6_; (try clear hb); (try clear hb2); (try clear hk); (try clear hi)) | ((with_reducible refine gate_callee (f := 95) rfl ?_); refine goesL_ (some 32) rfl rfl Try.func95 (by kernel_rfl) rfl #[.int .i64 a0, .int .i64 a1, .agg #[.int .i64 t141, .int .i64 t142]] rfl ga_ ?_; (with_reducible refine (impl_isOnBoard.calls a0 a1 t141 t142 true _ A20.out).mono ?_); rintro e w29 ⟨rfl, hb⟩; refine ⟨_, rfl, ?_⟩; have n0_ := Aside0.mk (Kd.R_below (rk_ HO_13.out) hb); have n1_ := Aside0.mk (Kd.R_below (rk_ HO_21.out) hb); have n2_ := bb_ BK135 hb; have n3_ := Aside0.mk (IsS3.below (by repeat (first | (with_reducible first | exact HI2.out | apply IsS3.alloc | apply IsS3.drewN | apply IsS3.drew | apply IsS3.set_0 | refine IsS3.far ?_ NB2_135.out _ | refine IsS3.far ?_ NB2_140.out _) | exact HI2.out)) hb); have n4_ := bb_ BK140 hb; have n5_ := Aside0.mk (KeepBut.trans (by repeat (first | (with_reducible first | exact HK.out | apply KeepBut.set_ | apply keep_drewN | apply keep_drew | apply keep_alloc | refine keep_far ?_ GW135.out _ | refine keep_far ?_ GW140.out _) | exact HK.out)) (KeepBut.of_below hb g none) (.inl rfl)); have n6_ := Aside0.mk (below_step (by repeat (first | (with_reducible first | exact HB.out | apply below_alloc | apply pw_below_drewN | apply below_drew1 | refine below_set ?_ (IsS3.ge HI2.out) | refine below_set ?_ GE135.out | refine below_set ?_ GE140.out) | exact HB.out)) hb); clear HO_13; clear HO_21; clear BK135; clear HI2; clear BK140; clear HK; clear HB; have HO_13 := n0_; have HO_21 := n1_; have BK135 := n2_; have HI2 := n3_; have BK140 := n4_; have HK := n5_; have HB := n6_; clear n0_ n1_ n2_ n3_ n4_ n5_ n6_; (try clear hb); (try clear hb2); (try clear hk); (try clear hi)))
            go_roundg k2
            case measure => have := HK1.out; have := HK2.out; omega
            case rel => exact ⟨(wrap64 (x23_2 + 1)), (x3000_2), (by first | rfl | (simp; done) | (simp [*]; done)), H', ⟨by have := HK1.out; have := HK2.out; omega⟩, ⟨by (with_reducible repeat (first | apply Kd.R_alloc | apply Kd.R_drewN | apply Kd.R_drew)); exact Kd.R_mono HO_13.out (fun _ hk => ⟨hk.1.1, hk.1.2⟩)⟩, ⟨by (with_reducible repeat (first | apply Kd.R_alloc | apply Kd.R_drewN | apply Kd.R_drew)); exact Kd.R_mono HO_21.out (fun _ hk => ⟨hk.1.1, hk.1.2⟩)⟩, ⟨bk_ BK135.out⟩, ⟨by repeat (first | (with_reducible first | exact HI2.out | apply IsS3.alloc | apply IsS3.drewN | apply IsS3.drew | apply IsS3.set_0 | refine IsS3.far ?_ NB2_135.out _ | refine IsS3.far ?_ NB2_140.out _) | exact HI2.out)⟩, ⟨by repeat (first | (with_reducible first | exact HK.out | apply KeepBut.set_ | apply keep_drewN | apply keep_drew | apply keep_alloc | refine keep_far ?_ GW135.out _ | refine keep_far ?_ GW140.out _) | exact HK.out)⟩, ⟨by repeat (first | (with_reducible first | exact HB.out | apply below_alloc | apply pw_below_drewN | apply below_drew1 | refine below_set ?_ (IsS3.ge HI2.out) | refine below_set ?_ GE135.out | refine below_set ?_ GE140.out) | exact HB.out)⟩⟩
           ·replace c21 := Bool.eq_false_iff.mpr c21
            subst c21
            have H1 : (impl_straight.l2 k2 a0 a1 0 t131 (t131.length : Int) x15_1 t136 (t136.length : Int) x23_2 x3000_2 ((rd_T36 t131 x15_1).f0) ((rd_T36 t131 x15_1).f1) ((rd_T36 t136 x23_2).f0) ((rd_T36 t136 x23_2).f1)) = some r := by rw [if_neg (show ¬ (false = true) by decide)] at H; exact H
            clear H
            have H := H1
            clear H1
            have H' := Aside0.mk H
            clear H
            have p139 : 0 ≤ (x23_2 : Int) := odt_
            have q139 : x23_2 < (t136.length : Int) := odt_
            obtain ⟨ad139, e139, hx139_0, hx139_1⟩ := at_T36 (Kd.R_reads' HO_21.out).2.2 x23_2 p139 q139
            cases e139
            replace p139 := eq_true p139
            replace q139 := eq_true q139
            go_wp2_with (first | ((with_reducible refine gate_dst (N := 9) rfl ?_); refine box_event ?hg (N := 9) ?hd (cs := #[.int .i64 0, .int .i64 0]) (t := 36) ?hr ?_; (case hd => rfl); (case hg => rfl); (case hr => first | (go_simp; done) | (go_simp; rfl)); intro gb140 hg w30 hbox hb; have n0_ := Aside0.mk (Kd.R_below (Kd.R_elderB (rk_ HO_13.out) gb140 (Nat.le_of_eq hg.symm)) hb); have n1_ := Aside0.mk (Kd.R_below (Kd.R_elderB (rk_ HO_21.out) gb140 (Nat.le_of_eq hg.symm)) hb); have n2_ := bb_ BK135 hb; have n3_ := Aside0.mk (IsS3.below (by repeat (first | (with_reducible first | exact HI2.out | apply IsS3.alloc | apply IsS3.drewN | apply IsS3.drew | apply IsS3.set_0 | refine IsS3.far ?_ NB2_135.out _) | exact HI2.out)) hb); have n4_ := Aside0.mk (KeepBut.trans (by repeat (first | (with_reducible first | exact HK.out | apply KeepBut.set_ | apply keep_drewN | apply keep_drew | apply keep_alloc | refine keep_far ?_ GW135.out _) | exact HK.out)) (KeepBut.of_below hb g none) (.inl rfl)); have n5_ := Aside0.mk (below_step (by repeat (first | (with_reducible first | exact HB.out | apply below_alloc | apply pw_below_drewN | apply below_drew1 | refine below_set ?_ (IsS3.ge HI2.out) | refine below_set ?_ GE135.out) | exact HB.out)) hb); have n6_ := Aside0.mk (hbox); have n7_ := Aside0.mk ((by rw [hg]; exact (keep_size (w := w) (g := g) (row := none) (by repeat (first | (with_reducible first | exact HK.out | apply KeepBut.set_ | apply keep_drewN | apply keep_drew | apply keep_alloc | refine keep_far ?_ GW135.out _) | exact HK.out))) : w.heap.size ≤ gb140)); have n8_ := Aside0.mk ((Nat.le_trans HW0.out (by rw [hg]; exact (keep_size (w := w) (g := g) (row := none) (by repeat (first | (with_reducible first | exact HK.out | apply KeepBut.set_ | apply keep_drewN | apply keep_drew | apply keep_alloc | refine keep_far ?_ GW135.out _) | exact HK.out))) : w.heap.size ≤ gb140) : w0.heap.size ≤ gb140)); have n9_ := Aside0.mk ((by rw [hg]; exact Nat.ne_of_lt (blk_lt (bk_ BK135.out)) : gb135 ≠ gb140)); have n10_ := Aside0.mk ((by rw [hg]; exact Nat.ne_of_gt (blk_lt (bk_ BK135.out)) : gb140 ≠ gb135)); have n11_ := Aside0.mk ((by rw [hg]; exact Nat.ne_of_lt (IsS3.lt (show IsS3 w0 _ g x3000_2 from by repeat (first | (with_reducible first | exact HI2.out | apply IsS3.alloc | apply IsS3.drewN | apply IsS3.drew | apply IsS3.set_0 | refine IsS3.far ?_ NB2_135.out _) | exact HI2.out))) : g ≠ gb140)); have n12_ := Aside0.mk ((by rw [hg]; exact Nat.ne_of_gt (IsS3.lt (show IsS3 w0 _ g x3000_2 from by repeat (first | (with_reducible first | exact HI2.out | apply IsS3.alloc | apply IsS3.drewN | apply IsS3.drew | apply IsS3.set_0 | refine IsS3.far ?_ NB2_135.out _) | exact HI2.out))) : gb140 ≠ g)); clear HO_13; clear HO_21; clear BK135; clear HI2; clear HK; clear HB; have HO_13 := n0_; have HO_21 := n1_; have BK135 := n2_; have HI2 := n3_; have HK := n4_; have HB := n5_; have BK140 := n6_; have GW140 := n7_; have GE140 := n8_; have NB135_140 := n9_; have NB140_135 := n10_; have NB2_140 := n11_; have NB140_2 := n12_; clear n0_ n1_ n2_ n3_ n4_ n5_ n6_ n7_ n8_ n9_ n10_ n11_ n12_; clear hb hbox hg; have hnb31 := NB140_135.out; have hnc31 := NB135_140.out; have hnb32 := NB140_2.out; have hnc32 := NB2_140.out; have hcz33_0 : w30.cell? ⟨gb140, 0, none⟩ = some (.int .i64 0) := (blk_cell BK140.out 0).trans rfl; have hcz33_1 : w30.cell? ⟨gb140, 1, none⟩ = some (.int .i64 0) := (blk_cell BK140.out 1).trans rfl; have hfz33_0 := blk_frozen BK140.out 0; have hfz33_1 := blk_frozen BK140.out 1; have hnb34 := NB135_2.out; have hnc34 := NB2_135.out; have hcz35_0 : w30.cell? ⟨gb135, 0, none⟩ = some (.int .i64 ((rd_T36 t131 x15_1).f0)) := (blk_cell BK135.out 0).trans rfl; have hcz35_1 : w30.cell? ⟨gb135, 1, none⟩ = some (.int .i64 ((rd_T36 t131 x15_1).f1)) := (blk_cell BK135.out 1).trans rfl; have hfz35_0 := blk_frozen BK135.out 0; have hfz35_1 := blk_frozen BK135.out 1) | ((with_reducible refine gate_callee (f := 54) rfl ?_); refine goesL_ (some 31) rfl rfl Try.func54 (by kernel_rfl) rfl #[.agg #[.int .i64 ((rd_T36 t136 x23_2).f0), .int .i64 ((rd_T36 t136 x23_2).f1)], .agg #[.int .i64 ((rd_T36 t131 x15_1).f0), .int .i64 ((rd_T36 t131 x15_1).f1)]] rfl ga_ ?_; (with_reducible refine (impl_Peg_less.calls ((rd_T36 t136 x23_2).f0) ((rd_T36 t136 x23_2).f1) ((rd_T36 t131 x15_1).f0) ((rd_T36 t131 x15_1).f1) t141 t142 _ A19.out).mono ?_); rintro e w36 ⟨rfl, hb⟩; refine ⟨_, rfl, ?_⟩; have n0_ := Aside0.mk (Kd.R_below (by (with_reducible repeat (first | apply Kd.R_alloc | apply Kd.R_drewN | apply Kd.R_drew)); exact (Kd.R_mono (Kd.R_far (p := ⟨gb140, 1, none⟩) (Kd.R_far (p := ⟨gb140, 0, none⟩) (Kd.R_mono HO_13.out (fun k_ hk => (⟨hk, hk.2⟩ : _ ∧ k_ ≠ gb140))) (fun _ hk => hk.2) (.int .i64 ((rd_T36 t136 x23_2).f0))) (fun _ hk => hk.2) (.int .i64 ((rd_T36 t136 x23_2).f1))) (fun _ h_ => h_.1))) hb); have n1_ := Aside0.mk (Kd.R_below (by (with_reducible repeat (first | apply Kd.R_alloc | apply Kd.R_drewN | apply Kd.R_drew)); exact (Kd.R_mono (Kd.R_far (p := ⟨gb140, 1, none⟩) (Kd.R_far (p := ⟨gb140, 0, none⟩) (Kd.R_mono HO_21.out (fun k_ hk => (⟨hk, hk.2⟩ : _ ∧ k_ ≠ gb140))) (fun _ hk => hk.2) (.int .i64 ((rd_T36 t136 x23_2).f0))) (fun _ hk => hk.2) (.int .i64 ((rd_T36 t136 x23_2).f1))) (fun _ h_ => h_.1))) hb); have n2_ := Aside0.mk (blk_below (g := gb135) (o := .cells #[.int .i64 ((rd_T36 t131 x15_1).f0), .int .i64 ((rd_T36 t131 x15_1).f1)] 36 (0, 0)) (bf2_ BK135 NB135_140) hb); have n3_ := Aside0.mk (IsS3.below (show IsS3 w0 ((w30.setCell ⟨gb140, 0, none⟩ (.int .i64 ((rd_T36 t136 x23_2).f0))).setCell ⟨gb140, 1, none⟩ (.int .i64 ((rd_T36 t136 x23_2).f1))) g x3000_2 from by repeat (first | (with_reducible first | exact HI2.out | apply IsS3.alloc | apply IsS3.drewN | apply IsS3.drew | apply IsS3.set_0 | refine IsS3.far ?_ NB2_135.out _ | refine IsS3.far ?_ NB2_140.out _) | exact HI2.out)) hb); have n4_ := Aside0.mk (blk_below (g := gb140) (o := .cells #[.int .i64 ((rd_T36 t136 x23_2).f0), .int .i64 ((rd_T36 t136 x23_2).f1)] 36 (0, 0)) (by (with_reducible repeat (first | refine blk_drewN ?_ _ | refine blk_drew ?_ | refine blk_alloc ?_ _)); refine blk_put (cs := #[.int .i64 ((rd_T36 t136 x23_2).f0), .int .i64 0]) ?_ 1 _ rfl; (with_reducible repeat (first | refine blk_drewN ?_ _ | refine blk_drew ?_ | refine blk_alloc ?_ _)); refine blk_put (cs := #[.int .i64 0, .int .i64 0]) ?_ 0 _ rfl; (with_reducible repeat (first | refine blk_drewN ?_ _ | refine blk_drew ?_ | refine blk_alloc ?_ _)); exact BK140.out) hb); have n5_ := Aside0.mk (KeepBut.trans (by repeat (first | (with_reducible first | exact HK.out | apply KeepBut.set_ | apply keep_drewN | apply keep_drew | apply keep_alloc | refine keep_far ?_ GW135.out _ | refine keep_far ?_ GW140.out _) | exact HK.out)) (KeepBut.of_below hb g none) (.inl rfl)); have n6_ := Aside0.mk (below_step (by repeat (first | (with_reducible first | exact HB.out | apply below_alloc | apply pw_below_drewN | apply below_drew1 | refine below_set ?_ (IsS3.ge HI2.out) | refine below_set ?_ GE135.out | refine below_set ?_ GE140.out) | exact HB.out)) hb); clear HO_13; clear HO_21; clear BK135; clear HI2; clear BK140; clear HK; clear HB; have HO_13 := n0_; have HO_21 := n1_; have BK135 := n2_; have HI2 := n3_; have BK140 := n4_; have HK := n5_; have HB := n6_; clear n0_ n1_ n2_ n3_ n4_ n5_ n6_; (try clear hb); (try clear hb2); (try clear hk); (try clear hi)) | ((with_reducible refine gate_callee (f := 95) rfl ?_); refine goesL_ (some 32) rfl rfl Try.func95 (by kernel_rfl) rfl #[.int .i64 a0, .int .i64 a1, .agg #[.int .i64 t141, .int .i64 t142]] rfl ga_ ?_; (with_reducible refine (impl_isOnBoard.calls a0 a1 t141 t142 false _ A20.out).mono ?_); rintro e w37 ⟨rfl, hb⟩; refine ⟨_, rfl, ?_⟩; have n0_ := Aside0.mk (Kd.R_below (rk_ HO_13.out) hb); have n1_ := Aside0.mk (Kd.R_below (rk_ HO_21.out) hb); have n2_ := bb_ BK135 hb; have n3_ := Aside0.mk (IsS3.below (by repeat (first | (with_reducible first | exact HI2.out | apply IsS3.alloc | apply IsS3.drewN | apply IsS3.drew | apply IsS3.set_0 | refine IsS3.far ?_ NB2_135.out _ | refine IsS3.far ?_ NB2_140.out _) | exact HI2.out)) hb); have n4_ := bb_ BK140 hb; have n5_ := Aside0.mk (KeepBut.trans (by repeat (first | (with_reducible first | exact HK.out | apply KeepBut.set_ | apply keep_drewN | apply keep_drew | apply keep_alloc | refine keep_far ?_ GW135.out _ | refine keep_far ?_ GW140.out _) | exact HK.out)) (KeepBut.of_below hb g none) (.inl rfl)); have n6_ := Aside0.mk (below_step (by repeat (first | (with_reducible first | exact HB.out | apply below_alloc | apply pw_below_drewN | apply below_drew1 | refine below_set ?_ (IsS3.ge HI2.out) | refine below_set ?_ GE135.out | refine below_set ?_ GE140.out) | exact HB.out)) hb); clear HO_13; clear HO_21; clear BK135; clear HI2; clear BK140; clear HK; clear HB; have HO_13 := n0_; have HO_21 := n1_; have BK135 := n2_; have HI2 := n3_; have BK140 := n4_; have HK := n5_; have HB := n6_; clear n0_ n1_ n2_ n3_ n4_ n5_ n6_; (try clear hb); (try clear hb2); (try clear hk); (try clear hi)))
            go_loopg [10] k2 (fun kq v10 w' => ∃ (x10_3 : Int) (x141000_3 : Int) (x141001_3 : Int), v10 = .int .i64 x10_3 ∧ Aside0 (impl_straight.l2 kq a0 a1 x10_3 t131 (t131.length : Int) x15_1 t136 (t136.length : Int) x23_2 x3000_2 ((rd_T36 t131 x15_1).f0) ((rd_T36 t131 x15_1).f1) x141000_3 x141001_3 = some r) ∧ Aside0 (kq ≤ k2) ∧ Aside0 (Kd.R k36 36 w' w.heap.size (fun k_ => some k_ ≠ ((.slice (some ad139) t136.length co15) : Value).ownBlock ∧ k_ ≠ gb135 ∧ k_ ≠ gb140) (.slice (some ad134) t131.length co6) t131) ∧ Aside0 (Kd.R k36 36 w' w.heap.size (fun k_ => some k_ ≠ ((.slice (some ad134) t131.length co6) : Value).ownBlock ∧ k_ ≠ gb135 ∧ k_ ≠ gb140) (.slice (some ad139) t136.length co15) t136) ∧ Aside0 (w'.heap[gb135]? = some (.cells #[.int .i64 ((rd_T36 t131 x15_1).f0), .int .i64 ((rd_T36 t131 x15_1).f1)] 36 (0, 0))) ∧ Aside0 (w'.heap[gb140]? = some (.cells #[.int .i64 x141000_3, .int .i64 x141001_3] 36 (0, 0))) ∧ Aside0 (IsS3 w0 w' g x3000_2) ∧ Aside0 (KeepBut w w' g none) ∧ Aside0 (Below w0.heap.size w0 w'))
            case atStart => exact ⟨(0), ((rd_T36 t136 x23_2).f0), ((rd_T36 t136 x23_2).f1), (by first | rfl | (simp; done) | (simp [*]; done)), H', ⟨Nat.le_refl _⟩, ⟨by (with_reducible repeat (first | apply Kd.R_alloc | apply Kd.R_drewN | apply Kd.R_drew)); exact Kd.R_mono HO_13.out (fun _ hk => ⟨hk.1.1, ⟨hk.1.2, hk.2⟩⟩)⟩, ⟨by (with_reducible repeat (first | apply Kd.R_alloc | apply Kd.R_drewN | apply Kd.R_drew)); exact Kd.R_mono HO_21.out (fun _ hk => ⟨hk.1.1, ⟨hk.1.2, hk.2⟩⟩)⟩, ⟨bk_ BK135.out⟩, ⟨bk_ BK140.out⟩, ⟨by repeat (first | (with_reducible first | exact HI2.out | apply IsS3.alloc | apply IsS3.drewN | apply IsS3.drew | apply IsS3.set_0 | refine IsS3.far ?_ NB2_135.out _ | refine IsS3.far ?_ NB2_140.out _) | exact HI2.out)⟩, ⟨by repeat (first | (with_reducible first | exact HK.out | apply KeepBut.set_ | apply keep_drewN | apply keep_drew | apply keep_alloc | refine keep_far ?_ GW135.out _ | refine keep_far ?_ GW140.out _) | exact HK.out)⟩, ⟨by repeat (first | (with_reducible first | exact HB.out | apply below_alloc | apply pw_below_drewN | apply below_drew1 | refine below_set ?_ (IsS3.ge HI2.out) | refine below_set ?_ GE135.out | refine below_set ?_ GE140.out) | exact HB.out)⟩⟩
            case round =>
             clear H'
             try clear c1; try clear p1; try clear q1; try clear hx1; try clear c2; try clear p2; try clear c3; try clear c5; try clear p6; try clear c7; try clear c7b0; try clear c8; try clear c8b0; try clear c9; try clear c9b0; try clear c12; try clear p13; try clear q13; try clear hx13; try clear c16; try clear c16b0; try clear c17; try clear c17b0; try clear c18; try clear c18b0; try clear c21; try clear c23; try clear c24; try clear c26; try clear c31; try clear c32; try clear c34; try clear hcz13_0; try clear hcz13_1; try clear hcz25_0; try clear hcz25_1; try clear hcz27_0; try clear hcz27_1; try clear hcz33_0; try clear hcz33_1; try clear hcz35_0; try clear hcz35_1; try clear hfz13_0; try clear hfz13_1; try clear hfz25_0; try clear hfz25_1; try clear hfz27_0; try clear hfz27_1; try clear hfz33_0; try clear hfz33_1; try clear hfz35_0; try clear hfz35_1; try clear hx134_0; try clear hx134_1; try clear hx139_0; try clear hx139_1; try clear p1; try clear p13; try clear p134; try clear p139; try clear p2; try clear q1; try clear q13; try clear q134; try clear q139
             obtain ⟨x10_3, x141000_3, x141001_3, rfl, HA, HK3, HO_13, HO_21, BK135, BK140, HI2, HK, HB⟩ := hrel
             cases gk with
             | zero => exact absurd HA.out (by simp [impl_straight.l2])
             | succ k3 =>
              have H := HA.out
              clear HA
              simp only [impl_straight.l2] at H
              replace H := Option.bind_eq_some_iff.mp H
              obtain ⟨t144, A380, H⟩ := H
              replace H : (if t144 = true then ((impl_Peg_plus.f x141000_3 x141001_3 ((rd_T36 t131 x15_1).f0) ((rd_T36 t131 x15_1).f1)).bind fun bt145 => (impl_straight.l2 k3 a0 a1 (wrap64 (x10_3 + 1)) t131 (t131.length : Int) x15_1 t136 (t136.length : Int) x23_2 x3000_2 ((rd_T36 t131 x15_1).f0) ((rd_T36 t131 x15_1).f1) bt145.1 bt145.2)) else (if x10_3 > 1 then ((impl_inLine_1.f k3 x10_3 x3000_2).bind fun t147 => (impl_straight.l1 k3 a0 a1 t131 (t131.length : Int) x15_1 t136 (t136.length : Int) (wrap64 (x23_2 + 1)) t147 ((rd_T36 t131 x15_1).f0) ((rd_T36 t131 x15_1).f1))) else (impl_straight.l1 k3 a0 a1 t131 (t131.length : Int) x15_1 t136 (t136.length : Int) (wrap64 (x23_2 + 1)) x3000_2 ((rd_T36 t131 x15_1).f0) ((rd_T36 t131 x15_1).f1)))) = some r := H
              have A38 := Aside0.mk A380
              clear A380
              by_cases c39 : t144 = true
              ·subst c39
               have H1 : ((impl_Peg_plus.f x141000_3 x141001_3 ((rd_T36 t131 x15_1).f0) ((rd_T36 t131 x15_1).f1)).bind fun bt145 => (impl_straight.l2 k3 a0 a1 (wrap64 (x10_3 + 1)) t131 (t131.length : Int) x15_1 t136 (t136.length : Int) x23_2 x3000_2 ((rd_T36 t131 x15_1).f0) ((rd_T36 t131 x15_1).f1) bt145.1 bt145.2)) = some r := by rw [if_pos rfl] at H; exact H
               clear H
               have H := H1
               clear H1
               replace H := Option.bind_eq_some_iff.mp H
               obtain ⟨⟨t145, t146⟩, A400, H⟩ := H
               replace H : (impl_straight.l2 k3 a0 a1 (wrap64 (x10_3 + 1)) t131 (t131.length : Int) x15_1 t136 (t136.length : Int) x23_2 x3000_2 ((rd_T36 t131 x15_1).f0) ((rd_T36 t131 x15_1).f1) t145 t146) = some r := H
               have A40 := Aside0.mk A400
               clear A400
               have H' := Aside0.mk H
               clear H
               have hnb41 := NB140_135.out
               have hnc41 := NB135_140.out
               have hnb42 := NB140_2.out
               have hnc42 := NB2_140.out
               have hcz43_0 : wr.cell? ⟨gb140, 0, none⟩ = some (.int .i64 x141000_3) := (blk_cell BK140.out 0).trans rfl
               have hcz43_1 : wr.cell? ⟨gb140, 1, none⟩ = some (.int .i64 x141001_3) := (blk_cell BK140.out 1).trans rfl
               have hfz43_0 := blk_frozen BK140.out 0
               have hfz43_1 := blk_frozen BK140.out 1
               go_wp2_with (first | ((with_reducible refine gate_callee (f := 95) rfl ?_); refine goesL_ (some 36) rfl rfl Try.func95 (by kernel_rfl) rfl #[.int .i64 a0, .int .i64 a1, .agg #[.int .i64 x141000_3, .int .i64 x141001_3]] rfl ga_ ?_; (with_reducible refine (impl_isOnBoard.calls a0 a1 x141000_3 x141001_3 true _ A38.out).mono ?_); rintro e w44 ⟨rfl, hb⟩; refine ⟨_, rfl, ?_⟩; have n0_ := Aside0.mk (Kd.R_below (rk_ HO_13.out) hb); have n1_ := Aside0.mk (Kd.R_below (rk_ HO_21.out) hb); have n2_ := bb_ BK135 hb; have n3_ := bb_ BK140 hb; have n4_ := Aside0.mk (IsS3.below (by repeat (first | (with_reducible first | exact HI2.out | apply IsS3.alloc | apply IsS3.drewN | apply IsS3.drew | apply IsS3.set_0 | refine IsS3.far ?_ NB2_135.out _ | refine IsS3.far ?_ NB2_140.out _) | exact HI2.out)) hb); have n5_ := Aside0.mk (KeepBut.trans (by repeat (first | (with_reducible first | exact HK.out | apply KeepBut.set_ | apply keep_drewN | apply keep_drew | apply keep_alloc | refine keep_far ?_ GW135.out _ | refine keep_far ?_ GW140.out _) | exact HK.out)) (KeepBut.of_below hb g none) (.inl rfl)); have n6_ := Aside0.mk (below_step (by repeat (first | (with_reducible first | exact HB.out | apply below_alloc | apply pw_below_drewN | apply below_drew1 | refine below_set ?_ (IsS3.ge HI2.out) | refine below_set ?_ GE135.out | refine below_set ?_ GE140.out) | exact HB.out)) hb); clear HO_13; clear HO_21; clear BK135; clear BK140; clear HI2; clear HK; clear HB; have HO_13 := n0_; have HO_21 := n1_; have BK135 := n2_; have BK140 := n3_; have HI2 := n4_; have HK := n5_; have HB := n6_; clear n0_ n1_ n2_ n3_ n4_ n5_ n6_; (try clear hb); (try clear hb2); (try clear hk); (try clear hi); have hcz45_0 : w44.cell? ⟨gb140, 0, none⟩ = some (.int .i64 x141000_3) := (blk_cell BK140.out 0).trans rfl; have hcz45_1 : w44.cell? ⟨gb140, 1, none⟩ = some (.int .i64 x141001_3) := (blk_cell BK140.out 1).trans rfl; have hfz45_0 := blk_frozen BK140.out 0; have hfz45_1 := blk_frozen BK140.out 1; have hnb46 := NB135_2.out; have hnc46 := NB2_135.out; have hcz47_0 : w44.cell? ⟨gb135, 0, none⟩ = some (.int .i64 ((rd_T36 t131 x15_1).f0)) := (blk_cell BK135.out 0).trans rfl; have hcz47_1 : w44.cell? ⟨gb135, 1, none⟩ = some (.int .i64 ((rd_T36 t131 x15_1).f1)) := (blk_cell BK135.out 1).trans rfl; have hfz47_0 := blk_frozen BK135.out 0; have hfz47_1 := blk_frozen BK135.out 1) | ((with_reducible refine gate_callee (f := 53) rfl ?_); refine goesL_ (some 39) rfl rfl Try.func53 (by kernel_rfl) rfl #[.agg #[.int .i64 x141000_3, .int .i64 x141001_3], .agg #[.int .i64 ((rd_T36 t131 x15_1).f0), .int .i64 ((rd_T36 t131 x15_1).f1)]] rfl ga_ ?_; (with_reducible refine (impl_Peg_plus.calls x141000_3 x141001_3 ((rd_T36 t131 x15_1).f0) ((rd_T36 t131 x15_1).f1) t145 t146 _ A40.out).mono ?_); rintro e w48 ⟨rfl, hb⟩; refine ⟨_, rfl, ?_⟩; have n0_ := Aside0.mk (Kd.R_below (rk_ HO_13.out) hb); have n1_ := Aside0.mk (Kd.R_below (rk_ HO_21.out) hb); have n2_ := bb_ BK135 hb; have n3_ := bb_ BK140 hb; have n4_ := Aside0.mk (IsS3.below (by repeat (first | (with_reducible first | exact HI2.out | apply IsS3.alloc | apply IsS3.drewN | apply IsS3.drew | apply IsS3.set_0 | refine IsS3.far ?_ NB2_135.out _ | refine IsS3.far ?_ NB2_140.out _) | exact HI2.out)) hb); have n5_ := Aside0.mk (KeepBut.trans (by repeat (first | (with_reducible first | exact HK.out | apply KeepBut.set_ | apply keep_drewN | apply keep_drew | apply keep_alloc | refine keep_far ?_ GW135.out _ | refine keep_far ?_ GW140.out _) | exact HK.out)) (KeepBut.of_below hb g none) (.inl rfl)); have n6_ := Aside0.mk (below_step (by repeat (first | (with_reducible first | exact HB.out | apply below_alloc | apply pw_below_drewN | apply below_drew1 | refine below_set ?_ (IsS3.ge HI2.out) | refine below_set ?_ GE135.out | refine below_set ?_ GE140.out) | exact HB.out)) hb); clear HO_13; clear HO_21; clear BK135; clear BK140; clear HI2; clear HK; clear HB; have HO_13 := n0_; have HO_21 := n1_; have BK135 := n2_; have BK140 := n3_; have HI2 := n4_; have HK := n5_; have HB := n6_; clear n0_ n1_ n2_ n3_ n4_ n5_ n6_; (try clear hb); (try clear hb2); (try clear hk); (try clear hi); have hcz49_0 : w48.cell? ⟨gb140, 0, none⟩ = some (.int .i64 x141000_3) := (blk_cell BK140.out 0).trans rfl; have hcz49_1 : w48.cell? ⟨gb140, 1, none⟩ = some (.int .i64 x141001_3) := (blk_cell BK140.out 1).trans rfl; have hfz49_0 := blk_frozen BK140.out 0; have hfz49_1 := blk_frozen BK140.out 1))
               go_roundg k3
               case measure => have := HK1.out; have := HK2.out; have := HK3.out; omega
               case rel => exact ⟨(wrap64 (x10_3 + 1)), (t145), (t146), (by first | rfl | (simp; done) | (simp [*]; done)), H', ⟨by have := HK1.out; have := HK2.out; have := HK3.out; omega⟩, ⟨by (with_reducible repeat (first | apply Kd.R_alloc | apply Kd.R_drewN | apply Kd.R_drew)); exact Kd.R_mono (Kd.R_far (p := ⟨gb140, 1, none⟩) (Kd.R_far (p := ⟨gb140, 0, none⟩) (Kd.R_mono HO_13.out (fun k_ hk => (⟨hk, hk.2.2⟩ : _ ∧ k_ ≠ gb140))) (fun _ hk => hk.2) (.int .i64 t145)) (fun _ hk => hk.2) (.int .i64 t146)) (fun _ hk => ⟨hk.1.1, ⟨hk.1.2.1, hk.1.2.2⟩⟩)⟩, ⟨by (with_reducible repeat (first | apply Kd.R_alloc | apply Kd.R_drewN | apply Kd.R_drew)); exact Kd.R_mono (Kd.R_far (p := ⟨gb140, 1, none⟩) (Kd.R_far (p := ⟨gb140, 0, none⟩) (Kd.R_mono HO_21.out (fun k_ hk => (⟨hk, hk.2.2⟩ : _ ∧ k_ ≠ gb140))) (fun _ hk => hk.2) (.int .i64 t145)) (fun _ hk => hk.2) (.int .i64 t146)) (fun _ hk => ⟨hk.1.1, ⟨hk.1.2.1, hk.1.2.2⟩⟩)⟩, ⟨by (with_reducible repeat (first | refine blk_drewN ?_ _ | refine blk_drew ?_ | refine blk_alloc ?_ _)); refine blk_far ?_ NB135_140.out _; (with_reducible repeat (first | refine blk_drewN ?_ _ | refine blk_drew ?_ | refine blk_alloc ?_ _)); refine blk_far ?_ NB135_140.out _; (with_reducible repeat (first | refine blk_drewN ?_ _ | refine blk_drew ?_ | refine blk_alloc ?_ _)); exact BK135.out⟩, ⟨by (with_reducible repeat (first | refine blk_drewN ?_ _ | refine blk_drew ?_ | refine blk_alloc ?_ _)); refine blk_put (cs := #[.int .i64 t145, .int .i64 x141001_3]) ?_ 1 _ rfl; (with_reducible repeat (first | refine blk_drewN ?_ _ | refine blk_drew ?_ | refine blk_alloc ?_ _)); refine blk_put (cs := #[.int .i64 x141000_3, .int .i64 x141001_3]) ?_ 0 _ rfl; (with_reducible repeat (first | refine blk_drewN ?_ _ | refine blk_drew ?_ | refine blk_alloc ?_ _)); exact BK140.out⟩, ⟨by repeat (first | (with_reducible first | exact HI2.out | apply IsS3.alloc | apply IsS3.drewN | apply IsS3.drew | apply IsS3.set_0 | refine IsS3.far ?_ NB2_135.out _ | refine IsS3.far ?_ NB2_140.out _) | exact HI2.out)⟩, ⟨by repeat (first | (with_reducible first | exact HK.out | apply KeepBut.set_ | apply keep_drewN | apply keep_drew | apply keep_alloc | refine keep_far ?_ GW135.out _ | refine keep_far ?_ GW140.out _) | exact HK.out)⟩, ⟨by repeat (first | (with_reducible first | exact HB.out | apply below_alloc | apply pw_below_drewN | apply below_drew1 | refine below_set ?_ (IsS3.ge HI2.out) | refine below_set ?_ GE135.out | refine below_set ?_ GE140.out) | exact HB.out)⟩⟩
              ·replace c39 := Bool.eq_false_iff.mpr c39
               subst c39
               have H1 : (if x10_3 > 1 then ((impl_inLine_1.f k3 x10_3 x3000_2).bind fun t147 => (impl_straight.l1 k3 a0 a1 t131 (t131.length : Int) x15_1 t136 (t136.length : Int) (wrap64 (x23_2 + 1)) t147 ((rd_T36 t131 x15_1).f0) ((rd_T36 t131 x15_1).f1))) else (impl_straight.l1 k3 a0 a1 t131 (t131.length : Int) x15_1 t136 (t136.length : Int) (wrap64 (x23_2 + 1)) x3000_2 ((rd_T36 t131 x15_1).f0) ((rd_T36 t131 x15_1).f1))) = some r := by rw [if_neg (show ¬ (false = true) by decide)] at H; exact H
               clear H
               have H := H1
               clear H1
               by_cases c50 : x10_3 > 1
               ·rw [if_pos c50] at H
                have c50b0 : decide (1 < x10_3) = true := decide_eq_true c50
                clear c50
                replace H := Option.bind_eq_some_iff.mp H
                obtain ⟨t147, A510, H⟩ := H
                replace H : (impl_straight.l1 k3 a0 a1 t131 (t131.length : Int) x15_1 t136 (t136.length : Int) (wrap64 (x23_2 + 1)) t147 ((rd_T36 t131 x15_1).f0) ((rd_T36 t131 x15_1).f1)) = some r := H
                have A51 := Aside0.mk A510
                clear A510
                have H' := Aside0.mk H
                clear H
                have hnb52 := NB140_135.out
                have hnc52 := NB135_140.out
                have hnb53 := NB140_2.out
                have hnc53 := NB2_140.out
                have hcz54_0 : wr.cell? ⟨gb140, 0, none⟩ = some (.int .i64 x141000_3) := (blk_cell BK140.out 0).trans rfl
                have hcz54_1 : wr.cell? ⟨gb140, 1, none⟩ = some (.int .i64 x141001_3) := (blk_cell BK140.out 1).trans rfl
                have hfz54_0 := blk_frozen BK140.out 0
                have hfz54_1 := blk_frozen BK140.out 1
                go_wp2_with (first | ((with_reducible refine gate_callee (f := 95) rfl ?_); refine goesL_ (some 36) rfl rfl Try.func95 (by kernel_rfl) rfl #[.int .i64 a0, .int .i64 a1, .agg #[.int .i64 x141000_3, .int .i64 x141001_3]] rfl ga_ ?_; (with_reducible refine (impl_isOnBoard.calls a0 a1 x141000_3 x141001_3 false _ A38.out).mono ?_); rintro e w55 ⟨rfl, hb⟩; refine ⟨_, rfl, ?_⟩; have n0_ := Aside0.mk (Kd.R_below (rk_ HO_13.out) hb); have n1_ := Aside0.mk (Kd.R_below (rk_ HO_21.out) hb); have n2_ := bb_ BK135 hb; have n3_ := bb_ BK140 hb; have n4_ := Aside0.mk (IsS3.below (by repeat (first | (with_reducible first | exact HI2.out | apply IsS3.alloc | apply IsS3.drewN | apply IsS3.drew | apply IsS3.set_0 | refine IsS3.far ?_ NB2_135.out _ | refine IsS3.far ?_ NB2_140.out _) | exact HI2.out)) hb); have n5_ := Aside0.mk (KeepBut.trans (by repeat (first | (with_reducible first | exact HK.out | apply KeepBut.set_ | apply keep_drewN | apply keep_drew | apply keep_alloc | refine keep_far ?_ GW135.out _ | refine keep_far ?_ GW140.out _) | exact HK.out)) (KeepBut.of_below hb g none) (.inl rfl)); have n6_ := Aside0.mk (below_step (by repeat (first | (with_reducible first | exact HB.out | apply below_alloc | apply pw_below_drewN | apply below_drew1 | refine below_set ?_ (IsS3.ge HI2.out) | refine below_set ?_ GE135.out | refine below_set ?_ GE140.out) | exact HB.out)) hb); clear HO_13; clear HO_21; clear BK135; clear BK140; clear HI2; clear HK; clear HB; have HO_13 := n0_; have HO_21 := n1_; have BK135 := n2_; have BK140 := n3_; have HI2 := n4_; have HK := n5_; have HB := n6_; clear n0_ n1_ n2_ n3_ n4_ n5_ n6_; (try clear hb); (try clear hb2); (try clear hk); (try clear hi)) | ((with_reducible refine gate_via (s := 44) rfl ?_); refine goesD_ (some 46) rfl rfl (f := 100) Try.func100 (by kernel_rfl) rfl #[.int .i64 x10_3] #[.pointer (some ⟨g, 0, none⟩)] #[.int .i64 x10_3, .pointer (some ⟨g, 0, none⟩)] rfl rfl rfl (by (try simp only [List.map_toArray, List.map_cons, List.map_nil]); first | done | rfl) ?_; (with_reducible refine (impl_inLine_1.calls k3 x10_3 g x3000_2 t147 w0 _ ?side1 ?side2 A51.out).mono ?_); (case side1 => repeat (first | (with_reducible first | exact HI2.out | apply IsS3.alloc | apply IsS3.drewN | apply IsS3.drew | apply IsS3.set_0 | refine IsS3.far ?_ NB2_135.out _ | refine IsS3.far ?_ NB2_140.out _) | exact HI2.out)); (case side2 => repeat (first | (with_reducible first | exact HB.out | apply below_alloc | apply pw_below_drewN | apply below_drew1 | refine below_set ?_ (IsS3.ge HI2.out) | refine below_set ?_ GE135.out | refine below_set ?_ GE140.out) | exact HB.out)); rintro e w56 ⟨rfl, hi, hb, hk⟩; refine ⟨_, rfl, ?_⟩; have n0_ := Aside0.mk (Kd.R_mono (Kd.R_keep (IsS3.apart (show IsS3 w0 _ g x3000_2 from by repeat (first | (with_reducible first | exact HI2.out | apply IsS3.alloc | apply IsS3.drewN | apply IsS3.drew | apply IsS3.set_0 | refine IsS3.far ?_ NB2_135.out _ | refine IsS3.far ?_ NB2_140.out _) | exact HI2.out)) (rk_ HO_13.out) (by decide)) hk (fun _ h => h.2)) (fun _ h => h.1)); have n1_ := Aside0.mk (Kd.R_mono (Kd.R_keep (IsS3.apart (show IsS3 w0 _ g x3000_2 from by repeat (first | (with_reducible first | exact HI2.out | apply IsS3.alloc | apply IsS3.drewN | apply IsS3.drew | apply IsS3.set_0 | refine IsS3.far ?_ NB2_135.out _ | refine IsS3.far ?_ NB2_140.out _) | exact HI2.out)) (rk_ HO_21.out) (by decide)) hk (fun _ h => h.2)) (fun _ h => h.1)); have n2_ := Aside0.mk (KeepBut.blk hk (g' := gb135) (o := .cells #[.int .i64 ((rd_T36 t131 x15_1).f0), .int .i64 ((rd_T36 t131 x15_1).f1)] 36 (0, 0)) (bk_ BK135.out) NB135_2.out (by simp)); have n3_ := Aside0.mk (KeepBut.blk hk (g' := gb140) (o := .cells #[.int .i64 x141000_3, .int .i64 x141001_3] 36 (0, 0)) (bk_ BK140.out) NB140_2.out (by simp)); have n4_ := Aside0.mk (KeepBut.trans (by repeat (first | (with_reducible first | exact HK.out | apply KeepBut.set_ | apply keep_drewN | apply keep_drew | apply keep_alloc | refine keep_far ?_ GW135.out _ | refine keep_far ?_ GW140.out _) | exact HK.out)) hk (.inl rfl)); have n5_ := Aside0.mk (hb); have n6_ := Aside0.mk (hi); clear HO_13; clear HO_21; clear BK135; clear BK140; clear HK; clear HB; clear HI2; have HO_13 := n0_; have HO_21 := n1_; have BK135 := n2_; have BK140 := n3_; have HK := n4_; have HB := n5_; have HI2 := n6_; clear n0_ n1_ n2_ n3_ n4_ n5_ n6_; (try clear hb); (try clear hb2); (try clear hk); (try clear hi)))
                go_roundg k3
                case measure => have := HK1.out; have := HK2.out; have := HK3.out; omega
                case rel => exact ⟨(wrap64 (x23_2 + 1)), (t147), (by first | rfl | (simp; done) | (simp [*]; done)), H', ⟨by have := HK1.out; have := HK2.out; have := HK3.out; omega⟩, ⟨by (with_reducible repeat (first | apply Kd.R_alloc | apply Kd.R_drewN | apply Kd.R_drew)); exact Kd.R_mono HO_13.out (fun _ hk => ⟨hk.1, hk.2.1⟩)⟩, ⟨by (with_reducible repeat (first | apply Kd.R_alloc | apply Kd.R_drewN | apply Kd.R_drew)); exact Kd.R_mono HO_21.out (fun _ hk => ⟨hk.1, hk.2.1⟩)⟩, ⟨bk_ BK135.out⟩, ⟨by repeat (first | (with_reducible first | exact HI2.out | apply IsS3.alloc | apply IsS3.drewN | apply IsS3.drew | apply IsS3.set_0 | refine IsS3.far ?_ NB2_135.out _ | refine IsS3.far ?_ NB2_140.out _) | exact HI2.out)⟩, ⟨by repeat (first | (with_reducible first | exact HK.out | apply KeepBut.set_ | apply keep_drewN | apply keep_drew | apply keep_alloc | refine keep_far ?_ GW135.out _ | refine keep_far ?_ GW140.out _) | exact HK.out)⟩, ⟨by repeat (first | (with_reducible first | exact HB.out | apply below_alloc | apply pw_below_drewN | apply below_drew1 | refine below_set ?_ (IsS3.ge HI2.out) | refine below_set ?_ GE135.out | refine below_set ?_ GE140.out) | exact HB.out)⟩⟩
               ·rw [if_neg c50] at H
                have c50b0 : decide (1 < x10_3) = false := decide_eq_false c50
                clear c50
                have H' := Aside0.mk H
                clear H
                have hnb57 := NB140_135.out
                have hnc57 := NB135_140.out
                have hnb58 := NB140_2.out
                have hnc58 := NB2_140.out
                have hcz59_0 : wr.cell? ⟨gb140, 0, none⟩ = some (.int .i64 x141000_3) := (blk_cell BK140.out 0).trans rfl
                have hcz59_1 : wr.cell? ⟨gb140, 1, none⟩ = some (.int .i64 x141001_3) := (blk_cell BK140.out 1).trans rfl
                have hfz59_0 := blk_frozen BK140.out 0
                have hfz59_1 := blk_frozen BK140.out 1
                go_wp2_with (first | ((with_reducible refine gate_callee (f := 95) rfl ?_); refine goesL_ (some 36) rfl rfl Try.func95 (by kernel_rfl) rfl #[.int .i64 a0, .int .i64 a1, .agg #[.int .i64 x141000_3, .int .i64 x141001_3]] rfl ga_ ?_; (with_reducible refine (impl_isOnBoard.calls a0 a1 x141000_3 x141001_3 false _ A38.out).mono ?_); rintro e w60 ⟨rfl, hb⟩; refine ⟨_, rfl, ?_⟩; have n0_ := Aside0.mk (Kd.R_below (rk_ HO_13.out) hb); have n1_ := Aside0.mk (Kd.R_below (rk_ HO_21.out) hb); have n2_ := bb_ BK135 hb; have n3_ := bb_ BK140 hb; have n4_ := Aside0.mk (IsS3.below (by repeat (first | (with_reducible first | exact HI2.out | apply IsS3.alloc | apply IsS3.drewN | apply IsS3.drew | apply IsS3.set_0 | refine IsS3.far ?_ NB2_135.out _ | refine IsS3.far ?_ NB2_140.out _) | exact HI2.out)) hb); have n5_ := Aside0.mk (KeepBut.trans (by repeat (first | (with_reducible first | exact HK.out | apply KeepBut.set_ | apply keep_drewN | apply keep_drew | apply keep_alloc | refine keep_far ?_ GW135.out _ | refine keep_far ?_ GW140.out _) | exact HK.out)) (KeepBut.of_below hb g none) (.inl rfl)); have n6_ := Aside0.mk (below_step (by repeat (first | (with_reducible first | exact HB.out | apply below_alloc | apply pw_below_drewN | apply below_drew1 | refine below_set ?_ (IsS3.ge HI2.out) | refine below_set ?_ GE135.out | refine below_set ?_ GE140.out) | exact HB.out)) hb); clear HO_13; clear HO_21; clear BK135; clear BK140; clear HI2; clear HK; clear HB; have HO_13 := n0_; have HO_21 := n1_; have BK135 := n2_; have BK140 := n3_; have HI2 := n4_; have HK := n5_; have HB := n6_; clear n0_ n1_ n2_ n3_ n4_ n5_ n6_; (try clear hb); (try clear hb2); (try clear hk); (try clear hi)))
                go_roundg k3
                case measure => have := HK1.out; have := HK2.out; have := HK3.out; omega
                case rel => exact ⟨(wrap64 (x23_2 + 1)), (x3000_2), (by first | rfl | (simp; done) | (simp [*]; done)), H', ⟨by have := HK1.out; have := HK2.out; have := HK3.out; omega⟩, ⟨by (with_reducible repeat (first | apply Kd.R_alloc | apply Kd.R_drewN | apply Kd.R_drew)); exact Kd.R_mono HO_13.out (fun _ hk => ⟨hk.1, hk.2.1⟩)⟩, ⟨by (with_reducible repeat (first | apply Kd.R_alloc | apply Kd.R_drewN | apply Kd.R_drew)); exact Kd.R_mono HO_21.out (fun _ hk => ⟨hk.1, hk.2.1⟩)⟩, ⟨bk_ BK135.out⟩, ⟨by repeat (first | (with_reducible first | exact HI2.out | apply IsS3.alloc | apply IsS3.drewN | apply IsS3.drew | apply IsS3.set_0 | refine IsS3.far ?_ NB2_135.out _ | refine IsS3.far ?_ NB2_140.out _) | exact HI2.out)⟩, ⟨by repeat (first | (with_reducible first | exact HK.out | apply KeepBut.set_ | apply keep_drewN | apply keep_drew | apply keep_alloc | refine keep_far ?_ GW135.out _ | refine keep_far ?_ GW140.out _) | exact HK.out)⟩, ⟨by repeat (first | (with_reducible first | exact HB.out | apply below_alloc | apply pw_below_drewN | apply below_drew1 | refine below_set ?_ (IsS3.ge HI2.out) | refine below_set ?_ GE135.out | refine below_set ?_ GE140.out) | exact HB.out)⟩⟩
          ·rw [if_neg c18] at H
           exact absurd H (by simp)
         ·rw [if_neg c17] at H
          exact absurd H (by simp)
        ·rw [if_neg c16] at H
         have c16b0 : decide (x23_2 < (t136.length : Int)) = false := decide_eq_false c16
         clear c16
         have H' := Aside0.mk H
         clear H
         go_wp2
         go_roundg k2
         case measure => have := HK1.out; have := HK2.out; omega
         case rel => exact ⟨(wrap64 (x15_1 + 1)), (x3000_2), (by first | rfl | (simp; done) | (simp [*]; done)), H', ⟨by have := HK1.out; have := HK2.out; omega⟩, ⟨by (with_reducible repeat (first | apply Kd.R_alloc | apply Kd.R_drewN | apply Kd.R_drew)); exact Kd.R_mono HO_13.out (fun _ hk => trivial)⟩, ⟨by repeat (first | (with_reducible first | exact HI2.out | apply IsS3.alloc | apply IsS3.drewN | apply IsS3.drew | apply IsS3.set_0 | refine IsS3.far ?_ NB2_135.out _) | exact HI2.out)⟩, ⟨by repeat (first | (with_reducible first | exact HK.out | apply KeepBut.set_ | apply keep_drewN | apply keep_drew | apply keep_alloc | refine keep_far ?_ GW135.out _) | exact HK.out)⟩, ⟨by repeat (first | (with_reducible first | exact HB.out | apply below_alloc | apply pw_below_drewN | apply below_drew1 | refine below_set ?_ (IsS3.ge HI2.out) | refine below_set ?_ GE135.out) | exact HB.out)⟩⟩
     ·rw [if_neg c9] at H
      exact absurd H (by simp)
    ·rw [if_neg c8] at H
     exact absurd H (by simp)
   ·rw [if_neg c7] at H
    have c7b0 : decide (x15_1 < (t131.length : Int)) = false := decide_eq_false c7
    clear c7
    obtain rfl := Option.some.inj H
    go_wp2
    first | go_end0 | ((try simp only [Exit.inBlock, Exit.then]); refine bodyPost_ret (results_none rfl _ _ _) rfl ?_)
    exact ⟨by first | rfl | (simp [errW_none, errW_some] <;> rfl) | (simp [*, errW_none, errW_some] <;> rfl), by repeat (first | (with_reducible first | exact HI2.out | apply IsS3.alloc | apply IsS3.drewN | apply IsS3.drew | apply IsS3.set_0) | exact HI2.out), by repeat (first | (with_reducible first | exact HB.out | apply below_alloc | apply pw_below_drewN | apply below_drew1 | refine below_set ?_ (IsS3.ge HI2.out)) | exact HB.out), by repeat (first | (with_reducible first | exact HK.out | apply KeepBut.set_ | apply keep_drewN | apply keep_drew | apply keep_alloc) | exact HK.out)⟩

end Go.Proofs.Ytmenfomcikfnmaa.MB
