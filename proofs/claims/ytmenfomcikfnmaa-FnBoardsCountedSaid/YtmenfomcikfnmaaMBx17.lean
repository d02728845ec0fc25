-- Written by a program of this session (wip/print/myprint.py) over the kit's printer; Lean checks it.
import Derived.Test.YtmenfomcikfnmaaMBx0
import Derived.Test.YtmenfomcikfnmaaMBx4
import Derived.Test.YtmenfomcikfnmaaMBx16
namespace Go.Proofs.Ytmenfomcikfnmaa.MB
open Go.RowKit Go.Proofs.YtmenfomcikfnmaaW.PrintWords Go.Proofs.YtmenfomcikfnmaaW.PrintLast Go.Proofs.YtmenfomcikfnmaaW.PrintMore Go.Proofs.YtmenfomcikfnmaaV
attribute [local go_sem] max2_int min2_int max_two min_two max_three min_three max_four min_four   -- for this text's walks alone
set_option linter.unusedVariables false
set_option linter.unusedSimpArgs false

/-! ### impl_threes: function 59 -/
mutual
def impl_threes.l0 : Nat → List (S36) → List (S36) → Int → Int → Int → Int → Option (Int)
 | 0, _, _, _, _, _, _ => none
 | k + 1, x0, x10, x11, x12, x2000, x3000 => if x12 < x11 then (if 0 ≤ x12 then (if x12 < (x10.length : Int) then (if x12 ≤ (x0.length : Int) then ((some (x0.take (x12 : Int).toNat : List (S36))).bind fun y290 => (impl_threes.l1 k x0 x10 x11 x12 y290 (y290.length : Int) 0 x2000 x3000 ((rd_T36 x10 x12).f0) ((rd_T36 x10 x12).f1))) else (none)) else (none)) else (none)) else (some x2000)
def impl_threes.l1 : Nat → List (S36) → List (S36) → Int → Int → List (S36) → Int → Int → Int → Int → Int → Int → Option (Int)
 | 0, _, _, _, _, _, _, _, _, _, _, _ => none
 | k + 1, x0, x10, x11, x12, x19, x20, x21, x2000, x3000, x290000, x290001 => if x21 < x20 then (if 0 ≤ x21 then (if x21 < (x19.length : Int) then (if x21 ≤ (x0.length : Int) then ((some (x0.take (x21 : Int).toNat : List (S36))).bind fun y296 => (impl_threes.l2 k x0 x10 x11 x12 x19 x20 x21 y296 (y296.length : Int) 0 x2000 x3000 x290000 x290001 ((rd_T36 x19 x21).f0) ((rd_T36 x19 x21).f1))) else (none)) else (none)) else (none)) else (impl_threes.l0 k x0 x10 x11 (wrap64 (x12 + 1)) x2000 x3000)
def impl_threes.l2 : Nat → List (S36) → List (S36) → Int → Int → List (S36) → Int → Int → List (S36) → Int → Int → Int → Int → Int → Int → Int → Int → Option (Int)
 | 0, _, _, _, _, _, _, _, _, _, _, _, _, _, _, _, _ => none
 | k + 1, x0, x10, x11, x12, x19, x20, x21, x28, x29, x30, x2000, x3000, x290000, x290001, x296000, x296001 => if x30 < x29 then (if 0 ≤ x30 then (if x30 < (x28.length : Int) then ((impl_CountOfArea_1.f x290000 x290001 x296000 x296001 ((rd_T36 x28 x30).f0) ((rd_T36 x28 x30).f1) x3000 x2000).bind fun t302 => (impl_threes.l2 k x0 x10 x11 x12 x19 x20 x21 x28 x29 (wrap64 (x30 + 1)) t302 x3000 x290000 x290001 x296000 x296001)) else (none)) else (none)) else (impl_threes.l1 k x0 x10 x11 x12 x19 x20 (wrap64 (x21 + 1)) x2000 x3000 x290000 x290001)
end
def impl_threes.f (k : Nat) (l0 : List (S36)) (s1_0 : Int) (a2_0 : Int) : Option (Int) := impl_threes.l0 k l0 l0 (l0.length : Int) 0 s1_0 a2_0
theorem impl_threes.mono_l : ∀ k, (∀ y0 y1 y2 y3 y4 y5, LeO (impl_threes.l0 k y0 y1 y2 y3 y4 y5) (impl_threes.l0 (k + 1) y0 y1 y2 y3 y4 y5)) ∧ (∀ y0 y1 y2 y3 y4 y5 y6 y7 y8 y9 y10, LeO (impl_threes.l1 k y0 y1 y2 y3 y4 y5 y6 y7 y8 y9 y10) (impl_threes.l1 (k + 1) y0 y1 y2 y3 y4 y5 y6 y7 y8 y9 y10)) ∧ (∀ y0 y1 y2 y3 y4 y5 y6 y7 y8 y9 y10 y11 y12 y13 y14 y15, LeO (impl_threes.l2 k y0 y1 y2 y3 y4 y5 y6 y7 y8 y9 y10 y11 y12 y13 y14 y15) (impl_threes.l2 (k + 1) y0 y1 y2 y3 y4 y5 y6 y7 y8 y9 y10 y11 y12 y13 y14 y15))
 | 0 => ⟨fun _ _ _ _ _ _ r h => by simp [impl_threes.l0] at h, fun _ _ _ _ _ _ _ _ _ _ _ r h => by simp [impl_threes.l1] at h, fun _ _ _ _ _ _ _ _ _ _ _ _ _ _ _ _ r h => by simp [impl_threes.l2] at h⟩
 | k + 1 => by
  obtain ⟨ih0, ih1, ih2⟩ := impl_threes.mono_l k
  refine ⟨?_, ?_, ?_⟩
  ·intro y0 y1 y2 y3 y4 y5
   unfold impl_threes.l0
   repeat' first
   | (with_reducible exact ih0 _ _ _ _ _ _)
   | (with_reducible exact ih1 _ _ _ _ _ _ _ _ _ _ _)
   | (with_reducible exact ih2 _ _ _ _ _ _ _ _ _ _ _ _ _ _ _ _)
   | (with_reducible exact LeO.refl _)
   | (with_reducible exact LeO.none _)
   | (with_reducible refine LeO.ite ?_ ?_)
   | (with_reducible refine LeO.bind ?_ (fun _ => ?_))
   | exact ih0 _ _ _ _ _ _
   | exact ih1 _ _ _ _ _ _ _ _ _ _ _
   | exact ih2 _ _ _ _ _ _ _ _ _ _ _ _ _ _ _ _
   | exact LeO.none _
   | refine LeO.ite ?_ ?_
   | refine LeO.bind ?_ (fun _ => ?_)
  ·intro y0 y1 y2 y3 y4 y5 y6 y7 y8 y9 y10
   unfold impl_threes.l1
   repeat' first
   | (with_reducible exact ih0 _ _ _ _ _ _)
   | (with_reducible exact ih1 _ _ _ _ _ _ _ _ _ _ _)
   | (with_reducible exact ih2 _ _ _ _ _ _ _ _ _ _ _ _ _ _ _ _)
   | (with_reducible exact LeO.refl _)
   | (with_reducible exact LeO.none _)
   | (with_reducible refine LeO.ite ?_ ?_)
   | (with_reducible refine LeO.bind ?_ (fun _ => ?_))
   | exact ih0 _ _ _ _ _ _
   | exact ih1 _ _ _ _ _ _ _ _ _ _ _
   | exact ih2 _ _ _ _ _ _ _ _ _ _ _ _ _ _ _ _
   | exact LeO.none _
   | refine LeO.ite ?_ ?_
   | refine LeO.bind ?_ (fun _ => ?_)
  ·intro y0 y1 y2 y3 y4 y5 y6 y7 y8 y9 y10 y11 y12 y13 y14 y15
   unfold impl_threes.l2
   repeat' first
   | (with_reducible exact ih0 _ _ _ _ _ _)
   | (with_reducible exact ih1 _ _ _ _ _ _ _ _ _ _ _)
   | (with_reducible exact ih2 _ _ _ _ _ _ _ _ _ _ _ _ _ _ _ _)
   | (with_reducible exact LeO.refl _)
   | (with_reducible exact LeO.none _)
   | (with_reducible refine LeO.ite ?_ ?_)
   | (with_reducible refine LeO.bind ?_ (fun _ => ?_))
   | exact ih0 _ _ _ _ _ _
   | exact ih1 _ _ _ _ _ _ _ _ _ _ _
   | exact ih2 _ _ _ _ _ _ _ _ _ _ _ _ _ _ _ _
   | exact LeO.none _
   | refine LeO.ite ?_ ?_
   | refine LeO.bind ?_ (fun _ => ?_)
theorem impl_threes.mono : ∀ a0 a1 a2 k, LeO (impl_threes.f k a0 a1 a2) (impl_threes.f (k + 1) a0 a1 a2) := by
 intro a0 a1 a2 k
 obtain ⟨ih0, ih1, ih2⟩ := impl_threes.mono_l k
 unfold impl_threes.f
 repeat' first
   | (with_reducible exact ih0 _ _ _ _ _ _)
   | (with_reducible exact ih1 _ _ _ _ _ _ _ _ _ _ _)
   | (with_reducible exact ih2 _ _ _ _ _ _ _ _ _ _ _ _ _ _ _ _)
   | (with_reducible exact LeO.refl _)
   | (with_reducible exact LeO.none _)
   | (with_reducible refine LeO.ite ?_ ?_)
   | (with_reducible refine LeO.bind ?_ (fun _ => ?_))
   | exact ih0 _ _ _ _ _ _
   | exact ih1 _ _ _ _ _ _ _ _ _ _ _
   | exact ih2 _ _ _ _ _ _ _ _ _ _ _ _ _ _ _ _
   | exact LeO.none _
   | refine LeO.ite ?_ ?_
   | refine LeO.bind ?_ (fun _ => ?_)
set_option maxHeartbeats 8000000 in
set_option maxRecDepth 100000 in
theorem impl_threes.calls (k : Nat) (A0 : Option Addr) (c0 : Nat) (l0 : List (S36)) (g : Nat) (s1_0 : Int) (g2_ : Nat) (a2_0 : Int) (r : Int) (w0 w : World) (hI : IsS3 w0 w g s1_0) (hB : Below w0.heap.size w0 w) (hr0 : ∀ W_, KeepBut w W_ g none → Kd.C k36 W_ A0 l0.length l0) (hc0 : l0.length ≤ c0) (hro2 : w.heap[g2_]? = some (.cells #[.int .i64 a2_0] 3 (0, 0))) (hrn2 : g2_ ≠ g) (h : impl_threes.f k l0 s1_0 a2_0 = some r) :
  Calls Try.prog 59 #[.slice A0 l0.length c0, .func (.func 88) #[] #[.pointer (some ⟨g2_, 0, none⟩), .pointer (some ⟨g, 0, none⟩)]] w fun e w' => e = .returned (.tuple #[]) ∧ IsS3 w0 w' g r ∧ Below w0.heap.size w0 w' ∧ KeepBut w w' g none := by
 have hu36 := Try.underlying36
 have HR0 := Aside0.mk hr0
 have HC0 := Aside0.mk hc0
 clear hr0 hc0
 have HI1 := Aside0.mk hI
 have HK := Aside0.mk (KeepBut.refl w g none)
 have HL := Aside0.mk hB.size
 clear hI
 have BK2 := Aside0.mk hro2
 clear hro2
 have NB2_1 := Aside0.mk hrn2
 have NB1_2 := Aside0.mk (Ne.symm hrn2)
 clear hrn2
 have HW0 := Aside0.mk hB.size
 have HB := Aside0.mk hB
 clear hB
 have H : (impl_threes.l0 k l0 l0 (l0.length : Int) 0 s1_0 a2_0) = some r := h
 clear h
 have H' := Aside0.mk H
 clear H
 go_enter Try.func59, Try.ntmps59
 go_wp2
 go_loopg [12] k (fun kq v12 w' => ∃ (x12_1 : Int) (x2000_1 : Int) (x3000_1 : Int), v12 = .int .i64 x12_1 ∧ Aside0 (impl_threes.l0 kq l0 l0 (l0.length : Int) x12_1 x2000_1 x3000_1 = some r) ∧ Aside0 (kq ≤ k) ∧ Aside0 (w'.heap[g2_]? = some (.cells #[.int .i64 x3000_1] 3 (0, 0))) ∧ Aside0 (IsS3 w0 w' g x2000_1) ∧ Aside0 (KeepBut w w' g none) ∧ Aside0 (Below w0.heap.size w0 w'))
 case atStart => exact ⟨(0), (s1_0), (a2_0), (by first | rfl | (simp; done) | (simp [*]; done)), H', ⟨Nat.le_refl _⟩, ⟨bk_ BK2.out⟩, ⟨by repeat (first | (with_reducible first | exact HI1.out | apply IsS3.alloc | apply IsS3.drewN | apply IsS3.drew | apply IsS3.set_0 | refine IsS3.far ?_ NB1_2.out _) | exact HI1.out)⟩, ⟨by repeat (first | (with_reducible first | exact HK.out | apply KeepBut.set_ | apply keep_drewN | apply keep_drew | apply keep_alloc | refine keep_far ?_ GW2.out _) | exact HK.out)⟩, ⟨by repeat (first | (with_reducible first | exact HB.out | apply below_alloc | apply pw_below_drewN | apply below_drew1 | refine below_set ?_ (IsS3.ge HI1.out) | refine below_set ?_ GE2.out) | exact HB.out)⟩⟩
 case round =>
  clear H'
  try clear p2
  obtain ⟨x12_1, x2000_1, x3000_1, rfl, HA, HK1, BK2, HI1, HK, HB⟩ := hrel
  cases gk with
  | zero => exact absurd HA.out (by simp [impl_threes.l0])
  | succ k1 =>
   have H := HA.out
   clear HA
   simp only [impl_threes.l0] at H
   by_cases c4 : x12_1 < (l0.length : Int)
   ·rw [if_pos c4] at H
    have c4b0 : decide (x12_1 < (l0.length : Int)) = true := decide_eq_true c4
    clear c4
    by_cases c5 : 0 ≤ x12_1
    ·rw [if_pos c5] at H
     have c5b0 : decide (0 ≤ x12_1) = true := decide_eq_true c5
     clear c5
     by_cases c6 : x12_1 < (l0.length : Int)
     ·rw [if_pos c6] at H
      have c6b0 : decide (x12_1 < (l0.length : Int)) = true := decide_eq_true c6
      clear c6
      have c7b0 := eq_true (odt_ : 0 ≤ x12_1)
      by_cases c8 : x12_1 ≤ (l0.length : Int)
      ·rw [if_pos c8] at H
       have c8b0 := eq_true c8
       have c8b1 : decide (x12_1 ≤ (l0.length : Int)) = true := decide_eq_true c8
       clear c8
       obtain ⟨y290, hy290⟩ : ∃ y_ : List (S36), y_ = (l0.take (x12_1 : Int).toNat) := ⟨_, rfl⟩
       replace H : (impl_threes.l1 k1 l0 l0 (l0.length : Int) x12_1 y290 (y290.length : Int) 0 x2000_1 x3000_1 ((rd_T36 l0 x12_1).f0) ((rd_T36 l0 x12_1).f1)) = some r := by first | (rw [hy290]; with_reducible exact H) | (have H2_ := (Option.bind_some _ _).symm.trans H; rw [hy290]; with_reducible exact H2_) | (have H2_ := (Option.bind_some _ _).symm.trans H; with_reducible exact H2_) | with_reducible exact H | (rw [hy290]; exact H) | exact H
       have Ny290 := Aside0.mk hy290
       clear hy290
       have H' := Aside0.mk H
       clear H
       have p288 : 0 ≤ (x12_1 : Int) := odt_
       have q288 : x12_1 < (l0.length : Int) := odt_
       obtain ⟨ad288, e288, hx288_0, hx288_1⟩ := at_T36 (Kd.C_foot_now HR0.out HK.out) x12_1 p288 q288
       cases e288
       replace p288 := eq_true p288
       replace q288 := eq_true q288
       go_wp2_with (first | ((with_reducible refine gate_dst (N := 5) rfl ?_); refine box_event ?hg (N := 5) ?hd (cs := #[.int .i64 0, .int .i64 0]) (t := 36) ?hr ?_; (case hd => rfl); (case hg => rfl); (case hr => first | (go_simp; done) | (go_simp; rfl)); intro gb289 hg w9 hbox hb; have n0_ := bb_ BK2 hb; have n1_ := Aside0.mk (IsS3.below (by repeat (first | (with_reducible first | exact HI1.out | apply IsS3.alloc | apply IsS3.drewN | apply IsS3.drew | apply IsS3.set_0 | refine IsS3.far ?_ NB1_2.out _) | exact HI1.out)) hb); have n2_ := Aside0.mk (KeepBut.trans (by repeat (first | (with_reducible first | exact HK.out | apply KeepBut.set_ | apply keep_drewN | apply keep_drew | apply keep_alloc | refine keep_far ?_ GW2.out _) | exact HK.out)) (KeepBut.of_below hb g none) (.inl rfl)); have n3_ := Aside0.mk (below_step (by repeat (first | (with_reducible first | exact HB.out | apply below_alloc | apply pw_below_drewN | apply below_drew1 | refine below_set ?_ (IsS3.ge HI1.out) | refine below_set ?_ GE2.out) | exact HB.out)) hb); have n4_ := Aside0.mk (hbox); have n5_ := Aside0.mk ((by rw [hg]; exact (keep_size (w := w) (g := g) (row := none) (by repeat (first | (with_reducible first | exact HK.out | apply KeepBut.set_ | apply keep_drewN | apply keep_drew | apply keep_alloc | refine keep_far ?_ GW2.out _) | exact HK.out))) : w.heap.size ≤ gb289)); have n6_ := Aside0.mk ((Nat.le_trans HW0.out (by rw [hg]; exact (keep_size (w := w) (g := g) (row := none) (by repeat (first | (with_reducible first | exact HK.out | apply KeepBut.set_ | apply keep_drewN | apply keep_drew | apply keep_alloc | refine keep_far ?_ GW2.out _) | exact HK.out))) : w.heap.size ≤ gb289) : w0.heap.size ≤ gb289)); have n7_ := Aside0.mk ((by rw [hg]; exact Nat.ne_of_lt (blk_lt (bk_ BK2.out)) : g2_ ≠ gb289)); have n8_ := Aside0.mk ((by rw [hg]; exact Nat.ne_of_gt (blk_lt (bk_ BK2.out)) : gb289 ≠ g2_)); have n9_ := Aside0.mk ((by rw [hg]; exact Nat.ne_of_lt (IsS3.lt (show IsS3 w0 _ g x2000_1 from by repeat (first | (with_reducible first | exact HI1.out | apply IsS3.alloc | apply IsS3.drewN | apply IsS3.drew | apply IsS3.set_0 | refine IsS3.far ?_ NB1_2.out _) | exact HI1.out))) : g ≠ gb289)); have n10_ := Aside0.mk ((by rw [hg]; exact Nat.ne_of_gt (IsS3.lt (show IsS3 w0 _ g x2000_1 from by repeat (first | (with_reducible first | exact HI1.out | apply IsS3.alloc | apply IsS3.drewN | apply IsS3.drew | apply IsS3.set_0 | refine IsS3.far ?_ NB1_2.out _) | exact HI1.out))) : gb289 ≠ g)); clear BK2; clear HI1; clear HK; clear HB; have BK2 := n0_; have HI1 := n1_; have HK := n2_; have HB := n3_; have BK289 := n4_; have GW289 := n5_; have GE289 := n6_; have NB2_289 := n7_; have NB289_2 := n8_; have NB1_289 := n9_; have NB289_1 := n10_; clear n0_ n1_ n2_ n3_ n4_ n5_ n6_ n7_ n8_ n9_ n10_; clear hb hbox hg; have hnb10 := NB289_2.out; have hnc10 := NB2_289.out; have hnb11 := NB289_1.out; have hnc11 := NB1_289.out; have hcz12_0 : w9.cell? ⟨gb289, 0, none⟩ = some (.int .i64 0) := (blk_cell BK289.out 0).trans rfl; have hcz12_1 : w9.cell? ⟨gb289, 1, none⟩ = some (.int .i64 0) := (blk_cell BK289.out 1).trans rfl; have hfz12_0 := blk_frozen BK289.out 0; have hfz12_1 := blk_frozen BK289.out 1) | ((with_reducible refine gate_store (t := 36) (p := 5) rfl ?_); refine store_event (t := 36) (p := 5) (v := ?vo_w13) (w1 := ((w9.setCell ⟨gb289, 0, none⟩ (.int .i64 ((rd_T36 l0 x12_1).f0))).setCell ⟨gb289, 1, none⟩ (.int .i64 ((rd_T36 l0 x12_1).f1)))) ?hg ?ho ?hn ?hr ?_; (case ho => rfl); (case hg => rfl); (case hn => rfl); (case hr => first | (go_simp; done) | (go_simp; rfl)); intro w13 hw; have n0_ : Aside0 (w13.heap[g2_]? = some (.cells #[.int .i64 x3000_1] 3 (0, 0))) := ⟨(by rw [hw]; exact (bf2_ BK2 NB2_289))⟩; have n1_ : Aside0 (w13.heap[gb289]? = some (.cells #[.int .i64 ((rd_T36 l0 x12_1).f0), .int .i64 ((rd_T36 l0 x12_1).f1)] 36 (0, 0))) := ⟨(by rw [hw]; exact (by (with_reducible repeat (first | refine blk_drewN ?_ _ | refine blk_drew ?_ | refine blk_alloc ?_ _)); refine blk_put (cs := #[.int .i64 ((rd_T36 l0 x12_1).f0), .int .i64 0]) ?_ 1 _ rfl; (with_reducible repeat (first | refine blk_drewN ?_ _ | refine blk_drew ?_ | refine blk_alloc ?_ _)); refine blk_put (cs := #[.int .i64 0, .int .i64 0]) ?_ 0 _ rfl; (with_reducible repeat (first | refine blk_drewN ?_ _ | refine blk_drew ?_ | refine blk_alloc ?_ _)); exact BK289.out))⟩; have n2_ : Aside0 (IsS3 w0 w13 g x2000_1) := ⟨(by rw [hw]; exact (by repeat (first | (with_reducible first | exact HI1.out | apply IsS3.alloc | apply IsS3.drewN | apply IsS3.drew | apply IsS3.set_0 | refine IsS3.far ?_ NB1_2.out _ | refine IsS3.far ?_ NB1_289.out _) | exact HI1.out)))⟩; have n3_ : Aside0 (KeepBut w w13 g none) := ⟨(by rw [hw]; exact (by repeat (first | (with_reducible first | exact HK.out | apply KeepBut.set_ | apply keep_drewN | apply keep_drew | apply keep_alloc | refine keep_far ?_ GW2.out _ | refine keep_far ?_ GW289.out _) | exact HK.out)))⟩; have n4_ : Aside0 (Below w0.heap.size w0 w13) := ⟨(by rw [hw]; exact (by repeat (first | (with_reducible first | exact HB.out | apply below_alloc | apply pw_below_drewN | apply below_drew1 | refine below_set ?_ (IsS3.ge HI1.out) | refine below_set ?_ GE2.out | refine below_set ?_ GE289.out) | exact HB.out)))⟩; clear hw; clear BK2; clear BK289; clear HI1; clear HK; clear HB; have BK2 := n0_; have BK289 := n1_; have HI1 := n2_; have HK := n3_; have HB := n4_; clear n0_ n1_ n2_ n3_ n4_; have q14 : (x12_1 : Int) ≤ ((l0.length : Int) : Int) := odt_; obtain ⟨i014, hi014, _, hsz14, _⟩ := info_parts info36; have hroom14 : l0.length ≤ c0 := HC0.out; have hC14 : Kd.C k36 _ (some ad288) l0.length l0 := (Kd.C_foot_now HR0.out HK.out); have hcut14 := cut_to (P := Try.prog) 28 36 .i64 Try.underlying28 hi014 (some ad288) l0.length c0 x12_1 (odt_) q14 hroom14; have hr14 := Kd.C_take (m := (x12_1 : Int).toNat) hC14 (by omega); have hy14 : y290.length = (x12_1 : Int).toNat := (by rw [Ny290.out, List.length_take]; omega); rw [← Ny290.out] at hr14; rw [← hy14] at hcut14; have HR293 := Aside0.mk hr14; have HC293 := Aside0.mk (show y290.length ≤ c0 from by omega); clear hr14 hC14 hroom14 hi014 hsz14; have KY14 := Aside0.mk hy14; clear hy14; have KL14 := Aside0.mk (show (x12_1 : Int).toNat ≤ l0.length from by omega); replace q14 := eq_true q14))
       go_loopg [21] k1 (fun kq v21 w' => ∃ (x21_2 : Int) (x2000_2 : Int) (x3000_2 : Int), v21 = .int .i64 x21_2 ∧ Aside0 (impl_threes.l1 kq l0 l0 (l0.length : Int) x12_1 y290 (y290.length : Int) x21_2 x2000_2 x3000_2 ((rd_T36 l0 x12_1).f0) ((rd_T36 l0 x12_1).f1) = some r) ∧ Aside0 (kq ≤ k1) ∧ Aside0 (w'.heap[g2_]? = some (.cells #[.int .i64 x3000_2] 3 (0, 0))) ∧ Aside0 (w'.heap[gb289]? = some (.cells #[.int .i64 ((rd_T36 l0 x12_1).f0), .int .i64 ((rd_T36 l0 x12_1).f1)] 36 (0, 0))) ∧ Aside0 (Kd.C k36 w' (some ad288) y290.length y290) ∧ Aside0 (IsS3 w0 w' g x2000_2) ∧ Aside0 (KeepBut w w' g none) ∧ Aside0 (Below w0.heap.size w0 w'))
       case atStart => exact ⟨(0), (x2000_1), (x3000_1), (by first | rfl | (simp; done) | (simp [*]; done)), H', ⟨Nat.le_refl _⟩, ⟨bk_ BK2.out⟩, ⟨bk_ BK289.out⟩, ⟨by repeat (first | (with_reducible exact HR293.out) | (with_reducible refine Kd.C_alloc ?_ _) | (with_reducible refine Kd.C_drewN ?_ _) | (with_reducible refine Kd.C_drew ?_) | exact HR293.out)⟩, ⟨by repeat (first | (with_reducible first | exact HI1.out | apply IsS3.alloc | apply IsS3.drewN | apply IsS3.drew | apply IsS3.set_0 | refine IsS3.far ?_ NB1_2.out _ | refine IsS3.far ?_ NB1_289.out _) | exact HI1.out)⟩, ⟨by repeat (first | (with_reducible first | exact HK.out | apply KeepBut.set_ | apply keep_drewN | apply keep_drew | apply keep_alloc | refine keep_far ?_ GW2.out _ | refine keep_far ?_ GW289.out _) | exact HK.out)⟩, ⟨by repeat (first | (with_reducible first | exact HB.out | apply below_alloc | apply pw_below_drewN | apply below_drew1 | refine below_set ?_ (IsS3.ge HI1.out) | refine below_set ?_ GE2.out | refine below_set ?_ GE289.out) | exact HB.out)⟩⟩
       case round =>
        clear H'
        try clear c1; try clear q1; try clear p2; try clear q2; try clear hx2; try clear c4; try clear c4b0; try clear c5; try clear c5b0; try clear c6; try clear c6b0; try clear c7; try clear c7b0; try clear c8; try clear c8b0; try clear c8b1; try clear c10; try clear c11; try clear q14; try clear hcz12_0; try clear hcz12_1; try clear hfz12_0; try clear hfz12_1; try clear hx288_0; try clear hx288_1; try clear p2; try clear p288; try clear q14; try clear q288
        obtain ⟨x21_2, x2000_2, x3000_2, rfl, HA, HK2, BK2, BK289, HR293, HI1, HK, HB⟩ := hrel
        cases gk with
        | zero => exact absurd HA.out (by simp [impl_threes.l1])
        | succ k2 =>
         have H := HA.out
         clear HA
         simp only [impl_threes.l1] at H
         by_cases c15 : x21_2 < (y290.length : Int)
         ·rw [if_pos c15] at H
          have c15b0 : decide (x21_2 < (y290.length : Int)) = true := decide_eq_true c15
          clear c15
          by_cases c16 : 0 ≤ x21_2
          ·rw [if_pos c16] at H
           have c16b0 : decide (0 ≤ x21_2) = true := decide_eq_true c16
           clear c16
           by_cases c17 : x21_2 < (y290.length : Int)
           ·rw [if_pos c17] at H
            have c17b0 : decide (x21_2 < (y290.length : Int)) = true := decide_eq_true c17
            clear c17
            have c18b0 := eq_true (odt_ : 0 ≤ x21_2)
            by_cases c19 : x21_2 ≤ (l0.length : Int)
            ·rw [if_pos c19] at H
             have c19b0 := eq_true c19
             have c19b1 : decide (x21_2 ≤ (l0.length : Int)) = true := decide_eq_true c19
             clear c19
             obtain ⟨y296, hy296⟩ : ∃ y_ : List (S36), y_ = (l0.take (x21_2 : Int).toNat) := ⟨_, rfl⟩
             replace H : (impl_threes.l2 k2 l0 l0 (l0.length : Int) x12_1 y290 (y290.length : Int) x21_2 y296 (y296.length : Int) 0 x2000_2 x3000_2 ((rd_T36 l0 x12_1).f0) ((rd_T36 l0 x12_1).f1) ((rd_T36 y290 x21_2).f0) ((rd_T36 y290 x21_2).f1)) = some r := by first | (rw [hy296]; with_reducible exact H) | (have H2_ := (Option.bind_some _ _).symm.trans H; rw [hy296]; with_reducible exact H2_) | (have H2_ := (Option.bind_some _ _).symm.trans H; with_reducible exact H2_) | with_reducible exact H | (rw [hy296]; exact H) | exact H
             have Ny296 := Aside0.mk hy296
             clear hy296
             have H' := Aside0.mk H
             clear H
             have p294 : 0 ≤ (x21_2 : Int) := odt_
             have q294 : x21_2 < (y290.length : Int) := odt_
             obtain ⟨ad294, e294, hx294_0, hx294_1⟩ := at_T36 (by repeat (first | (with_reducible exact HR293.out) | (with_reducible refine Kd.C_alloc ?_ _) | (with_reducible refine Kd.C_drewN ?_ _) | (with_reducible refine Kd.C_drew ?_) | exact HR293.out)) x21_2 p294 q294
             obtain rfl : ad288 = ad294 := (by injection e294)
             replace p294 := eq_true p294
             replace q294 := eq_true q294
             go_wp2_with (first | ((with_reducible refine gate_dst (N := 7) rfl ?_); refine box_event ?hg (N := 7) ?hd (cs := #[.int .i64 0, .int .i64 0]) (t := 36) ?hr ?_; (case hd => rfl); (case hg => rfl); (case hr => first | (go_simp; done) | (go_simp; rfl)); intro gb295 hg w20 hbox hb; have n0_ := bb_ BK2 hb; have n1_ := bb_ BK289 hb; have n2_ := Aside0.mk (IsS3.below (by repeat (first | (with_reducible first | exact HI1.out | apply IsS3.alloc | apply IsS3.drewN | apply IsS3.drew | apply IsS3.set_0 | refine IsS3.far ?_ NB1_2.out _ | refine IsS3.far ?_ NB1_289.out _) | exact HI1.out)) hb); have n3_ := Aside0.mk (Kd.C_below (by repeat (first | (with_reducible exact HR293.out) | (with_reducible refine Kd.C_alloc ?_ _) | (with_reducible refine Kd.C_drewN ?_ _) | (with_reducible refine Kd.C_drew ?_) | exact HR293.out)) hb); have n4_ := Aside0.mk (KeepBut.trans (by repeat (first | (with_reducible first | exact HK.out | apply KeepBut.set_ | apply keep_drewN | apply keep_drew | apply keep_alloc | refine keep_far ?_ GW2.out _ | refine keep_far ?_ GW289.out _) | exact HK.out)) (KeepBut.of_below hb g none) (.inl rfl)); have n5_ := Aside0.mk (below_step (by repeat (first | (with_reducible first | exact HB.out | apply below_alloc | apply pw_below_drewN | apply below_drew1 | refine below_set ?_ (IsS3.ge HI1.out) | refine below_set ?_ GE2.out | refine below_set ?_ GE289.out) | exact HB.out)) hb); have n6_ := Aside0.mk (hbox); have n7_ := Aside0.mk ((by rw [hg]; exact (keep_size (w := w) (g := g) (row := none) (by repeat (first | (with_reducible first | exact HK.out | apply KeepBut.set_ | apply keep_drewN | apply keep_drew | apply keep_alloc | refine keep_far ?_ GW2.out _ | refine keep_far ?_ GW289.out _) | exact HK.out))) : w.heap.size ≤ gb295)); have n8_ := Aside0.mk ((Nat.le_trans HW0.out (by rw [hg]; exact (keep_size (w := w) (g := g) (row := none) (by repeat (first | (with_reducible first | exact HK.out | apply KeepBut.set_ | apply keep_drewN | apply keep_drew | apply keep_alloc | refine keep_far ?_ GW2.out _ | refine keep_far ?_ GW289.out _) | exact HK.out))) : w.heap.size ≤ gb295) : w0.heap.size ≤ gb295)); have n9_ := Aside0.mk ((by rw [hg]; exact Nat.ne_of_lt (blk_lt (bk_ BK2.out)) : g2_ ≠ gb295)); have n10_ := Aside0.mk ((by rw [hg]; exact Nat.ne_of_gt (blk_lt (bk_ BK2.out)) : gb295 ≠ g2_)); have n11_ := Aside0.mk ((by rw [hg]; exact Nat.ne_of_lt (blk_lt (bk_ BK289.out)) : gb289 ≠ gb295)); have n12_ := Aside0.mk ((by rw [hg]; exact Nat.ne_of_gt (blk_lt (bk_ BK289.out)) : gb295 ≠ gb289)); have n13_ := Aside0.mk ((by rw [hg]; exact Nat.ne_of_lt (IsS3.lt (show IsS3 w0 _ g x2000_2 from by repeat (first | (with_reducible first | exact HI1.out | apply IsS3.alloc | apply IsS3.drewN | apply IsS3.drew | apply IsS3.set_0 | refine IsS3.far ?_ NB1_2.out _ | refine IsS3.far ?_ NB1_289.out _) | exact HI1.out))) : g ≠ gb295)); have n14_ := Aside0.mk ((by rw [hg]; exact Nat.ne_of_gt (IsS3.lt (show IsS3 w0 _ g x2000_2 from by repeat (first | (with_reducible first | exact HI1.out | apply IsS3.alloc | apply IsS3.drewN | apply IsS3.drew | apply IsS3.set_0 | refine IsS3.far ?_ NB1_2.out _ | refine IsS3.far ?_ NB1_289.out _) | exact HI1.out))) : gb295 ≠ g)); clear BK2; clear BK289; clear HI1; clear HR293; clear HK; clear HB; have BK2 := n0_; have BK289 := n1_; have HI1 := n2_; have HR293 := n3_; have HK := n4_; have HB := n5_; have BK295 := n6_; have GW295 := n7_; have GE295 := n8_; have NB2_295 := n9_; have NB295_2 := n10_; have NB289_295 := n11_; have NB295_289 := n12_; have NB1_295 := n13_; have NB295_1 := n14_; clear n0_ n1_ n2_ n3_ n4_ n5_ n6_ n7_ n8_ n9_ n10_ n11_ n12_ n13_ n14_; clear hb hbox hg; have hnb21 := NB295_2.out; have hnc21 := NB2_295.out; have hnb22 := NB295_289.out; have hnc22 := NB289_295.out; have hnb23 := NB295_1.out; have hnc23 := NB1_295.out; have hcz24_0 : w20.cell? ⟨gb295, 0, none⟩ = some (.int .i64 0) := (blk_cell BK295.out 0).trans rfl; have hcz24_1 : w20.cell? ⟨gb295, 1, none⟩ = some (.int .i64 0) := (blk_cell BK295.out 1).trans rfl; have hfz24_0 := blk_frozen BK295.out 0; have hfz24_1 := blk_frozen BK295.out 1) | ((with_reducible refine gate_store (t := 36) (p := 7) rfl ?_); refine store_event (t := 36) (p := 7) (v := ?vo_w25) (w1 := ((w20.setCell ⟨gb295, 0, none⟩ (.int .i64 ((rd_T36 y290 x21_2).f0))).setCell ⟨gb295, 1, none⟩ (.int .i64 ((rd_T36 y290 x21_2).f1)))) ?hg ?ho ?hn ?hr ?_; (case ho => rfl); (case hg => rfl); (case hn => rfl); (case hr => first | (go_simp; done) | (go_simp; rfl)); intro w25 hw; have n0_ : Aside0 (Kd.C k36 w25 (some ad288) y290.length y290) := ⟨(by rw [hw]; exact ((by skip; exact (show ∀ W_ : World, Kd.C k36 W_ (some ad288) (l0.take (x12_1 : Int).toNat).length (l0.take (x12_1 : Int).toNat) → Kd.C k36 W_ (some ad288) y290.length y290 from fun W_ h_ => by rw [Ny290.out]; exact h_) _ (Kd.C_take (m := (x12_1 : Int).toNat) (Kd.C_foot_now HR0.out (show KeepBut w ((w20.setCell ⟨gb295, 0, none⟩ (.int .i64 ((rd_T36 y290 x21_2).f0))).setCell ⟨gb295, 1, none⟩ (.int .i64 ((rd_T36 y290 x21_2).f1))) g none from (by repeat (first | (with_reducible first | exact HK.out | apply KeepBut.set_ | apply keep_drewN | apply keep_drew | apply keep_alloc | refine keep_far ?_ GW2.out _ | refine keep_far ?_ GW289.out _ | refine keep_far ?_ GW295.out _) | exact HK.out)))) KL14.out))))⟩; have n1_ : Aside0 (w25.heap[g2_]? = some (.cells #[.int .i64 x3000_2] 3 (0, 0))) := ⟨(by rw [hw]; exact (bf2_ BK2 NB2_295))⟩; have n2_ : Aside0 (w25.heap[gb289]? = some (.cells #[.int .i64 ((rd_T36 l0 x12_1).f0), .int .i64 ((rd_T36 l0 x12_1).f1)] 36 (0, 0))) := ⟨(by rw [hw]; exact (bf2_ BK289 NB289_295))⟩; have n3_ : Aside0 (w25.heap[gb295]? = some (.cells #[.int .i64 ((rd_T36 y290 x21_2).f0), .int .i64 ((rd_T36 y290 x21_2).f1)] 36 (0, 0))) := ⟨(by rw [hw]; exact (by (with_reducible repeat (first | refine blk_drewN ?_ _ | refine blk_drew ?_ | refine blk_alloc ?_ _)); refine blk_put (cs := #[.int .i64 ((rd_T36 y290 x21_2).f0), .int .i64 0]) ?_ 1 _ rfl; (with_reducible repeat (first | refine blk_drewN ?_ _ | refine blk_drew ?_ | refine blk_alloc ?_ _)); refine blk_put (cs := #[.int .i64 0, .int .i64 0]) ?_ 0 _ rfl; (with_reducible repeat (first | refine blk_drewN ?_ _ | refine blk_drew ?_ | refine blk_alloc ?_ _)); exact BK295.out))⟩; have n4_ : Aside0 (IsS3 w0 w25 g x2000_2) := ⟨(by rw [hw]; exact (by repeat (first | (with_reducible first | exact HI1.out | apply IsS3.alloc | apply IsS3.drewN | apply IsS3.drew | apply IsS3.set_0 | refine IsS3.far ?_ NB1_2.out _ | refine IsS3.far ?_ NB1_289.out _ | refine IsS3.far ?_ NB1_295.out _) | exact HI1.out)))⟩; have n5_ : Aside0 (KeepBut w w25 g none) := ⟨(by rw [hw]; exact (by repeat (first | (with_reducible first | exact HK.out | apply KeepBut.set_ | apply keep_drewN | apply keep_drew | apply keep_alloc | refine keep_far ?_ GW2.out _ | refine keep_far ?_ GW289.out _ | refine keep_far ?_ GW295.out _) | exact HK.out)))⟩; have n6_ : Aside0 (Below w0.heap.size w0 w25) := ⟨(by rw [hw]; exact (by repeat (first | (with_reducible first | exact HB.out | apply below_alloc | apply pw_below_drewN | apply below_drew1 | refine below_set ?_ (IsS3.ge HI1.out) | refine below_set ?_ GE2.out | refine below_set ?_ GE289.out | refine below_set ?_ GE295.out) | exact HB.out)))⟩; clear hw; clear HR293; clear BK2; clear BK289; clear BK295; clear HI1; clear HK; clear HB; have HR293 := n0_; have BK2 := n1_; have BK289 := n2_; have BK295 := n3_; have HI1 := n4_; have HK := n5_; have HB := n6_; clear n0_ n1_ n2_ n3_ n4_ n5_ n6_; have q26 : (x21_2 : Int) ≤ ((l0.length : Int) : Int) := odt_; obtain ⟨i026, hi026, _, hsz26, _⟩ := info_parts info36; have hroom26 : l0.length ≤ c0 := HC0.out; have hC26 : Kd.C k36 _ (some ad288) l0.length l0 := (Kd.C_foot_now HR0.out HK.out); have hcut26 := cut_to (P := Try.prog) 28 36 .i64 Try.underlying28 hi026 (some ad288) l0.length c0 x21_2 (odt_) q26 hroom26; have hr26 := Kd.C_take (m := (x21_2 : Int).toNat) hC26 (by omega); have hy26 : y296.length = (x21_2 : Int).toNat := (by rw [Ny296.out, List.length_take]; omega); rw [← Ny296.out] at hr26; rw [← hy26] at hcut26; have HR299 := Aside0.mk hr26; have HC299 := Aside0.mk (show y296.length ≤ c0 from by omega); clear hr26 hC26 hroom26 hi026 hsz26; have KY26 := Aside0.mk hy26; clear hy26; have KL26 := Aside0.mk (show (x21_2 : Int).toNat ≤ l0.length from by omega); replace q26 := eq_true q26))
             go_loopg [30] k2 (fun kq v30 w' => ∃ (x30_3 : Int) (x2000_3 : Int) (x3000_3 : Int), v30 = .int .i64 x30_3 ∧ Aside0 (impl_threes.l2 kq l0 l0 (l0.length : Int) x12_1 y290 (y290.length : Int) x21_2 y296 (y296.length : Int) x30_3 x2000_3 x3000_3 ((rd_T36 l0 x12_1).f0) ((rd_T36 l0 x12_1).f1) ((rd_T36 y290 x21_2).f0) ((rd_T36 y290 x21_2).f1) = some r) ∧ Aside0 (kq ≤ k2) ∧ Aside0 (w'.heap[g2_]? = some (.cells #[.int .i64 x3000_3] 3 (0, 0))) ∧ Aside0 (w'.heap[gb289]? = some (.cells #[.int .i64 ((rd_T36 l0 x12_1).f0), .int .i64 ((rd_T36 l0 x12_1).f1)] 36 (0, 0))) ∧ Aside0 (w'.heap[gb295]? = some (.cells #[.int .i64 ((rd_T36 y290 x21_2).f0), .int .i64 ((rd_T36 y290 x21_2).f1)] 36 (0, 0))) ∧ Aside0 (Kd.C k36 w' (some ad288) y290.length y290) ∧ Aside0 (Kd.C k36 w' (some ad288) y296.length y296) ∧ Aside0 (IsS3 w0 w' g x2000_3) ∧ Aside0 (KeepBut w w' g none) ∧ Aside0 (Below w0.heap.size w0 w'))
             case atStart => exact ⟨(0), (x2000_2), (x3000_2), (by first | rfl | (simp; done) | (simp [*]; done)), H', ⟨Nat.le_refl _⟩, ⟨bk_ BK2.out⟩, ⟨bk_ BK289.out⟩, ⟨bk_ BK295.out⟩, ⟨by repeat (first | (with_reducible exact HR293.out) | (with_reducible refine Kd.C_alloc ?_ _) | (with_reducible refine Kd.C_drewN ?_ _) | (with_reducible refine Kd.C_drew ?_) | exact HR293.out)⟩, ⟨by repeat (first | (with_reducible exact HR299.out) | (with_reducible refine Kd.C_alloc ?_ _) | (with_reducible refine Kd.C_drewN ?_ _) | (with_reducible refine Kd.C_drew ?_) | exact HR299.out)⟩, ⟨by repeat (first | (with_reducible first | exact HI1.out | apply IsS3.alloc | apply IsS3.drewN | apply IsS3.drew | apply IsS3.set_0 | refine IsS3.far ?_ NB1_2.out _ | refine IsS3.far ?_ NB1_289.out _ | refine IsS3.far ?_ NB1_295.out _) | exact HI1.out)⟩, ⟨by repeat (first | (with_reducible first | exact HK.out | apply KeepBut.set_ | apply keep_drewN | apply keep_drew | apply keep_alloc | refine keep_far ?_ GW2.out _ | refine keep_far ?_ GW289.out _ | refine keep_far ?_ GW295.out _) | exact HK.out)⟩, ⟨by repeat (first | (with_reducible first | exact HB.out | apply below_alloc | apply pw_below_drewN | apply below_drew1 | refine below_set ?_ (IsS3.ge HI1.out) | refine below_set ?_ GE2.out | refine below_set ?_ GE289.out | refine below_set ?_ GE295.out) | exact HB.out)⟩⟩
             case round =>
              clear H'
              try clear c1; try clear q1; try clear c2; try clear p2; try clear q2; try clear hx2; try clear c4; try clear c4b0; try clear c5; try clear c5b0; try clear c6; try clear c6b0; try clear c7; try clear c7b0; try clear c8; try clear c8b0; try clear c8b1; try clear c10; try clear c11; try clear q14; try clear c15; try clear c15b0; try clear c16; try clear c16b0; try clear c17; try clear c17b0; try clear c18; try clear c18b0; try clear c19; try clear c19b0; try clear c19b1; try clear c21; try clear c22; try clear c23; try clear q26; try clear hcz12_0; try clear hcz12_1; try clear hcz24_0; try clear hcz24_1; try clear hfz12_0; try clear hfz12_1; try clear hfz24_0; try clear hfz24_1; try clear hx288_0; try clear hx288_1; try clear hx294_0; try clear hx294_1; try clear p2; try clear p288; try clear p294; try clear q1; try clear q14; try clear q2; try clear q26; try clear q288; try clear q294
              obtain ⟨x30_3, x2000_3, x3000_3, rfl, HA, HK3, BK2, BK289, BK295, HR293, HR299, HI1, HK, HB⟩ := hrel
              cases gk with
              | zero => exact absurd HA.out (by simp [impl_threes.l2])
              | succ k3 =>
               have H := HA.out
               clear HA
               simp only [impl_threes.l2] at H
               by_cases c27 : x30_3 < (y296.length : Int)
               ·rw [if_pos c27] at H
                have c27b0 : decide (x30_3 < (y296.length : Int)) = true := decide_eq_true c27
                clear c27
                by_cases c28 : 0 ≤ x30_3
                ·rw [if_pos c28] at H
                 have c28b0 : decide (0 ≤ x30_3) = true := decide_eq_true c28
                 clear c28
                 by_cases c29 : x30_3 < (y296.length : Int)
                 ·rw [if_pos c29] at H
                  have c29b0 : decide (x30_3 < (y296.length : Int)) = true := decide_eq_true c29
                  clear c29
                  replace H := Option.bind_eq_some_iff.mp H
                  obtain ⟨t302, A300, H⟩ := H
                  replace H : (impl_threes.l2 k3 l0 l0 (l0.length : Int) x12_1 y290 (y290.length : Int) x21_2 y296 (y296.length : Int) (wrap64 (x30_3 + 1)) t302 x3000_3 ((rd_T36 l0 x12_1).f0) ((rd_T36 l0 x12_1).f1) ((rd_T36 y290 x21_2).f0) ((rd_T36 y290 x21_2).f1)) = some r := H
                  have A30 := Aside0.mk A300
                  clear A300
                  have H' := Aside0.mk H
                  clear H
                  have p300 : 0 ≤ (x30_3 : Int) := odt_
                  have q300 : x30_3 < (y296.length : Int) := odt_
                  obtain ⟨ad300, e300, hx300_0, hx300_1⟩ := at_T36 (by repeat (first | (with_reducible exact HR299.out) | (with_reducible refine Kd.C_alloc ?_ _) | (with_reducible refine Kd.C_drewN ?_ _) | (with_reducible refine Kd.C_drew ?_) | exact HR299.out)) x30_3 p300 q300
                  obtain rfl : ad288 = ad300 := (by injection e300)
                  replace p300 := eq_true p300
                  replace q300 := eq_true q300
                  go_wp2_with (first | ((with_reducible refine gate_dst (N := 9) rfl ?_); refine box_event ?hg (N := 9) ?hd (cs := #[.int .i64 0, .int .i64 0]) (t := 36) ?hr ?_; (case hd => rfl); (case hg => rfl); (case hr => first | (go_simp; done) | (go_simp; rfl)); intro gb301 hg w31 hbox hb; have n0_ := bb_ BK2 hb; have n1_ := bb_ BK289 hb; have n2_ := bb_ BK295 hb; have n3_ := Aside0.mk (IsS3.below (by repeat (first | (with_reducible first | exact HI1.out | apply IsS3.alloc | apply IsS3.drewN | apply IsS3.drew | apply IsS3.set_0 | refine IsS3.far ?_ NB1_2.out _ | refine IsS3.far ?_ NB1_289.out _ | refine IsS3.far ?_ NB1_295.out _) | exact HI1.out)) hb); have n4_ := Aside0.mk (Kd.C_below (by repeat (first | (with_reducible exact HR293.out) | (with_reducible refine Kd.C_alloc ?_ _) | (with_reducible refine Kd.C_drewN ?_ _) | (with_reducible refine Kd.C_drew ?_) | exact HR293.out)) hb); have n5_ := Aside0.mk (Kd.C_below (by repeat (first | (with_reducible exact HR299.out) | (with_reducible refine Kd.C_alloc ?_ _) | (with_reducible refine Kd.C_drewN ?_ _) | (with_reducible refine Kd.C_drew ?_) | exact HR299.out)) hb); have n6_ := Aside0.mk (KeepBut.trans (by repeat (first | (with_reducible first | exact HK.out | apply KeepBut.set_ | apply keep_drewN | apply keep_drew | apply keep_alloc | refine keep_far ?_ GW2.out _ | refine keep_far ?_ GW289.out _ | refine keep_far ?_ GW295.out _) | exact HK.out)) (KeepBut.of_below hb g none) (.inl rfl)); have n7_ := Aside0.mk (below_step (by repeat (first | (with_reducible first | exact HB.out | apply below_alloc | apply pw_below_drewN | apply below_drew1 | refine below_set ?_ (IsS3.ge HI1.out) | refine below_set ?_ GE2.out | refine below_set ?_ GE289.out | refine below_set ?_ GE295.out) | exact HB.out)) hb); have n8_ := Aside0.mk (hbox); have n9_ := Aside0.mk ((by rw [hg]; exact (keep_size (w := w) (g := g) (row := none) (by repeat (first | (with_reducible first | exact HK.out | apply KeepBut.set_ | apply keep_drewN | apply keep_drew | apply keep_alloc | refine keep_far ?_ GW2.out _ | refine keep_far ?_ GW289.out _ | refine keep_far ?_ GW295.out _) | exact HK.out))) : w.heap.size ≤ gb301)); have n10_ := Aside0.mk ((Nat.le_trans HW0.out (by rw [hg]; exact (keep_size (w := w) (g := g) (row := none) (by repeat (first | (with_reducible first | exact HK.out | apply KeepBut.set_ | apply keep_drewN | apply keep_drew | apply keep_alloc | refine keep_far ?_ GW2.out _ | refine keep_far ?_ GW289.out _ | refine keep_far ?_ GW295.out _) | exact HK.out))) : w.heap.size ≤ gb301) : w0.heap.size ≤ gb301)); have n11_ := Aside0.mk ((by rw [hg]; exact Nat.ne_of_lt (blk_lt (bk_ BK2.out)) : g2_ ≠ gb301)); have n12_ := Aside0.mk ((by rw [hg]; exact Nat.ne_of_gt (blk_lt (bk_ BK2.out)) : gb301 ≠ g2_)); have n13_ := Aside0.mk ((by rw [hg]; exact Nat.ne_of_lt (blk_lt (bk_ BK289.out)) : gb289 ≠ gb301)); have n14_ := Aside0.mk ((by rw [hg]; exact Nat.ne_of_gt (blk_lt (bk_ BK289.out)) : gb301 ≠ gb289)); have n15_ := Aside0.mk ((by rw [hg]; exact Nat.ne_of_lt (blk_lt (bk_ BK295.out)) : gb295 ≠ gb301)); have n16_ := Aside0.mk ((by rw [hg]; exact Nat.ne_of_gt (blk_lt (bk_ BK295.out)) : gb301 ≠ gb295)); have n17_ := Aside0.mk ((by rw [hg]; exact Nat.ne_of_lt (IsS3.lt (show IsS3 w0 _ g x2000_3 from by repeat (first | (with_reducible first | exact HI1.out | apply IsS3.alloc | apply IsS3.drewN | apply IsS3.drew | apply IsS3.set_0 | refine IsS3.far ?_ NB1_2.out _ | refine IsS3.far ?_ NB1_289.out _ | refine IsS3.far ?_ NB1_295.out _) | exact HI1.out))) : g ≠ gb301)); have n18_ := Aside0.mk ((by rw [hg]; exact Nat.ne_of_gt (IsS3.lt (show IsS3 w0 _ g x2000_3 from by repeat (first | (with_reducible first | exact HI1.out | apply IsS3.alloc | apply IsS3.drewN | apply IsS3.drew | apply IsS3.set_0 | refine IsS3.far ?_ NB1_2.out _ | refine IsS3.far ?_ NB1_289.out _ | refine IsS3.far ?_ NB1_295.out _) | exact HI1.out))) : gb301 ≠ g)); clear BK2; clear BK289; clear BK295; clear HI1; clear HR293; clear HR299; clear HK; clear HB; have BK2 := n0_; have BK289 := n1_; have BK295 := n2_; have HI1 := n3_; have HR293 := n4_; have HR299 := n5_; have HK := n6_; have HB := n7_; have BK301 := n8_; have GW301 := n9_; have GE301 := n10_; have NB2_301 := n11_; have NB301_2 := n12_; have NB289_301 := n13_; have NB301_289 := n14_; have NB295_301 := n15_; have NB301_295 := n16_; have NB1_301 := n17_; have NB301_1 := n18_; clear n0_ n1_ n2_ n3_ n4_ n5_ n6_ n7_ n8_ n9_ n10_ n11_ n12_ n13_ n14_ n15_ n16_ n17_ n18_; clear hb hbox hg; have hnb32 := NB301_2.out; have hnc32 := NB2_301.out; have hnb33 := NB301_289.out; have hnc33 := NB289_301.out; have hnb34 := NB301_295.out; have hnc34 := NB295_301.out; have hnb35 := NB301_1.out; have hnc35 := NB1_301.out; have hcz36_0 : w31.cell? ⟨gb301, 0, none⟩ = some (.int .i64 0) := (blk_cell BK301.out 0).trans rfl; have hcz36_1 : w31.cell? ⟨gb301, 1, none⟩ = some (.int .i64 0) := (blk_cell BK301.out 1).trans rfl; have hfz36_0 := blk_frozen BK301.out 0; have hfz36_1 := blk_frozen BK301.out 1) | ((with_reducible refine gate_store (t := 36) (p := 9) rfl ?_); refine store_event (t := 36) (p := 9) (v := ?vo_w37) (w1 := ((w31.setCell ⟨gb301, 0, none⟩ (.int .i64 ((rd_T36 y296 x30_3).f0))).setCell ⟨gb301, 1, none⟩ (.int .i64 ((rd_T36 y296 x30_3).f1)))) ?hg ?ho ?hn ?hr ?_; (case ho => rfl); (case hg => rfl); (case hn => rfl); (case hr => first | (go_simp; done) | (go_simp; rfl)); intro w37 hw; have n0_ : Aside0 (Kd.C k36 w37 (some ad288) y290.length y290) := ⟨(by rw [hw]; exact ((by skip; exact (show ∀ W_ : World, Kd.C k36 W_ (some ad288) (l0.take (x12_1 : Int).toNat).length (l0.take (x12_1 : Int).toNat) → Kd.C k36 W_ (some ad288) y290.length y290 from fun W_ h_ => by rw [Ny290.out]; exact h_) _ (Kd.C_take (m := (x12_1 : Int).toNat) (Kd.C_foot_now HR0.out (show KeepBut w ((w31.setCell ⟨gb301, 0, none⟩ (.int .i64 ((rd_T36 y296 x30_3).f0))).setCell ⟨gb301, 1, none⟩ (.int .i64 ((rd_T36 y296 x30_3).f1))) g none from (by repeat (first | (with_reducible first | exact HK.out | apply KeepBut.set_ | apply keep_drewN | apply keep_drew | apply keep_alloc | refine keep_far ?_ GW2.out _ | refine keep_far ?_ GW289.out _ | refine keep_far ?_ GW295.out _ | refine keep_far ?_ GW301.out _) | exact HK.out)))) KL14.out))))⟩; have n1_ : Aside0 (Kd.C k36 w37 (some ad288) y296.length y296) := ⟨(by rw [hw]; exact ((by skip; exact (show ∀ W_ : World, Kd.C k36 W_ (some ad288) (l0.take (x21_2 : Int).toNat).length (l0.take (x21_2 : Int).toNat) → Kd.C k36 W_ (some ad288) y296.length y296 from fun W_ h_ => by rw [Ny296.out]; exact h_) _ (Kd.C_take (m := (x21_2 : Int).toNat) (Kd.C_foot_now HR0.out (show KeepBut w ((w31.setCell ⟨gb301, 0, none⟩ (.int .i64 ((rd_T36 y296 x30_3).f0))).setCell ⟨gb301, 1, none⟩ (.int .i64 ((rd_T36 y296 x30_3).f1))) g none from (by repeat (first | (with_reducible first | exact HK.out | apply KeepBut.set_ | apply keep_drewN | apply keep_drew | apply keep_alloc | refine keep_far ?_ GW2.out _ | refine keep_far ?_ GW289.out _ | refine keep_far ?_ GW295.out _ | refine keep_far ?_ GW301.out _) | exact HK.out)))) KL26.out))))⟩; have n2_ : Aside0 (w37.heap[g2_]? = some (.cells #[.int .i64 x3000_3] 3 (0, 0))) := ⟨(by rw [hw]; exact (bf2_ BK2 NB2_301))⟩; have n3_ : Aside0 (w37.heap[gb289]? = some (.cells #[.int .i64 ((rd_T36 l0 x12_1).f0), .int .i64 ((rd_T36 l0 x12_1).f1)] 36 (0, 0))) := ⟨(by rw [hw]; exact (bf2_ BK289 NB289_301))⟩; have n4_ : Aside0 (w37.heap[gb295]? = some (.cells #[.int .i64 ((rd_T36 y290 x21_2).f0), .int .i64 ((rd_T36 y290 x21_2).f1)] 36 (0, 0))) := ⟨(by rw [hw]; exact (bf2_ BK295 NB295_301))⟩; have n5_ : Aside0 (w37.heap[gb301]? = some (.cells #[.int .i64 ((rd_T36 y296 x30_3).f0), .int .i64 ((rd_T36 y296 x30_3).f1)] 36 (0, 0))) := ⟨(by rw [hw]; exact (by (with_reducible repeat (first | refine blk_drewN ?_ _ | refine blk_drew ?_ | refine blk_alloc ?_ _)); refine blk_put (cs := #[.int .i64 ((rd_T36 y296 x30_3).f0), .int .i64 0]) ?_ 1 _ rfl; (with_reducible repeat (first | refine blk_drewN ?_ _ | refine blk_drew ?_ | refine blk_alloc ?_ _)); refine blk_put (cs := #[.int .i64 0, .int .i64 0]) ?_ 0 _ rfl; (with_reducible repeat (first | refine blk_drewN ?_ _ | refine blk_drew ?_ | refine blk_alloc ?_ _)); exact BK301.out))⟩; have n6_ : Aside0 (IsS3 w0 w37 g x2000_3) := ⟨(by rw [hw]; exact (by repeat (first | (with_reducible first | exact HI1.out | apply IsS3.alloc | apply IsS3.drewN | apply IsS3.drew | apply IsS3.set_0 | refine IsS3.far ?_ NB1_2.out _ | refine IsS3.far ?_ NB1_289.out _ | refine IsS3.far ?_ NB1_295.out _ | refine IsS3.far ?_ NB1_301.out _) | exact HI1.out)))⟩; have n7_ : Aside0 (KeepBut w w37 g none) := ⟨(by rw [hw]; exact (by repeat (first | (with_reducible first | exact HK.out | apply KeepBut.set_ | apply keep_drewN | apply keep_drew | apply keep_alloc | refine keep_far ?_ GW2.out _ | refine keep_far ?_ GW289.out _ | refine keep_far ?_ GW295.out _ | refine keep_far ?_ GW301.out _) | exact HK.out)))⟩; have n8_ : Aside0 (Below w0.heap.size w0 w37) := ⟨(by rw [hw]; exact (by repeat (first | (with_reducible first | exact HB.out | apply below_alloc | apply pw_below_drewN | apply below_drew1 | refine below_set ?_ (IsS3.ge HI1.out) | refine below_set ?_ GE2.out | refine below_set ?_ GE289.out | refine below_set ?_ GE295.out | refine below_set ?_ GE301.out) | exact HB.out)))⟩; clear hw; clear HR293; clear HR299; clear BK2; clear BK289; clear BK295; clear BK301; clear HI1; clear HK; clear HB; have HR293 := n0_; have HR299 := n1_; have BK2 := n2_; have BK289 := n3_; have BK295 := n4_; have BK301 := n5_; have HI1 := n6_; have HK := n7_; have HB := n8_; clear n0_ n1_ n2_ n3_ n4_ n5_ n6_ n7_ n8_; have hnb38 := NB289_2.out; have hnc38 := NB2_289.out; have hnb39 := NB289_295.out; have hnc39 := NB295_289.out; have hnb40 := NB289_1.out; have hnc40 := NB1_289.out; have hcz41_0 : w37.cell? ⟨gb289, 0, none⟩ = some (.int .i64 ((rd_T36 l0 x12_1).f0)) := (blk_cell BK289.out 0).trans rfl; have hcz41_1 : w37.cell? ⟨gb289, 1, none⟩ = some (.int .i64 ((rd_T36 l0 x12_1).f1)) := (blk_cell BK289.out 1).trans rfl; have hfz41_0 := blk_frozen BK289.out 0; have hfz41_1 := blk_frozen BK289.out 1; have hnb42 := NB295_2.out; have hnc42 := NB2_295.out; have hnb43 := NB295_1.out; have hnc43 := NB1_295.out; have hcz44_0 : w37.cell? ⟨gb295, 0, none⟩ = some (.int .i64 ((rd_T36 y290 x21_2).f0)) := (blk_cell BK295.out 0).trans rfl; have hcz44_1 : w37.cell? ⟨gb295, 1, none⟩ = some (.int .i64 ((rd_T36 y290 x21_2).f1)) := (blk_cell BK295.out 1).trans rfl; have hfz44_0 := blk_frozen BK295.out 0; have hfz44_1 := blk_frozen BK295.out 1; have hcz45_0 : w37.cell? ⟨gb301, 0, none⟩ = some (.int .i64 ((rd_T36 y296 x30_3).f0)) := (blk_cell BK301.out 0).trans rfl; have hcz45_1 : w37.cell? ⟨gb301, 1, none⟩ = some (.int .i64 ((rd_T36 y296 x30_3).f1)) := (blk_cell BK301.out 1).trans rfl; have hfz45_0 := blk_frozen BK301.out 0; have hfz45_1 := blk_frozen BK301.out 1) | ((with_reducible refine gate_via (s := 34) rfl ?_); refine goesD_ (some 38) rfl rfl (f := 88) Try.func88 (by kernel_rfl) rfl #[.agg #[.int .i64 ((rd_T36 l0 x12_1).f0), .int .i64 ((rd_T36 l0 x12_1).f1)], .agg #[.int .i64 ((rd_T36 y290 x21_2).f0), .int .i64 ((rd_T36 y290 x21_2).f1)], .agg #[.int .i64 ((rd_T36 y296 x30_3).f0), .int .i64 ((rd_T36 y296 x30_3).f1)]] #[.pointer (some ⟨g2_, 0, none⟩), .pointer (some ⟨g, 0, none⟩)] #[.agg #[.int .i64 ((rd_T36 l0 x12_1).f0), .int .i64 ((rd_T36 l0 x12_1).f1)], .agg #[.int .i64 ((rd_T36 y290 x21_2).f0), .int .i64 ((rd_T36 y290 x21_2).f1)], .agg #[.int .i64 ((rd_T36 y296 x30_3).f0), .int .i64 ((rd_T36 y296 x30_3).f1)], .pointer (some ⟨g2_, 0, none⟩), .pointer (some ⟨g, 0, none⟩)] rfl rfl rfl (by (try simp only [List.map_toArray, List.map_cons, List.map_nil]); first | done | rfl) ?_; (with_reducible refine (impl_CountOfArea_1.calls ((rd_T36 l0 x12_1).f0) ((rd_T36 l0 x12_1).f1) ((rd_T36 y290 x21_2).f0) ((rd_T36 y290 x21_2).f1) ((rd_T36 y296 x30_3).f0) ((rd_T36 y296 x30_3).f1) g2_ x3000_3 g x2000_3 t302 w0 _ ?side1 ?side2 ?side3 ?side4 A30.out).mono ?_); (case side1 => repeat (first | (with_reducible first | exact HI1.out | apply IsS3.alloc | apply IsS3.drewN | apply IsS3.drew | apply IsS3.set_0 | refine IsS3.far ?_ NB1_2.out _ | refine IsS3.far ?_ NB1_289.out _ | refine IsS3.far ?_ NB1_295.out _ | refine IsS3.far ?_ NB1_301.out _) | exact HI1.out)); (case side2 => repeat (first | (with_reducible first | exact HB.out | apply below_alloc | apply pw_below_drewN | apply below_drew1 | refine below_set ?_ (IsS3.ge HI1.out) | refine below_set ?_ GE2.out | refine below_set ?_ GE289.out | refine below_set ?_ GE295.out | refine below_set ?_ GE301.out) | exact HB.out)); (case side3 => exact (bk_ BK2.out)); (case side4 => exact NB2_1.out); rintro e w46 ⟨rfl, hi, hb, hk⟩; refine ⟨_, rfl, ?_⟩; have n0_ := Aside0.mk (KeepBut.blk hk (g' := g2_) (o := .cells #[.int .i64 x3000_3] 3 (0, 0)) (bk_ BK2.out) NB2_1.out (by simp)); have n1_ := Aside0.mk (KeepBut.blk hk (g' := gb289) (o := .cells #[.int .i64 ((rd_T36 l0 x12_1).f0), .int .i64 ((rd_T36 l0 x12_1).f1)] 36 (0, 0)) (bk_ BK289.out) NB289_1.out (by simp)); have n2_ := Aside0.mk (KeepBut.blk hk (g' := gb295) (o := .cells #[.int .i64 ((rd_T36 y290 x21_2).f0), .int .i64 ((rd_T36 y290 x21_2).f1)] 36 (0, 0)) (bk_ BK295.out) NB295_1.out (by simp)); have n3_ := Aside0.mk (KeepBut.blk hk (g' := gb301) (o := .cells #[.int .i64 ((rd_T36 y296 x30_3).f0), .int .i64 ((rd_T36 y296 x30_3).f1)] 36 (0, 0)) (bk_ BK301.out) NB301_1.out (by simp)); have n4_ := Aside0.mk (KeepBut.trans (by repeat (first | (with_reducible first | exact HK.out | apply KeepBut.set_ | apply keep_drewN | apply keep_drew | apply keep_alloc | refine keep_far ?_ GW2.out _ | refine keep_far ?_ GW289.out _ | refine keep_far ?_ GW295.out _ | refine keep_far ?_ GW301.out _) | exact HK.out)) hk (.inl rfl)); have n5_ := Aside0.mk (hb); have n6_ := Aside0.mk (hi); have n7_ := Aside0.mk ((show Kd.C k36 w46 (some ad288) y290.length y290 from by rw [Ny290.out]; exact Kd.C_take (m := (x12_1 : Int).toNat) (Kd.C_foot_now HR0.out (show KeepBut w w46 g none from (KeepBut.trans (by repeat (first | (with_reducible first | exact HK.out | apply KeepBut.set_ | apply keep_drewN | apply keep_drew | apply keep_alloc | refine keep_far ?_ GW2.out _ | refine keep_far ?_ GW289.out _ | refine keep_far ?_ GW295.out _ | refine keep_far ?_ GW301.out _) | exact HK.out)) hk (.inl rfl)))) KL14.out)); have n8_ := Aside0.mk ((show Kd.C k36 w46 (some ad288) y296.length y296 from by rw [Ny296.out]; exact Kd.C_take (m := (x21_2 : Int).toNat) (Kd.C_foot_now HR0.out (show KeepBut w w46 g none from (KeepBut.trans (by repeat (first | (with_reducible first | exact HK.out | apply KeepBut.set_ | apply keep_drewN | apply keep_drew | apply keep_alloc | refine keep_far ?_ GW2.out _ | refine keep_far ?_ GW289.out _ | refine keep_far ?_ GW295.out _ | refine keep_far ?_ GW301.out _) | exact HK.out)) hk (.inl rfl)))) KL26.out)); clear BK2; clear BK289; clear BK295; clear BK301; clear HK; clear HB; clear HI1; clear HR293; clear HR299; have BK2 := n0_; have BK289 := n1_; have BK295 := n2_; have BK301 := n3_; have HK := n4_; have HB := n5_; have HI1 := n6_; have HR293 := n7_; have HR299 := n8_; clear n0_ n1_ n2_ n3_ n4_ n5_ n6_ n7_ n8_; (try clear hb); (try clear hb2); (try clear hk); (try clear hi)))
                  go_roundg k3
                  case measure => have := HK1.out; have := HK2.out; have := HK3.out; omega
                  case rel => exact ⟨(wrap64 (x30_3 + 1)), (t302), (x3000_3), (by first | rfl | (simp; done) | (simp [*]; done)), H', ⟨by have := HK1.out; have := HK2.out; have := HK3.out; omega⟩, ⟨bk_ BK2.out⟩, ⟨bk_ BK289.out⟩, ⟨bk_ BK295.out⟩, ⟨by repeat (first | (with_reducible exact HR293.out) | (with_reducible refine Kd.C_alloc ?_ _) | (with_reducible refine Kd.C_drewN ?_ _) | (with_reducible refine Kd.C_drew ?_) | exact HR293.out)⟩, ⟨by repeat (first | (with_reducible exact HR299.out) | (with_reducible refine Kd.C_alloc ?_ _) | (with_reducible refine Kd.C_drewN ?_ _) | (with_reducible refine Kd.C_drew ?_) | exact HR299.out)⟩, ⟨by repeat (first | (with_reducible first | exact HI1.out | apply IsS3.alloc | apply IsS3.drewN | apply IsS3.drew | apply IsS3.set_0 | refine IsS3.far ?_ NB1_2.out _ | refine IsS3.far ?_ NB1_289.out _ | refine IsS3.far ?_ NB1_295.out _ | refine IsS3.far ?_ NB1_301.out _) | exact HI1.out)⟩, ⟨by repeat (first | (with_reducible first | exact HK.out | apply KeepBut.set_ | apply keep_drewN | apply keep_drew | apply keep_alloc | refine keep_far ?_ GW2.out _ | refine keep_far ?_ GW289.out _ | refine keep_far ?_ GW295.out _ | refine keep_far ?_ GW301.out _) | exact HK.out)⟩, ⟨by repeat (first | (with_reducible first | exact HB.out | apply below_alloc | apply pw_below_drewN | apply below_drew1 | refine below_set ?_ (IsS3.ge HI1.out) | refine below_set ?_ GE2.out | refine below_set ?_ GE289.out | refine below_set ?_ GE295.out | refine below_set ?_ GE301.out) | exact HB.out)⟩⟩
                 ·rw [if_neg c29] at H
                  exact absurd H (by simp)
                ·rw [if_neg c28] at H
                 exact absurd H (by simp)
               ·rw [if_neg c27] at H
                have c27b0 : decide (x30_3 < (y296.length : Int)) = false := decide_eq_false c27
                clear c27
                have H' := Aside0.mk H
                clear H
                go_wp2
                go_roundg k3
                case measure => have := HK1.out; have := HK2.out; have := HK3.out; omega
                case rel => exact ⟨(wrap64 (x21_2 + 1)), (x2000_3), (x3000_3), (by first | rfl | (simp; done) | (simp [*]; done)), H', ⟨by have := HK1.out; have := HK2.out; have := HK3.out; omega⟩, ⟨bk_ BK2.out⟩, ⟨bk_ BK289.out⟩, ⟨by repeat (first | (with_reducible exact HR293.out) | (with_reducible refine Kd.C_alloc ?_ _) | (with_reducible refine Kd.C_drewN ?_ _) | (with_reducible refine Kd.C_drew ?_) | exact HR293.out)⟩, ⟨by repeat (first | (with_reducible first | exact HI1.out | apply IsS3.alloc | apply IsS3.drewN | apply IsS3.drew | apply IsS3.set_0 | refine IsS3.far ?_ NB1_2.out _ | refine IsS3.far ?_ NB1_289.out _ | refine IsS3.far ?_ NB1_295.out _) | exact HI1.out)⟩, ⟨by repeat (first | (with_reducible first | exact HK.out | apply KeepBut.set_ | apply keep_drewN | apply keep_drew | apply keep_alloc | refine keep_far ?_ GW2.out _ | refine keep_far ?_ GW289.out _ | refine keep_far ?_ GW295.out _) | exact HK.out)⟩, ⟨by repeat (first | (with_reducible first | exact HB.out | apply below_alloc | apply pw_below_drewN | apply below_drew1 | refine below_set ?_ (IsS3.ge HI1.out) | refine below_set ?_ GE2.out | refine below_set ?_ GE289.out | refine below_set ?_ GE295.out) | exact HB.out)⟩⟩
            ·rw [if_neg c19] at H
             exact absurd H (by simp)
           ·rw [if_neg c17] at H
            exact absurd H (by simp)
          ·rw [if_neg c16] at H
           exact absurd H (by simp)
         ·rw [if_neg c15] at H
          have c15b0 : decide (x21_2 < (y290.length : Int)) = false := decide_eq_false c15
          clear c15
          have H' := Aside0.mk H
          clear H
          go_wp2
          go_roundg k2
          case measure => have := HK1.out; have := HK2.out; omega
          case rel => exact ⟨(wrap64 (x12_1 + 1)), (x2000_2), (x3000_2), (by first | rfl | (simp; done) | (simp [*]; done)), H', ⟨by have := HK1.out; have := HK2.out; omega⟩, ⟨bk_ BK2.out⟩, ⟨by repeat (first | (with_reducible first | exact HI1.out | apply IsS3.alloc | apply IsS3.drewN | apply IsS3.drew | apply IsS3.set_0 | refine IsS3.far ?_ NB1_2.out _ | refine IsS3.far ?_ NB1_289.out _) | exact HI1.out)⟩, ⟨by repeat (first | (with_reducible first | exact HK.out | apply KeepBut.set_ | apply keep_drewN | apply keep_drew | apply keep_alloc | refine keep_far ?_ GW2.out _ | refine keep_far ?_ GW289.out _) | exact HK.out)⟩, ⟨by repeat (first | (with_reducible first | exact HB.out | apply below_alloc | apply pw_below_drewN | apply below_drew1 | refine below_set ?_ (IsS3.ge HI1.out) | refine below_set ?_ GE2.out | refine below_set ?_ GE289.out) | exact HB.out)⟩⟩
      ·rw [if_neg c8] at H
       exact absurd H (by simp)
     ·rw [if_neg c6] at H
      exact absurd H (by simp)
    ·rw [if_neg c5] at H
     exact absurd H (by simp)
   ·rw [if_neg c4] at H
    have c4b0 : decide (x12_1 < (l0.length : Int)) = false := decide_eq_false c4
    clear c4
    obtain rfl := Option.some.inj H
    go_wp2
    first | go_end0 | ((try simp only [Exit.inBlock, Exit.then]); refine bodyPost_ret (results_none rfl _ _ _) rfl ?_)
    exact ⟨by first | rfl | (simp [errW_none, errW_some] <;> rfl) | (simp [*, errW_none, errW_some] <;> rfl), by repeat (first | (with_reducible first | exact HI1.out | apply IsS3.alloc | apply IsS3.drewN | apply IsS3.drew | apply IsS3.set_0 | refine IsS3.far ?_ NB1_2.out _) | exact HI1.out), by repeat (first | (with_reducible first | exact HB.out | apply below_alloc | apply pw_below_drewN | apply below_drew1 | refine below_set ?_ (IsS3.ge HI1.out) | refine below_set ?_ GE2.out) | exact HB.out), by repeat (first | (with_reducible first | exact HK.out | apply KeepBut.set_ | apply keep_drewN | apply keep_drew | apply keep_alloc | refine keep_far ?_ GW2.out _) | exact HK.out)⟩

end Go.Proofs.Ytmenfomcikfnmaa.MB
