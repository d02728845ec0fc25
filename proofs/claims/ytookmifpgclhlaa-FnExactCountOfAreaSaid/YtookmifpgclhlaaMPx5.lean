-- Written by a program of this session (wip/print/myprint.py) over the kit's printer; Lean checks it.
import Derived.Test.YtookmifpgclhlaaMPx0
import Derived.Test.YtookmifpgclhlaaMPx4
namespace Go.Proofs.Ytookmifpgclhlaa.MP
open Go.RowKit Go.Proofs.YtookmifpgclhlaaW.PrintWords Go.Proofs.YtookmifpgclhlaaW.PrintLast Go.Proofs.YtookmifpgclhlaaW.PrintMore Go.Proofs.YtookmifpgclhlaaV
attribute [local go_sem] max2_int min2_int max_two min_two max_three min_three max_four min_four   -- for this text's walks alone
set_option linter.unusedVariables false
set_option linter.unusedSimpArgs false

/-! ### impl_threes: function 52 -/
mutual
def impl_threes.l0 : Nat → List (S30) → List (S30) → Int → Int → Int → Int → Option (Int)
  | 0, _, _, _, _, _, _ => none
  | k + 1, x0, x10, x11, x12, x2000, x3000 => if x12 < x11 then (if 0 ≤ x12 then (if x12 < (x10.length : Int) then (if x12 ≤ (x0.length : Int) then ((some (x0.take (x12 : Int).toNat : List (S30))).bind fun y153 => (impl_threes.l1 k x0 x10 x11 x12 y153 (y153.length : Int) 0 x2000 x3000 ((rd_T30 x10 x12).f0) ((rd_T30 x10 x12).f1))) else (none)) else (none)) else (none)) else (some x2000)
def impl_threes.l1 : Nat → List (S30) → List (S30) → Int → Int → List (S30) → Int → Int → Int → Int → Int → Int → Option (Int)
  | 0, _, _, _, _, _, _, _, _, _, _, _ => none
  | k + 1, x0, x10, x11, x12, x19, x20, x21, x2000, x3000, x153000, x153001 => if x21 < x20 then (if 0 ≤ x21 then (if x21 < (x19.length : Int) then (if x21 ≤ (x0.length : Int) then ((some (x0.take (x21 : Int).toNat : List (S30))).bind fun y159 => (impl_threes.l2 k x0 x10 x11 x12 x19 x20 x21 y159 (y159.length : Int) 0 x2000 x3000 x153000 x153001 ((rd_T30 x19 x21).f0) ((rd_T30 x19 x21).f1))) else (none)) else (none)) else (none)) else (impl_threes.l0 k x0 x10 x11 (wrap64 (x12 + 1)) x2000 x3000)
def impl_threes.l2 : Nat → List (S30) → List (S30) → Int → Int → List (S30) → Int → Int → List (S30) → Int → Int → Int → Int → Int → Int → Int → Int → Option (Int)
  | 0, _, _, _, _, _, _, _, _, _, _, _, _, _, _, _, _ => none
  | k + 1, x0, x10, x11, x12, x19, x20, x21, x28, x29, x30, x2000, x3000, x153000, x153001, x159000, x159001 => if x30 < x29 then (if 0 ≤ x30 then (if x30 < (x28.length : Int) then ((impl_CountOfArea_1.f x153000 x153001 x159000 x159001 ((rd_T30 x28 x30).f0) ((rd_T30 x28 x30).f1) x3000 x2000).bind fun t165 => (impl_threes.l2 k x0 x10 x11 x12 x19 x20 x21 x28 x29 (wrap64 (x30 + 1)) t165 x3000 x153000 x153001 x159000 x159001)) else (none)) else (none)) else (impl_threes.l1 k x0 x10 x11 x12 x19 x20 (wrap64 (x21 + 1)) x2000 x3000 x153000 x153001)
end
def impl_threes.f (k : Nat) (l0 : List (S30)) (s1_0 : Int) (a2_0 : Int) : Option (Int) := impl_threes.l0 k l0 l0 (l0.length : Int) 0 s1_0 a2_0
theorem impl_threes.mono_l : ∀ k, (∀ y0 y1 y2 y3 y4 y5, LeO (impl_threes.l0 k y0 y1 y2 y3 y4 y5) (impl_threes.l0 (k + 1) y0 y1 y2 y3 y4 y5)) ∧ (∀ y0 y1 y2 y3 y4 y5 y6 y7 y8 y9 y10, LeO (impl_threes.l1 k y0 y1 y2 y3 y4 y5 y6 y7 y8 y9 y10) (impl_threes.l1 (k + 1) y0 y1 y2 y3 y4 y5 y6 y7 y8 y9 y10)) ∧ (∀ y0 y1 y2 y3 y4 y5 y6 y7 y8 y9 y10 y11 y12 y13 y14 y15, LeO (impl_threes.l2 k y0 y1 y2 y3 y4 y5 y6 y7 y8 y9 y10 y11 y12 y13 y14 y15) (impl_threes.l2 (k + 1) y0 y1 y2 y3 y4 y5 y6 y7 y8 y9 y10 y11 y12 y13 y14 y15))
  | 0 => ⟨fun _ _ _ _ _ _ r h => by simp [impl_threes.l0] at h, fun _ _ _ _ _ _ _ _ _ _ _ r h => by simp [impl_threes.l1] at h, fun _ _ _ _ _ _ _ _ _ _ _ _ _ _ _ _ r h => by simp [impl_threes.l2] at h⟩
  | k + 1 => by
    obtain ⟨ih0, ih1, ih2⟩ := impl_threes.mono_l k
    refine ⟨?_, ?_, ?_⟩
    · intro y0 y1 y2 y3 y4 y5
      unfold impl_threes.l0
      repeat' first
      | (with_reducible exact ih0 _ _ _ _ _ _)
      | (with_reducible exact ih1 _ _ _ _ _ _ _ _ _ _ _)
      | (with_reducible exact ih2 _ _ _ _ _ _ _ _ _ _ _ _ _ _ _ _)
      | (with_reducible exact LeO.refl _)
      | (with_reducible exact LeO.none _)
      | (with_reducible refine LeO.ite ?_ ?_)
      | (with_reducible refine LeO.bind ?_ (fun _ => ?_))
      | exact ih0 _ _ _ _ _ _
      | exact ih1 _ _ _ _ _ _ _ _ _ _ _
      | exact ih2 _ _ _ _ _ _ _ _ _ _ _ _ _ _ _ _
      | exact LeO.none _
      | refine LeO.ite ?_ ?_
      | refine LeO.bind ?_ (fun _ => ?_)
    · intro y0 y1 y2 y3 y4 y5 y6 y7 y8 y9 y10
      unfold impl_threes.l1
      repeat' first
      | (with_reducible exact ih0 _ _ _ _ _ _)
      | (with_reducible exact ih1 _ _ _ _ _ _ _ _ _ _ _)
      | (with_reducible exact ih2 _ _ _ _ _ _ _ _ _ _ _ _ _ _ _ _)
      | (with_reducible exact LeO.refl _)
      | (with_reducible exact LeO.none _)
      | (with_reducible refine LeO.ite ?_ ?_)
      | (with_reducible refine LeO.bind ?_ (fun _ => ?_))
      | exact ih0 _ _ _ _ _ _
      | exact ih1 _ _ _ _ _ _ _ _ _ _ _
      | exact ih2 _ _ _ _ _ _ _ _ _ _ _ _ _ _ _ _
      | exact LeO.none _
      | refine LeO.ite ?_ ?_
      | refine LeO.bind ?_ (fun _ => ?_)
    · intro y0 y1 y2 y3 y4 y5 y6 y7 y8 y9 y10 y11 y12 y13 y14 y15
      unfold impl_threes.l2
      repeat' first
      | (with_reducible exact ih0 _ _ _ _ _ _)
      | (with_reducible exact ih1 _ _ _ _ _ _ _ _ _ _ _)
      | (with_reducible exact ih2 _ _ _ _ _ _ _ _ _ _ _ _ _ _ _ _)
      | (with_reducible exact LeO.refl _)
      | (with_reducible exact LeO.none _)
      | (with_reducible refine LeO.ite ?_ ?_)
      | (with_reducible refine LeO.bind ?_ (fun _ => ?_))
      | exact ih0 _ _ _ _ _ _
      | exact ih1 _ _ _ _ _ _ _ _ _ _ _
      | exact ih2 _ _ _ _ _ _ _ _ _ _ _ _ _ _ _ _
      | exact LeO.none _
      | refine LeO.ite ?_ ?_
      | refine LeO.bind ?_ (fun _ => ?_)
theorem impl_threes.mono : ∀ a0 a1 a2 k, LeO (impl_threes.f k a0 a1 a2) (impl_threes.f (k + 1) a0 a1 a2) := by
  intro a0 a1 a2 k
  obtain ⟨ih0, ih1, ih2⟩ := impl_threes.mono_l k
  unfold impl_threes.f
  repeat' first
      | (with_reducible exact ih0 _ _ _ _ _ _)
      | (with_reducible exact ih1 _ _ _ _ _ _ _ _ _ _ _)
      | (with_reducible exact ih2 _ _ _ _ _ _ _ _ _ _ _ _ _ _ _ _)
      | (with_reducible exact LeO.refl _)
      | (with_reducible exact LeO.none _)
      | (with_reducible refine LeO.ite ?_ ?_)
      | (with_reducible refine LeO.bind ?_ (fun _ => ?_))
      | exact ih0 _ _ _ _ _ _
      | exact ih1 _ _ _ _ _ _ _ _ _ _ _
      | exact ih2 _ _ _ _ _ _ _ _ _ _ _ _ _ _ _ _
      | exact LeO.none _
      | refine LeO.ite ?_ ?_
      | refine LeO.bind ?_ (fun _ => ?_)
set_option maxHeartbeats 8000000 in
set_option maxRecDepth 100000 in
theorem impl_threes.calls (k : Nat) (A0 : Option Addr) (c0 : Nat) (l0 : List (S30)) (g : Nat) (s1_0 : Int) (g2_ : Nat) (a2_0 : Int) (r : Int) (w0 w : World) (hI : IsS3 w0 w g s1_0) (hB : Below w0.heap.size w0 w) (hr0 : ∀ W_, KeepBut w W_ g none → Kd.C k30 W_ A0 l0.length l0) (hc0 : l0.length ≤ c0) (hro2 : w.heap[g2_]? = some (.cells #[.int .i64 a2_0] 3 (0, 0))) (hrn2 : g2_ ≠ g) (h : impl_threes.f k l0 s1_0 a2_0 = some r) :
    Calls Try.prog 52 #[.slice A0 l0.length c0, .func (.func 59) #[] #[.pointer (some ⟨g2_, 0, none⟩), .pointer (some ⟨g, 0, none⟩)]] w fun e w' => e = .returned (.tuple #[]) ∧ IsS3 w0 w' g r ∧ Below w0.heap.size w0 w' ∧ KeepBut w w' g none := by
  have hu30 := Try.underlying30
  have HR0 := Aside0.mk hr0
  have HC0 := Aside0.mk hc0
  clear hr0 hc0
  have HI1 := Aside0.mk hI
  have HK := Aside0.mk (KeepBut.refl w g none)
  have HL := Aside0.mk hB.size
  clear hI
  have BK2 := Aside0.mk hro2
  clear hro2
  have NB2_1 := Aside0.mk hrn2
  have NB1_2 := Aside0.mk (Ne.symm hrn2)
  clear hrn2
  have HW0 := Aside0.mk hB.size
  have HB := Aside0.mk hB
  clear hB
  have H : (impl_threes.l0 k l0 l0 (l0.length : Int) 0 s1_0 a2_0) = some r := h
  clear h
  have H' := Aside0.mk H
  clear H
  go_enter Try.func52, Try.ntmps52
  go_wp2
  go_loopg [12] k (fun kq v12 w' => ∃ (x12_1 : Int) (x2000_1 : Int) (x3000_1 : Int), v12 = .int .i64 x12_1 ∧ Aside0 (impl_threes.l0 kq l0 l0 (l0.length : Int) x12_1 x2000_1 x3000_1 = some r) ∧ Aside0 (kq ≤ k) ∧ Aside0 (w'.heap[g2_]? = some (.cells #[.int .i64 x3000_1] 3 (0, 0))) ∧ Aside0 (IsS3 w0 w' g x2000_1) ∧ Aside0 (KeepBut w w' g none) ∧ Aside0 (Below w0.heap.size w0 w'))
  case atStart => exact ⟨(0), (s1_0), (a2_0), (by first | rfl | (simp; done) | (simp [*]; done)), H', ⟨Nat.le_refl _⟩, ⟨by (with_reducible repeat (first | refine blk_drewN ?_ _ | refine blk_drew ?_ | refine blk_alloc ?_ _)); exact BK2.out⟩, ⟨by repeat (first | (with_reducible first | exact HI1.out | apply IsS3.alloc | apply IsS3.drewN | apply IsS3.drew | apply IsS3.set_0 | refine IsS3.far ?_ NB1_2.out _) | exact HI1.out)⟩, ⟨by repeat (first | (with_reducible first | exact HK.out | apply KeepBut.set_ | apply keep_drewN | apply keep_drew | apply keep_alloc | refine keep_far ?_ GW2.out _) | exact HK.out)⟩, ⟨by repeat (first | (with_reducible first | exact HB.out | apply below_alloc | apply pw_below_drewN | apply below_drew1 | refine below_set ?_ (IsS3.ge HI1.out) | refine below_set ?_ GE2.out) | exact HB.out)⟩⟩
  case round =>
    clear H'
    try clear p2
    obtain ⟨x12_1, x2000_1, x3000_1, rfl, HA, HK1, BK2, HI1, HK, HB⟩ := hrel
    cases gk with
    | zero => exact absurd HA.out (by simp [impl_threes.l0])
    | succ k1 =>
      have H := HA.out
      clear HA
      simp only [impl_threes.l0] at H
      by_cases c4 : x12_1 < (l0.length : Int)
      · rw [if_pos c4] at H
        have c4b0 : decide (x12_1 < (l0.length : Int)) = true := decide_eq_true c4
        clear c4
        by_cases c5 : 0 ≤ x12_1
        · rw [if_pos c5] at H
          have c5b0 : decide (0 ≤ x12_1) = true := decide_eq_true c5
          clear c5
          by_cases c6 : x12_1 < (l0.length : Int)
          · rw [if_pos c6] at H
            have c6b0 : decide (x12_1 < (l0.length : Int)) = true := decide_eq_true c6
            clear c6
            have c7b0 := eq_true (of_decide_eq_true (by first | (with_reducible assumption) | assumption) : 0 ≤ x12_1)
            by_cases c8 : x12_1 ≤ (l0.length : Int)
            · rw [if_pos c8] at H
              have c8b0 := eq_true c8
              have c8b1 : decide (x12_1 ≤ (l0.length : Int)) = true := decide_eq_true c8
              clear c8
              obtain ⟨y153, hy153⟩ : ∃ y_ : List (S30), y_ = (l0.take (x12_1 : Int).toNat) := ⟨_, rfl⟩
              replace H : (impl_threes.l1 k1 l0 l0 (l0.length : Int) x12_1 y153 (y153.length : Int) 0 x2000_1 x3000_1 ((rd_T30 l0 x12_1).f0) ((rd_T30 l0 x12_1).f1)) = some r := by first | (rw [hy153]; with_reducible exact H) | (have H2_ := (Option.bind_some _ _).symm.trans H; rw [hy153]; with_reducible exact H2_) | (have H2_ := (Option.bind_some _ _).symm.trans H; with_reducible exact H2_) | with_reducible exact H | (rw [hy153]; exact H) | exact H
              have Ny153 := Aside0.mk hy153
              clear hy153
              have H' := Aside0.mk H
              clear H
              have p151 : 0 ≤ (x12_1 : Int) := of_decide_eq_true (by first | (with_reducible assumption) | assumption)
              have q151 : x12_1 < (l0.length : Int) := of_decide_eq_true (by first | (with_reducible assumption) | assumption)
              obtain ⟨ad151, e151, hx151_0, hx151_1⟩ := at_T30 (Kd.C_foot_now HR0.out HK.out) x12_1 p151 q151
              cases e151
              replace p151 := eq_true p151
              replace q151 := eq_true q151
              go_wp2_with (first | ((with_reducible refine gate_dst (N := 5) rfl ?_); refine box_event ?hg (N := 5) ?hd (cs := #[.int .i64 0, .int .i64 0]) (t := 30) ?hr ?_; (case hd => rfl); (case hg => rfl); (case hr => first | (go_simp; done) | (go_simp; rfl)); intro gb152 hg w9 hbox hb; have n0_ := Aside0.mk (blk_below (g := g2_) (o := .cells #[.int .i64 x3000_1] 3 (0, 0)) (by (with_reducible repeat (first | refine blk_drewN ?_ _ | refine blk_drew ?_ | refine blk_alloc ?_ _)); exact BK2.out) hb); have n1_ := Aside0.mk (IsS3.below (by repeat (first | (with_reducible first | exact HI1.out | apply IsS3.alloc | apply IsS3.drewN | apply IsS3.drew | apply IsS3.set_0 | refine IsS3.far ?_ NB1_2.out _) | exact HI1.out)) hb); have n2_ := Aside0.mk (KeepBut.trans (by repeat (first | (with_reducible first | exact HK.out | apply KeepBut.set_ | apply keep_drewN | apply keep_drew | apply keep_alloc | refine keep_far ?_ GW2.out _) | exact HK.out)) (KeepBut.of_below hb g none) (.inl rfl)); have n3_ := Aside0.mk (below_step (by repeat (first | (with_reducible first | exact HB.out | apply below_alloc | apply pw_below_drewN | apply below_drew1 | refine below_set ?_ (IsS3.ge HI1.out) | refine below_set ?_ GE2.out) | exact HB.out)) hb); have n4_ := Aside0.mk (hbox); have n5_ := Aside0.mk ((by rw [hg]; exact (keep_size (w := w) (g := g) (row := none) (by repeat (first | (with_reducible first | exact HK.out | apply KeepBut.set_ | apply keep_drewN | apply keep_drew | apply keep_alloc | refine keep_far ?_ GW2.out _) | exact HK.out))) : w.heap.size ≤ gb152)); have n6_ := Aside0.mk ((Nat.le_trans HW0.out (by rw [hg]; exact (keep_size (w := w) (g := g) (row := none) (by repeat (first | (with_reducible first | exact HK.out | apply KeepBut.set_ | apply keep_drewN | apply keep_drew | apply keep_alloc | refine keep_far ?_ GW2.out _) | exact HK.out))) : w.heap.size ≤ gb152) : w0.heap.size ≤ gb152)); have n7_ := Aside0.mk ((by rw [hg]; exact Nat.ne_of_lt (blk_lt (g := g2_) (o := .cells #[.int .i64 x3000_1] 3 (0, 0)) (by (with_reducible repeat (first | refine blk_drewN ?_ _ | refine blk_drew ?_ | refine blk_alloc ?_ _)); exact BK2.out)) : g2_ ≠ gb152)); have n8_ := Aside0.mk ((by rw [hg]; exact Nat.ne_of_gt (blk_lt (g := g2_) (o := .cells #[.int .i64 x3000_1] 3 (0, 0)) (by (with_reducible repeat (first | refine blk_drewN ?_ _ | refine blk_drew ?_ | refine blk_alloc ?_ _)); exact BK2.out)) : gb152 ≠ g2_)); have n9_ := Aside0.mk ((by rw [hg]; exact Nat.ne_of_lt (IsS3.lt (show IsS3 w0 _ g x2000_1 from by repeat (first | (with_reducible first | exact HI1.out | apply IsS3.alloc | apply IsS3.drewN | apply IsS3.drew | apply IsS3.set_0 | refine IsS3.far ?_ NB1_2.out _) | exact HI1.out))) : g ≠ gb152)); have n10_ := Aside0.mk ((by rw [hg]; exact Nat.ne_of_gt (IsS3.lt (show IsS3 w0 _ g x2000_1 from by repeat (first | (with_reducible first | exact HI1.out | apply IsS3.alloc | apply IsS3.drewN | apply IsS3.drew | apply IsS3.set_0 | refine IsS3.far ?_ NB1_2.out _) | exact HI1.out))) : gb152 ≠ g)); clear BK2; clear HI1; clear HK; clear HB; have BK2 := n0_; have HI1 := n1_; have HK := n2_; have HB := n3_; have BK152 := n4_; have GW152 := n5_; have GE152 := n6_; have NB2_152 := n7_; have NB152_2 := n8_; have NB1_152 := n9_; have NB152_1 := n10_; clear n0_ n1_ n2_ n3_ n4_ n5_ n6_ n7_ n8_ n9_ n10_; clear hb hbox hg; have hnb10 := NB152_2.out; have hnc10 := NB2_152.out; have hnb11 := NB152_1.out; have hnc11 := NB1_152.out; have hcz12_0 : w9.cell? ⟨gb152, 0, none⟩ = some (.int .i64 0) := (blk_cell BK152.out 0).trans rfl; have hcz12_1 : w9.cell? ⟨gb152, 1, none⟩ = some (.int .i64 0) := (blk_cell BK152.out 1).trans rfl; have hfz12_0 := blk_frozen BK152.out 0; have hfz12_1 := blk_frozen BK152.out 1) | ((with_reducible refine gate_store (t := 30) (p := 5) rfl ?_); refine store_event (t := 30) (p := 5) (v := ?vo_w13) (w1 := ((w9.setCell ⟨gb152, 0, none⟩ (.int .i64 ((rd_T30 l0 x12_1).f0))).setCell ⟨gb152, 1, none⟩ (.int .i64 ((rd_T30 l0 x12_1).f1)))) ?hg ?ho ?hn ?hr ?_; (case ho => rfl); (case hg => rfl); (case hn => rfl); (case hr => first | (go_simp; done) | (go_simp; rfl)); intro w13 hw; have n0_ : Aside0 (w13.heap[g2_]? = some (.cells #[.int .i64 x3000_1] 3 (0, 0))) := ⟨(by rw [hw]; exact (by (with_reducible repeat (first | refine blk_drewN ?_ _ | refine blk_drew ?_ | refine blk_alloc ?_ _)); refine blk_far ?_ NB2_152.out _; (with_reducible repeat (first | refine blk_drewN ?_ _ | refine blk_drew ?_ | refine blk_alloc ?_ _)); refine blk_far ?_ NB2_152.out _; (with_reducible repeat (first | refine blk_drewN ?_ _ | refine blk_drew ?_ | refine blk_alloc ?_ _)); exact BK2.out))⟩; have n1_ : Aside0 (w13.heap[gb152]? = some (.cells #[.int .i64 ((rd_T30 l0 x12_1).f0), .int .i64 ((rd_T30 l0 x12_1).f1)] 30 (0, 0))) := ⟨(by rw [hw]; exact (by (with_reducible repeat (first | refine blk_drewN ?_ _ | refine blk_drew ?_ | refine blk_alloc ?_ _)); refine blk_put (cs := #[.int .i64 ((rd_T30 l0 x12_1).f0), .int .i64 0]) ?_ 1 _ rfl; (with_reducible repeat (first | refine blk_drewN ?_ _ | refine blk_drew ?_ | refine blk_alloc ?_ _)); refine blk_put (cs := #[.int .i64 0, .int .i64 0]) ?_ 0 _ rfl; (with_reducible repeat (first | refine blk_drewN ?_ _ | refine blk_drew ?_ | refine blk_alloc ?_ _)); exact BK152.out))⟩; have n2_ : Aside0 (IsS3 w0 w13 g x2000_1) := ⟨(by rw [hw]; exact (by repeat (first | (with_reducible first | exact HI1.out | apply IsS3.alloc | apply IsS3.drewN | apply IsS3.drew | apply IsS3.set_0 | refine IsS3.far ?_ NB1_2.out _ | refine IsS3.far ?_ NB1_152.out _) | exact HI1.out)))⟩; have n3_ : Aside0 (KeepBut w w13 g none) := ⟨(by rw [hw]; exact (by repeat (first | (with_reducible first | exact HK.out | apply KeepBut.set_ | apply keep_drewN | apply keep_drew | apply keep_alloc | refine keep_far ?_ GW2.out _ | refine keep_far ?_ GW152.out _) | exact HK.out)))⟩; have n4_ : Aside0 (Below w0.heap.size w0 w13) := ⟨(by rw [hw]; exact (by repeat (first | (with_reducible first | exact HB.out | apply below_alloc | apply pw_below_drewN | apply below_drew1 | refine below_set ?_ (IsS3.ge HI1.out) | refine below_set ?_ GE2.out | refine below_set ?_ GE152.out) | exact HB.out)))⟩; clear hw; clear BK2; clear BK152; clear HI1; clear HK; clear HB; have BK2 := n0_; have BK152 := n1_; have HI1 := n2_; have HK := n3_; have HB := n4_; clear n0_ n1_ n2_ n3_ n4_; have q14 : (x12_1 : Int) ≤ ((l0.length : Int) : Int) := of_decide_eq_true (by first | (with_reducible assumption) | assumption); obtain ⟨i014, hi014, _, hsz14, _⟩ := info_parts info30; have hroom14 : l0.length ≤ c0 := HC0.out; have hC14 : Kd.C k30 _ (some ad151) l0.length l0 := (Kd.C_foot_now HR0.out HK.out); have hcut14 := cut_to (P := Try.prog) 33 30 .i64 Try.underlying33 hi014 (some ad151) l0.length c0 x12_1 (of_decide_eq_true (by first | (with_reducible assumption) | assumption)) q14 hroom14; have hr14 := Kd.C_take (m := (x12_1 : Int).toNat) hC14 (by omega); have hy14 : y153.length = (x12_1 : Int).toNat := (by rw [Ny153.out, List.length_take]; omega); rw [← Ny153.out] at hr14; rw [← hy14] at hcut14; have HR156 := Aside0.mk hr14; have HC156 := Aside0.mk (show y153.length ≤ c0 from by omega); clear hr14 hC14 hroom14 hi014 hsz14; have KY14 := Aside0.mk hy14; clear hy14; have KL14 := Aside0.mk (show (x12_1 : Int).toNat ≤ l0.length from by omega); replace q14 := eq_true q14))
              go_loopg [21] k1 (fun kq v21 w' => ∃ (x21_2 : Int) (x2000_2 : Int) (x3000_2 : Int), v21 = .int .i64 x21_2 ∧ Aside0 (impl_threes.l1 kq l0 l0 (l0.length : Int) x12_1 y153 (y153.length : Int) x21_2 x2000_2 x3000_2 ((rd_T30 l0 x12_1).f0) ((rd_T30 l0 x12_1).f1) = some r) ∧ Aside0 (kq ≤ k1) ∧ Aside0 (w'.heap[g2_]? = some (.cells #[.int .i64 x3000_2] 3 (0, 0))) ∧ Aside0 (w'.heap[gb152]? = some (.cells #[.int .i64 ((rd_T30 l0 x12_1).f0), .int .i64 ((rd_T30 l0 x12_1).f1)] 30 (0, 0))) ∧ Aside0 (Kd.C k30 w' (some ad151) y153.length y153) ∧ Aside0 (IsS3 w0 w' g x2000_2) ∧ Aside0 (KeepBut w w' g none) ∧ Aside0 (Below w0.heap.size w0 w'))
              case atStart => exact ⟨(0), (x2000_1), (x3000_1), (by first | rfl | (simp; done) | (simp [*]; done)), H', ⟨Nat.le_refl _⟩, ⟨by (with_reducible repeat (first | refine blk_drewN ?_ _ | refine blk_drew ?_ | refine blk_alloc ?_ _)); exact BK2.out⟩, ⟨by (with_reducible repeat (first | refine blk_drewN ?_ _ | refine blk_drew ?_ | refine blk_alloc ?_ _)); exact BK152.out⟩, ⟨by repeat (first | (with_reducible exact HR156.out) | (with_reducible refine Kd.C_alloc ?_ _) | (with_reducible refine Kd.C_drewN ?_ _) | (with_reducible refine Kd.C_drew ?_) | exact HR156.out)⟩, ⟨by repeat (first | (with_reducible first | exact HI1.out | apply IsS3.alloc | apply IsS3.drewN | apply IsS3.drew | apply IsS3.set_0 | refine IsS3.far ?_ NB1_2.out _ | refine IsS3.far ?_ NB1_152.out _) | exact HI1.out)⟩, ⟨by repeat (first | (with_reducible first | exact HK.out | apply KeepBut.set_ | apply keep_drewN | apply keep_drew | apply keep_alloc | refine keep_far ?_ GW2.out _ | refine keep_far ?_ GW152.out _) | exact HK.out)⟩, ⟨by repeat (first | (with_reducible first | exact HB.out | apply below_alloc | apply pw_below_drewN | apply below_drew1 | refine below_set ?_ (IsS3.ge HI1.out) | refine below_set ?_ GE2.out | refine below_set ?_ GE152.out) | exact HB.out)⟩⟩
              case round =>
                clear H'
                try clear c1
                try clear p1
                try clear q1
                try clear hx1
                try clear p2
                try clear c4
                try clear c4b0
                try clear c5
                try clear c5b0
                try clear c6
                try clear c6b0
                try clear c7
                try clear c7b0
                try clear c8
                try clear c8b0
                try clear c8b1
                try clear c10
                try clear c11
                try clear q14
                try clear hcz12_0
                try clear hcz12_1
                try clear hfz12_0
                try clear hfz12_1
                try clear hx151_0
                try clear hx151_1
                try clear p151
                try clear p2
                try clear q14
                try clear q151
                obtain ⟨x21_2, x2000_2, x3000_2, rfl, HA, HK2, BK2, BK152, HR156, HI1, HK, HB⟩ := hrel
                cases gk with
                | zero => exact absurd HA.out (by simp [impl_threes.l1])
                | succ k2 =>
                  have H := HA.out
                  clear HA
                  simp only [impl_threes.l1] at H
                  by_cases c15 : x21_2 < (y153.length : Int)
                  · rw [if_pos c15] at H
                    have c15b0 : decide (x21_2 < (y153.length : Int)) = true := decide_eq_true c15
                    clear c15
                    by_cases c16 : 0 ≤ x21_2
                    · rw [if_pos c16] at H
                      have c16b0 : decide (0 ≤ x21_2) = true := decide_eq_true c16
                      clear c16
                      by_cases c17 : x21_2 < (y153.length : Int)
                      · rw [if_pos c17] at H
                        have c17b0 : decide (x21_2 < (y153.length : Int)) = true := decide_eq_true c17
                        clear c17
                        have c18b0 := eq_true (of_decide_eq_true (by first | (with_reducible assumption) | assumption) : 0 ≤ x21_2)
                        by_cases c19 : x21_2 ≤ (l0.length : Int)
                        · rw [if_pos c19] at H
                          have c19b0 := eq_true c19
                          have c19b1 : decide (x21_2 ≤ (l0.length : Int)) = true := decide_eq_true c19
                          clear c19
                          obtain ⟨y159, hy159⟩ : ∃ y_ : List (S30), y_ = (l0.take (x21_2 : Int).toNat) := ⟨_, rfl⟩
                          replace H : (impl_threes.l2 k2 l0 l0 (l0.length : Int) x12_1 y153 (y153.length : Int) x21_2 y159 (y159.length : Int) 0 x2000_2 x3000_2 ((rd_T30 l0 x12_1).f0) ((rd_T30 l0 x12_1).f1) ((rd_T30 y153 x21_2).f0) ((rd_T30 y153 x21_2).f1)) = some r := by first | (rw [hy159]; with_reducible exact H) | (have H2_ := (Option.bind_some _ _).symm.trans H; rw [hy159]; with_reducible exact H2_) | (have H2_ := (Option.bind_some _ _).symm.trans H; with_reducible exact H2_) | with_reducible exact H | (rw [hy159]; exact H) | exact H
                          have Ny159 := Aside0.mk hy159
                          clear hy159
                          have H' := Aside0.mk H
                          clear H
                          have p157 : 0 ≤ (x21_2 : Int) := of_decide_eq_true (by first | (with_reducible assumption) | assumption)
                          have q157 : x21_2 < (y153.length : Int) := of_decide_eq_true (by first | (with_reducible assumption) | assumption)
                          obtain ⟨ad157, e157, hx157_0, hx157_1⟩ := at_T30 (by repeat (first | (with_reducible exact HR156.out) | (with_reducible refine Kd.C_alloc ?_ _) | (with_reducible refine Kd.C_drewN ?_ _) | (with_reducible refine Kd.C_drew ?_) | exact HR156.out)) x21_2 p157 q157
                          obtain rfl : ad151 = ad157 := (by injection e157)
                          replace p157 := eq_true p157
                          replace q157 := eq_true q157
                          go_wp2_with (first | ((with_reducible refine gate_dst (N := 7) rfl ?_); refine box_event ?hg (N := 7) ?hd (cs := #[.int .i64 0, .int .i64 0]) (t := 30) ?hr ?_; (case hd => rfl); (case hg => rfl); (case hr => first | (go_simp; done) | (go_simp; rfl)); intro gb158 hg w20 hbox hb; have n0_ := Aside0.mk (blk_below (g := g2_) (o := .cells #[.int .i64 x3000_2] 3 (0, 0)) (by (with_reducible repeat (first | refine blk_drewN ?_ _ | refine blk_drew ?_ | refine blk_alloc ?_ _)); exact BK2.out) hb); have n1_ := Aside0.mk (blk_below (g := gb152) (o := .cells #[.int .i64 ((rd_T30 l0 x12_1).f0), .int .i64 ((rd_T30 l0 x12_1).f1)] 30 (0, 0)) (by (with_reducible repeat (first | refine blk_drewN ?_ _ | refine blk_drew ?_ | refine blk_alloc ?_ _)); exact BK152.out) hb); have n2_ := Aside0.mk (IsS3.below (by repeat (first | (with_reducible first | exact HI1.out | apply IsS3.alloc | apply IsS3.drewN | apply IsS3.drew | apply IsS3.set_0 | refine IsS3.far ?_ NB1_2.out _ | refine IsS3.far ?_ NB1_152.out _) | exact HI1.out)) hb); have n3_ := Aside0.mk (Kd.C_below (by repeat (first | (with_reducible exact HR156.out) | (with_reducible refine Kd.C_alloc ?_ _) | (with_reducible refine Kd.C_drewN ?_ _) | (with_reducible refine Kd.C_drew ?_) | exact HR156.out)) hb); have n4_ := Aside0.mk (KeepBut.trans (by repeat (first | (with_reducible first | exact HK.out | apply KeepBut.set_ | apply keep_drewN | apply keep_drew | apply keep_alloc | refine keep_far ?_ GW2.out _ | refine keep_far ?_ GW152.out _) | exact HK.out)) (KeepBut.of_below hb g none) (.inl rfl)); have n5_ := Aside0.mk (below_step (by repeat (first | (with_reducible first | exact HB.out | apply below_alloc | apply pw_below_drewN | apply below_drew1 | refine below_set ?_ (IsS3.ge HI1.out) | refine below_set ?_ GE2.out | refine below_set ?_ GE152.out) | exact HB.out)) hb); have n6_ := Aside0.mk (hbox); have n7_ := Aside0.mk ((by rw [hg]; exact (keep_size (w := w) (g := g) (row := none) (by repeat (first | (with_reducible first | exact HK.out | apply KeepBut.set_ | apply keep_drewN | apply keep_drew | apply keep_alloc | refine keep_far ?_ GW2.out _ | refine keep_far ?_ GW152.out _) | exact HK.out))) : w.heap.size ≤ gb158)); have n8_ := Aside0.mk ((Nat.le_trans HW0.out (by rw [hg]; exact (keep_size (w := w) (g := g) (row := none) (by repeat (first | (with_reducible first | exact HK.out | apply KeepBut.set_ | apply keep_drewN | apply keep_drew | apply keep_alloc | refine keep_far ?_ GW2.out _ | refine keep_far ?_ GW152.out _) | exact HK.out))) : w.heap.size ≤ gb158) : w0.heap.size ≤ gb158)); have n9_ := Aside0.mk ((by rw [hg]; exact Nat.ne_of_lt (blk_lt (g := g2_) (o := .cells #[.int .i64 x3000_2] 3 (0, 0)) (by (with_reducible repeat (first | refine blk_drewN ?_ _ | refine blk_drew ?_ | refine blk_alloc ?_ _)); exact BK2.out)) : g2_ ≠ gb158)); have n10_ := Aside0.mk ((by rw [hg]; exact Nat.ne_of_gt (blk_lt (g := g2_) (o := .cells #[.int .i64 x3000_2] 3 (0, 0)) (by (with_reducible repeat (first | refine blk_drewN ?_ _ | refine blk_drew ?_ | refine blk_alloc ?_ _)); exact BK2.out)) : gb158 ≠ g2_)); have n11_ := Aside0.mk ((by rw [hg]; exact Nat.ne_of_lt (blk_lt (g := gb152) (o := .cells #[.int .i64 ((rd_T30 l0 x12_1).f0), .int .i64 ((rd_T30 l0 x12_1).f1)] 30 (0, 0)) (by (with_reducible repeat (first | refine blk_drewN ?_ _ | refine blk_drew ?_ | refine blk_alloc ?_ _)); exact BK152.out)) : gb152 ≠ gb158)); have n12_ := Aside0.mk ((by rw [hg]; exact Nat.ne_of_gt (blk_lt (g := gb152) (o := .cells #[.int .i64 ((rd_T30 l0 x12_1).f0), .int .i64 ((rd_T30 l0 x12_1).f1)] 30 (0, 0)) (by (with_reducible repeat (first | refine blk_drewN ?_ _ | refine blk_drew ?_ | refine blk_alloc ?_ _)); exact BK152.out)) : gb158 ≠ gb152)); have n13_ := Aside0.mk ((by rw [hg]; exact Nat.ne_of_lt (IsS3.lt (show IsS3 w0 _ g x2000_2 from by repeat (first | (with_reducible first | exact HI1.out | apply IsS3.alloc | apply IsS3.drewN | apply IsS3.drew | apply IsS3.set_0 | refine IsS3.far ?_ NB1_2.out _ | refine IsS3.far ?_ NB1_152.out _) | exact HI1.out))) : g ≠ gb158)); have n14_ := Aside0.mk ((by rw [hg]; exact Nat.ne_of_gt (IsS3.lt (show IsS3 w0 _ g x2000_2 from by repeat (first | (with_reducible first | exact HI1.out | apply IsS3.alloc | apply IsS3.drewN | apply IsS3.drew | apply IsS3.set_0 | refine IsS3.far ?_ NB1_2.out _ | refine IsS3.far ?_ NB1_152.out _) | exact HI1.out))) : gb158 ≠ g)); clear BK2; clear BK152; clear HI1; clear HR156; clear HK; clear HB; have BK2 := n0_; have BK152 := n1_; have HI1 := n2_; have HR156 := n3_; have HK := n4_; have HB := n5_; have BK158 := n6_; have GW158 := n7_; have GE158 := n8_; have NB2_158 := n9_; have NB158_2 := n10_; have NB152_158 := n11_; have NB158_152 := n12_; have NB1_158 := n13_; have NB158_1 := n14_; clear n0_ n1_ n2_ n3_ n4_ n5_ n6_ n7_ n8_ n9_ n10_ n11_ n12_ n13_ n14_; clear hb hbox hg; have hnb21 := NB158_2.out; have hnc21 := NB2_158.out; have hnb22 := NB158_152.out; have hnc22 := NB152_158.out; have hnb23 := NB158_1.out; have hnc23 := NB1_158.out; have hcz24_0 : w20.cell? ⟨gb158, 0, none⟩ = some (.int .i64 0) := (blk_cell BK158.out 0).trans rfl; have hcz24_1 : w20.cell? ⟨gb158, 1, none⟩ = some (.int .i64 0) := (blk_cell BK158.out 1).trans rfl; have hfz24_0 := blk_frozen BK158.out 0; have hfz24_1 := blk_frozen BK158.out 1) | ((with_reducible refine gate_store (t := 30) (p := 7) rfl ?_); refine store_event (t := 30) (p := 7) (v := ?vo_w25) (w1 := ((w20.setCell ⟨gb158, 0, none⟩ (.int .i64 ((rd_T30 y153 x21_2).f0))).setCell ⟨gb158, 1, none⟩ (.int .i64 ((rd_T30 y153 x21_2).f1)))) ?hg ?ho ?hn ?hr ?_; (case ho => rfl); (case hg => rfl); (case hn => rfl); (case hr => first | (go_simp; done) | (go_simp; rfl)); intro w25 hw; have n0_ : Aside0 (Kd.C k30 w25 (some ad151) y153.length y153) := ⟨(by rw [hw]; exact ((by skip; exact (show ∀ W_ : World, Kd.C k30 W_ (some ad151) (l0.take (x12_1 : Int).toNat).length (l0.take (x12_1 : Int).toNat) → Kd.C k30 W_ (some ad151) y153.length y153 from fun W_ h_ => by rw [Ny153.out]; exact h_) _ (Kd.C_take (m := (x12_1 : Int).toNat) (Kd.C_foot_now HR0.out (show KeepBut w ((w20.setCell ⟨gb158, 0, none⟩ (.int .i64 ((rd_T30 y153 x21_2).f0))).setCell ⟨gb158, 1, none⟩ (.int .i64 ((rd_T30 y153 x21_2).f1))) g none from (by repeat (first | (with_reducible first | exact HK.out | apply KeepBut.set_ | apply keep_drewN | apply keep_drew | apply keep_alloc | refine keep_far ?_ GW2.out _ | refine keep_far ?_ GW152.out _ | refine keep_far ?_ GW158.out _) | exact HK.out)))) KL14.out))))⟩; have n1_ : Aside0 (w25.heap[g2_]? = some (.cells #[.int .i64 x3000_2] 3 (0, 0))) := ⟨(by rw [hw]; exact (by (with_reducible repeat (first | refine blk_drewN ?_ _ | refine blk_drew ?_ | refine blk_alloc ?_ _)); refine blk_far ?_ NB2_158.out _; (with_reducible repeat (first | refine blk_drewN ?_ _ | refine blk_drew ?_ | refine blk_alloc ?_ _)); refine blk_far ?_ NB2_158.out _; (with_reducible repeat (first | refine blk_drewN ?_ _ | refine blk_drew ?_ | refine blk_alloc ?_ _)); exact BK2.out))⟩; have n2_ : Aside0 (w25.heap[gb152]? = some (.cells #[.int .i64 ((rd_T30 l0 x12_1).f0), .int .i64 ((rd_T30 l0 x12_1).f1)] 30 (0, 0))) := ⟨(by rw [hw]; exact (by (with_reducible repeat (first | refine blk_drewN ?_ _ | refine blk_drew ?_ | refine blk_alloc ?_ _)); refine blk_far ?_ NB152_158.out _; (with_reducible repeat (first | refine blk_drewN ?_ _ | refine blk_drew ?_ | refine blk_alloc ?_ _)); refine blk_far ?_ NB152_158.out _; (with_reducible repeat (first | refine blk_drewN ?_ _ | refine blk_drew ?_ | refine blk_alloc ?_ _)); exact BK152.out))⟩; have n3_ : Aside0 (w25.heap[gb158]? = some (.cells #[.int .i64 ((rd_T30 y153 x21_2).f0), .int .i64 ((rd_T30 y153 x21_2).f1)] 30 (0, 0))) := ⟨(by rw [hw]; exact (by (with_reducible repeat (first | refine blk_drewN ?_ _ | refine blk_drew ?_ | refine blk_alloc ?_ _)); refine blk_put (cs := #[.int .i64 ((rd_T30 y153 x21_2).f0), .int .i64 0]) ?_ 1 _ rfl; (with_reducible repeat (first | refine blk_drewN ?_ _ | refine blk_drew ?_ | refine blk_alloc ?_ _)); refine blk_put (cs := #[.int .i64 0, .int .i64 0]) ?_ 0 _ rfl; (with_reducible repeat (first | refine blk_drewN ?_ _ | refine blk_drew ?_ | refine blk_alloc ?_ _)); exact BK158.out))⟩; have n4_ : Aside0 (IsS3 w0 w25 g x2000_2) := ⟨(by rw [hw]; exact (by repeat (first | (with_reducible first | exact HI1.out | apply IsS3.alloc | apply IsS3.drewN | apply IsS3.drew | apply IsS3.set_0 | refine IsS3.far ?_ NB1_2.out _ | refine IsS3.far ?_ NB1_152.out _ | refine IsS3.far ?_ NB1_158.out _) | exact HI1.out)))⟩; have n5_ : Aside0 (KeepBut w w25 g none) := ⟨(by rw [hw]; exact (by repeat (first | (with_reducible first | exact HK.out | apply KeepBut.set_ | apply keep_drewN | apply keep_drew | apply keep_alloc | refine keep_far ?_ GW2.out _ | refine keep_far ?_ GW152.out _ | refine keep_far ?_ GW158.out _) | exact HK.out)))⟩; have n6_ : Aside0 (Below w0.heap.size w0 w25) := ⟨(by rw [hw]; exact (by repeat (first | (with_reducible first | exact HB.out | apply below_alloc | apply pw_below_drewN | apply below_drew1 | refine below_set ?_ (IsS3.ge HI1.out) | refine below_set ?_ GE2.out | refine below_set ?_ GE152.out | refine below_set ?_ GE158.out) | exact HB.out)))⟩; clear hw; clear HR156; clear BK2; clear BK152; clear BK158; clear HI1; clear HK; clear HB; have HR156 := n0_; have BK2 := n1_; have BK152 := n2_; have BK158 := n3_; have HI1 := n4_; have HK := n5_; have HB := n6_; clear n0_ n1_ n2_ n3_ n4_ n5_ n6_; have q26 : (x21_2 : Int) ≤ ((l0.length : Int) : Int) := of_decide_eq_true (by first | (with_reducible assumption) | assumption); obtain ⟨i026, hi026, _, hsz26, _⟩ := info_parts info30; have hroom26 : l0.length ≤ c0 := HC0.out; have hC26 : Kd.C k30 _ (some ad151) l0.length l0 := (Kd.C_foot_now HR0.out HK.out); have hcut26 := cut_to (P := Try.prog) 33 30 .i64 Try.underlying33 hi026 (some ad151) l0.length c0 x21_2 (of_decide_eq_true (by first | (with_reducible assumption) | assumption)) q26 hroom26; have hr26 := Kd.C_take (m := (x21_2 : Int).toNat) hC26 (by omega); have hy26 : y159.length = (x21_2 : Int).toNat := (by rw [Ny159.out, List.length_take]; omega); rw [← Ny159.out] at hr26; rw [← hy26] at hcut26; have HR162 := Aside0.mk hr26; have HC162 := Aside0.mk (show y159.length ≤ c0 from by omega); clear hr26 hC26 hroom26 hi026 hsz26; have KY26 := Aside0.mk hy26; clear hy26; have KL26 := Aside0.mk (show (x21_2 : Int).toNat ≤ l0.length from by omega); replace q26 := eq_true q26))
                          go_loopg [30] k2 (fun kq v30 w' => ∃ (x30_3 : Int) (x2000_3 : Int) (x3000_3 : Int), v30 = .int .i64 x30_3 ∧ Aside0 (impl_threes.l2 kq l0 l0 (l0.length : Int) x12_1 y153 (y153.length : Int) x21_2 y159 (y159.length : Int) x30_3 x2000_3 x3000_3 ((rd_T30 l0 x12_1).f0) ((rd_T30 l0 x12_1).f1) ((rd_T30 y153 x21_2).f0) ((rd_T30 y153 x21_2).f1) = some r) ∧ Aside0 (kq ≤ k2) ∧ Aside0 (w'.heap[g2_]? = some (.cells #[.int .i64 x3000_3] 3 (0, 0))) ∧ Aside0 (w'.heap[gb152]? = some (.cells #[.int .i64 ((rd_T30 l0 x12_1).f0), .int .i64 ((rd_T30 l0 x12_1).f1)] 30 (0, 0))) ∧ Aside0 (w'.heap[gb158]? = some (.cells #[.int .i64 ((rd_T30 y153 x21_2).f0), .int .i64 ((rd_T30 y153 x21_2).f1)] 30 (0, 0))) ∧ Aside0 (Kd.C k30 w' (some ad151) y153.length y153) ∧ Aside0 (Kd.C k30 w' (some ad151) y159.length y159) ∧ Aside0 (IsS3 w0 w' g x2000_3) ∧ Aside0 (KeepBut w w' g none) ∧ Aside0 (Below w0.heap.size w0 w'))
                          case atStart => exact ⟨(0), (x2000_2), (x3000_2), (by first | rfl | (simp; done) | (simp [*]; done)), H', ⟨Nat.le_refl _⟩, ⟨by (with_reducible repeat (first | refine blk_drewN ?_ _ | refine blk_drew ?_ | refine blk_alloc ?_ _)); exact BK2.out⟩, ⟨by (with_reducible repeat (first | refine blk_drewN ?_ _ | refine blk_drew ?_ | refine blk_alloc ?_ _)); exact BK152.out⟩, ⟨by (with_reducible repeat (first | refine blk_drewN ?_ _ | refine blk_drew ?_ | refine blk_alloc ?_ _)); exact BK158.out⟩, ⟨by repeat (first | (with_reducible exact HR156.out) | (with_reducible refine Kd.C_alloc ?_ _) | (with_reducible refine Kd.C_drewN ?_ _) | (with_reducible refine Kd.C_drew ?_) | exact HR156.out)⟩, ⟨by repeat (first | (with_reducible exact HR162.out) | (with_reducible refine Kd.C_alloc ?_ _) | (with_reducible refine Kd.C_drewN ?_ _) | (with_reducible refine Kd.C_drew ?_) | exact HR162.out)⟩, ⟨by repeat (first | (with_reducible first | exact HI1.out | apply IsS3.alloc | apply IsS3.drewN | apply IsS3.drew | apply IsS3.set_0 | refine IsS3.far ?_ NB1_2.out _ | refine IsS3.far ?_ NB1_152.out _ | refine IsS3.far ?_ NB1_158.out _) | exact HI1.out)⟩, ⟨by repeat (first | (with_reducible first | exact HK.out | apply KeepBut.set_ | apply keep_drewN | apply keep_drew | apply keep_alloc | refine keep_far ?_ GW2.out _ | refine keep_far ?_ GW152.out _ | refine keep_far ?_ GW158.out _) | exact HK.out)⟩, ⟨by repeat (first | (with_reducible first | exact HB.out | apply below_alloc | apply pw_below_drewN | apply below_drew1 | refine below_set ?_ (IsS3.ge HI1.out) | refine below_set ?_ GE2.out | refine below_set ?_ GE152.out | refine below_set ?_ GE158.out) | exact HB.out)⟩⟩
                          case round =>
                            clear H'
                            try clear c1
                            try clear p1
                            try clear q1
                            try clear hx1
                            try clear c2
                            try clear p2
                            try clear q2
                            try clear c4
                            try clear c4b0
                            try clear c5
                            try clear c5b0
                            try clear c6
                            try clear c6b0
                            try clear c7
                            try clear c7b0
                            try clear c8
                            try clear c8b0
                            try clear c8b1
                            try clear c10
                            try clear c11
                            try clear q14
                            try clear c15
                            try clear c15b0
                            try clear p15
                            try clear q15
                            try clear hx15
                            try clear c16
                            try clear c16b0
                            try clear c17
                            try clear c17b0
                            try clear c18
                            try clear c18b0
                            try clear c19
                            try clear c19b0
                            try clear c19b1
                            try clear c21
                            try clear c22
                            try clear c23
                            try clear q26
                            try clear hcz12_0
                            try clear hcz12_1
                            try clear hcz24_0
                            try clear hcz24_1
                            try clear hfz12_0
                            try clear hfz12_1
                            try clear hfz24_0
                            try clear hfz24_1
                            try clear hx151_0
                            try clear hx151_1
                            try clear hx157_0
                            try clear hx157_1
                            try clear p1
                            try clear p151
                            try clear p157
                            try clear p2
                            try clear q1
                            try clear q14
                            try clear q151
                            try clear q157
                            try clear q26
                            obtain ⟨x30_3, x2000_3, x3000_3, rfl, HA, HK3, BK2, BK152, BK158, HR156, HR162, HI1, HK, HB⟩ := hrel
                            cases gk with
                            | zero => exact absurd HA.out (by simp [impl_threes.l2])
                            | succ k3 =>
                              have H := HA.out
                              clear HA
                              simp only [impl_threes.l2] at H
                              by_cases c27 : x30_3 < (y159.length : Int)
                              · rw [if_pos c27] at H
                                have c27b0 : decide (x30_3 < (y159.length : Int)) = true := decide_eq_true c27
                                clear c27
                                by_cases c28 : 0 ≤ x30_3
                                · rw [if_pos c28] at H
                                  have c28b0 : decide (0 ≤ x30_3) = true := decide_eq_true c28
                                  clear c28
                                  by_cases c29 : x30_3 < (y159.length : Int)
                                  · rw [if_pos c29] at H
                                    have c29b0 : decide (x30_3 < (y159.length : Int)) = true := decide_eq_true c29
                                    clear c29
                                    replace H := Option.bind_eq_some_iff.mp H
                                    obtain ⟨t165, A300, H⟩ := H
                                    replace H : (impl_threes.l2 k3 l0 l0 (l0.length : Int) x12_1 y153 (y153.length : Int) x21_2 y159 (y159.length : Int) (wrap64 (x30_3 + 1)) t165 x3000_3 ((rd_T30 l0 x12_1).f0) ((rd_T30 l0 x12_1).f1) ((rd_T30 y153 x21_2).f0) ((rd_T30 y153 x21_2).f1)) = some r := H
                                    have A30 := Aside0.mk A300
                                    clear A300
                                    have H' := Aside0.mk H
                                    clear H
                                    have p163 : 0 ≤ (x30_3 : Int) := of_decide_eq_true (by first | (with_reducible assumption) | assumption)
                                    have q163 : x30_3 < (y159.length : Int) := of_decide_eq_true (by first | (with_reducible assumption) | assumption)
                                    obtain ⟨ad163, e163, hx163_0, hx163_1⟩ := at_T30 (by repeat (first | (with_reducible exact HR162.out) | (with_reducible refine Kd.C_alloc ?_ _) | (with_reducible refine Kd.C_drewN ?_ _) | (with_reducible refine Kd.C_drew ?_) | exact HR162.out)) x30_3 p163 q163
                                    obtain rfl : ad151 = ad163 := (by injection e163)
                                    replace p163 := eq_true p163
                                    replace q163 := eq_true q163
                                    go_wp2_with (first | ((with_reducible refine gate_dst (N := 9) rfl ?_); refine box_event ?hg (N := 9) ?hd (cs := #[.int .i64 0, .int .i64 0]) (t := 30) ?hr ?_; (case hd => rfl); (case hg => rfl); (case hr => first | (go_simp; done) | (go_simp; rfl)); intro gb164 hg w31 hbox hb; have n0_ := Aside0.mk (blk_below (g := g2_) (o := .cells #[.int .i64 x3000_3] 3 (0, 0)) (by (with_reducible repeat (first | refine blk_drewN ?_ _ | refine blk_drew ?_ | refine blk_alloc ?_ _)); exact BK2.out) hb); have n1_ := Aside0.mk (blk_below (g := gb152) (o := .cells #[.int .i64 ((rd_T30 l0 x12_1).f0), .int .i64 ((rd_T30 l0 x12_1).f1)] 30 (0, 0)) (by (with_reducible repeat (first | refine blk_drewN ?_ _ | refine blk_drew ?_ | refine blk_alloc ?_ _)); exact BK152.out) hb); have n2_ := Aside0.mk (blk_below (g := gb158) (o := .cells #[.int .i64 ((rd_T30 y153 x21_2).f0), .int .i64 ((rd_T30 y153 x21_2).f1)] 30 (0, 0)) (by (with_reducible repeat (first | refine blk_drewN ?_ _ | refine blk_drew ?_ | refine blk_alloc ?_ _)); exact BK158.out) hb); have n3_ := Aside0.mk (IsS3.below (by repeat (first | (with_reducible first | exact HI1.out | apply IsS3.alloc | apply IsS3.drewN | apply IsS3.drew | apply IsS3.set_0 | refine IsS3.far ?_ NB1_2.out _ | refine IsS3.far ?_ NB1_152.out _ | refine IsS3.far ?_ NB1_158.out _) | exact HI1.out)) hb); have n4_ := Aside0.mk (Kd.C_below (by repeat (first | (with_reducible exact HR156.out) | (with_reducible refine Kd.C_alloc ?_ _) | (with_reducible refine Kd.C_drewN ?_ _) | (with_reducible refine Kd.C_drew ?_) | exact HR156.out)) hb); have n5_ := Aside0.mk (Kd.C_below (by repeat (first | (with_reducible exact HR162.out) | (with_reducible refine Kd.C_alloc ?_ _) | (with_reducible refine Kd.C_drewN ?_ _) | (with_reducible refine Kd.C_drew ?_) | exact HR162.out)) hb); have n6_ := Aside0.mk (KeepBut.trans (by repeat (first | (with_reducible first | exact HK.out | apply KeepBut.set_ | apply keep_drewN | apply keep_drew | apply keep_alloc | refine keep_far ?_ GW2.out _ | refine keep_far ?_ GW152.out _ | refine keep_far ?_ GW158.out _) | exact HK.out)) (KeepBut.of_below hb g none) (.inl rfl)); have n7_ := Aside0.mk (below_step (by repeat (first | (with_reducible first | exact HB.out | apply below_alloc | apply pw_below_drewN | apply below_drew1 | refine below_set ?_ (IsS3.ge HI1.out) | refine below_set ?_ GE2.out | refine below_set ?_ GE152.out | refine below_set ?_ GE158.out) | exact HB.out)) hb); have n8_ := Aside0.mk (hbox); have n9_ := Aside0.mk ((by rw [hg]; exact (keep_size (w := w) (g := g) (row := none) (by repeat (first | (with_reducible first | exact HK.out | apply KeepBut.set_ | apply keep_drewN | apply keep_drew | apply keep_alloc | refine keep_far ?_ GW2.out _ | refine keep_far ?_ GW152.out _ | refine keep_far ?_ GW158.out _) | exact HK.out))) : w.heap.size ≤ gb164)); have n10_ := Aside0.mk ((Nat.le_trans HW0.out (by rw [hg]; exact (keep_size (w := w) (g := g) (row := none) (by repeat (first | (with_reducible first | exact HK.out | apply KeepBut.set_ | apply keep_drewN | apply keep_drew | apply keep_alloc | refine keep_far ?_ GW2.out _ | refine keep_far ?_ GW152.out _ | refine keep_far ?_ GW158.out _) | exact HK.out))) : w.heap.size ≤ gb164) : w0.heap.size ≤ gb164)); have n11_ := Aside0.mk ((by rw [hg]; exact Nat.ne_of_lt (blk_lt (g := g2_) (o := .cells #[.int .i64 x3000_3] 3 (0, 0)) (by (with_reducible repeat (first | refine blk_drewN ?_ _ | refine blk_drew ?_ | refine blk_alloc ?_ _)); exact BK2.out)) : g2_ ≠ gb164)); have n12_ := Aside0.mk ((by rw [hg]; exact Nat.ne_of_gt (blk_lt (g := g2_) (o := .cells #[.int .i64 x3000_3] 3 (0, 0)) (by (with_reducible repeat (first | refine blk_drewN ?_ _ | refine blk_drew ?_ | refine blk_alloc ?_ _)); exact BK2.out)) : gb164 ≠ g2_)); have n13_ := Aside0.mk ((by rw [hg]; exact Nat.ne_of_lt (blk_lt (g := gb152) (o := .cells #[.int .i64 ((rd_T30 l0 x12_1).f0), .int .i64 ((rd_T30 l0 x12_1).f1)] 30 (0, 0)) (by (with_reducible repeat (first | refine blk_drewN ?_ _ | refine blk_drew ?_ | refine blk_alloc ?_ _)); exact BK152.out)) : gb152 ≠ gb164)); have n14_ := Aside0.mk ((by rw [hg]; exact Nat.ne_of_gt (blk_lt (g := gb152) (o := .cells #[.int .i64 ((rd_T30 l0 x12_1).f0), .int .i64 ((rd_T30 l0 x12_1).f1)] 30 (0, 0)) (by (with_reducible repeat (first | refine blk_drewN ?_ _ | refine blk_drew ?_ | refine blk_alloc ?_ _)); exact BK152.out)) : gb164 ≠ gb152)); have n15_ := Aside0.mk ((by rw [hg]; exact Nat.ne_of_lt (blk_lt (g := gb158) (o := .cells #[.int .i64 ((rd_T30 y153 x21_2).f0), .int .i64 ((rd_T30 y153 x21_2).f1)] 30 (0, 0)) (by (with_reducible repeat (first | refine blk_drewN ?_ _ | refine blk_drew ?_ | refine blk_alloc ?_ _)); exact BK158.out)) : gb158 ≠ gb164)); have n16_ := Aside0.mk ((by rw [hg]; exact Nat.ne_of_gt (blk_lt (g := gb158) (o := .cells #[.int .i64 ((rd_T30 y153 x21_2).f0), .int .i64 ((rd_T30 y153 x21_2).f1)] 30 (0, 0)) (by (with_reducible repeat (first | refine blk_drewN ?_ _ | refine blk_drew ?_ | refine blk_alloc ?_ _)); exact BK158.out)) : gb164 ≠ gb158)); have n17_ := Aside0.mk ((by rw [hg]; exact Nat.ne_of_lt (IsS3.lt (show IsS3 w0 _ g x2000_3 from by repeat (first | (with_reducible first | exact HI1.out | apply IsS3.alloc | apply IsS3.drewN | apply IsS3.drew | apply IsS3.set_0 | refine IsS3.far ?_ NB1_2.out _ | refine IsS3.far ?_ NB1_152.out _ | refine IsS3.far ?_ NB1_158.out _) | exact HI1.out))) : g ≠ gb164)); have n18_ := Aside0.mk ((by rw [hg]; exact Nat.ne_of_gt (IsS3.lt (show IsS3 w0 _ g x2000_3 from by repeat (first | (with_reducible first | exact HI1.out | apply IsS3.alloc | apply IsS3.drewN | apply IsS3.drew | apply IsS3.set_0 | refine IsS3.far ?_ NB1_2.out _ | refine IsS3.far ?_ NB1_152.out _ | refine IsS3.far ?_ NB1_158.out _) | exact HI1.out))) : gb164 ≠ g)); clear BK2; clear BK152; clear BK158; clear HI1; clear HR156; clear HR162; clear HK; clear HB; have BK2 := n0_; have BK152 := n1_; have BK158 := n2_; have HI1 := n3_; have HR156 := n4_; have HR162 := n5_; have HK := n6_; have HB := n7_; have BK164 := n8_; have GW164 := n9_; have GE164 := n10_; have NB2_164 := n11_; have NB164_2 := n12_; have NB152_164 := n13_; have NB164_152 := n14_; have NB158_164 := n15_; have NB164_158 := n16_; have NB1_164 := n17_; have NB164_1 := n18_; clear n0_ n1_ n2_ n3_ n4_ n5_ n6_ n7_ n8_ n9_ n10_ n11_ n12_ n13_ n14_ n15_ n16_ n17_ n18_; clear hb hbox hg; have hnb32 := NB164_2.out; have hnc32 := NB2_164.out; have hnb33 := NB164_152.out; have hnc33 := NB152_164.out; have hnb34 := NB164_158.out; have hnc34 := NB158_164.out; have hnb35 := NB164_1.out; have hnc35 := NB1_164.out; have hcz36_0 : w31.cell? ⟨gb164, 0, none⟩ = some (.int .i64 0) := (blk_cell BK164.out 0).trans rfl; have hcz36_1 : w31.cell? ⟨gb164, 1, none⟩ = some (.int .i64 0) := (blk_cell BK164.out 1).trans rfl; have hfz36_0 := blk_frozen BK164.out 0; have hfz36_1 := blk_frozen BK164.out 1) | ((with_reducible refine gate_store (t := 30) (p := 9) rfl ?_); refine store_event (t := 30) (p := 9) (v := ?vo_w37) (w1 := ((w31.setCell ⟨gb164, 0, none⟩ (.int .i64 ((rd_T30 y159 x30_3).f0))).setCell ⟨gb164, 1, none⟩ (.int .i64 ((rd_T30 y159 x30_3).f1)))) ?hg ?ho ?hn ?hr ?_; (case ho => rfl); (case hg => rfl); (case hn => rfl); (case hr => first | (go_simp; done) | (go_simp; rfl)); intro w37 hw; have n0_ : Aside0 (Kd.C k30 w37 (some ad151) y153.length y153) := ⟨(by rw [hw]; exact ((by skip; exact (show ∀ W_ : World, Kd.C k30 W_ (some ad151) (l0.take (x12_1 : Int).toNat).length (l0.take (x12_1 : Int).toNat) → Kd.C k30 W_ (some ad151) y153.length y153 from fun W_ h_ => by rw [Ny153.out]; exact h_) _ (Kd.C_take (m := (x12_1 : Int).toNat) (Kd.C_foot_now HR0.out (show KeepBut w ((w31.setCell ⟨gb164, 0, none⟩ (.int .i64 ((rd_T30 y159 x30_3).f0))).setCell ⟨gb164, 1, none⟩ (.int .i64 ((rd_T30 y159 x30_3).f1))) g none from (by repeat (first | (with_reducible first | exact HK.out | apply KeepBut.set_ | apply keep_drewN | apply keep_drew | apply keep_alloc | refine keep_far ?_ GW2.out _ | refine keep_far ?_ GW152.out _ | refine keep_far ?_ GW158.out _ | refine keep_far ?_ GW164.out _) | exact HK.out)))) KL14.out))))⟩; have n1_ : Aside0 (Kd.C k30 w37 (some ad151) y159.length y159) := ⟨(by rw [hw]; exact ((by skip; exact (show ∀ W_ : World, Kd.C k30 W_ (some ad151) (l0.take (x21_2 : Int).toNat).length (l0.take (x21_2 : Int).toNat) → Kd.C k30 W_ (some ad151) y159.length y159 from fun W_ h_ => by rw [Ny159.out]; exact h_) _ (Kd.C_take (m := (x21_2 : Int).toNat) (Kd.C_foot_now HR0.out (show KeepBut w ((w31.setCell ⟨gb164, 0, none⟩ (.int .i64 ((rd_T30 y159 x30_3).f0))).setCell ⟨gb164, 1, none⟩ (.int .i64 ((rd_T30 y159 x30_3).f1))) g none from (by repeat (first | (with_reducible first | exact HK.out | apply KeepBut.set_ | apply keep_drewN | apply keep_drew | apply keep_alloc | refine keep_far ?_ GW2.out _ | refine keep_far ?_ GW152.out _ | refine keep_far ?_ GW158.out _ | refine keep_far ?_ GW164.out _) | exact HK.out)))) KL26.out))))⟩; have n2_ : Aside0 (w37.heap[g2_]? = some (.cells #[.int .i64 x3000_3] 3 (0, 0))) := ⟨(by rw [hw]; exact (by (with_reducible repeat (first | refine blk_drewN ?_ _ | refine blk_drew ?_ | refine blk_alloc ?_ _)); refine blk_far ?_ NB2_164.out _; (with_reducible repeat (first | refine blk_drewN ?_ _ | refine blk_drew ?_ | refine blk_alloc ?_ _)); refine blk_far ?_ NB2_164.out _; (with_reducible repeat (first | refine blk_drewN ?_ _ | refine blk_drew ?_ | refine blk_alloc ?_ _)); exact BK2.out))⟩; have n3_ : Aside0 (w37.heap[gb152]? = some (.cells #[.int .i64 ((rd_T30 l0 x12_1).f0), .int .i64 ((rd_T30 l0 x12_1).f1)] 30 (0, 0))) := ⟨(by rw [hw]; exact (by (with_reducible repeat (first | refine blk_drewN ?_ _ | refine blk_drew ?_ | refine blk_alloc ?_ _)); refine blk_far ?_ NB152_164.out _; (with_reducible repeat (first | refine blk_drewN ?_ _ | refine blk_drew ?_ | refine blk_alloc ?_ _)); refine blk_far ?_ NB152_164.out _; (with_reducible repeat (first | refine blk_drewN ?_ _ | refine blk_drew ?_ | refine blk_alloc ?_ _)); exact BK152.out))⟩; have n4_ : Aside0 (w37.heap[gb158]? = some (.cells #[.int .i64 ((rd_T30 y153 x21_2).f0), .int .i64 ((rd_T30 y153 x21_2).f1)] 30 (0, 0))) := ⟨(by rw [hw]; exact (by (with_reducible repeat (first | refine blk_drewN ?_ _ | refine blk_drew ?_ | refine blk_alloc ?_ _)); refine blk_far ?_ NB158_164.out _; (with_reducible repeat (first | refine blk_drewN ?_ _ | refine blk_drew ?_ | refine blk_alloc ?_ _)); refine blk_far ?_ NB158_164.out _; (with_reducible repeat (first | refine blk_drewN ?_ _ | refine blk_drew ?_ | refine blk_alloc ?_ _)); exact BK158.out))⟩; have n5_ : Aside0 (w37.heap[gb164]? = some (.cells #[.int .i64 ((rd_T30 y159 x30_3).f0), .int .i64 ((rd_T30 y159 x30_3).f1)] 30 (0, 0))) := ⟨(by rw [hw]; exact (by (with_reducible repeat (first | refine blk_drewN ?_ _ | refine blk_drew ?_ | refine blk_alloc ?_ _)); refine blk_put (cs := #[.int .i64 ((rd_T30 y159 x30_3).f0), .int .i64 0]) ?_ 1 _ rfl; (with_reducible repeat (first | refine blk_drewN ?_ _ | refine blk_drew ?_ | refine blk_alloc ?_ _)); refine blk_put (cs := #[.int .i64 0, .int .i64 0]) ?_ 0 _ rfl; (with_reducible repeat (first | refine blk_drewN ?_ _ | refine blk_drew ?_ | refine blk_alloc ?_ _)); exact BK164.out))⟩; have n6_ : Aside0 (IsS3 w0 w37 g x2000_3) := ⟨(by rw [hw]; exact (by repeat (first | (with_reducible first | exact HI1.out | apply IsS3.alloc | apply IsS3.drewN | apply IsS3.drew | apply IsS3.set_0 | refine IsS3.far ?_ NB1_2.out _ | refine IsS3.far ?_ NB1_152.out _ | refine IsS3.far ?_ NB1_158.out _ | refine IsS3.far ?_ NB1_164.out _) | exact HI1.out)))⟩; have n7_ : Aside0 (KeepBut w w37 g none) := ⟨(by rw [hw]; exact (by repeat (first | (with_reducible first | exact HK.out | apply KeepBut.set_ | apply keep_drewN | apply keep_drew | apply keep_alloc | refine keep_far ?_ GW2.out _ | refine keep_far ?_ GW152.out _ | refine keep_far ?_ GW158.out _ | refine keep_far ?_ GW164.out _) | exact HK.out)))⟩; have n8_ : Aside0 (Below w0.heap.size w0 w37) := ⟨(by rw [hw]; exact (by repeat (first | (with_reducible first | exact HB.out | apply below_alloc | apply pw_below_drewN | apply below_drew1 | refine below_set ?_ (IsS3.ge HI1.out) | refine below_set ?_ GE2.out | refine below_set ?_ GE152.out | refine below_set ?_ GE158.out | refine below_set ?_ GE164.out) | exact HB.out)))⟩; clear hw; clear HR156; clear HR162; clear BK2; clear BK152; clear BK158; clear BK164; clear HI1; clear HK; clear HB; have HR156 := n0_; have HR162 := n1_; have BK2 := n2_; have BK152 := n3_; have BK158 := n4_; have BK164 := n5_; have HI1 := n6_; have HK := n7_; have HB := n8_; clear n0_ n1_ n2_ n3_ n4_ n5_ n6_ n7_ n8_; have hnb38 := NB152_2.out; have hnc38 := NB2_152.out; have hnb39 := NB152_158.out; have hnc39 := NB158_152.out; have hnb40 := NB152_1.out; have hnc40 := NB1_152.out; have hcz41_0 : w37.cell? ⟨gb152, 0, none⟩ = some (.int .i64 ((rd_T30 l0 x12_1).f0)) := (blk_cell BK152.out 0).trans rfl; have hcz41_1 : w37.cell? ⟨gb152, 1, none⟩ = some (.int .i64 ((rd_T30 l0 x12_1).f1)) := (blk_cell BK152.out 1).trans rfl; have hfz41_0 := blk_frozen BK152.out 0; have hfz41_1 := blk_frozen BK152.out 1; have hnb42 := NB158_2.out; have hnc42 := NB2_158.out; have hnb43 := NB158_1.out; have hnc43 := NB1_158.out; have hcz44_0 : w37.cell? ⟨gb158, 0, none⟩ = some (.int .i64 ((rd_T30 y153 x21_2).f0)) := (blk_cell BK158.out 0).trans rfl; have hcz44_1 : w37.cell? ⟨gb158, 1, none⟩ = some (.int .i64 ((rd_T30 y153 x21_2).f1)) := (blk_cell BK158.out 1).trans rfl; have hfz44_0 := blk_frozen BK158.out 0; have hfz44_1 := blk_frozen BK158.out 1; have hcz45_0 : w37.cell? ⟨gb164, 0, none⟩ = some (.int .i64 ((rd_T30 y159 x30_3).f0)) := (blk_cell BK164.out 0).trans rfl; have hcz45_1 : w37.cell? ⟨gb164, 1, none⟩ = some (.int .i64 ((rd_T30 y159 x30_3).f1)) := (blk_cell BK164.out 1).trans rfl; have hfz45_0 := blk_frozen BK164.out 0; have hfz45_1 := blk_frozen BK164.out 1) | ((with_reducible refine gate_via (s := 34) rfl ?_); refine goesD_ (some 38) rfl rfl (f := 59) Try.func59 (by kernel_rfl) rfl #[.agg #[.int .i64 ((rd_T30 l0 x12_1).f0), .int .i64 ((rd_T30 l0 x12_1).f1)], .agg #[.int .i64 ((rd_T30 y153 x21_2).f0), .int .i64 ((rd_T30 y153 x21_2).f1)], .agg #[.int .i64 ((rd_T30 y159 x30_3).f0), .int .i64 ((rd_T30 y159 x30_3).f1)]] #[.pointer (some ⟨g2_, 0, none⟩), .pointer (some ⟨g, 0, none⟩)] #[.agg #[.int .i64 ((rd_T30 l0 x12_1).f0), .int .i64 ((rd_T30 l0 x12_1).f1)], .agg #[.int .i64 ((rd_T30 y153 x21_2).f0), .int .i64 ((rd_T30 y153 x21_2).f1)], .agg #[.int .i64 ((rd_T30 y159 x30_3).f0), .int .i64 ((rd_T30 y159 x30_3).f1)], .pointer (some ⟨g2_, 0, none⟩), .pointer (some ⟨g, 0, none⟩)] rfl rfl rfl (by (try simp only [List.map_toArray, List.map_cons, List.map_nil]); first | done | rfl) ?_; (with_reducible refine (impl_CountOfArea_1.calls ((rd_T30 l0 x12_1).f0) ((rd_T30 l0 x12_1).f1) ((rd_T30 y153 x21_2).f0) ((rd_T30 y153 x21_2).f1) ((rd_T30 y159 x30_3).f0) ((rd_T30 y159 x30_3).f1) g2_ x3000_3 g x2000_3 t165 w0 _ ?side1 ?side2 ?side3 ?side4 A30.out).mono ?_); (case side1 => repeat (first | (with_reducible first | exact HI1.out | apply IsS3.alloc | apply IsS3.drewN | apply IsS3.drew | apply IsS3.set_0 | refine IsS3.far ?_ NB1_2.out _ | refine IsS3.far ?_ NB1_152.out _ | refine IsS3.far ?_ NB1_158.out _ | refine IsS3.far ?_ NB1_164.out _) | exact HI1.out)); (case side2 => repeat (first | (with_reducible first | exact HB.out | apply below_alloc | apply pw_below_drewN | apply below_drew1 | refine below_set ?_ (IsS3.ge HI1.out) | refine below_set ?_ GE2.out | refine below_set ?_ GE152.out | refine below_set ?_ GE158.out | refine below_set ?_ GE164.out) | exact HB.out)); (case side3 => exact (by (with_reducible repeat (first | refine blk_drewN ?_ _ | refine blk_drew ?_ | refine blk_alloc ?_ _)); exact BK2.out)); (case side4 => exact NB2_1.out); rintro e w46 ⟨rfl, hi, hb, hk⟩; refine ⟨_, rfl, ?_⟩; have n0_ := Aside0.mk (KeepBut.blk hk (g' := g2_) (o := .cells #[.int .i64 x3000_3] 3 (0, 0)) (by (with_reducible repeat (first | refine blk_drewN ?_ _ | refine blk_drew ?_ | refine blk_alloc ?_ _)); exact BK2.out) NB2_1.out (by simp)); have n1_ := Aside0.mk (KeepBut.blk hk (g' := gb152) (o := .cells #[.int .i64 ((rd_T30 l0 x12_1).f0), .int .i64 ((rd_T30 l0 x12_1).f1)] 30 (0, 0)) (by (with_reducible repeat (first | refine blk_drewN ?_ _ | refine blk_drew ?_ | refine blk_alloc ?_ _)); exact BK152.out) NB152_1.out (by simp)); have n2_ := Aside0.mk (KeepBut.blk hk (g' := gb158) (o := .cells #[.int .i64 ((rd_T30 y153 x21_2).f0), .int .i64 ((rd_T30 y153 x21_2).f1)] 30 (0, 0)) (by (with_reducible repeat (first | refine blk_drewN ?_ _ | refine blk_drew ?_ | refine blk_alloc ?_ _)); exact BK158.out) NB158_1.out (by simp)); have n3_ := Aside0.mk (KeepBut.blk hk (g' := gb164) (o := .cells #[.int .i64 ((rd_T30 y159 x30_3).f0), .int .i64 ((rd_T30 y159 x30_3).f1)] 30 (0, 0)) (by (with_reducible repeat (first | refine blk_drewN ?_ _ | refine blk_drew ?_ | refine blk_alloc ?_ _)); exact BK164.out) NB164_1.out (by simp)); have n4_ := Aside0.mk (KeepBut.trans (by repeat (first | (with_reducible first | exact HK.out | apply KeepBut.set_ | apply keep_drewN | apply keep_drew | apply keep_alloc | refine keep_far ?_ GW2.out _ | refine keep_far ?_ GW152.out _ | refine keep_far ?_ GW158.out _ | refine keep_far ?_ GW164.out _) | exact HK.out)) hk (.inl rfl)); have n5_ := Aside0.mk (hb); have n6_ := Aside0.mk (hi); have n7_ := Aside0.mk ((show Kd.C k30 w46 (some ad151) y153.length y153 from by rw [Ny153.out]; exact Kd.C_take (m := (x12_1 : Int).toNat) (Kd.C_foot_now HR0.out (show KeepBut w w46 g none from (KeepBut.trans (by repeat (first | (with_reducible first | exact HK.out | apply KeepBut.set_ | apply keep_drewN | apply keep_drew | apply keep_alloc | refine keep_far ?_ GW2.out _ | refine keep_far ?_ GW152.out _ | refine keep_far ?_ GW158.out _ | refine keep_far ?_ GW164.out _) | exact HK.out)) hk (.inl rfl)))) KL14.out)); have n8_ := Aside0.mk ((show Kd.C k30 w46 (some ad151) y159.length y159 from by rw [Ny159.out]; exact Kd.C_take (m := (x21_2 : Int).toNat) (Kd.C_foot_now HR0.out (show KeepBut w w46 g none from (KeepBut.trans (by repeat (first | (with_reducible first | exact HK.out | apply KeepBut.set_ | apply keep_drewN | apply keep_drew | apply keep_alloc | refine keep_far ?_ GW2.out _ | refine keep_far ?_ GW152.out _ | refine keep_far ?_ GW158.out _ | refine keep_far ?_ GW164.out _) | exact HK.out)) hk (.inl rfl)))) KL26.out)); clear BK2; clear BK152; clear BK158; clear BK164; clear HK; clear HB; clear HI1; clear HR156; clear HR162; have BK2 := n0_; have BK152 := n1_; have BK158 := n2_; have BK164 := n3_; have HK := n4_; have HB := n5_; have HI1 := n6_; have HR156 := n7_; have HR162 := n8_; clear n0_ n1_ n2_ n3_ n4_ n5_ n6_ n7_ n8_; (try clear hb); (try clear hb2); (try clear hk); (try clear hi)))
                                    go_roundg k3
                                    case measure => have := HK1.out; have := HK2.out; have := HK3.out; omega
                                    case rel => exact ⟨(wrap64 (x30_3 + 1)), (t165), (x3000_3), (by first | rfl | (simp; done) | (simp [*]; done)), H', ⟨by have := HK1.out; have := HK2.out; have := HK3.out; omega⟩, ⟨by (with_reducible repeat (first | refine blk_drewN ?_ _ | refine blk_drew ?_ | refine blk_alloc ?_ _)); exact BK2.out⟩, ⟨by (with_reducible repeat (first | refine blk_drewN ?_ _ | refine blk_drew ?_ | refine blk_alloc ?_ _)); exact BK152.out⟩, ⟨by (with_reducible repeat (first | refine blk_drewN ?_ _ | refine blk_drew ?_ | refine blk_alloc ?_ _)); exact BK158.out⟩, ⟨by repeat (first | (with_reducible exact HR156.out) | (with_reducible refine Kd.C_alloc ?_ _) | (with_reducible refine Kd.C_drewN ?_ _) | (with_reducible refine Kd.C_drew ?_) | exact HR156.out)⟩, ⟨by repeat (first | (with_reducible exact HR162.out) | (with_reducible refine Kd.C_alloc ?_ _) | (with_reducible refine Kd.C_drewN ?_ _) | (with_reducible refine Kd.C_drew ?_) | exact HR162.out)⟩, ⟨by repeat (first | (with_reducible first | exact HI1.out | apply IsS3.alloc | apply IsS3.drewN | apply IsS3.drew | apply IsS3.set_0 | refine IsS3.far ?_ NB1_2.out _ | refine IsS3.far ?_ NB1_152.out _ | refine IsS3.far ?_ NB1_158.out _ | refine IsS3.far ?_ NB1_164.out _) | exact HI1.out)⟩, ⟨by repeat (first | (with_reducible first | exact HK.out | apply KeepBut.set_ | apply keep_drewN | apply keep_drew | apply keep_alloc | refine keep_far ?_ GW2.out _ | refine keep_far ?_ GW152.out _ | refine keep_far ?_ GW158.out _ | refine keep_far ?_ GW164.out _) | exact HK.out)⟩, ⟨by repeat (first | (with_reducible first | exact HB.out | apply below_alloc | apply pw_below_drewN | apply below_drew1 | refine below_set ?_ (IsS3.ge HI1.out) | refine below_set ?_ GE2.out | refine below_set ?_ GE152.out | refine below_set ?_ GE158.out | refine below_set ?_ GE164.out) | exact HB.out)⟩⟩
                                  · rw [if_neg c29] at H
                                    exact absurd H (by simp)
                                · rw [if_neg c28] at H
                                  exact absurd H (by simp)
                              · rw [if_neg c27] at H
                                have c27b0 : decide (x30_3 < (y159.length : Int)) = false := decide_eq_false c27
                                clear c27
                                have H' := Aside0.mk H
                                clear H
                                go_wp2
                                go_roundg k3
                                case measure => have := HK1.out; have := HK2.out; have := HK3.out; omega
                                case rel => exact ⟨(wrap64 (x21_2 + 1)), (x2000_3), (x3000_3), (by first | rfl | (simp; done) | (simp [*]; done)), H', ⟨by have := HK1.out; have := HK2.out; have := HK3.out; omega⟩, ⟨by (with_reducible repeat (first | refine blk_drewN ?_ _ | refine blk_drew ?_ | refine blk_alloc ?_ _)); exact BK2.out⟩, ⟨by (with_reducible repeat (first | refine blk_drewN ?_ _ | refine blk_drew ?_ | refine blk_alloc ?_ _)); exact BK152.out⟩, ⟨by repeat (first | (with_reducible exact HR156.out) | (with_reducible refine Kd.C_alloc ?_ _) | (with_reducible refine Kd.C_drewN ?_ _) | (with_reducible refine Kd.C_drew ?_) | exact HR156.out)⟩, ⟨by repeat (first | (with_reducible first | exact HI1.out | apply IsS3.alloc | apply IsS3.drewN | apply IsS3.drew | apply IsS3.set_0 | refine IsS3.far ?_ NB1_2.out _ | refine IsS3.far ?_ NB1_152.out _ | refine IsS3.far ?_ NB1_158.out _) | exact HI1.out)⟩, ⟨by repeat (first | (with_reducible first | exact HK.out | apply KeepBut.set_ | apply keep_drewN | apply keep_drew | apply keep_alloc | refine keep_far ?_ GW2.out _ | refine keep_far ?_ GW152.out _ | refine keep_far ?_ GW158.out _) | exact HK.out)⟩, ⟨by repeat (first | (with_reducible first | exact HB.out | apply below_alloc | apply pw_below_drewN | apply below_drew1 | refine below_set ?_ (IsS3.ge HI1.out) | refine below_set ?_ GE2.out | refine below_set ?_ GE152.out | refine below_set ?_ GE158.out) | exact HB.out)⟩⟩
                        · rw [if_neg c19] at H
                          exact absurd H (by simp)
                      · rw [if_neg c17] at H
                        exact absurd H (by simp)
                    · rw [if_neg c16] at H
                      exact absurd H (by simp)
                  · rw [if_neg c15] at H
                    have c15b0 : decide (x21_2 < (y153.length : Int)) = false := decide_eq_false c15
                    clear c15
                    have H' := Aside0.mk H
                    clear H
                    go_wp2
                    go_roundg k2
                    case measure => have := HK1.out; have := HK2.out; omega
                    case rel => exact ⟨(wrap64 (x12_1 + 1)), (x2000_2), (x3000_2), (by first | rfl | (simp; done) | (simp [*]; done)), H', ⟨by have := HK1.out; have := HK2.out; omega⟩, ⟨by (with_reducible repeat (first | refine blk_drewN ?_ _ | refine blk_drew ?_ | refine blk_alloc ?_ _)); exact BK2.out⟩, ⟨by repeat (first | (with_reducible first | exact HI1.out | apply IsS3.alloc | apply IsS3.drewN | apply IsS3.drew | apply IsS3.set_0 | refine IsS3.far ?_ NB1_2.out _ | refine IsS3.far ?_ NB1_152.out _) | exact HI1.out)⟩, ⟨by repeat (first | (with_reducible first | exact HK.out | apply KeepBut.set_ | apply keep_drewN | apply keep_drew | apply keep_alloc | refine keep_far ?_ GW2.out _ | refine keep_far ?_ GW152.out _) | exact HK.out)⟩, ⟨by repeat (first | (with_reducible first | exact HB.out | apply below_alloc | apply pw_below_drewN | apply below_drew1 | refine below_set ?_ (IsS3.ge HI1.out) | refine below_set ?_ GE2.out | refine below_set ?_ GE152.out) | exact HB.out)⟩⟩
            · rw [if_neg c8] at H
              exact absurd H (by simp)
          · rw [if_neg c6] at H
            exact absurd H (by simp)
        · rw [if_neg c5] at H
          exact absurd H (by simp)
      · rw [if_neg c4] at H
        have c4b0 : decide (x12_1 < (l0.length : Int)) = false := decide_eq_false c4
        clear c4
        obtain rfl := Option.some.inj H
        go_wp2
        first | go_end0 | ((try simp only [Exit.inBlock, Exit.then]); refine bodyPost_ret (results_none rfl _ _ _) rfl ?_)
        exact ⟨by first | rfl | (simp [errW_none, errW_some] <;> rfl) | (simp [*, errW_none, errW_some] <;> rfl), by repeat (first | (with_reducible first | exact HI1.out | apply IsS3.alloc | apply IsS3.drewN | apply IsS3.drew | apply IsS3.set_0 | refine IsS3.far ?_ NB1_2.out _) | exact HI1.out), by repeat (first | (with_reducible first | exact HB.out | apply below_alloc | apply pw_below_drewN | apply below_drew1 | refine below_set ?_ (IsS3.ge HI1.out) | refine below_set ?_ GE2.out) | exact HB.out), by repeat (first | (with_reducible first | exact HK.out | apply KeepBut.set_ | apply keep_drewN | apply keep_drew | apply keep_alloc | refine keep_far ?_ GW2.out _) | exact HK.out)⟩

end Go.Proofs.Ytookmifpgclhlaa.MP
