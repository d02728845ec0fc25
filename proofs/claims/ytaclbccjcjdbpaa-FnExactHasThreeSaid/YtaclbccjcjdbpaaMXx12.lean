-- Written by a program of this session (wip/print/myprint.py) over the kit's printer; Lean checks it.
import Derived.Test.YtaclbccjcjdbpaaMXx0
import Derived.Test.YtaclbccjcjdbpaaMXx11
namespace Go.Proofs.Ytaclbccjcjdbpaa.MX
open Go.RowKit Go.Proofs.YtaclbccjcjdbpaaW.PrintWords Go.Proofs.YtaclbccjcjdbpaaW.PrintLast Go.Proofs.YtaclbccjcjdbpaaW.PrintMore Go.Proofs.YtaclbccjcjdbpaaV
attribute [local go_sem] max2_int min2_int max_two min_two max_three min_three max_four min_four   -- for this text's walks alone
set_option linter.unusedVariables false
set_option linter.unusedSimpArgs false

/-! ### impl_threes: function 56 -/
mutual
def impl_threes.l0 : Nat → List (S34) → List (S34) → Int → Int → Bool → Option (Bool)
  | 0, _, _, _, _, _ => none
  | k + 1, x0, x10, x11, x12, x2000 => if x12 < x11 then (if 0 ≤ x12 then (if x12 < (x10.length : Int) then (if x12 ≤ (x0.length : Int) then ((some (x0.take (x12 : Int).toNat : List (S34))).bind fun y197 => (impl_threes.l1 k x0 x10 x11 x12 y197 (y197.length : Int) 0 x2000 ((rd_T34 x10 x12).f0) ((rd_T34 x10 x12).f1))) else (none)) else (none)) else (none)) else (some x2000)
def impl_threes.l1 : Nat → List (S34) → List (S34) → Int → Int → List (S34) → Int → Int → Bool → Int → Int → Option (Bool)
  | 0, _, _, _, _, _, _, _, _, _, _ => none
  | k + 1, x0, x10, x11, x12, x19, x20, x21, x2000, x197000, x197001 => if x21 < x20 then (if 0 ≤ x21 then (if x21 < (x19.length : Int) then (if x21 ≤ (x0.length : Int) then ((some (x0.take (x21 : Int).toNat : List (S34))).bind fun y203 => (impl_threes.l2 k x0 x10 x11 x12 x19 x20 x21 y203 (y203.length : Int) 0 x2000 x197000 x197001 ((rd_T34 x19 x21).f0) ((rd_T34 x19 x21).f1))) else (none)) else (none)) else (none)) else (impl_threes.l0 k x0 x10 x11 (wrap64 (x12 + 1)) x2000)
def impl_threes.l2 : Nat → List (S34) → List (S34) → Int → Int → List (S34) → Int → Int → List (S34) → Int → Int → Bool → Int → Int → Int → Int → Option (Bool)
  | 0, _, _, _, _, _, _, _, _, _, _, _, _, _, _, _ => none
  | k + 1, x0, x10, x11, x12, x19, x20, x21, x28, x29, x30, x2000, x197000, x197001, x203000, x203001 => if x30 < x29 then (if 0 ≤ x30 then (if x30 < (x28.length : Int) then ((impl_HasThree_1.f x197000 x197001 x203000 x203001 ((rd_T34 x28 x30).f0) ((rd_T34 x28 x30).f1) x2000).bind fun t209 => (impl_threes.l2 k x0 x10 x11 x12 x19 x20 x21 x28 x29 (wrap64 (x30 + 1)) t209 x197000 x197001 x203000 x203001)) else (none)) else (none)) else (impl_threes.l1 k x0 x10 x11 x12 x19 x20 (wrap64 (x21 + 1)) x2000 x197000 x197001)
end
def impl_threes.f (k : Nat) (l0 : List (S34)) (s1_0 : Bool) : Option (Bool) := impl_threes.l0 k l0 l0 (l0.length : Int) 0 s1_0
theorem impl_threes.mono_l : ∀ k, (∀ y0 y1 y2 y3 y4, LeO (impl_threes.l0 k y0 y1 y2 y3 y4) (impl_threes.l0 (k + 1) y0 y1 y2 y3 y4)) ∧ (∀ y0 y1 y2 y3 y4 y5 y6 y7 y8 y9, LeO (impl_threes.l1 k y0 y1 y2 y3 y4 y5 y6 y7 y8 y9) (impl_threes.l1 (k + 1) y0 y1 y2 y3 y4 y5 y6 y7 y8 y9)) ∧ (∀ y0 y1 y2 y3 y4 y5 y6 y7 y8 y9 y10 y11 y12 y13 y14, LeO (impl_threes.l2 k y0 y1 y2 y3 y4 y5 y6 y7 y8 y9 y10 y11 y12 y13 y14) (impl_threes.l2 (k + 1) y0 y1 y2 y3 y4 y5 y6 y7 y8 y9 y10 y11 y12 y13 y14))
  | 0 => ⟨fun _ _ _ _ _ r h => by simp [impl_threes.l0] at h, fun _ _ _ _ _ _ _ _ _ _ r h => by simp [impl_threes.l1] at h, fun _ _ _ _ _ _ _ _ _ _ _ _ _ _ _ r h => by simp [impl_threes.l2] at h⟩
  | k + 1 => by
    obtain ⟨ih0, ih1, ih2⟩ := impl_threes.mono_l k
    refine ⟨?_, ?_, ?_⟩
    · intro y0 y1 y2 y3 y4
      unfold impl_threes.l0
      repeat' first
      | (with_reducible exact ih0 _ _ _ _ _)
      | (with_reducible exact ih1 _ _ _ _ _ _ _ _ _ _)
      | (with_reducible exact ih2 _ _ _ _ _ _ _ _ _ _ _ _ _ _ _)
      | (with_reducible exact LeO.refl _)
      | (with_reducible exact LeO.none _)
      | (with_reducible refine LeO.ite ?_ ?_)
      | (with_reducible refine LeO.bind ?_ (fun _ => ?_))
      | exact ih0 _ _ _ _ _
      | exact ih1 _ _ _ _ _ _ _ _ _ _
      | exact ih2 _ _ _ _ _ _ _ _ _ _ _ _ _ _ _
      | exact LeO.none _
      | refine LeO.ite ?_ ?_
      | refine LeO.bind ?_ (fun _ => ?_)
    · intro y0 y1 y2 y3 y4 y5 y6 y7 y8 y9
      unfold impl_threes.l1
      repeat' first
      | (with_reducible exact ih0 _ _ _ _ _)
      | (with_reducible exact ih1 _ _ _ _ _ _ _ _ _ _)
      | (with_reducible exact ih2 _ _ _ _ _ _ _ _ _ _ _ _ _ _ _)
      | (with_reducible exact LeO.refl _)
      | (with_reducible exact LeO.none _)
      | (with_reducible refine LeO.ite ?_ ?_)
      | (with_reducible refine LeO.bind ?_ (fun _ => ?_))
      | exact ih0 _ _ _ _ _
      | exact ih1 _ _ _ _ _ _ _ _ _ _
      | exact ih2 _ _ _ _ _ _ _ _ _ _ _ _ _ _ _
      | exact LeO.none _
      | refine LeO.ite ?_ ?_
      | refine LeO.bind ?_ (fun _ => ?_)
    · intro y0 y1 y2 y3 y4 y5 y6 y7 y8 y9 y10 y11 y12 y13 y14
      unfold impl_threes.l2
      repeat' first
      | (with_reducible exact ih0 _ _ _ _ _)
      | (with_reducible exact ih1 _ _ _ _ _ _ _ _ _ _)
      | (with_reducible exact ih2 _ _ _ _ _ _ _ _ _ _ _ _ _ _ _)
      | (with_reducible exact LeO.refl _)
      | (with_reducible exact LeO.none _)
      | (with_reducible refine LeO.ite ?_ ?_)
      | (with_reducible refine LeO.bind ?_ (fun _ => ?_))
      | exact ih0 _ _ _ _ _
      | exact ih1 _ _ _ _ _ _ _ _ _ _
      | exact ih2 _ _ _ _ _ _ _ _ _ _ _ _ _ _ _
      | exact LeO.none _
      | refine LeO.ite ?_ ?_
      | refine LeO.bind ?_ (fun _ => ?_)
theorem impl_threes.mono : ∀ a0 a1 k, LeO (impl_threes.f k a0 a1) (impl_threes.f (k + 1) a0 a1) := by
  intro a0 a1 k
  obtain ⟨ih0, ih1, ih2⟩ := impl_threes.mono_l k
  unfold impl_threes.f
  repeat' first
      | (with_reducible exact ih0 _ _ _ _ _)
      | (with_reducible exact ih1 _ _ _ _ _ _ _ _ _ _)
      | (with_reducible exact ih2 _ _ _ _ _ _ _ _ _ _ _ _ _ _ _)
      | (with_reducible exact LeO.refl _)
      | (with_reducible exact LeO.none _)
      | (with_reducible refine LeO.ite ?_ ?_)
      | (with_reducible refine LeO.bind ?_ (fun _ => ?_))
      | exact ih0 _ _ _ _ _
      | exact ih1 _ _ _ _ _ _ _ _ _ _
      | exact ih2 _ _ _ _ _ _ _ _ _ _ _ _ _ _ _
      | exact LeO.none _
      | refine LeO.ite ?_ ?_
      | refine LeO.bind ?_ (fun _ => ?_)
set_option maxHeartbeats 8000000 in
set_option maxRecDepth 100000 in
theorem impl_threes.calls (k : Nat) (A0 : Option Addr) (c0 : Nat) (l0 : List (S34)) (g : Nat) (s1_0 : Bool) (r : Bool) (w0 w : World) (hI : IsS4 w0 w g s1_0) (hB : Below w0.heap.size w0 w) (hr0 : ∀ W_, KeepBut w W_ g none → Kd.C k34 W_ A0 l0.length l0) (hc0 : l0.length ≤ c0) (h : impl_threes.f k l0 s1_0 = some r) :
    Calls Try.prog 56 #[.slice A0 l0.length c0, .func (.func 57) #[] #[.pointer (some ⟨g, 0, none⟩)]] w fun e w' => e = .returned (.tuple #[]) ∧ IsS4 w0 w' g r ∧ Below w0.heap.size w0 w' ∧ KeepBut w w' g none := by
  have hu34 := Try.underlying34
  have HR0 := Aside0.mk hr0
  have HC0 := Aside0.mk hc0
  clear hr0 hc0
  have HI1 := Aside0.mk hI
  have HK := Aside0.mk (KeepBut.refl w g none)
  have HL := Aside0.mk hB.size
  clear hI
  have HW0 := Aside0.mk hB.size
  have HB := Aside0.mk hB
  clear hB
  have H : (impl_threes.l0 k l0 l0 (l0.length : Int) 0 s1_0) = some r := h
  clear h
  have H' := Aside0.mk H
  clear H
  go_enter Try.func56, Try.ntmps56
  go_wp2
  go_loopg [12] k (fun kq v12 w' => ∃ (x12_1 : Int) (x2000_1 : Bool), v12 = .int .i64 x12_1 ∧ Aside0 (impl_threes.l0 kq l0 l0 (l0.length : Int) x12_1 x2000_1 = some r) ∧ Aside0 (kq ≤ k) ∧ Aside0 (IsS4 w0 w' g x2000_1) ∧ Aside0 (KeepBut w w' g none) ∧ Aside0 (Below w0.heap.size w0 w'))
  case atStart => exact ⟨(0), (s1_0), (by first | rfl | (simp; done) | (simp [*]; done)), H', ⟨Nat.le_refl _⟩, ⟨by repeat (first | (with_reducible first | exact HI1.out | apply IsS4.alloc | apply IsS4.drewN | apply IsS4.drew | apply IsS4.set_0) | exact HI1.out)⟩, ⟨by repeat (first | (with_reducible first | exact HK.out | apply KeepBut.set_ | apply keep_drewN | apply keep_drew | apply keep_alloc) | exact HK.out)⟩, ⟨by repeat (first | (with_reducible first | exact HB.out | apply below_alloc | apply pw_below_drewN | apply below_drew1 | refine below_set ?_ (IsS4.ge HI1.out)) | exact HB.out)⟩⟩
  case round =>
    clear H'
    try clear p2
    obtain ⟨x12_1, x2000_1, rfl, HA, HK1, HI1, HK, HB⟩ := hrel
    cases gk with
    | zero => exact absurd HA.out (by simp [impl_threes.l0])
    | succ k1 =>
      have H := HA.out
      clear HA
      simp only [impl_threes.l0] at H
      by_cases c3 : x12_1 < (l0.length : Int)
      · rw [if_pos c3] at H
        have c3b0 : decide (x12_1 < (l0.length : Int)) = true := decide_eq_true c3
        clear c3
        by_cases c4 : 0 ≤ x12_1
        · rw [if_pos c4] at H
          have c4b0 : decide (0 ≤ x12_1) = true := decide_eq_true c4
          clear c4
          by_cases c5 : x12_1 < (l0.length : Int)
          · rw [if_pos c5] at H
            have c5b0 : decide (x12_1 < (l0.length : Int)) = true := decide_eq_true c5
            clear c5
            have c6b0 := eq_true (odt_ : 0 ≤ x12_1)
            by_cases c7 : x12_1 ≤ (l0.length : Int)
            · rw [if_pos c7] at H
              have c7b0 := eq_true c7
              have c7b1 : decide (x12_1 ≤ (l0.length : Int)) = true := decide_eq_true c7
              clear c7
              obtain ⟨y197, hy197⟩ : ∃ y_ : List (S34), y_ = (l0.take (x12_1 : Int).toNat) := ⟨_, rfl⟩
              replace H : (impl_threes.l1 k1 l0 l0 (l0.length : Int) x12_1 y197 (y197.length : Int) 0 x2000_1 ((rd_T34 l0 x12_1).f0) ((rd_T34 l0 x12_1).f1)) = some r := by first | (rw [hy197]; with_reducible exact H) | (have H2_ := (Option.bind_some _ _).symm.trans H; rw [hy197]; with_reducible exact H2_) | (have H2_ := (Option.bind_some _ _).symm.trans H; with_reducible exact H2_) | with_reducible exact H | (rw [hy197]; exact H) | exact H
              have Ny197 := Aside0.mk hy197
              clear hy197
              have H' := Aside0.mk H
              clear H
              have p195 : 0 ≤ (x12_1 : Int) := odt_
              have q195 : x12_1 < (l0.length : Int) := odt_
              obtain ⟨ad195, e195, hx195_0, hx195_1⟩ := at_T34 (Kd.C_foot_now HR0.out HK.out) x12_1 p195 q195
              cases e195
              replace p195 := eq_true p195
              replace q195 := eq_true q195
              go_wp2_with (first | ((with_reducible refine gate_dst (N := 5) rfl ?_); refine box_event ?hg (N := 5) ?hd (cs := #[.int .i64 0, .int .i64 0]) (t := 34) ?hr ?_; (case hd => rfl); (case hg => rfl); (case hr => first | (go_simp; done) | (go_simp; rfl)); intro gb196 hg w8 hbox hb; have n0_ := Aside0.mk (IsS4.below (by repeat (first | (with_reducible first | exact HI1.out | apply IsS4.alloc | apply IsS4.drewN | apply IsS4.drew | apply IsS4.set_0) | exact HI1.out)) hb); have n1_ := Aside0.mk (KeepBut.trans (by repeat (first | (with_reducible first | exact HK.out | apply KeepBut.set_ | apply keep_drewN | apply keep_drew | apply keep_alloc) | exact HK.out)) (KeepBut.of_below hb g none) (.inl rfl)); have n2_ := Aside0.mk (below_step (by repeat (first | (with_reducible first | exact HB.out | apply below_alloc | apply pw_below_drewN | apply below_drew1 | refine below_set ?_ (IsS4.ge HI1.out)) | exact HB.out)) hb); have n3_ := Aside0.mk (hbox); have n4_ := Aside0.mk ((by rw [hg]; exact (keep_size (w := w) (g := g) (row := none) (by repeat (first | (with_reducible first | exact HK.out | apply KeepBut.set_ | apply keep_drewN | apply keep_drew | apply keep_alloc) | exact HK.out))) : w.heap.size ≤ gb196)); have n5_ := Aside0.mk ((Nat.le_trans HW0.out (by rw [hg]; exact (keep_size (w := w) (g := g) (row := none) (by repeat (first | (with_reducible first | exact HK.out | apply KeepBut.set_ | apply keep_drewN | apply keep_drew | apply keep_alloc) | exact HK.out))) : w.heap.size ≤ gb196) : w0.heap.size ≤ gb196)); have n6_ := Aside0.mk ((by rw [hg]; exact Nat.ne_of_lt (IsS4.lt (show IsS4 w0 _ g x2000_1 from by repeat (first | (with_reducible first | exact HI1.out | apply IsS4.alloc | apply IsS4.drewN | apply IsS4.drew | apply IsS4.set_0) | exact HI1.out))) : g ≠ gb196)); have n7_ := Aside0.mk ((by rw [hg]; exact Nat.ne_of_gt (IsS4.lt (show IsS4 w0 _ g x2000_1 from by repeat (first | (with_reducible first | exact HI1.out | apply IsS4.alloc | apply IsS4.drewN | apply IsS4.drew | apply IsS4.set_0) | exact HI1.out))) : gb196 ≠ g)); clear HI1; clear HK; clear HB; have HI1 := n0_; have HK := n1_; have HB := n2_; have BK196 := n3_; have GW196 := n4_; have GE196 := n5_; have NB1_196 := n6_; have NB196_1 := n7_; clear n0_ n1_ n2_ n3_ n4_ n5_ n6_ n7_; clear hb hbox hg; have hnb9 := NB196_1.out; have hnc9 := NB1_196.out; have hcz10_0 : w8.cell? ⟨gb196, 0, none⟩ = some (.int .i64 0) := (blk_cell BK196.out 0).trans rfl; have hcz10_1 : w8.cell? ⟨gb196, 1, none⟩ = some (.int .i64 0) := (blk_cell BK196.out 1).trans rfl; have hfz10_0 := blk_frozen BK196.out 0; have hfz10_1 := blk_frozen BK196.out 1) | ((with_reducible refine gate_store (t := 34) (p := 5) rfl ?_); refine store_event (t := 34) (p := 5) (v := ?vo_w11) (w1 := ((w8.setCell ⟨gb196, 0, none⟩ (.int .i64 ((rd_T34 l0 x12_1).f0))).setCell ⟨gb196, 1, none⟩ (.int .i64 ((rd_T34 l0 x12_1).f1)))) ?hg ?ho ?hn ?hr ?_; (case ho => rfl); (case hg => rfl); (case hn => rfl); (case hr => first | (go_simp; done) | (go_simp; rfl)); intro w11 hw; have n0_ : Aside0 (w11.heap[gb196]? = some (.cells #[.int .i64 ((rd_T34 l0 x12_1).f0), .int .i64 ((rd_T34 l0 x12_1).f1)] 34 (0, 0))) := ⟨(by rw [hw]; exact (by (with_reducible repeat (first | refine blk_drewN ?_ _ | refine blk_drew ?_ | refine blk_alloc ?_ _)); refine blk_put (cs := #[.int .i64 ((rd_T34 l0 x12_1).f0), .int .i64 0]) ?_ 1 _ rfl; (with_reducible repeat (first | refine blk_drewN ?_ _ | refine blk_drew ?_ | refine blk_alloc ?_ _)); refine blk_put (cs := #[.int .i64 0, .int .i64 0]) ?_ 0 _ rfl; (with_reducible repeat (first | refine blk_drewN ?_ _ | refine blk_drew ?_ | refine blk_alloc ?_ _)); exact BK196.out))⟩; have n1_ : Aside0 (IsS4 w0 w11 g x2000_1) := ⟨(by rw [hw]; exact (by repeat (first | (with_reducible first | exact HI1.out | apply IsS4.alloc | apply IsS4.drewN | apply IsS4.drew | apply IsS4.set_0 | refine IsS4.far ?_ NB1_196.out _) | exact HI1.out)))⟩; have n2_ : Aside0 (KeepBut w w11 g none) := ⟨(by rw [hw]; exact (by repeat (first | (with_reducible first | exact HK.out | apply KeepBut.set_ | apply keep_drewN | apply keep_drew | apply keep_alloc | refine keep_far ?_ GW196.out _) | exact HK.out)))⟩; have n3_ : Aside0 (Below w0.heap.size w0 w11) := ⟨(by rw [hw]; exact (by repeat (first | (with_reducible first | exact HB.out | apply below_alloc | apply pw_below_drewN | apply below_drew1 | refine below_set ?_ (IsS4.ge HI1.out) | refine below_set ?_ GE196.out) | exact HB.out)))⟩; clear hw; clear BK196; clear HI1; clear HK; clear HB; have BK196 := n0_; have HI1 := n1_; have HK := n2_; have HB := n3_; clear n0_ n1_ n2_ n3_; have q12 : (x12_1 : Int) ≤ ((l0.length : Int) : Int) := odt_; obtain ⟨i012, hi012, _, hsz12, _⟩ := info_parts info34; have hroom12 : l0.length ≤ c0 := HC0.out; have hC12 : Kd.C k34 _ (some ad195) l0.length l0 := (Kd.C_foot_now HR0.out HK.out); have hcut12 := cut_to (P := Try.prog) 25 34 .i64 Try.underlying25 hi012 (some ad195) l0.length c0 x12_1 (odt_) q12 hroom12; have hr12 := Kd.C_take (m := (x12_1 : Int).toNat) hC12 (by omega); have hy12 : y197.length = (x12_1 : Int).toNat := (by rw [Ny197.out, List.length_take]; omega); rw [← Ny197.out] at hr12; rw [← hy12] at hcut12; have HR200 := Aside0.mk hr12; have HC200 := Aside0.mk (show y197.length ≤ c0 from by omega); clear hr12 hC12 hroom12 hi012 hsz12; have KY12 := Aside0.mk hy12; clear hy12; have KL12 := Aside0.mk (show (x12_1 : Int).toNat ≤ l0.length from by omega); replace q12 := eq_true q12))
              go_loopg [21] k1 (fun kq v21 w' => ∃ (x21_2 : Int) (x2000_2 : Bool), v21 = .int .i64 x21_2 ∧ Aside0 (impl_threes.l1 kq l0 l0 (l0.length : Int) x12_1 y197 (y197.length : Int) x21_2 x2000_2 ((rd_T34 l0 x12_1).f0) ((rd_T34 l0 x12_1).f1) = some r) ∧ Aside0 (kq ≤ k1) ∧ Aside0 (w'.heap[gb196]? = some (.cells #[.int .i64 ((rd_T34 l0 x12_1).f0), .int .i64 ((rd_T34 l0 x12_1).f1)] 34 (0, 0))) ∧ Aside0 (Kd.C k34 w' (some ad195) y197.length y197) ∧ Aside0 (IsS4 w0 w' g x2000_2) ∧ Aside0 (KeepBut w w' g none) ∧ Aside0 (Below w0.heap.size w0 w'))
              case atStart => exact ⟨(0), (x2000_1), (by first | rfl | (simp; done) | (simp [*]; done)), H', ⟨Nat.le_refl _⟩, ⟨bk_ BK196.out⟩, ⟨by repeat (first | (with_reducible exact HR200.out) | (with_reducible refine Kd.C_alloc ?_ _) | (with_reducible refine Kd.C_drewN ?_ _) | (with_reducible refine Kd.C_drew ?_) | exact HR200.out)⟩, ⟨by repeat (first | (with_reducible first | exact HI1.out | apply IsS4.alloc | apply IsS4.drewN | apply IsS4.drew | apply IsS4.set_0 | refine IsS4.far ?_ NB1_196.out _) | exact HI1.out)⟩, ⟨by repeat (first | (with_reducible first | exact HK.out | apply KeepBut.set_ | apply keep_drewN | apply keep_drew | apply keep_alloc | refine keep_far ?_ GW196.out _) | exact HK.out)⟩, ⟨by repeat (first | (with_reducible first | exact HB.out | apply below_alloc | apply pw_below_drewN | apply below_drew1 | refine below_set ?_ (IsS4.ge HI1.out) | refine below_set ?_ GE196.out) | exact HB.out)⟩⟩
              case round =>
                clear H'
                try clear p1
                try clear q1
                try clear hx1
                try clear p2
                try clear c3
                try clear c3b0
                try clear c4
                try clear c4b0
                try clear c5
                try clear c5b0
                try clear c6
                try clear c6b0
                try clear c7
                try clear c7b0
                try clear c7b1
                try clear c9
                try clear q12
                try clear hcz10_0
                try clear hcz10_1
                try clear hfz10_0
                try clear hfz10_1
                try clear hx195_0
                try clear hx195_1
                try clear p195
                try clear p2
                try clear q12
                try clear q195
                obtain ⟨x21_2, x2000_2, rfl, HA, HK2, BK196, HR200, HI1, HK, HB⟩ := hrel
                cases gk with
                | zero => exact absurd HA.out (by simp [impl_threes.l1])
                | succ k2 =>
                  have H := HA.out
                  clear HA
                  simp only [impl_threes.l1] at H
                  by_cases c13 : x21_2 < (y197.length : Int)
                  · rw [if_pos c13] at H
                    have c13b0 : decide (x21_2 < (y197.length : Int)) = true := decide_eq_true c13
                    clear c13
                    by_cases c14 : 0 ≤ x21_2
                    · rw [if_pos c14] at H
                      have c14b0 : decide (0 ≤ x21_2) = true := decide_eq_true c14
                      clear c14
                      by_cases c15 : x21_2 < (y197.length : Int)
                      · rw [if_pos c15] at H
                        have c15b0 : decide (x21_2 < (y197.length : Int)) = true := decide_eq_true c15
                        clear c15
                        have c16b0 := eq_true (odt_ : 0 ≤ x21_2)
                        by_cases c17 : x21_2 ≤ (l0.length : Int)
                        · rw [if_pos c17] at H
                          have c17b0 := eq_true c17
                          have c17b1 : decide (x21_2 ≤ (l0.length : Int)) = true := decide_eq_true c17
                          clear c17
                          obtain ⟨y203, hy203⟩ : ∃ y_ : List (S34), y_ = (l0.take (x21_2 : Int).toNat) := ⟨_, rfl⟩
                          replace H : (impl_threes.l2 k2 l0 l0 (l0.length : Int) x12_1 y197 (y197.length : Int) x21_2 y203 (y203.length : Int) 0 x2000_2 ((rd_T34 l0 x12_1).f0) ((rd_T34 l0 x12_1).f1) ((rd_T34 y197 x21_2).f0) ((rd_T34 y197 x21_2).f1)) = some r := by first | (rw [hy203]; with_reducible exact H) | (have H2_ := (Option.bind_some _ _).symm.trans H; rw [hy203]; with_reducible exact H2_) | (have H2_ := (Option.bind_some _ _).symm.trans H; with_reducible exact H2_) | with_reducible exact H | (rw [hy203]; exact H) | exact H
                          have Ny203 := Aside0.mk hy203
                          clear hy203
                          have H' := Aside0.mk H
                          clear H
                          have p201 : 0 ≤ (x21_2 : Int) := odt_
                          have q201 : x21_2 < (y197.length : Int) := odt_
                          obtain ⟨ad201, e201, hx201_0, hx201_1⟩ := at_T34 (by repeat (first | (with_reducible exact HR200.out) | (with_reducible refine Kd.C_alloc ?_ _) | (with_reducible refine Kd.C_drewN ?_ _) | (with_reducible refine Kd.C_drew ?_) | exact HR200.out)) x21_2 p201 q201
                          obtain rfl : ad195 = ad201 := (by injection e201)
                          replace p201 := eq_true p201
                          replace q201 := eq_true q201
                          go_wp2_with (first | ((with_reducible refine gate_dst (N := 7) rfl ?_); refine box_event ?hg (N := 7) ?hd (cs := #[.int .i64 0, .int .i64 0]) (t := 34) ?hr ?_; (case hd => rfl); (case hg => rfl); (case hr => first | (go_simp; done) | (go_simp; rfl)); intro gb202 hg w18 hbox hb; have n0_ := Aside0.mk (blk_below (g := gb196) (o := .cells #[.int .i64 ((rd_T34 l0 x12_1).f0), .int .i64 ((rd_T34 l0 x12_1).f1)] 34 (0, 0)) (bk_ BK196.out) hb); have n1_ := Aside0.mk (IsS4.below (by repeat (first | (with_reducible first | exact HI1.out | apply IsS4.alloc | apply IsS4.drewN | apply IsS4.drew | apply IsS4.set_0 | refine IsS4.far ?_ NB1_196.out _) | exact HI1.out)) hb); have n2_ := Aside0.mk (Kd.C_below (by repeat (first | (with_reducible exact HR200.out) | (with_reducible refine Kd.C_alloc ?_ _) | (with_reducible refine Kd.C_drewN ?_ _) | (with_reducible refine Kd.C_drew ?_) | exact HR200.out)) hb); have n3_ := Aside0.mk (KeepBut.trans (by repeat (first | (with_reducible first | exact HK.out | apply KeepBut.set_ | apply keep_drewN | apply keep_drew | apply keep_alloc | refine keep_far ?_ GW196.out _) | exact HK.out)) (KeepBut.of_below hb g none) (.inl rfl)); have n4_ := Aside0.mk (below_step (by repeat (first | (with_reducible first | exact HB.out | apply below_alloc | apply pw_below_drewN | apply below_drew1 | refine below_set ?_ (IsS4.ge HI1.out) | refine below_set ?_ GE196.out) | exact HB.out)) hb); have n5_ := Aside0.mk (hbox); have n6_ := Aside0.mk ((by rw [hg]; exact (keep_size (w := w) (g := g) (row := none) (by repeat (first | (with_reducible first | exact HK.out | apply KeepBut.set_ | apply keep_drewN | apply keep_drew | apply keep_alloc | refine keep_far ?_ GW196.out _) | exact HK.out))) : w.heap.size ≤ gb202)); have n7_ := Aside0.mk ((Nat.le_trans HW0.out (by rw [hg]; exact (keep_size (w := w) (g := g) (row := none) (by repeat (first | (with_reducible first | exact HK.out | apply KeepBut.set_ | apply keep_drewN | apply keep_drew | apply keep_alloc | refine keep_far ?_ GW196.out _) | exact HK.out))) : w.heap.size ≤ gb202) : w0.heap.size ≤ gb202)); have n8_ := Aside0.mk ((by rw [hg]; exact Nat.ne_of_lt (blk_lt (g := gb196) (o := .cells #[.int .i64 ((rd_T34 l0 x12_1).f0), .int .i64 ((rd_T34 l0 x12_1).f1)] 34 (0, 0)) (bk_ BK196.out)) : gb196 ≠ gb202)); have n9_ := Aside0.mk ((by rw [hg]; exact Nat.ne_of_gt (blk_lt (g := gb196) (o := .cells #[.int .i64 ((rd_T34 l0 x12_1).f0), .int .i64 ((rd_T34 l0 x12_1).f1)] 34 (0, 0)) (bk_ BK196.out)) : gb202 ≠ gb196)); have n10_ := Aside0.mk ((by rw [hg]; exact Nat.ne_of_lt (IsS4.lt (show IsS4 w0 _ g x2000_2 from by repeat (first | (with_reducible first | exact HI1.out | apply IsS4.alloc | apply IsS4.drewN | apply IsS4.drew | apply IsS4.set_0 | refine IsS4.far ?_ NB1_196.out _) | exact HI1.out))) : g ≠ gb202)); have n11_ := Aside0.mk ((by rw [hg]; exact Nat.ne_of_gt (IsS4.lt (show IsS4 w0 _ g x2000_2 from by repeat (first | (with_reducible first | exact HI1.out | apply IsS4.alloc | apply IsS4.drewN | apply IsS4.drew | apply IsS4.set_0 | refine IsS4.far ?_ NB1_196.out _) | exact HI1.out))) : gb202 ≠ g)); clear BK196; clear HI1; clear HR200; clear HK; clear HB; have BK196 := n0_; have HI1 := n1_; have HR200 := n2_; have HK := n3_; have HB := n4_; have BK202 := n5_; have GW202 := n6_; have GE202 := n7_; have NB196_202 := n8_; have NB202_196 := n9_; have NB1_202 := n10_; have NB202_1 := n11_; clear n0_ n1_ n2_ n3_ n4_ n5_ n6_ n7_ n8_ n9_ n10_ n11_; clear hb hbox hg; have hnb19 := NB202_196.out; have hnc19 := NB196_202.out; have hnb20 := NB202_1.out; have hnc20 := NB1_202.out; have hcz21_0 : w18.cell? ⟨gb202, 0, none⟩ = some (.int .i64 0) := (blk_cell BK202.out 0).trans rfl; have hcz21_1 : w18.cell? ⟨gb202, 1, none⟩ = some (.int .i64 0) := (blk_cell BK202.out 1).trans rfl; have hfz21_0 := blk_frozen BK202.out 0; have hfz21_1 := blk_frozen BK202.out 1) | ((with_reducible refine gate_store (t := 34) (p := 7) rfl ?_); refine store_event (t := 34) (p := 7) (v := ?vo_w22) (w1 := ((w18.setCell ⟨gb202, 0, none⟩ (.int .i64 ((rd_T34 y197 x21_2).f0))).setCell ⟨gb202, 1, none⟩ (.int .i64 ((rd_T34 y197 x21_2).f1)))) ?hg ?ho ?hn ?hr ?_; (case ho => rfl); (case hg => rfl); (case hn => rfl); (case hr => first | (go_simp; done) | (go_simp; rfl)); intro w22 hw; have n0_ : Aside0 (Kd.C k34 w22 (some ad195) y197.length y197) := ⟨(by rw [hw]; exact ((by skip; exact (show ∀ W_ : World, Kd.C k34 W_ (some ad195) (l0.take (x12_1 : Int).toNat).length (l0.take (x12_1 : Int).toNat) → Kd.C k34 W_ (some ad195) y197.length y197 from fun W_ h_ => by rw [Ny197.out]; exact h_) _ (Kd.C_take (m := (x12_1 : Int).toNat) (Kd.C_foot_now HR0.out (show KeepBut w ((w18.setCell ⟨gb202, 0, none⟩ (.int .i64 ((rd_T34 y197 x21_2).f0))).setCell ⟨gb202, 1, none⟩ (.int .i64 ((rd_T34 y197 x21_2).f1))) g none from (by repeat (first | (with_reducible first | exact HK.out | apply KeepBut.set_ | apply keep_drewN | apply keep_drew | apply keep_alloc | refine keep_far ?_ GW196.out _ | refine keep_far ?_ GW202.out _) | exact HK.out)))) KL12.out))))⟩; have n1_ : Aside0 (w22.heap[gb196]? = some (.cells #[.int .i64 ((rd_T34 l0 x12_1).f0), .int .i64 ((rd_T34 l0 x12_1).f1)] 34 (0, 0))) := ⟨(by rw [hw]; exact (by (with_reducible repeat (first | refine blk_drewN ?_ _ | refine blk_drew ?_ | refine blk_alloc ?_ _)); refine blk_far ?_ NB196_202.out _; (with_reducible repeat (first | refine blk_drewN ?_ _ | refine blk_drew ?_ | refine blk_alloc ?_ _)); refine blk_far ?_ NB196_202.out _; (with_reducible repeat (first | refine blk_drewN ?_ _ | refine blk_drew ?_ | refine blk_alloc ?_ _)); exact BK196.out))⟩; have n2_ : Aside0 (w22.heap[gb202]? = some (.cells #[.int .i64 ((rd_T34 y197 x21_2).f0), .int .i64 ((rd_T34 y197 x21_2).f1)] 34 (0, 0))) := ⟨(by rw [hw]; exact (by (with_reducible repeat (first | refine blk_drewN ?_ _ | refine blk_drew ?_ | refine blk_alloc ?_ _)); refine blk_put (cs := #[.int .i64 ((rd_T34 y197 x21_2).f0), .int .i64 0]) ?_ 1 _ rfl; (with_reducible repeat (first | refine blk_drewN ?_ _ | refine blk_drew ?_ | refine blk_alloc ?_ _)); refine blk_put (cs := #[.int .i64 0, .int .i64 0]) ?_ 0 _ rfl; (with_reducible repeat (first | refine blk_drewN ?_ _ | refine blk_drew ?_ | refine blk_alloc ?_ _)); exact BK202.out))⟩; have n3_ : Aside0 (IsS4 w0 w22 g x2000_2) := ⟨(by rw [hw]; exact (by repeat (first | (with_reducible first | exact HI1.out | apply IsS4.alloc | apply IsS4.drewN | apply IsS4.drew | apply IsS4.set_0 | refine IsS4.far ?_ NB1_196.out _ | refine IsS4.far ?_ NB1_202.out _) | exact HI1.out)))⟩; have n4_ : Aside0 (KeepBut w w22 g none) := ⟨(by rw [hw]; exact (by repeat (first | (with_reducible first | exact HK.out | apply KeepBut.set_ | apply keep_drewN | apply keep_drew | apply keep_alloc | refine keep_far ?_ GW196.out _ | refine keep_far ?_ GW202.out _) | exact HK.out)))⟩; have n5_ : Aside0 (Below w0.heap.size w0 w22) := ⟨(by rw [hw]; exact (by repeat (first | (with_reducible first | exact HB.out | apply below_alloc | apply pw_below_drewN | apply below_drew1 | refine below_set ?_ (IsS4.ge HI1.out) | refine below_set ?_ GE196.out | refine below_set ?_ GE202.out) | exact HB.out)))⟩; clear hw; clear HR200; clear BK196; clear BK202; clear HI1; clear HK; clear HB; have HR200 := n0_; have BK196 := n1_; have BK202 := n2_; have HI1 := n3_; have HK := n4_; have HB := n5_; clear n0_ n1_ n2_ n3_ n4_ n5_; have q23 : (x21_2 : Int) ≤ ((l0.length : Int) : Int) := odt_; obtain ⟨i023, hi023, _, hsz23, _⟩ := info_parts info34; have hroom23 : l0.length ≤ c0 := HC0.out; have hC23 : Kd.C k34 _ (some ad195) l0.length l0 := (Kd.C_foot_now HR0.out HK.out); have hcut23 := cut_to (P := Try.prog) 25 34 .i64 Try.underlying25 hi023 (some ad195) l0.length c0 x21_2 (odt_) q23 hroom23; have hr23 := Kd.C_take (m := (x21_2 : Int).toNat) hC23 (by omega); have hy23 : y203.length = (x21_2 : Int).toNat := (by rw [Ny203.out, List.length_take]; omega); rw [← Ny203.out] at hr23; rw [← hy23] at hcut23; have HR206 := Aside0.mk hr23; have HC206 := Aside0.mk (show y203.length ≤ c0 from by omega); clear hr23 hC23 hroom23 hi023 hsz23; have KY23 := Aside0.mk hy23; clear hy23; have KL23 := Aside0.mk (show (x21_2 : Int).toNat ≤ l0.length from by omega); replace q23 := eq_true q23))
                          go_loopg [30] k2 (fun kq v30 w' => ∃ (x30_3 : Int) (x2000_3 : Bool), v30 = .int .i64 x30_3 ∧ Aside0 (impl_threes.l2 kq l0 l0 (l0.length : Int) x12_1 y197 (y197.length : Int) x21_2 y203 (y203.length : Int) x30_3 x2000_3 ((rd_T34 l0 x12_1).f0) ((rd_T34 l0 x12_1).f1) ((rd_T34 y197 x21_2).f0) ((rd_T34 y197 x21_2).f1) = some r) ∧ Aside0 (kq ≤ k2) ∧ Aside0 (w'.heap[gb196]? = some (.cells #[.int .i64 ((rd_T34 l0 x12_1).f0), .int .i64 ((rd_T34 l0 x12_1).f1)] 34 (0, 0))) ∧ Aside0 (w'.heap[gb202]? = some (.cells #[.int .i64 ((rd_T34 y197 x21_2).f0), .int .i64 ((rd_T34 y197 x21_2).f1)] 34 (0, 0))) ∧ Aside0 (Kd.C k34 w' (some ad195) y197.length y197) ∧ Aside0 (Kd.C k34 w' (some ad195) y203.length y203) ∧ Aside0 (IsS4 w0 w' g x2000_3) ∧ Aside0 (KeepBut w w' g none) ∧ Aside0 (Below w0.heap.size w0 w'))
                          case atStart => exact ⟨(0), (x2000_2), (by first | rfl | (simp; done) | (simp [*]; done)), H', ⟨Nat.le_refl _⟩, ⟨bk_ BK196.out⟩, ⟨bk_ BK202.out⟩, ⟨by repeat (first | (with_reducible exact HR200.out) | (with_reducible refine Kd.C_alloc ?_ _) | (with_reducible refine Kd.C_drewN ?_ _) | (with_reducible refine Kd.C_drew ?_) | exact HR200.out)⟩, ⟨by repeat (first | (with_reducible exact HR206.out) | (with_reducible refine Kd.C_alloc ?_ _) | (with_reducible refine Kd.C_drewN ?_ _) | (with_reducible refine Kd.C_drew ?_) | exact HR206.out)⟩, ⟨by repeat (first | (with_reducible first | exact HI1.out | apply IsS4.alloc | apply IsS4.drewN | apply IsS4.drew | apply IsS4.set_0 | refine IsS4.far ?_ NB1_196.out _ | refine IsS4.far ?_ NB1_202.out _) | exact HI1.out)⟩, ⟨by repeat (first | (with_reducible first | exact HK.out | apply KeepBut.set_ | apply keep_drewN | apply keep_drew | apply keep_alloc | refine keep_far ?_ GW196.out _ | refine keep_far ?_ GW202.out _) | exact HK.out)⟩, ⟨by repeat (first | (with_reducible first | exact HB.out | apply below_alloc | apply pw_below_drewN | apply below_drew1 | refine below_set ?_ (IsS4.ge HI1.out) | refine below_set ?_ GE196.out | refine below_set ?_ GE202.out) | exact HB.out)⟩⟩
                          case round =>
                            clear H'
                            try clear c1
                            try clear p1
                            try clear q1
                            try clear hx1
                            try clear c2
                            try clear p2
                            try clear q2
                            try clear hx2
                            try clear c3
                            try clear c3b0
                            try clear c4
                            try clear c4b0
                            try clear c5
                            try clear c5b0
                            try clear c6
                            try clear c6b0
                            try clear c7
                            try clear c7b0
                            try clear c7b1
                            try clear c9
                            try clear q12
                            try clear c13
                            try clear c13b0
                            try clear c14
                            try clear c14b0
                            try clear c15
                            try clear c15b0
                            try clear c16
                            try clear c16b0
                            try clear c17
                            try clear c17b0
                            try clear c17b1
                            try clear c19
                            try clear p19
                            try clear q19
                            try clear hx19
                            try clear c20
                            try clear p20
                            try clear q20
                            try clear hx20
                            try clear q23
                            try clear hcz10_0
                            try clear hcz10_1
                            try clear hcz21_0
                            try clear hcz21_1
                            try clear hfz10_0
                            try clear hfz10_1
                            try clear hfz21_0
                            try clear hfz21_1
                            try clear hx195_0
                            try clear hx195_1
                            try clear hx201_0
                            try clear hx201_1
                            try clear p1
                            try clear p195
                            try clear p2
                            try clear p201
                            try clear q1
                            try clear q12
                            try clear q195
                            try clear q201
                            try clear q23
                            obtain ⟨x30_3, x2000_3, rfl, HA, HK3, BK196, BK202, HR200, HR206, HI1, HK, HB⟩ := hrel
                            cases gk with
                            | zero => exact absurd HA.out (by simp [impl_threes.l2])
                            | succ k3 =>
                              have H := HA.out
                              clear HA
                              simp only [impl_threes.l2] at H
                              by_cases c24 : x30_3 < (y203.length : Int)
                              · rw [if_pos c24] at H
                                have c24b0 : decide (x30_3 < (y203.length : Int)) = true := decide_eq_true c24
                                clear c24
                                by_cases c25 : 0 ≤ x30_3
                                · rw [if_pos c25] at H
                                  have c25b0 : decide (0 ≤ x30_3) = true := decide_eq_true c25
                                  clear c25
                                  by_cases c26 : x30_3 < (y203.length : Int)
                                  · rw [if_pos c26] at H
                                    have c26b0 : decide (x30_3 < (y203.length : Int)) = true := decide_eq_true c26
                                    clear c26
                                    replace H := Option.bind_eq_some_iff.mp H
                                    obtain ⟨t209, A270, H⟩ := H
                                    replace H : (impl_threes.l2 k3 l0 l0 (l0.length : Int) x12_1 y197 (y197.length : Int) x21_2 y203 (y203.length : Int) (wrap64 (x30_3 + 1)) t209 ((rd_T34 l0 x12_1).f0) ((rd_T34 l0 x12_1).f1) ((rd_T34 y197 x21_2).f0) ((rd_T34 y197 x21_2).f1)) = some r := H
                                    have A27 := Aside0.mk A270
                                    clear A270
                                    have H' := Aside0.mk H
                                    clear H
                                    have p207 : 0 ≤ (x30_3 : Int) := odt_
                                    have q207 : x30_3 < (y203.length : Int) := odt_
                                    obtain ⟨ad207, e207, hx207_0, hx207_1⟩ := at_T34 (by repeat (first | (with_reducible exact HR206.out) | (with_reducible refine Kd.C_alloc ?_ _) | (with_reducible refine Kd.C_drewN ?_ _) | (with_reducible refine Kd.C_drew ?_) | exact HR206.out)) x30_3 p207 q207
                                    obtain rfl : ad195 = ad207 := (by injection e207)
                                    replace p207 := eq_true p207
                                    replace q207 := eq_true q207
                                    go_wp2_with (first | ((with_reducible refine gate_dst (N := 9) rfl ?_); refine box_event ?hg (N := 9) ?hd (cs := #[.int .i64 0, .int .i64 0]) (t := 34) ?hr ?_; (case hd => rfl); (case hg => rfl); (case hr => first | (go_simp; done) | (go_simp; rfl)); intro gb208 hg w28 hbox hb; have n0_ := Aside0.mk (blk_below (g := gb196) (o := .cells #[.int .i64 ((rd_T34 l0 x12_1).f0), .int .i64 ((rd_T34 l0 x12_1).f1)] 34 (0, 0)) (bk_ BK196.out) hb); have n1_ := Aside0.mk (blk_below (g := gb202) (o := .cells #[.int .i64 ((rd_T34 y197 x21_2).f0), .int .i64 ((rd_T34 y197 x21_2).f1)] 34 (0, 0)) (bk_ BK202.out) hb); have n2_ := Aside0.mk (IsS4.below (by repeat (first | (with_reducible first | exact HI1.out | apply IsS4.alloc | apply IsS4.drewN | apply IsS4.drew | apply IsS4.set_0 | refine IsS4.far ?_ NB1_196.out _ | refine IsS4.far ?_ NB1_202.out _) | exact HI1.out)) hb); have n3_ := Aside0.mk (Kd.C_below (by repeat (first | (with_reducible exact HR200.out) | (with_reducible refine Kd.C_alloc ?_ _) | (with_reducible refine Kd.C_drewN ?_ _) | (with_reducible refine Kd.C_drew ?_) | exact HR200.out)) hb); have n4_ := Aside0.mk (Kd.C_below (by repeat (first | (with_reducible exact HR206.out) | (with_reducible refine Kd.C_alloc ?_ _) | (with_reducible refine Kd.C_drewN ?_ _) | (with_reducible refine Kd.C_drew ?_) | exact HR206.out)) hb); have n5_ := Aside0.mk (KeepBut.trans (by repeat (first | (with_reducible first | exact HK.out | apply KeepBut.set_ | apply keep_drewN | apply keep_drew | apply keep_alloc | refine keep_far ?_ GW196.out _ | refine keep_far ?_ GW202.out _) | exact HK.out)) (KeepBut.of_below hb g none) (.inl rfl)); have n6_ := Aside0.mk (below_step (by repeat (first | (with_reducible first | exact HB.out | apply below_alloc | apply pw_below_drewN | apply below_drew1 | refine below_set ?_ (IsS4.ge HI1.out) | refine below_set ?_ GE196.out | refine below_set ?_ GE202.out) | exact HB.out)) hb); have n7_ := Aside0.mk (hbox); have n8_ := Aside0.mk ((by rw [hg]; exact (keep_size (w := w) (g := g) (row := none) (by repeat (first | (with_reducible first | exact HK.out | apply KeepBut.set_ | apply keep_drewN | apply keep_drew | apply keep_alloc | refine keep_far ?_ GW196.out _ | refine keep_far ?_ GW202.out _) | exact HK.out))) : w.heap.size ≤ gb208)); have n9_ := Aside0.mk ((Nat.le_trans HW0.out (by rw [hg]; exact (keep_size (w := w) (g := g) (row := none) (by repeat (first | (with_reducible first | exact HK.out | apply KeepBut.set_ | apply keep_drewN | apply keep_drew | apply keep_alloc | refine keep_far ?_ GW196.out _ | refine keep_far ?_ GW202.out _) | exact HK.out))) : w.heap.size ≤ gb208) : w0.heap.size ≤ gb208)); have n10_ := Aside0.mk ((by rw [hg]; exact Nat.ne_of_lt (blk_lt (g := gb196) (o := .cells #[.int .i64 ((rd_T34 l0 x12_1).f0), .int .i64 ((rd_T34 l0 x12_1).f1)] 34 (0, 0)) (bk_ BK196.out)) : gb196 ≠ gb208)); have n11_ := Aside0.mk ((by rw [hg]; exact Nat.ne_of_gt (blk_lt (g := gb196) (o := .cells #[.int .i64 ((rd_T34 l0 x12_1).f0), .int .i64 ((rd_T34 l0 x12_1).f1)] 34 (0, 0)) (bk_ BK196.out)) : gb208 ≠ gb196)); have n12_ := Aside0.mk ((by rw [hg]; exact Nat.ne_of_lt (blk_lt (g := gb202) (o := .cells #[.int .i64 ((rd_T34 y197 x21_2).f0), .int .i64 ((rd_T34 y197 x21_2).f1)] 34 (0, 0)) (bk_ BK202.out)) : gb202 ≠ gb208)); have n13_ := Aside0.mk ((by rw [hg]; exact Nat.ne_of_gt (blk_lt (g := gb202) (o := .cells #[.int .i64 ((rd_T34 y197 x21_2).f0), .int .i64 ((rd_T34 y197 x21_2).f1)] 34 (0, 0)) (bk_ BK202.out)) : gb208 ≠ gb202)); have n14_ := Aside0.mk ((by rw [hg]; exact Nat.ne_of_lt (IsS4.lt (show IsS4 w0 _ g x2000_3 from by repeat (first | (with_reducible first | exact HI1.out | apply IsS4.alloc | apply IsS4.drewN | apply IsS4.drew | apply IsS4.set_0 | refine IsS4.far ?_ NB1_196.out _ | refine IsS4.far ?_ NB1_202.out _) | exact HI1.out))) : g ≠ gb208)); have n15_ := Aside0.mk ((by rw [hg]; exact Nat.ne_of_gt (IsS4.lt (show IsS4 w0 _ g x2000_3 from by repeat (first | (with_reducible first | exact HI1.out | apply IsS4.alloc | apply IsS4.drewN | apply IsS4.drew | apply IsS4.set_0 | refine IsS4.far ?_ NB1_196.out _ | refine IsS4.far ?_ NB1_202.out _) | exact HI1.out))) : gb208 ≠ g)); clear BK196; clear BK202; clear HI1; clear HR200; clear HR206; clear HK; clear HB; have BK196 := n0_; have BK202 := n1_; have HI1 := n2_; have HR200 := n3_; have HR206 := n4_; have HK := n5_; have HB := n6_; have BK208 := n7_; have GW208 := n8_; have GE208 := n9_; have NB196_208 := n10_; have NB208_196 := n11_; have NB202_208 := n12_; have NB208_202 := n13_; have NB1_208 := n14_; have NB208_1 := n15_; clear n0_ n1_ n2_ n3_ n4_ n5_ n6_ n7_ n8_ n9_ n10_ n11_ n12_ n13_ n14_ n15_; clear hb hbox hg; have hnb29 := NB208_196.out; have hnc29 := NB196_208.out; have hnb30 := NB208_202.out; have hnc30 := NB202_208.out; have hnb31 := NB208_1.out; have hnc31 := NB1_208.out; have hcz32_0 : w28.cell? ⟨gb208, 0, none⟩ = some (.int .i64 0) := (blk_cell BK208.out 0).trans rfl; have hcz32_1 : w28.cell? ⟨gb208, 1, none⟩ = some (.int .i64 0) := (blk_cell BK208.out 1).trans rfl; have hfz32_0 := blk_frozen BK208.out 0; have hfz32_1 := blk_frozen BK208.out 1) | ((with_reducible refine gate_store (t := 34) (p := 9) rfl ?_); refine store_event (t := 34) (p := 9) (v := ?vo_w33) (w1 := ((w28.setCell ⟨gb208, 0, none⟩ (.int .i64 ((rd_T34 y203 x30_3).f0))).setCell ⟨gb208, 1, none⟩ (.int .i64 ((rd_T34 y203 x30_3).f1)))) ?hg ?ho ?hn ?hr ?_; (case ho => rfl); (case hg => rfl); (case hn => rfl); (case hr => first | (go_simp; done) | (go_simp; rfl)); intro w33 hw; have n0_ : Aside0 (Kd.C k34 w33 (some ad195) y197.length y197) := ⟨(by rw [hw]; exact ((by skip; exact (show ∀ W_ : World, Kd.C k34 W_ (some ad195) (l0.take (x12_1 : Int).toNat).length (l0.take (x12_1 : Int).toNat) → Kd.C k34 W_ (some ad195) y197.length y197 from fun W_ h_ => by rw [Ny197.out]; exact h_) _ (Kd.C_take (m := (x12_1 : Int).toNat) (Kd.C_foot_now HR0.out (show KeepBut w ((w28.setCell ⟨gb208, 0, none⟩ (.int .i64 ((rd_T34 y203 x30_3).f0))).setCell ⟨gb208, 1, none⟩ (.int .i64 ((rd_T34 y203 x30_3).f1))) g none from (by repeat (first | (with_reducible first | exact HK.out | apply KeepBut.set_ | apply keep_drewN | apply keep_drew | apply keep_alloc | refine keep_far ?_ GW196.out _ | refine keep_far ?_ GW202.out _ | refine keep_far ?_ GW208.out _) | exact HK.out)))) KL12.out))))⟩; have n1_ : Aside0 (Kd.C k34 w33 (some ad195) y203.length y203) := ⟨(by rw [hw]; exact ((by skip; exact (show ∀ W_ : World, Kd.C k34 W_ (some ad195) (l0.take (x21_2 : Int).toNat).length (l0.take (x21_2 : Int).toNat) → Kd.C k34 W_ (some ad195) y203.length y203 from fun W_ h_ => by rw [Ny203.out]; exact h_) _ (Kd.C_take (m := (x21_2 : Int).toNat) (Kd.C_foot_now HR0.out (show KeepBut w ((w28.setCell ⟨gb208, 0, none⟩ (.int .i64 ((rd_T34 y203 x30_3).f0))).setCell ⟨gb208, 1, none⟩ (.int .i64 ((rd_T34 y203 x30_3).f1))) g none from (by repeat (first | (with_reducible first | exact HK.out | apply KeepBut.set_ | apply keep_drewN | apply keep_drew | apply keep_alloc | refine keep_far ?_ GW196.out _ | refine keep_far ?_ GW202.out _ | refine keep_far ?_ GW208.out _) | exact HK.out)))) KL23.out))))⟩; have n2_ : Aside0 (w33.heap[gb196]? = some (.cells #[.int .i64 ((rd_T34 l0 x12_1).f0), .int .i64 ((rd_T34 l0 x12_1).f1)] 34 (0, 0))) := ⟨(by rw [hw]; exact (by (with_reducible repeat (first | refine blk_drewN ?_ _ | refine blk_drew ?_ | refine blk_alloc ?_ _)); refine blk_far ?_ NB196_208.out _; (with_reducible repeat (first | refine blk_drewN ?_ _ | refine blk_drew ?_ | refine blk_alloc ?_ _)); refine blk_far ?_ NB196_208.out _; (with_reducible repeat (first | refine blk_drewN ?_ _ | refine blk_drew ?_ | refine blk_alloc ?_ _)); exact BK196.out))⟩; have n3_ : Aside0 (w33.heap[gb202]? = some (.cells #[.int .i64 ((rd_T34 y197 x21_2).f0), .int .i64 ((rd_T34 y197 x21_2).f1)] 34 (0, 0))) := ⟨(by rw [hw]; exact (by (with_reducible repeat (first | refine blk_drewN ?_ _ | refine blk_drew ?_ | refine blk_alloc ?_ _)); refine blk_far ?_ NB202_208.out _; (with_reducible repeat (first | refine blk_drewN ?_ _ | refine blk_drew ?_ | refine blk_alloc ?_ _)); refine blk_far ?_ NB202_208.out _; (with_reducible repeat (first | refine blk_drewN ?_ _ | refine blk_drew ?_ | refine blk_alloc ?_ _)); exact BK202.out))⟩; have n4_ : Aside0 (w33.heap[gb208]? = some (.cells #[.int .i64 ((rd_T34 y203 x30_3).f0), .int .i64 ((rd_T34 y203 x30_3).f1)] 34 (0, 0))) := ⟨(by rw [hw]; exact (by (with_reducible repeat (first | refine blk_drewN ?_ _ | refine blk_drew ?_ | refine blk_alloc ?_ _)); refine blk_put (cs := #[.int .i64 ((rd_T34 y203 x30_3).f0), .int .i64 0]) ?_ 1 _ rfl; (with_reducible repeat (first | refine blk_drewN ?_ _ | refine blk_drew ?_ | refine blk_alloc ?_ _)); refine blk_put (cs := #[.int .i64 0, .int .i64 0]) ?_ 0 _ rfl; (with_reducible repeat (first | refine blk_drewN ?_ _ | refine blk_drew ?_ | refine blk_alloc ?_ _)); exact BK208.out))⟩; have n5_ : Aside0 (IsS4 w0 w33 g x2000_3) := ⟨(by rw [hw]; exact (by repeat (first | (with_reducible first | exact HI1.out | apply IsS4.alloc | apply IsS4.drewN | apply IsS4.drew | apply IsS4.set_0 | refine IsS4.far ?_ NB1_196.out _ | refine IsS4.far ?_ NB1_202.out _ | refine IsS4.far ?_ NB1_208.out _) | exact HI1.out)))⟩; have n6_ : Aside0 (KeepBut w w33 g none) := ⟨(by rw [hw]; exact (by repeat (first | (with_reducible first | exact HK.out | apply KeepBut.set_ | apply keep_drewN | apply keep_drew | apply keep_alloc | refine keep_far ?_ GW196.out _ | refine keep_far ?_ GW202.out _ | refine keep_far ?_ GW208.out _) | exact HK.out)))⟩; have n7_ : Aside0 (Below w0.heap.size w0 w33) := ⟨(by rw [hw]; exact (by repeat (first | (with_reducible first | exact HB.out | apply below_alloc | apply pw_below_drewN | apply below_drew1 | refine below_set ?_ (IsS4.ge HI1.out) | refine below_set ?_ GE196.out | refine below_set ?_ GE202.out | refine below_set ?_ GE208.out) | exact HB.out)))⟩; clear hw; clear HR200; clear HR206; clear BK196; clear BK202; clear BK208; clear HI1; clear HK; clear HB; have HR200 := n0_; have HR206 := n1_; have BK196 := n2_; have BK202 := n3_; have BK208 := n4_; have HI1 := n5_; have HK := n6_; have HB := n7_; clear n0_ n1_ n2_ n3_ n4_ n5_ n6_ n7_; have hnb34 := NB196_202.out; have hnc34 := NB202_196.out; have hnb35 := NB196_1.out; have hnc35 := NB1_196.out; have hcz36_0 : w33.cell? ⟨gb196, 0, none⟩ = some (.int .i64 ((rd_T34 l0 x12_1).f0)) := (blk_cell BK196.out 0).trans rfl; have hcz36_1 : w33.cell? ⟨gb196, 1, none⟩ = some (.int .i64 ((rd_T34 l0 x12_1).f1)) := (blk_cell BK196.out 1).trans rfl; have hfz36_0 := blk_frozen BK196.out 0; have hfz36_1 := blk_frozen BK196.out 1; have hnb37 := NB202_1.out; have hnc37 := NB1_202.out; have hcz38_0 : w33.cell? ⟨gb202, 0, none⟩ = some (.int .i64 ((rd_T34 y197 x21_2).f0)) := (blk_cell BK202.out 0).trans rfl; have hcz38_1 : w33.cell? ⟨gb202, 1, none⟩ = some (.int .i64 ((rd_T34 y197 x21_2).f1)) := (blk_cell BK202.out 1).trans rfl; have hfz38_0 := blk_frozen BK202.out 0; have hfz38_1 := blk_frozen BK202.out 1; have hcz39_0 : w33.cell? ⟨gb208, 0, none⟩ = some (.int .i64 ((rd_T34 y203 x30_3).f0)) := (blk_cell BK208.out 0).trans rfl; have hcz39_1 : w33.cell? ⟨gb208, 1, none⟩ = some (.int .i64 ((rd_T34 y203 x30_3).f1)) := (blk_cell BK208.out 1).trans rfl; have hfz39_0 := blk_frozen BK208.out 0; have hfz39_1 := blk_frozen BK208.out 1) | ((with_reducible refine gate_via (s := 34) rfl ?_); refine goesD_ (some 38) rfl rfl (f := 57) Try.func57 (by kernel_rfl) rfl #[.agg #[.int .i64 ((rd_T34 l0 x12_1).f0), .int .i64 ((rd_T34 l0 x12_1).f1)], .agg #[.int .i64 ((rd_T34 y197 x21_2).f0), .int .i64 ((rd_T34 y197 x21_2).f1)], .agg #[.int .i64 ((rd_T34 y203 x30_3).f0), .int .i64 ((rd_T34 y203 x30_3).f1)]] #[.pointer (some ⟨g, 0, none⟩)] #[.agg #[.int .i64 ((rd_T34 l0 x12_1).f0), .int .i64 ((rd_T34 l0 x12_1).f1)], .agg #[.int .i64 ((rd_T34 y197 x21_2).f0), .int .i64 ((rd_T34 y197 x21_2).f1)], .agg #[.int .i64 ((rd_T34 y203 x30_3).f0), .int .i64 ((rd_T34 y203 x30_3).f1)], .pointer (some ⟨g, 0, none⟩)] rfl rfl rfl (by (try simp only [List.map_toArray, List.map_cons, List.map_nil]); first | done | rfl) ?_; (with_reducible refine (impl_HasThree_1.calls ((rd_T34 l0 x12_1).f0) ((rd_T34 l0 x12_1).f1) ((rd_T34 y197 x21_2).f0) ((rd_T34 y197 x21_2).f1) ((rd_T34 y203 x30_3).f0) ((rd_T34 y203 x30_3).f1) g x2000_3 t209 w0 _ ?side1 ?side2 A27.out).mono ?_); (case side1 => repeat (first | (with_reducible first | exact HI1.out | apply IsS4.alloc | apply IsS4.drewN | apply IsS4.drew | apply IsS4.set_0 | refine IsS4.far ?_ NB1_196.out _ | refine IsS4.far ?_ NB1_202.out _ | refine IsS4.far ?_ NB1_208.out _) | exact HI1.out)); (case side2 => repeat (first | (with_reducible first | exact HB.out | apply below_alloc | apply pw_below_drewN | apply below_drew1 | refine below_set ?_ (IsS4.ge HI1.out) | refine below_set ?_ GE196.out | refine below_set ?_ GE202.out | refine below_set ?_ GE208.out) | exact HB.out)); rintro e w40 ⟨rfl, hi, hb, hk⟩; refine ⟨_, rfl, ?_⟩; have n0_ := Aside0.mk (KeepBut.blk hk (g' := gb196) (o := .cells #[.int .i64 ((rd_T34 l0 x12_1).f0), .int .i64 ((rd_T34 l0 x12_1).f1)] 34 (0, 0)) (bk_ BK196.out) NB196_1.out (by simp)); have n1_ := Aside0.mk (KeepBut.blk hk (g' := gb202) (o := .cells #[.int .i64 ((rd_T34 y197 x21_2).f0), .int .i64 ((rd_T34 y197 x21_2).f1)] 34 (0, 0)) (bk_ BK202.out) NB202_1.out (by simp)); have n2_ := Aside0.mk (KeepBut.blk hk (g' := gb208) (o := .cells #[.int .i64 ((rd_T34 y203 x30_3).f0), .int .i64 ((rd_T34 y203 x30_3).f1)] 34 (0, 0)) (bk_ BK208.out) NB208_1.out (by simp)); have n3_ := Aside0.mk (KeepBut.trans (by repeat (first | (with_reducible first | exact HK.out | apply KeepBut.set_ | apply keep_drewN | apply keep_drew | apply keep_alloc | refine keep_far ?_ GW196.out _ | refine keep_far ?_ GW202.out _ | refine keep_far ?_ GW208.out _) | exact HK.out)) hk (.inl rfl)); have n4_ := Aside0.mk (hb); have n5_ := Aside0.mk (hi); have n6_ := Aside0.mk ((show Kd.C k34 w40 (some ad195) y197.length y197 from by rw [Ny197.out]; exact Kd.C_take (m := (x12_1 : Int).toNat) (Kd.C_foot_now HR0.out (show KeepBut w w40 g none from (KeepBut.trans (by repeat (first | (with_reducible first | exact HK.out | apply KeepBut.set_ | apply keep_drewN | apply keep_drew | apply keep_alloc | refine keep_far ?_ GW196.out _ | refine keep_far ?_ GW202.out _ | refine keep_far ?_ GW208.out _) | exact HK.out)) hk (.inl rfl)))) KL12.out)); have n7_ := Aside0.mk ((show Kd.C k34 w40 (some ad195) y203.length y203 from by rw [Ny203.out]; exact Kd.C_take (m := (x21_2 : Int).toNat) (Kd.C_foot_now HR0.out (show KeepBut w w40 g none from (KeepBut.trans (by repeat (first | (with_reducible first | exact HK.out | apply KeepBut.set_ | apply keep_drewN | apply keep_drew | apply keep_alloc | refine keep_far ?_ GW196.out _ | refine keep_far ?_ GW202.out _ | refine keep_far ?_ GW208.out _) | exact HK.out)) hk (.inl rfl)))) KL23.out)); clear BK196; clear BK202; clear BK208; clear HK; clear HB; clear HI1; clear HR200; clear HR206; have BK196 := n0_; have BK202 := n1_; have BK208 := n2_; have HK := n3_; have HB := n4_; have HI1 := n5_; have HR200 := n6_; have HR206 := n7_; clear n0_ n1_ n2_ n3_ n4_ n5_ n6_ n7_; (try clear hb); (try clear hb2); (try clear hk); (try clear hi)))
                                    go_roundg k3
                                    case measure => have := HK1.out; have := HK2.out; have := HK3.out; omega
                                    case rel => exact ⟨(wrap64 (x30_3 + 1)), (t209), (by first | rfl | (simp; done) | (simp [*]; done)), H', ⟨by have := HK1.out; have := HK2.out; have := HK3.out; omega⟩, ⟨bk_ BK196.out⟩, ⟨bk_ BK202.out⟩, ⟨by repeat (first | (with_reducible exact HR200.out) | (with_reducible refine Kd.C_alloc ?_ _) | (with_reducible refine Kd.C_drewN ?_ _) | (with_reducible refine Kd.C_drew ?_) | exact HR200.out)⟩, ⟨by repeat (first | (with_reducible exact HR206.out) | (with_reducible refine Kd.C_alloc ?_ _) | (with_reducible refine Kd.C_drewN ?_ _) | (with_reducible refine Kd.C_drew ?_) | exact HR206.out)⟩, ⟨by repeat (first | (with_reducible first | exact HI1.out | apply IsS4.alloc | apply IsS4.drewN | apply IsS4.drew | apply IsS4.set_0 | refine IsS4.far ?_ NB1_196.out _ | refine IsS4.far ?_ NB1_202.out _ | refine IsS4.far ?_ NB1_208.out _) | exact HI1.out)⟩, ⟨by repeat (first | (with_reducible first | exact HK.out | apply KeepBut.set_ | apply keep_drewN | apply keep_drew | apply keep_alloc | refine keep_far ?_ GW196.out _ | refine keep_far ?_ GW202.out _ | refine keep_far ?_ GW208.out _) | exact HK.out)⟩, ⟨by repeat (first | (with_reducible first | exact HB.out | apply below_alloc | apply pw_below_drewN | apply below_drew1 | refine below_set ?_ (IsS4.ge HI1.out) | refine below_set ?_ GE196.out | refine below_set ?_ GE202.out | refine below_set ?_ GE208.out) | exact HB.out)⟩⟩
                                  · rw [if_neg c26] at H
                                    exact absurd H (by simp)
                                · rw [if_neg c25] at H
                                  exact absurd H (by simp)
                              · rw [if_neg c24] at H
                                have c24b0 : decide (x30_3 < (y203.length : Int)) = false := decide_eq_false c24
                                clear c24
                                have H' := Aside0.mk H
                                clear H
                                go_wp2
                                go_roundg k3
                                case measure => have := HK1.out; have := HK2.out; have := HK3.out; omega
                                case rel => exact ⟨(wrap64 (x21_2 + 1)), (x2000_3), (by first | rfl | (simp; done) | (simp [*]; done)), H', ⟨by have := HK1.out; have := HK2.out; have := HK3.out; omega⟩, ⟨bk_ BK196.out⟩, ⟨by repeat (first | (with_reducible exact HR200.out) | (with_reducible refine Kd.C_alloc ?_ _) | (with_reducible refine Kd.C_drewN ?_ _) | (with_reducible refine Kd.C_drew ?_) | exact HR200.out)⟩, ⟨by repeat (first | (with_reducible first | exact HI1.out | apply IsS4.alloc | apply IsS4.drewN | apply IsS4.drew | apply IsS4.set_0 | refine IsS4.far ?_ NB1_196.out _ | refine IsS4.far ?_ NB1_202.out _) | exact HI1.out)⟩, ⟨by repeat (first | (with_reducible first | exact HK.out | apply KeepBut.set_ | apply keep_drewN | apply keep_drew | apply keep_alloc | refine keep_far ?_ GW196.out _ | refine keep_far ?_ GW202.out _) | exact HK.out)⟩, ⟨by repeat (first | (with_reducible first | exact HB.out | apply below_alloc | apply pw_below_drewN | apply below_drew1 | refine below_set ?_ (IsS4.ge HI1.out) | refine below_set ?_ GE196.out | refine below_set ?_ GE202.out) | exact HB.out)⟩⟩
                        · rw [if_neg c17] at H
                          exact absurd H (by simp)
                      · rw [if_neg c15] at H
                        exact absurd H (by simp)
                    · rw [if_neg c14] at H
                      exact absurd H (by simp)
                  · rw [if_neg c13] at H
                    have c13b0 : decide (x21_2 < (y197.length : Int)) = false := decide_eq_false c13
                    clear c13
                    have H' := Aside0.mk H
                    clear H
                    go_wp2
                    go_roundg k2
                    case measure => have := HK1.out; have := HK2.out; omega
                    case rel => exact ⟨(wrap64 (x12_1 + 1)), (x2000_2), (by first | rfl | (simp; done) | (simp [*]; done)), H', ⟨by have := HK1.out; have := HK2.out; omega⟩, ⟨by repeat (first | (with_reducible first | exact HI1.out | apply IsS4.alloc | apply IsS4.drewN | apply IsS4.drew | apply IsS4.set_0 | refine IsS4.far ?_ NB1_196.out _) | exact HI1.out)⟩, ⟨by repeat (first | (with_reducible first | exact HK.out | apply KeepBut.set_ | apply keep_drewN | apply keep_drew | apply keep_alloc | refine keep_far ?_ GW196.out _) | exact HK.out)⟩, ⟨by repeat (first | (with_reducible first | exact HB.out | apply below_alloc | apply pw_below_drewN | apply below_drew1 | refine below_set ?_ (IsS4.ge HI1.out) | refine below_set ?_ GE196.out) | exact HB.out)⟩⟩
            · rw [if_neg c7] at H
              exact absurd H (by simp)
          · rw [if_neg c5] at H
            exact absurd H (by simp)
        · rw [if_neg c4] at H
          exact absurd H (by simp)
      · rw [if_neg c3] at H
        have c3b0 : decide (x12_1 < (l0.length : Int)) = false := decide_eq_false c3
        clear c3
        obtain rfl := Option.some.inj H
        go_wp2
        first | go_end0 | ((try simp only [Exit.inBlock, Exit.then]); refine bodyPost_ret (results_none rfl _ _ _) rfl ?_)
        exact ⟨by first | rfl | (simp [errW_none, errW_some] <;> rfl) | (simp [*, errW_none, errW_some] <;> rfl), by repeat (first | (with_reducible first | exact HI1.out | apply IsS4.alloc | apply IsS4.drewN | apply IsS4.drew | apply IsS4.set_0) | exact HI1.out), by repeat (first | (with_reducible first | exact HB.out | apply below_alloc | apply pw_below_drewN | apply below_drew1 | refine below_set ?_ (IsS4.ge HI1.out)) | exact HB.out), by repeat (first | (with_reducible first | exact HK.out | apply KeepBut.set_ | apply keep_drewN | apply keep_drew | apply keep_alloc) | exact HK.out)⟩

end Go.Proofs.Ytaclbccjcjdbpaa.MX
