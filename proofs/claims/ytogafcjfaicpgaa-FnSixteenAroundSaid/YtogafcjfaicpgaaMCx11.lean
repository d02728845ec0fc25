-- Written by a program of this session (wip/print/myprint.py) over the kit's printer; Lean checks it.
import Derived.Test.YtogafcjfaicpgaaMCx0
import Derived.Test.YtogafcjfaicpgaaMCx10
namespace Go.Proofs.Ytogafcjfaicpgaa.MC
open Go.RowKit Go.Proofs.YtogafcjfaicpgaaW.PrintWords Go.Proofs.YtogafcjfaicpgaaW.PrintLast Go.Proofs.YtogafcjfaicpgaaW.PrintMore Go.Proofs.YtogafcjfaicpgaaV
attribute [local go_sem] max2_int min2_int max_two min_two max_three min_three max_four min_four   -- for this text's walks alone
set_option linter.unusedVariables false
set_option linter.unusedSimpArgs false

/-! ### impl_leastNumbers: function 33 -/
mutual
def impl_leastNumbers.l0 : Nat → List Int → List Int → Int → Int → Int → Option (List Int)
  | 0, _, _, _, _, _ => none
  | k + 1, x0, x3, x4, x14, x15 => if x15 < x14 then ((some (([1, (-1)] : List Int) : List Int)).bind fun y188 => (impl_leastNumbers.l1 k x0 x3 x4 x15 x14 x15 y188 (y188.length : Int) 0)) else ((slices_Clone_int_int.f x3).bind fun t185 => (some t185))
def impl_leastNumbers.l1 : Nat → List Int → List Int → Int → Int → Int → Int → List Int → Int → Int → Option (List Int)
  | 0, _, _, _, _, _, _, _, _, _ => none
  | k + 1, x0, x3, x4, x5, x14, x15, x18, x19, x20 => if x20 < x19 then (if 0 ≤ x20 then (if x20 < (x18.length : Int) then (if 0 ≤ x4 then (if (x4 : Int).toNat ≤ 35184372088832 then ((some (List.replicate (x4 : Int).toNat 0 : List Int)).bind fun y192 => (impl_leastNumbers.l2 k x0 x3 x4 x5 (rd x18 x20) y192 x14 x15 x18 x19 x20 (y192.length : Int) 0)) else (none)) else (none)) else (none)) else (none)) else (impl_leastNumbers.l0 k x0 x3 x4 x14 (wrap64 (x15 + 1)))
def impl_leastNumbers.l2 : Nat → List Int → List Int → Int → Int → Int → List Int → Int → Int → List Int → Int → Int → Int → Int → Option (List Int)
  | 0, _, _, _, _, _, _, _, _, _, _, _, _, _ => none
  | k + 1, x0, x3, x4, x5, x7, x8, x14, x15, x18, x19, x20, x27, x28 => if x28 < x27 then (if x4 = 0 then (none) else (if 0 ≤ (Int.tmod (wrap64 ((Int.tmod (wrap64 (x5 + (wrap64 (x28 * x7)))) x4) + x4)) x4) then (if (Int.tmod (wrap64 ((Int.tmod (wrap64 (x5 + (wrap64 (x28 * x7)))) x4) + x4)) x4) < (x0.length : Int) then (if 0 ≤ x28 then (if x28 < (x8.length : Int) then (impl_leastNumbers.l2 k x0 x3 x4 x5 x7 (x8.set (x28 : Int).toNat (rd x0 (Int.tmod (wrap64 ((Int.tmod (wrap64 (x5 + (wrap64 (x28 * x7)))) x4) + x4)) x4))) x14 x15 x18 x19 x20 x27 (wrap64 (x28 + 1))) else (none)) else (none)) else (none)) else (none))) else ((slices_Compare_int_int.f k x8 x3).bind fun t197 => (if t197 < 0 then (impl_leastNumbers.l1 k x0 x8 x4 x5 x14 x15 x18 x19 (wrap64 (x20 + 1))) else (impl_leastNumbers.l1 k x0 x3 x4 x5 x14 x15 x18 x19 (wrap64 (x20 + 1)))))
end
def impl_leastNumbers.f (k : Nat) (l0 : List Int) : Option (List Int) := impl_leastNumbers.l0 k l0 l0 (l0.length : Int) (l0.length : Int) 0
theorem impl_leastNumbers.mono_l : ∀ k, (∀ y0 y1 y2 y3 y4, LeO (impl_leastNumbers.l0 k y0 y1 y2 y3 y4) (impl_leastNumbers.l0 (k + 1) y0 y1 y2 y3 y4)) ∧ (∀ y0 y1 y2 y3 y4 y5 y6 y7 y8, LeO (impl_leastNumbers.l1 k y0 y1 y2 y3 y4 y5 y6 y7 y8) (impl_leastNumbers.l1 (k + 1) y0 y1 y2 y3 y4 y5 y6 y7 y8)) ∧ (∀ y0 y1 y2 y3 y4 y5 y6 y7 y8 y9 y10 y11 y12, LeO (impl_leastNumbers.l2 k y0 y1 y2 y3 y4 y5 y6 y7 y8 y9 y10 y11 y12) (impl_leastNumbers.l2 (k + 1) y0 y1 y2 y3 y4 y5 y6 y7 y8 y9 y10 y11 y12))
  | 0 => ⟨fun _ _ _ _ _ r h => by simp [impl_leastNumbers.l0] at h, fun _ _ _ _ _ _ _ _ _ r h => by simp [impl_leastNumbers.l1] at h, fun _ _ _ _ _ _ _ _ _ _ _ _ _ r h => by simp [impl_leastNumbers.l2] at h⟩
  | k + 1 => by
    obtain ⟨ih0, ih1, ih2⟩ := impl_leastNumbers.mono_l k
    refine ⟨?_, ?_, ?_⟩
    · intro y0 y1 y2 y3 y4
      unfold impl_leastNumbers.l0
      repeat' first
      | (with_reducible exact ih0 _ _ _ _ _)
      | (with_reducible exact ih1 _ _ _ _ _ _ _ _ _)
      | (with_reducible exact ih2 _ _ _ _ _ _ _ _ _ _ _ _ _)
      | (with_reducible exact slices_Compare_int_int.mono _ _ _)
      | (with_reducible exact LeO.refl _)
      | (with_reducible exact LeO.none _)
      | (with_reducible refine LeO.ite ?_ ?_)
      | (with_reducible refine LeO.bind ?_ (fun _ => ?_))
      | exact ih0 _ _ _ _ _
      | exact ih1 _ _ _ _ _ _ _ _ _
      | exact ih2 _ _ _ _ _ _ _ _ _ _ _ _ _
      | exact slices_Compare_int_int.mono _ _ _
      | exact LeO.none _
      | refine LeO.ite ?_ ?_
      | refine LeO.bind ?_ (fun _ => ?_)
    · intro y0 y1 y2 y3 y4 y5 y6 y7 y8
      unfold impl_leastNumbers.l1
      repeat' first
      | (with_reducible exact ih0 _ _ _ _ _)
      | (with_reducible exact ih1 _ _ _ _ _ _ _ _ _)
      | (with_reducible exact ih2 _ _ _ _ _ _ _ _ _ _ _ _ _)
      | (with_reducible exact slices_Compare_int_int.mono _ _ _)
      | (with_reducible exact LeO.refl _)
      | (with_reducible exact LeO.none _)
      | (with_reducible refine LeO.ite ?_ ?_)
      | (with_reducible refine LeO.bind ?_ (fun _ => ?_))
      | exact ih0 _ _ _ _ _
      | exact ih1 _ _ _ _ _ _ _ _ _
      | exact ih2 _ _ _ _ _ _ _ _ _ _ _ _ _
      | exact slices_Compare_int_int.mono _ _ _
      | exact LeO.none _
      | refine LeO.ite ?_ ?_
      | refine LeO.bind ?_ (fun _ => ?_)
    · intro y0 y1 y2 y3 y4 y5 y6 y7 y8 y9 y10 y11 y12
      unfold impl_leastNumbers.l2
      repeat' first
      | (with_reducible exact ih0 _ _ _ _ _)
      | (with_reducible exact ih1 _ _ _ _ _ _ _ _ _)
      | (with_reducible exact ih2 _ _ _ _ _ _ _ _ _ _ _ _ _)
      | (with_reducible exact slices_Compare_int_int.mono _ _ _)
      | (with_reducible exact LeO.refl _)
      | (with_reducible exact LeO.none _)
      | (with_reducible refine LeO.ite ?_ ?_)
      | (with_reducible refine LeO.bind ?_ (fun _ => ?_))
      | exact ih0 _ _ _ _ _
      | exact ih1 _ _ _ _ _ _ _ _ _
      | exact ih2 _ _ _ _ _ _ _ _ _ _ _ _ _
      | exact slices_Compare_int_int.mono _ _ _
      | exact LeO.none _
      | refine LeO.ite ?_ ?_
      | refine LeO.bind ?_ (fun _ => ?_)
theorem impl_leastNumbers.mono : ∀ a0 k, LeO (impl_leastNumbers.f k a0) (impl_leastNumbers.f (k + 1) a0) := by
  intro a0 k
  obtain ⟨ih0, ih1, ih2⟩ := impl_leastNumbers.mono_l k
  unfold impl_leastNumbers.f
  repeat' first
      | (with_reducible exact ih0 _ _ _ _ _)
      | (with_reducible exact ih1 _ _ _ _ _ _ _ _ _)
      | (with_reducible exact ih2 _ _ _ _ _ _ _ _ _ _ _ _ _)
      | (with_reducible exact slices_Compare_int_int.mono _ _ _)
      | (with_reducible exact LeO.refl _)
      | (with_reducible exact LeO.none _)
      | (with_reducible refine LeO.ite ?_ ?_)
      | (with_reducible refine LeO.bind ?_ (fun _ => ?_))
      | exact ih0 _ _ _ _ _
      | exact ih1 _ _ _ _ _ _ _ _ _
      | exact ih2 _ _ _ _ _ _ _ _ _ _ _ _ _
      | exact slices_Compare_int_int.mono _ _ _
      | exact LeO.none _
      | refine LeO.ite ?_ ?_
      | refine LeO.bind ?_ (fun _ => ?_)
set_option maxHeartbeats 8000000 in
set_option maxRecDepth 100000 in
theorem impl_leastNumbers.calls (k : Nat) (P0_ : Nat → Prop) (A0 : Option Addr) (c0 : Nat) (l0 : List Int) (r : List Int) (w : World) (hs0 : Kd.V (Kd.int .i64) 3 w w.heap.size (fun k_ => P0_ k_) (.slice A0 l0.length c0) l0) (h : impl_leastNumbers.f k l0 = some r) :
    Calls Try.prog 33 #[.slice A0 l0.length c0] w fun e w' => ∃ v0_ : Value, e = .returned (v0_) ∧ Kd.R (Kd.int .i64) 3 w' w.heap.size (fun k_ => (w.heap.size ≤ k_)) v0_ r ∧ Below w.heap.size w w' := by
  have HO0 := Aside0.mk (show Kd.V (Kd.int .i64) 3 w w.heap.size (fun k_ => (P0_ k_ ∨ w.heap.size ≤ k_)) (.slice A0 l0.length c0) l0 from Kd.V_mono hs0 (fun k_ hk => .inl hk))
  have HB := Aside0.mk (Below.refl w.heap.size w)
  have H : (impl_leastNumbers.l0 k l0 l0 (l0.length : Int) (l0.length : Int) 0) = some r := h
  clear h
  have H' := Aside0.mk H
  clear H
  go_enter Try.func33, Try.ntmps33
  go_wp2
  go_loopg [3, 15] k (fun kq v3 v15 w' => ∃ (x0_1 : List Int) (x3_1 : List Int) (x15_1 : Int), v15 = .int .i64 x15_1 ∧ Aside0 (impl_leastNumbers.l0 kq x0_1 x3_1 (l0.length : Int) (l0.length : Int) x15_1 = some r) ∧ Aside0 (kq ≤ k) ∧ Aside0 (Kd.V (Kd.int .i64) 3 w' w.heap.size (fun k_ => (P0_ k_ ∨ w.heap.size ≤ k_)) (.slice A0 l0.length c0) x0_1) ∧ Aside0 (Kd.V (Kd.int .i64) 3 w' w.heap.size (fun k_ => (P0_ k_ ∨ w.heap.size ≤ k_)) v3 x3_1) ∧ Aside0 (Below w.heap.size w w'))
  case atStart => exact ⟨(l0), (l0), (0), (by first | rfl | (simp; done) | (simp [*]; done)), H', ⟨Nat.le_refl _⟩, ⟨by (with_reducible repeat (first | apply Kd.V_alloc | apply Kd.V_drewN | apply Kd.V_drew)); exact HO0.out⟩, ⟨by (with_reducible repeat (first | apply Kd.V_alloc | apply Kd.V_drewN | apply Kd.V_drew)); exact HO0.out⟩, ⟨hb_⟩⟩
  case round =>
    clear H'
    obtain ⟨x0_1, x3_1, x15_1, rfl, HA, HK1, HO_0, HO_3, HB⟩ := hrel
    have hl0_1 := (Kd.V_reads' HO_0.out).1
    rw [hl0_1] at HO_0
    (try simp only [hl0_1])
    (try simp only [hl0_1] at HO_3)
    cases gk with
    | zero => exact absurd HA.out (by simp [impl_leastNumbers.l0])
    | succ k1 =>
      have H := HA.out
      clear HA
      simp only [impl_leastNumbers.l0] at H
      by_cases c2 : x15_1 < (l0.length : Int)
      · rw [if_pos c2] at H
        have c2b0 : decide (x15_1 < (l0.length : Int)) = true := decide_eq_true c2
        (try simp only [hl0_1] at c2b0)
        clear c2
        obtain ⟨y188, hy188⟩ : ∃ y_ : List Int, y_ = (([1, (-1)] : List Int)) := ⟨_, rfl⟩
        replace H : (impl_leastNumbers.l1 k1 x0_1 x3_1 (l0.length : Int) x15_1 (l0.length : Int) x15_1 y188 (y188.length : Int) 0) = some r := by first | (rw [hy188]; with_reducible exact H) | (have H2_ := (Option.bind_some _ _).symm.trans H; rw [hy188]; with_reducible exact H2_) | (have H2_ := (Option.bind_some _ _).symm.trans H; with_reducible exact H2_) | with_reducible exact H | (rw [hy188]; exact H) | exact H
        have Ny188 := Aside0.mk hy188
        clear hy188
        have H' := Aside0.mk H
        clear H
        go_wp2_with (first | ((with_reducible refine gate_dst (N := 18) rfl ?_); refine Kd.R_lit (Kd.int .i64) _ 3 ?hg (N := 18) ?hd (xs := ([1, (-1)] : List Int)) (inner := [.int .i64 1, .int .i64 (-1)]) (ok := fun _ => True) (okp := fun _ => True) ?hr ?hp (fun _ hk => hk) trivial (Below.refl _ _) (Nat.le_refl _) (by simp) ?_; (case hd => rfl); (case hg => rfl); (case hr => first | (go_simp; done) | (go_simp; rfl)); (case hp => exact (Reps.one (show Kd.M (Kd.int .i64) _ _ _ 1 [.int .i64 1] from rfl) (Reps.one (show Kd.M (Kd.int .i64) _ _ _ (-1) [.int .i64 (-1)] from rfl) (Reps.none _ _)))); intro v189 w3 ho4 hb hg_ hnew_; clear hg_ hnew_; (first | rw [← Ny188.out] at ho4 | (simp only [Int.reduceToNat] at ho4; rw [← Ny188.out] at ho4)); have n0_ := Aside0.mk (Kd.V_elder' (by (with_reducible repeat (first | apply Kd.V_alloc | apply Kd.V_drewN | apply Kd.V_drew)); exact HO_0.out) (Kd.R_base ho4) hb); have n1_ := Aside0.mk (Kd.V_elder' (by (with_reducible repeat (first | apply Kd.V_alloc | apply Kd.V_drewN | apply Kd.V_drew)); exact HO_3.out) (Kd.R_base ho4) hb); have n2_ := Aside0.mk (Kd.R_lower (Kd.R_newM (M := fun k_ => (w.heap.size ≤ k_)) ho4 (below_size (hb_)) (fun k_ h_ => h_)) (below_size (hb_))); have n3_ := Aside0.mk (below_step (hb_) hb); clear HO_0; clear HO_3; clear HB; have HO_0 := n0_; have HO_3 := n1_; have HO190 := n2_; have HB := n3_; clear n0_ n1_ n2_ n3_; clear hb ho4; obtain ⟨Ao5, co5, eo5⟩ := Kd.R_slice HO190.out; subst eo5))
        go_loopg [3, 20] k1 (fun kq v3 v20 w' => ∃ (x0_2 : List Int) (x3_2 : List Int) (x18_2 : List Int) (x20_2 : Int), v20 = .int .i64 x20_2 ∧ Aside0 (impl_leastNumbers.l1 kq x0_2 x3_2 (l0.length : Int) x15_1 (l0.length : Int) x15_1 x18_2 (y188.length : Int) x20_2 = some r) ∧ Aside0 (kq ≤ k1) ∧ Aside0 (Kd.V (Kd.int .i64) 3 w' w.heap.size (fun k_ => (P0_ k_ ∨ w.heap.size ≤ k_) ∧ some k_ ≠ ((.slice Ao5 y188.length co5) : Value).ownBlock) (.slice A0 x0_1.length c0) x0_2) ∧ Aside0 (Kd.V (Kd.int .i64) 3 w' w.heap.size (fun k_ => (P0_ k_ ∨ w.heap.size ≤ k_) ∧ some k_ ≠ ((.slice Ao5 y188.length co5) : Value).ownBlock) v3 x3_2) ∧ Aside0 (Kd.R (Kd.int .i64) 3 w' w.heap.size (fun k_ => (w.heap.size ≤ k_)) (.slice Ao5 y188.length co5) x18_2) ∧ Aside0 (Below w.heap.size w w'))
        case atStart => exact ⟨(x0_1), (x3_1), (y188), (0), (by first | rfl | (simp; done) | (simp [*]; done)), H', ⟨Nat.le_refl _⟩, ⟨by (try simp only [hl0_1]); (with_reducible repeat (first | apply Kd.V_alloc | apply Kd.V_drewN | apply Kd.V_drew)); exact HO_0.out⟩, ⟨by (try simp only [hl0_1]); (with_reducible repeat (first | apply Kd.V_alloc | apply Kd.V_drewN | apply Kd.V_drew)); exact HO_3.out⟩, ⟨by (try simp only [hl0_1]); (with_reducible repeat (first | apply Kd.R_alloc | apply Kd.R_drewN | apply Kd.R_drew)); exact Kd.R_mono HO190.out (fun _ hk => hk.1)⟩, ⟨hb_⟩⟩
        case round =>
          clear H'
          try clear c2
          try clear c2b0
          try clear p2
          try clear c3
          obtain ⟨x0_2, x3_2, x18_2, x20_2, rfl, HA, HK2, HO_0, HO_3, HO_18, HB⟩ := hrel
          have hl0_2 := (Kd.V_reads' HO_0.out).1
          rw [hl0_2] at HO_0
          (try simp only [hl0_2])
          (try simp only [hl0_2] at HO_3)
          (try simp only [hl0_2] at HO_18)
          have hl18_2 := (Kd.R_reads' HO_18.out).1
          rw [hl18_2] at HO_18
          (try simp only [hl18_2])
          (try simp only [hl18_2] at HO_0)
          (try simp only [hl18_2] at HO_3)
          cases gk with
          | zero => exact absurd HA.out (by simp [impl_leastNumbers.l1])
          | succ k2 =>
            have H := HA.out
            clear HA
            simp only [impl_leastNumbers.l1] at H
            by_cases c6 : x20_2 < (y188.length : Int)
            · rw [if_pos c6] at H
              have c6b0 : decide (x20_2 < (y188.length : Int)) = true := decide_eq_true c6
              (try simp only [hl0_1, hl0_2, hl18_2] at c6b0)
              clear c6
              by_cases c7 : 0 ≤ x20_2
              · rw [if_pos c7] at H
                have c7b0 : decide (0 ≤ x20_2) = true := decide_eq_true c7
                clear c7
                by_cases c8 : x20_2 < (x18_2.length : Int)
                · rw [if_pos c8] at H
                  have c8b0 : decide (x20_2 < (x18_2.length : Int)) = true := decide_eq_true c8
                  (try simp only [hl0_1, hl0_2, hl18_2] at c8b0)
                  clear c8
                  by_cases c9 : 0 ≤ (l0.length : Int)
                  · rw [if_pos c9] at H
                    have c9b0 := eq_true c9
                    have c9b1 : decide (0 ≤ (l0.length : Int)) = true := decide_eq_true c9
                    (try simp only [hl0_1, hl0_2, hl18_2] at c9b1)
                    clear c9
                    by_cases c10 : ((l0.length : Int) : Int).toNat ≤ 35184372088832
                    · rw [if_pos c10] at H
                      have c10b0 := eq_true c10
                      have c10b1 : decide (((l0.length : Int) : Int).toNat ≤ 35184372088832) = true := decide_eq_true c10
                      (try simp only [hl0_1, hl0_2, hl18_2] at c10b1)
                      clear c10
                      obtain ⟨y192, hy192⟩ : ∃ y_ : List Int, y_ = (List.replicate ((l0.length : Int) : Int).toNat 0) := ⟨_, rfl⟩
                      replace H : (impl_leastNumbers.l2 k2 x0_2 x3_2 (l0.length : Int) x15_1 (rd x18_2 x20_2) y192 (l0.length : Int) x15_1 x18_2 (y188.length : Int) x20_2 (y192.length : Int) 0) = some r := by first | (rw [hy192]; with_reducible exact H) | (have H2_ := (Option.bind_some _ _).symm.trans H; rw [hy192]; with_reducible exact H2_) | (have H2_ := (Option.bind_some _ _).symm.trans H; with_reducible exact H2_) | with_reducible exact H | (rw [hy192]; exact H) | exact H
                      have Ny192 := Aside0.mk hy192
                      clear hy192
                      have H' := Aside0.mk H
                      clear H
                      have p191 : 0 ≤ (x20_2 : Int) := odt_
                      have q191 : x20_2 < (x18_2.length : Int) := odt_
                      obtain ⟨ad191, e191, hx191_0⟩ := Kd.at_int (Kd.R_reads' HO_18.out).2.2 x20_2 p191 q191
                      cases e191
                      replace p191 := eq_true p191
                      replace q191 := eq_true q191
                      go_wp2_with (first | ((with_reducible refine gate_dst (N := 25) rfl ?_); refine Kd.R_make (Kd.int .i64) _ 3 rfl (N := 25) rfl 33 _ _ rfl _ rfl rfl Try.underlying33 (.int .i64 0) 8 info3 rfl (by decide) (by omega) 0 (ok := fun _ => True) (okp := fun _ => True) rfl (fun _ hk => hk) trivial (odt_) (Nat.le_trans (Nat.mul_le_mul_right _ (odt_ : (_ : Int).toNat ≤ 35184372088832)) (by omega)) (Below.refl _ _) (Nat.le_refl _) ?_; intro v193 w11 ho12 hb hg_ hnew_; clear hg_ hnew_; (simp only [hl0_1, hl0_2, hl18_2] at Ny192; rw [← Ny192.out] at ho12); have n0_ := Aside0.mk (Kd.V_elder' (by (with_reducible repeat (first | apply Kd.V_alloc | apply Kd.V_drewN | apply Kd.V_drew)); exact HO_0.out) (Kd.R_base ho12) hb); have n1_ := Aside0.mk (Kd.V_elder' (by (with_reducible repeat (first | apply Kd.V_alloc | apply Kd.V_drewN | apply Kd.V_drew)); exact HO_3.out) (Kd.R_base ho12) hb); have n2_ := Aside0.mk (Kd.R_elder' (rk_ HO_18.out) (Kd.R_base ho12) hb); have n3_ := Aside0.mk (Kd.R_lower (Kd.R_new' (Kd.R_newM (M := fun k_ => (w.heap.size ≤ k_)) ho12 (below_size (hb_)) (fun k_ h_ => h_)) (Kd.R_lt (rk_ HO_18.out))) (below_size (hb_))); have n4_ := Aside0.mk (below_step (hb_) hb); clear HO_0; clear HO_3; clear HO_18; clear HB; have HO_0 := n0_; have HO_3 := n1_; have HO_18 := n2_; have HO194 := n3_; have HB := n4_; clear n0_ n1_ n2_ n3_ n4_; clear hb ho12; obtain ⟨Ao13, co13, eo13⟩ := Kd.R_slice HO194.out; subst eo13))
                      go_loopg [28] k2 (fun kq v28 w' => ∃ (x8_3 : List Int) (x28_3 : Int), v28 = .int .i64 x28_3 ∧ Aside0 (impl_leastNumbers.l2 kq x0_2 x3_2 (l0.length : Int) x15_1 (rd x18_2 x20_2) x8_3 (l0.length : Int) x15_1 x18_2 (y188.length : Int) x20_2 (y192.length : Int) x28_3 = some r) ∧ Aside0 (kq ≤ k2) ∧ Aside0 (Kd.V (Kd.int .i64) 3 w' w.heap.size (fun k_ => (P0_ k_ ∨ w.heap.size ≤ k_) ∧ some k_ ≠ ((.slice Ao13 y192.length co13) : Value).ownBlock ∧ some k_ ≠ ((.slice (some ad191) x18_2.length co5) : Value).ownBlock) (.slice A0 x0_2.length c0) x0_2) ∧ Aside0 (Kd.V (Kd.int .i64) 3 w' w.heap.size (fun k_ => (P0_ k_ ∨ w.heap.size ≤ k_) ∧ some k_ ≠ ((.slice Ao13 y192.length co13) : Value).ownBlock ∧ some k_ ≠ ((.slice (some ad191) x18_2.length co5) : Value).ownBlock) u3 x3_2) ∧ Aside0 (Kd.R (Kd.int .i64) 3 w' w.heap.size (fun k_ => (w.heap.size ≤ k_) ∧ some k_ ≠ ((.slice (some ad191) x18_2.length co5) : Value).ownBlock) (.slice Ao13 y192.length co13) x8_3) ∧ Aside0 (Kd.R (Kd.int .i64) 3 w' w.heap.size (fun k_ => (w.heap.size ≤ k_) ∧ some k_ ≠ ((.slice Ao13 y192.length co13) : Value).ownBlock) (.slice (some ad191) x18_2.length co5) x18_2) ∧ Aside0 (Below w.heap.size w w'))
                      case atStart => exact ⟨(y192), (0), (by first | rfl | (simp; done) | (simp [*]; done)), H', ⟨Nat.le_refl _⟩, ⟨by (try simp only [hl0_1]); (try simp only [hl0_2]); (try simp only [hl18_2]); (with_reducible repeat (first | apply Kd.V_alloc | apply Kd.V_drewN | apply Kd.V_drew)); exact Kd.V_mono HO_0.out (fun _ hk => ⟨hk.1.1, ⟨hk.2, hk.1.2⟩⟩)⟩, ⟨by (try simp only [hl0_1]); (try simp only [hl0_2]); (try simp only [hl18_2]); (with_reducible repeat (first | apply Kd.V_alloc | apply Kd.V_drewN | apply Kd.V_drew)); exact Kd.V_mono HO_3.out (fun _ hk => ⟨hk.1.1, ⟨hk.2, hk.1.2⟩⟩)⟩, ⟨by (try simp only [hl0_1]); (try simp only [hl0_2]); (try simp only [hl18_2]); (with_reducible repeat (first | apply Kd.R_alloc | apply Kd.R_drewN | apply Kd.R_drew)); exact Kd.R_mono HO194.out (fun _ hk => ⟨hk.1.1, hk.2⟩)⟩, ⟨by (try simp only [hl0_1]); (try simp only [hl0_2]); (try simp only [hl18_2]); (with_reducible repeat (first | apply Kd.R_alloc | apply Kd.R_drewN | apply Kd.R_drew)); exact HO_18.out⟩, ⟨hb_⟩⟩
                      case round =>
                        clear H'
                        try clear c1
                        try clear p1
                        try clear q1
                        try clear hx1
                        try clear c2
                        try clear c2b0
                        try clear p2
                        try clear c3
                        try clear c6
                        try clear c6b0
                        try clear c7
                        try clear c7b0
                        try clear c8
                        try clear c8b0
                        try clear c9
                        try clear c9b0
                        try clear c9b1
                        try clear c10
                        try clear c10b0
                        try clear c10b1
                        try clear hx191_0
                        try clear p191
                        try clear p2
                        try clear q191
                        obtain ⟨x8_3, x28_3, rfl, HA, HK3, HO_0, HO_3, HO_8, HO_18, HB⟩ := hrel
                        have hl8_3 := (Kd.R_reads' HO_8.out).1
                        rw [hl8_3] at HO_8
                        (try simp only [hl8_3])
                        (try simp only [hl8_3] at HO_0)
                        (try simp only [hl8_3] at HO_3)
                        (try simp only [hl8_3] at HO_18)
                        cases gk with
                        | zero => exact absurd HA.out (by simp [impl_leastNumbers.l2])
                        | succ k3 =>
                          have H := HA.out
                          clear HA
                          simp only [impl_leastNumbers.l2] at H
                          by_cases c14 : x28_3 < (y192.length : Int)
                          · rw [if_pos c14] at H
                            have c14b0 : decide (x28_3 < (y192.length : Int)) = true := decide_eq_true c14
                            (try simp only [hl0_1, hl0_2, hl18_2, hl8_3] at c14b0)
                            clear c14
                            by_cases c15 : (l0.length : Int) = 0
                            · rw [if_pos c15] at H
                              exact absurd H (by simp)
                            · rw [if_neg c15] at H
                              have c15b0 : ((l0.length : Int) == 0) = false := beq_eq_false_iff_ne.mpr c15
                              (try simp only [hl0_1, hl0_2, hl18_2, hl8_3] at c15b0)
                              have c15b1 : ((l0.length : Int) != 0) = true := bne_iff_ne.mpr c15
                              (try simp only [hl0_1, hl0_2, hl18_2, hl8_3] at c15b1)
                              have c15b2 : ¬ (l0 = []) := fun h_ => c15 (by rw [h_]; rfl)
                              obtain ⟨ji16, hji16⟩ : ∃ j_ : Int, (Int.tmod (wrap64 ((Int.tmod (wrap64 (x15_1 + (wrap64 (x28_3 * (rd x18_2 x20_2))))) (l0.length : Int)) + (l0.length : Int))) (l0.length : Int)) = j_ := ⟨_, rfl⟩
                              replace H : (if 0 ≤ (ji16) then (if (ji16) < (x0_2.length : Int) then (if 0 ≤ x28_3 then (if x28_3 < (x8_3.length : Int) then (impl_leastNumbers.l2 k3 x0_2 x3_2 (l0.length : Int) x15_1 (rd x18_2 x20_2) (x8_3.set (x28_3 : Int).toNat (rd x0_2 (ji16))) (l0.length : Int) x15_1 x18_2 (y188.length : Int) x20_2 (y192.length : Int) (wrap64 (x28_3 + 1))) else (none)) else (none)) else (none)) else (none)) = some r := by first | (rw [hji16] at H; exact H) | (simp only [hji16] at H ⊢; exact H)
                              (try simp only [hl0_1, hl0_2, hl18_2, hl8_3] at hji16)
                              (try simp only [hl0_1, hl0_2, hl18_2, hl8_3] at hji16w)
                              by_cases c17 : 0 ≤ (ji16)
                              · rw [if_pos c17] at H
                                have c17b0 : decide (0 ≤ (ji16)) = true := decide_eq_true c17
                                clear c17
                                by_cases c18 : (ji16) < (x0_2.length : Int)
                                · rw [if_pos c18] at H
                                  have c18b0 : decide ((ji16) < (x0_2.length : Int)) = true := decide_eq_true c18
                                  (try simp only [hl0_1, hl0_2, hl18_2, hl8_3] at c18b0)
                                  clear c18
                                  by_cases c19 : 0 ≤ x28_3
                                  · rw [if_pos c19] at H
                                    have c19b0 : decide (0 ≤ x28_3) = true := decide_eq_true c19
                                    clear c19
                                    by_cases c20 : x28_3 < (x8_3.length : Int)
                                    · rw [if_pos c20] at H
                                      have c20b0 : decide (x28_3 < (x8_3.length : Int)) = true := decide_eq_true c20
                                      (try simp only [hl0_1, hl0_2, hl18_2, hl8_3] at c20b0)
                                      clear c20
                                      obtain ⟨y196, hy196⟩ : ∃ y_ : List Int, y_ = (x8_3.set (x28_3 : Int).toNat (rd x0_2 (ji16))) := ⟨_, rfl⟩
                                      replace H : (impl_leastNumbers.l2 k3 x0_2 x3_2 (l0.length : Int) x15_1 (rd x18_2 x20_2) y196 (l0.length : Int) x15_1 x18_2 (y188.length : Int) x20_2 (y192.length : Int) (wrap64 (x28_3 + 1))) = some r := by first | (rw [hy196]; with_reducible exact H) | (have H2_ := (Option.bind_some _ _).symm.trans H; rw [hy196]; with_reducible exact H2_) | (have H2_ := (Option.bind_some _ _).symm.trans H; with_reducible exact H2_) | with_reducible exact H | (rw [hy196]; exact H) | exact H
                                      have Ny196 := Aside0.mk hy196
                                      clear hy196
                                      have H' := Aside0.mk H
                                      clear H
                                      have p195 : 0 ≤ ((ji16) : Int) := odt_
                                      have q195 : (ji16) < (x0_2.length : Int) := odt_
                                      obtain ⟨ad195, e195, hx195_0⟩ := Kd.at_int (Kd.V_reads' HO_0.out).2.2 (ji16) p195 q195
                                      cases e195
                                      replace p195 := eq_true p195
                                      replace q195 := eq_true q195
                                      have p21 : 0 ≤ (x28_3 : Int) := odt_
                                      have q21 : (x28_3 : Int) < ((x8_3.length : Int) : Int) := odt_
                                      obtain ⟨go21, co21, eo21, gb21, gl21, cl21, HG21⟩ := Kd.R_form HO_8.out (by omega)
                                      (first | cases eo21 | (injection eo21 with ea_ en_ ec_; (first | subst ea_ | (injection ea_ with ea_; subst ea_)); subst ec_; clear en_))
                                      have GB21 := Aside0.mk gb21
                                      have GG21 := Aside0.mk HG21
                                      clear gb21 gl21 HG21
                                      obtain ⟨hx21_0, hf21_0⟩ := Kd.R_celln 0 HO_8.out (x28_3 : Int) p21 q21
                                      replace p21 := eq_true p21
                                      replace q21 := eq_true q21
                                      have HP22 := Kd.R_putg HO_8.out (x28_3 : Int) (rd x0_2 (ji16))
                                      go_wp2_with (first | ((with_reducible refine gate_store (t := 3) (p := 47) rfl ?_); refine store_event (t := 3) (p := 47) (v := ?vo_w23) (w1 := (wr.setCell ⟨go21, (x28_3 : Int).toNat, none⟩ (.int .i64 (rd x0_2 (ji16))))) ?hg ?ho ?hn ?hr ?_; (case ho => rfl); (case hg => rfl); (case hn => rfl); (case hr => first | (go_simp; done) | (go_simp; rfl)); intro w23 hw; have hg : wr.grownBy w23 (some go21) := (by rw [hw]; exact HP22.2); have hp_ : Kd.R (Kd.int .i64) 3 w23 w.heap.size (fun k_ => (w.heap.size ≤ k_) ∧ some k_ ≠ (.slice (some ad191) x18_2.length co5 : Value).ownBlock) (.slice (some ⟨go21, 0, none⟩) x8_3.length co13) y196 := (by rw [hw, Ny196.out]; exact HP22.1); clear HP22; have n0_ := Aside0.mk (Kd.V_afterv (v := (.slice (some ⟨go21, 0, none⟩) x8_3.length co13)) (v1 := (.slice (some ⟨go21, 0, none⟩) x8_3.length co13)) (ok := (fun k_ => (P0_ k_ ∨ w.heap.size ≤ k_) ∧ some k_ ≠ (.slice (some ad191) x18_2.length co5 : Value).ownBlock)) (by (with_reducible repeat (first | apply Kd.V_alloc | apply Kd.V_drewN | apply Kd.V_drew)); exact Kd.V_mono HO_0.out (fun _ hk => ⟨⟨hk.1, hk.2.2⟩, hk.2.1⟩)) hg (.inl rfl)); have n1_ := Aside0.mk (Kd.V_afterv (v := (.slice (some ⟨go21, 0, none⟩) x8_3.length co13)) (v1 := (.slice (some ⟨go21, 0, none⟩) x8_3.length co13)) (ok := (fun k_ => (P0_ k_ ∨ w.heap.size ≤ k_) ∧ some k_ ≠ (.slice (some ad191) x18_2.length co5 : Value).ownBlock)) (by (with_reducible repeat (first | apply Kd.V_alloc | apply Kd.V_drewN | apply Kd.V_drew)); exact Kd.V_mono HO_3.out (fun _ hk => ⟨⟨hk.1, hk.2.2⟩, hk.2.1⟩)) hg (.inl rfl)); have n2_ := Aside0.mk (hp_); have n3_ := Aside0.mk (Kd.R_after (v := (.slice (some ⟨go21, 0, none⟩) x8_3.length co13)) (v1 := (.slice (some ⟨go21, 0, none⟩) x8_3.length co13)) (ok := (fun k_ => (w.heap.size ≤ k_))) (rk_ HO_18.out) hg (.inl rfl)); have n4_ := Aside0.mk ((by rw [hw]; exact below_set (HB.out) GB21.out : Below w.heap.size w w23)); clear HO_0; clear HO_3; clear HO_8; clear HO_18; clear HB; have HO_0 := n0_; have HO_3 := n1_; have HO_8 := n2_; have HO_18 := n3_; have HB := n4_; clear n0_ n1_ n2_ n3_ n4_; clear hg hw hp_))
                                      (try simp only [← hl8_3])
                                      go_roundg k3
                                      case measure => have := HK1.out; have := HK2.out; have := HK3.out; omega
                                      case rel => exact ⟨(y196), (wrap64 (x28_3 + 1)), (by first | rfl | (simp; done) | (simp [*]; done)), H', ⟨by have := HK1.out; have := HK2.out; have := HK3.out; omega⟩, ⟨by (try simp only [hl0_1]); (try simp only [hl0_2]); (try simp only [hl18_2]); (try simp only [hl8_3]); (with_reducible repeat (first | apply Kd.V_alloc | apply Kd.V_drewN | apply Kd.V_drew)); exact Kd.V_mono HO_0.out (fun _ hk => ⟨hk.1.1, ⟨hk.2, hk.1.2⟩⟩)⟩, ⟨by (try simp only [hl0_1]); (try simp only [hl0_2]); (try simp only [hl18_2]); (try simp only [hl8_3]); (with_reducible repeat (first | apply Kd.V_alloc | apply Kd.V_drewN | apply Kd.V_drew)); exact Kd.V_mono HO_3.out (fun _ hk => ⟨hk.1.1, ⟨hk.2, hk.1.2⟩⟩)⟩, ⟨by (try simp only [hl0_1]); (try simp only [hl0_2]); (try simp only [hl18_2]); (try simp only [hl8_3]); (with_reducible repeat (first | apply Kd.R_alloc | apply Kd.R_drewN | apply Kd.R_drew)); exact HO_8.out⟩, ⟨by (try simp only [hl0_1]); (try simp only [hl0_2]); (try simp only [hl18_2]); (try simp only [hl8_3]); (with_reducible repeat (first | apply Kd.R_alloc | apply Kd.R_drewN | apply Kd.R_drew)); exact HO_18.out⟩, ⟨hb_⟩⟩
                                    · rw [if_neg c20] at H
                                      exact absurd H (by simp)
                                  · rw [if_neg c19] at H
                                    exact absurd H (by simp)
                                · rw [if_neg c18] at H
                                  exact absurd H (by simp)
                              · rw [if_neg c17] at H
                                exact absurd H (by simp)
                          · rw [if_neg c14] at H
                            have c14b0 : decide (x28_3 < (y192.length : Int)) = false := decide_eq_false c14
                            (try simp only [hl0_1, hl0_2, hl18_2, hl8_3] at c14b0)
                            clear c14
                            replace H := Option.bind_eq_some_iff.mp H
                            obtain ⟨t197, A240, H⟩ := H
                            replace H : (if t197 < 0 then (impl_leastNumbers.l1 k3 x0_2 x8_3 (l0.length : Int) x15_1 (l0.length : Int) x15_1 x18_2 (y188.length : Int) (wrap64 (x20_2 + 1))) else (impl_leastNumbers.l1 k3 x0_2 x3_2 (l0.length : Int) x15_1 (l0.length : Int) x15_1 x18_2 (y188.length : Int) (wrap64 (x20_2 + 1)))) = some r := H
                            have A24 := Aside0.mk A240
                            clear A240
                            by_cases c25 : t197 < 0
                            · rw [if_pos c25] at H
                              have c25b0 : decide (t197 < 0) = true := decide_eq_true c25
                              clear c25
                              have H' := Aside0.mk H
                              clear H
                              obtain ⟨Ao26, co26, eo26⟩ := Kd.V_slice HO_3.out
                              subst eo26
                              go_wp2_with (first | ((with_reducible refine gate_callee (f := 47) rfl ?_); refine goesL_ (some 51) rfl rfl Try.func47 (by kernel_rfl) rfl #[.slice Ao13 x8_3.length co13, .slice Ao26 x3_2.length co26] rfl ga_ ?_; (with_reducible refine (slices_Compare_int_int.calls k3 _ _ x8_3 _ _ x3_2 t197 _ ?side1 ?side2 ?side3 ?side4 A24.out).mono ?_); (case side1 => repeat (first | exact (Kd.R_reads' HO_8.out).2.2 | (with_reducible refine Kd.C_alloc ?_ _) | (with_reducible refine Kd.C_drewN ?_ _) | (with_reducible refine Kd.C_drew ?_))); (case side2 => exact (Kd.R_reads' HO_8.out).2.1); (case side3 => repeat (first | exact (Kd.V_reads' HO_3.out).2.2 | (with_reducible refine Kd.C_alloc ?_ _) | (with_reducible refine Kd.C_drewN ?_ _) | (with_reducible refine Kd.C_drew ?_))); (case side4 => exact (Kd.V_reads' HO_3.out).2.1); rintro e w' ⟨rfl, ⟨nd, rfl⟩⟩; refine ⟨_, rfl, ?_⟩))
                              (try simp only [← hl0_2, ← hl18_2, ← hl8_3])
                              go_roundg k3
                              case measure => have := HK1.out; have := HK2.out; have := HK3.out; omega
                              case rel => exact ⟨(x0_2), (x8_3), (x18_2), (wrap64 (x20_2 + 1)), (by first | rfl | (simp; done) | (simp [*]; done)), H', ⟨by have := HK1.out; have := HK2.out; have := HK3.out; omega⟩, ⟨by (try simp only [hl0_1]); (try simp only [hl0_2]); (try simp only [hl18_2]); (try simp only [hl8_3]); (with_reducible repeat (first | apply Kd.V_alloc | apply Kd.V_drewN | apply Kd.V_drew)); exact Kd.V_mono HO_0.out (fun _ hk => ⟨hk.1, hk.2.2⟩)⟩, ⟨Kd.V_mono (Kd.R_V (by (try simp only [hl0_1]); (try simp only [hl0_2]); (try simp only [hl18_2]); (try simp only [hl8_3]); (with_reducible repeat (first | apply Kd.R_alloc | apply Kd.R_drewN | apply Kd.R_drew)); exact HO_8.out)) (fun k_ hk => by first | exact ⟨(.inr (hk.1)), hk.2⟩ | exact (.inr (hk)))⟩, ⟨by (try simp only [hl0_1]); (try simp only [hl0_2]); (try simp only [hl18_2]); (try simp only [hl8_3]); (with_reducible repeat (first | apply Kd.R_alloc | apply Kd.R_drewN | apply Kd.R_drew)); exact Kd.R_mono HO_18.out (fun _ hk => hk.1)⟩, ⟨hb_⟩⟩
                            · rw [if_neg c25] at H
                              have c25b0 : decide (t197 < 0) = false := decide_eq_false c25
                              clear c25
                              have H' := Aside0.mk H
                              clear H
                              obtain ⟨Ao27, co27, eo27⟩ := Kd.V_slice HO_3.out
                              subst eo27
                              go_wp2_with (first | ((with_reducible refine gate_callee (f := 47) rfl ?_); refine goesL_ (some 51) rfl rfl Try.func47 (by kernel_rfl) rfl #[.slice Ao13 x8_3.length co13, .slice Ao27 x3_2.length co27] rfl ga_ ?_; (with_reducible refine (slices_Compare_int_int.calls k3 _ _ x8_3 _ _ x3_2 t197 _ ?side1 ?side2 ?side3 ?side4 A24.out).mono ?_); (case side1 => repeat (first | exact (Kd.R_reads' HO_8.out).2.2 | (with_reducible refine Kd.C_alloc ?_ _) | (with_reducible refine Kd.C_drewN ?_ _) | (with_reducible refine Kd.C_drew ?_))); (case side2 => exact (Kd.R_reads' HO_8.out).2.1); (case side3 => repeat (first | exact (Kd.V_reads' HO_3.out).2.2 | (with_reducible refine Kd.C_alloc ?_ _) | (with_reducible refine Kd.C_drewN ?_ _) | (with_reducible refine Kd.C_drew ?_))); (case side4 => exact (Kd.V_reads' HO_3.out).2.1); rintro e w' ⟨rfl, ⟨nd, rfl⟩⟩; refine ⟨_, rfl, ?_⟩))
                              (try simp only [← hl0_2, ← hl18_2, ← hl8_3])
                              go_roundg k3
                              case measure => have := HK1.out; have := HK2.out; have := HK3.out; omega
                              case rel => exact ⟨(x0_2), (x3_2), (x18_2), (wrap64 (x20_2 + 1)), (by first | rfl | (simp; done) | (simp [*]; done)), H', ⟨by have := HK1.out; have := HK2.out; have := HK3.out; omega⟩, ⟨by (try simp only [hl0_1]); (try simp only [hl0_2]); (try simp only [hl18_2]); (try simp only [hl8_3]); (with_reducible repeat (first | apply Kd.V_alloc | apply Kd.V_drewN | apply Kd.V_drew)); exact Kd.V_mono HO_0.out (fun _ hk => ⟨hk.1, hk.2.2⟩)⟩, ⟨by (try simp only [hl0_1]); (try simp only [hl0_2]); (try simp only [hl18_2]); (try simp only [hl8_3]); (with_reducible repeat (first | apply Kd.V_alloc | apply Kd.V_drewN | apply Kd.V_drew)); exact Kd.V_mono HO_3.out (fun _ hk => ⟨hk.1, hk.2.2⟩)⟩, ⟨by (try simp only [hl0_1]); (try simp only [hl0_2]); (try simp only [hl18_2]); (try simp only [hl8_3]); (with_reducible repeat (first | apply Kd.R_alloc | apply Kd.R_drewN | apply Kd.R_drew)); exact Kd.R_mono HO_18.out (fun _ hk => hk.1)⟩, ⟨hb_⟩⟩
                    · rw [if_neg c10] at H
                      exact absurd H (by simp)
                  · rw [if_neg c9] at H
                    exact absurd H (by simp)
                · rw [if_neg c8] at H
                  exact absurd H (by simp)
              · rw [if_neg c7] at H
                exact absurd H (by simp)
            · rw [if_neg c6] at H
              have c6b0 : decide (x20_2 < (y188.length : Int)) = false := decide_eq_false c6
              (try simp only [hl0_1, hl0_2, hl18_2] at c6b0)
              clear c6
              have H' := Aside0.mk H
              clear H
              go_wp2
              (try simp only [← hl0_1, ← hl0_2, ← hl18_2])
              go_roundg k2
              case measure => have := HK1.out; have := HK2.out; omega
              case rel => exact ⟨(x0_2), (x3_2), (wrap64 (x15_1 + 1)), (by first | rfl | (simp; done) | (simp [*]; done)), H', ⟨by have := HK1.out; have := HK2.out; omega⟩, ⟨by (try simp only [hl0_1]); (try simp only [hl0_2]); (try simp only [hl18_2]); (with_reducible repeat (first | apply Kd.V_alloc | apply Kd.V_drewN | apply Kd.V_drew)); exact Kd.V_mono HO_0.out (fun _ hk => hk.1)⟩, ⟨by (try simp only [hl0_1]); (try simp only [hl0_2]); (try simp only [hl18_2]); (with_reducible repeat (first | apply Kd.V_alloc | apply Kd.V_drewN | apply Kd.V_drew)); exact Kd.V_mono HO_3.out (fun _ hk => hk.1)⟩, ⟨hb_⟩⟩
      · rw [if_neg c2] at H
        have c2b0 : decide (x15_1 < (l0.length : Int)) = false := decide_eq_false c2
        (try simp only [hl0_1] at c2b0)
        clear c2
        replace H := Option.bind_eq_some_iff.mp H
        obtain ⟨t185, A280, H⟩ := H
        replace H : (some t185) = some r := H
        have A28 := Aside0.mk A280
        clear A280
        obtain rfl := Option.some.inj H
        obtain ⟨Ao29, co29, eo29⟩ := Kd.V_slice HO_3.out
        subst eo29
        go_wp2_with (first | ((with_reducible refine gate_callee (f := 52) rfl ?_); refine goesL_ (some 57) rfl rfl Try.func52 (by kernel_rfl) rfl #[.slice Ao29 x3_1.length co29] rfl ga_ ?_; (with_reducible refine (slices_Clone_int_int.calls _ _ x3_1 t185 _ ?side1 ?side2 A28.out).mono ?_); (case side1 => repeat (first | exact (Kd.V_reads' HO_3.out).2.2 | (with_reducible refine Kd.C_alloc ?_ _) | (with_reducible refine Kd.C_drewN ?_ _) | (with_reducible refine Kd.C_drew ?_))); (case side2 => exact (Kd.V_reads' HO_3.out).2.1); rintro e w30 ⟨v186, rfl, ho0, hb⟩; refine ⟨_, rfl, ?_⟩; have n0_ := Aside0.mk (Kd.V_elder' (by (with_reducible repeat (first | apply Kd.V_alloc | apply Kd.V_drewN | apply Kd.V_drew)); exact HO_0.out) (Kd.R_base ho0) hb); have n1_ := Aside0.mk (Kd.V_elder' (by (with_reducible repeat (first | apply Kd.V_alloc | apply Kd.V_drewN | apply Kd.V_drew)); exact HO_3.out) (Kd.R_base ho0) hb); have n2_ := Aside0.mk (Kd.R_lower (Kd.R_newM (M := fun k_ => (w.heap.size ≤ k_)) ho0 (below_size (hb_)) (fun k_ h_ => h_)) (below_size (hb_))); have n3_ := Aside0.mk (below_step (hb_) hb); clear HO_0; clear HO_3; clear HB; have HO_0 := n0_; have HO_3 := n1_; have HO187 := n2_; have HB := n3_; clear n0_ n1_ n2_ n3_; (try clear hb); (try clear hb2); (try clear hk); (try clear hi); (try clear ho0)))
        go_ret
        exact ⟨_, by first | rfl | (simp [errW_none, errW_some] <;> rfl) | (simp [*, errW_none, errW_some] <;> rfl), by (with_reducible repeat (first | apply Kd.R_alloc | apply Kd.R_drewN | apply Kd.R_drew)); exact Kd.R_mono HO187.out (fun _ hk => hk.1), hb_⟩

end Go.Proofs.Ytogafcjfaicpgaa.MC
