-- Written by a program of this session (wip/print/myprint.py) over the kit's printer; Lean checks it.
import Derived.Test.YtookmifpgclhlaaMRx0
import Derived.Test.YtookmifpgclhlaaMRx1
import Derived.Test.YtookmifpgclhlaaMRx2
namespace Go.Proofs.Ytookmifpgclhlaa.MR
open Go.RowKit Go.Proofs.YtookmifpgclhlaaW.PrintWords Go.Proofs.YtookmifpgclhlaaW.PrintLast Go.Proofs.YtookmifpgclhlaaW.PrintMore Go.Proofs.YtookmifpgclhlaaV
attribute [local go_sem] max2_int min2_int max_two min_two max_three min_three max_four min_four   -- for this text's walks alone
set_option linter.unusedVariables false
set_option linter.unusedSimpArgs false

attribute [local go_sem high] eqA30
/-! ### spec_CountRectangles: function 26 -/
mutual
def spec_CountRectangles.l0 : Nat → List (S30) → List (S30) → List Int → Int → List (S30) → Int → Int → Option (Int × Bool)
  | 0, _, _, _, _, _, _, _ => none
  | k + 1, x6, x7, x8, x9, x25, x26, x27 => if x27 < x26 then (if 0 ≤ x27 then (if x27 < (x25.length : Int) then (if x27 ≤ (x6.length : Int) then ((some (x6.take (x27 : Int).toNat : List (S30))).bind fun y112 => (spec_CountRectangles.l1 k x6 x7 x8 x9 x25 x26 x27 y112 (y112.length : Int) 0 ((rd_T30 x25 x27).f0) ((rd_T30 x25 x27).f1))) else (none)) else (none)) else (none)) else (some (x9, true))
def spec_CountRectangles.l1 : Nat → List (S30) → List (S30) → List Int → Int → List (S30) → Int → Int → List (S30) → Int → Int → Int → Int → Option (Int × Bool)
  | 0, _, _, _, _, _, _, _, _, _, _, _, _ => none
  | k + 1, x6, x7, x8, x9, x25, x26, x27, x34, x35, x36, x112000, x112001 => if x36 < x35 then (if 0 ≤ x36 then (if x36 < (x34.length : Int) then (spec_CountRectangles.l2 k x6 x7 x8 x9 (wrap64 ((wrap64 ((wrap64 (x112000 - ((rd_T30 x34 x36).f0))) * (wrap64 (x112000 - ((rd_T30 x34 x36).f0))))) + (wrap64 ((wrap64 (x112001 - ((rd_T30 x34 x36).f1))) * (wrap64 (x112001 - ((rd_T30 x34 x36).f1))))))) x25 x26 x27 x34 x35 x36 x7 (x7.length : Int) 0 x112000 x112001 (wrap64 (x112000 + ((rd_T30 x34 x36).f0))) (wrap64 (x112001 + ((rd_T30 x34 x36).f1)))) else (none)) else (none)) else (spec_CountRectangles.l0 k x6 x7 x8 x9 x25 x26 (wrap64 (x27 + 1)))
def spec_CountRectangles.l2 : Nat → List (S30) → List (S30) → List Int → Int → Int → List (S30) → Int → Int → List (S30) → Int → Int → List (S30) → Int → Int → Int → Int → Int → Int → Option (Int × Bool)
  | 0, _, _, _, _, _, _, _, _, _, _, _, _, _, _, _, _, _, _ => none
  | k + 1, x6, x7, x8, x9, x15, x25, x26, x27, x34, x35, x36, x74, x75, x76, x112000, x112001, x119000, x119001 => if x76 < x75 then (if 0 ≤ x76 then (if x76 < (x74.length : Int) then (if (((rd_T30 x74 x76).f0) == x119000 && (((rd_T30 x74 x76).f1) == x119001)) = true then (if x76 < (x8.length : Int) then (if (rd x8 x76) = x15 then (spec_CountRectangles.l2 k x6 x7 x8 (wrap64 (x9 + 1)) x15 x25 x26 x27 x34 x35 x36 x74 x75 (wrap64 (x76 + 1)) x112000 x112001 x119000 x119001) else (spec_CountRectangles.l2 k x6 x7 x8 x9 x15 x25 x26 x27 x34 x35 x36 x74 x75 (wrap64 (x76 + 1)) x112000 x112001 x119000 x119001)) else (none)) else (spec_CountRectangles.l2 k x6 x7 x8 x9 x15 x25 x26 x27 x34 x35 x36 x74 x75 (wrap64 (x76 + 1)) x112000 x112001 x119000 x119001)) else (none)) else (none)) else (if x7.length < 8796093022208 then (if x8.length < 17592186044416 then (spec_CountRectangles.l1 k x6 (x7 ++ [(⟨x119000, x119001⟩ : S30)]) (x8 ++ [x15]) x9 x25 x26 x27 x34 x35 (wrap64 (x36 + 1)) x112000 x112001) else (none)) else (none))
end
def spec_CountRectangles.f (k : Nat) (a0 : Int) (a1 : Int) : Option (Int × Bool) := (spec_ctBoard.f a0 a1 6).bind fun t106 => (if t106 = true then ((spec_ctPegs.f k a0 a1).bind fun t107 => (spec_CountRectangles.l0 k t107 ([] : List (S30)) ([] : List Int) 0 t107 (t107.length : Int) 0)) else (some (0, false)))
theorem spec_CountRectangles.mono_l : ∀ k, (∀ y0 y1 y2 y3 y4 y5 y6, LeO (spec_CountRectangles.l0 k y0 y1 y2 y3 y4 y5 y6) (spec_CountRectangles.l0 (k + 1) y0 y1 y2 y3 y4 y5 y6)) ∧ (∀ y0 y1 y2 y3 y4 y5 y6 y7 y8 y9 y10 y11, LeO (spec_CountRectangles.l1 k y0 y1 y2 y3 y4 y5 y6 y7 y8 y9 y10 y11) (spec_CountRectangles.l1 (k + 1) y0 y1 y2 y3 y4 y5 y6 y7 y8 y9 y10 y11)) ∧ (∀ y0 y1 y2 y3 y4 y5 y6 y7 y8 y9 y10 y11 y12 y13 y14 y15 y16 y17, LeO (spec_CountRectangles.l2 k y0 y1 y2 y3 y4 y5 y6 y7 y8 y9 y10 y11 y12 y13 y14 y15 y16 y17) (spec_CountRectangles.l2 (k + 1) y0 y1 y2 y3 y4 y5 y6 y7 y8 y9 y10 y11 y12 y13 y14 y15 y16 y17))
  | 0 => ⟨fun _ _ _ _ _ _ _ r h => by simp [spec_CountRectangles.l0] at h, fun _ _ _ _ _ _ _ _ _ _ _ _ r h => by simp [spec_CountRectangles.l1] at h, fun _ _ _ _ _ _ _ _ _ _ _ _ _ _ _ _ _ _ r h => by simp [spec_CountRectangles.l2] at h⟩
  | k + 1 => by
    obtain ⟨ih0, ih1, ih2⟩ := spec_CountRectangles.mono_l k
    refine ⟨?_, ?_, ?_⟩
    · intro y0 y1 y2 y3 y4 y5 y6
      unfold spec_CountRectangles.l0
      repeat' first
      | (with_reducible exact ih0 _ _ _ _ _ _ _)
      | (with_reducible exact ih1 _ _ _ _ _ _ _ _ _ _ _ _)
      | (with_reducible exact ih2 _ _ _ _ _ _ _ _ _ _ _ _ _ _ _ _ _ _)
      | (with_reducible exact spec_ctPegs.mono _ _ _)
      | (with_reducible exact LeO.refl _)
      | (with_reducible exact LeO.none _)
      | (with_reducible refine LeO.ite ?_ ?_)
      | (with_reducible refine LeO.bind ?_ (fun _ => ?_))
      | exact ih0 _ _ _ _ _ _ _
      | exact ih1 _ _ _ _ _ _ _ _ _ _ _ _
      | exact ih2 _ _ _ _ _ _ _ _ _ _ _ _ _ _ _ _ _ _
      | exact spec_ctPegs.mono _ _ _
      | exact LeO.none _
      | refine LeO.ite ?_ ?_
      | refine LeO.bind ?_ (fun _ => ?_)
    · intro y0 y1 y2 y3 y4 y5 y6 y7 y8 y9 y10 y11
      unfold spec_CountRectangles.l1
      repeat' first
      | (with_reducible exact ih0 _ _ _ _ _ _ _)
      | (with_reducible exact ih1 _ _ _ _ _ _ _ _ _ _ _ _)
      | (with_reducible exact ih2 _ _ _ _ _ _ _ _ _ _ _ _ _ _ _ _ _ _)
      | (with_reducible exact spec_ctPegs.mono _ _ _)
      | (with_reducible exact LeO.refl _)
      | (with_reducible exact LeO.none _)
      | (with_reducible refine LeO.ite ?_ ?_)
      | (with_reducible refine LeO.bind ?_ (fun _ => ?_))
      | exact ih0 _ _ _ _ _ _ _
      | exact ih1 _ _ _ _ _ _ _ _ _ _ _ _
      | exact ih2 _ _ _ _ _ _ _ _ _ _ _ _ _ _ _ _ _ _
      | exact spec_ctPegs.mono _ _ _
      | exact LeO.none _
      | refine LeO.ite ?_ ?_
      | refine LeO.bind ?_ (fun _ => ?_)
    · intro y0 y1 y2 y3 y4 y5 y6 y7 y8 y9 y10 y11 y12 y13 y14 y15 y16 y17
      unfold spec_CountRectangles.l2
      repeat' first
      | (with_reducible exact ih0 _ _ _ _ _ _ _)
      | (with_reducible exact ih1 _ _ _ _ _ _ _ _ _ _ _ _)
      | (with_reducible exact ih2 _ _ _ _ _ _ _ _ _ _ _ _ _ _ _ _ _ _)
      | (with_reducible exact spec_ctPegs.mono _ _ _)
      | (with_reducible exact LeO.refl _)
      | (with_reducible exact LeO.none _)
      | (with_reducible refine LeO.ite ?_ ?_)
      | (with_reducible refine LeO.bind ?_ (fun _ => ?_))
      | exact ih0 _ _ _ _ _ _ _
      | exact ih1 _ _ _ _ _ _ _ _ _ _ _ _
      | exact ih2 _ _ _ _ _ _ _ _ _ _ _ _ _ _ _ _ _ _
      | exact spec_ctPegs.mono _ _ _
      | exact LeO.none _
      | refine LeO.ite ?_ ?_
      | refine LeO.bind ?_ (fun _ => ?_)
theorem spec_CountRectangles.mono : ∀ a0 a1 k, LeO (spec_CountRectangles.f k a0 a1) (spec_CountRectangles.f (k + 1) a0 a1) := by
  intro a0 a1 k
  obtain ⟨ih0, ih1, ih2⟩ := spec_CountRectangles.mono_l k
  unfold spec_CountRectangles.f
  repeat' first
      | (with_reducible exact ih0 _ _ _ _ _ _ _)
      | (with_reducible exact ih1 _ _ _ _ _ _ _ _ _ _ _ _)
      | (with_reducible exact ih2 _ _ _ _ _ _ _ _ _ _ _ _ _ _ _ _ _ _)
      | (with_reducible exact spec_ctPegs.mono _ _ _)
      | (with_reducible exact LeO.refl _)
      | (with_reducible exact LeO.none _)
      | (with_reducible refine LeO.ite ?_ ?_)
      | (with_reducible refine LeO.bind ?_ (fun _ => ?_))
      | exact ih0 _ _ _ _ _ _ _
      | exact ih1 _ _ _ _ _ _ _ _ _ _ _ _
      | exact ih2 _ _ _ _ _ _ _ _ _ _ _ _ _ _ _ _ _ _
      | exact spec_ctPegs.mono _ _ _
      | exact LeO.none _
      | refine LeO.ite ?_ ?_
      | refine LeO.bind ?_ (fun _ => ?_)
set_option maxHeartbeats 8000000 in
set_option maxRecDepth 100000 in
theorem spec_CountRectangles.calls (k : Nat) (a0 : Int) (a1 : Int) (r1 : Int) (r2 : Bool) (w : World) (h : spec_CountRectangles.f k a0 a1 = some (r1, r2)) :
    Calls Try.prog 26 #[.int .i64 a0, .int .i64 a1] w fun e w' => e = .returned (.tuple #[.int .i64 r1, .bool r2]) ∧ Below w.heap.size w w' := by
  have hu30 := Try.underlying30
  have HB := Aside0.mk (Below.refl w.heap.size w)
  have H : ((spec_ctBoard.f a0 a1 6).bind fun t106 => (if t106 = true then ((spec_ctPegs.f k a0 a1).bind fun t107 => (spec_CountRectangles.l0 k t107 ([] : List (S30)) ([] : List Int) 0 t107 (t107.length : Int) 0)) else (some (0, false)))) = some (r1, r2) := h
  clear h
  replace H := Option.bind_eq_some_iff.mp H
  obtain ⟨t106, A30, H⟩ := H
  replace H : (if t106 = true then ((spec_ctPegs.f k a0 a1).bind fun t107 => (spec_CountRectangles.l0 k t107 ([] : List (S30)) ([] : List Int) 0 t107 (t107.length : Int) 0)) else (some (0, false))) = some (r1, r2) := H
  have A3 := Aside0.mk A30
  clear A30
  by_cases c4 : t106 = true
  · subst c4
    have H1 : ((spec_ctPegs.f k a0 a1).bind fun t107 => (spec_CountRectangles.l0 k t107 ([] : List (S30)) ([] : List Int) 0 t107 (t107.length : Int) 0)) = some (r1, r2) := by rw [if_pos rfl] at H; exact H
    clear H
    have H := H1
    clear H1
    replace H := Option.bind_eq_some_iff.mp H
    obtain ⟨t107, A50, H⟩ := H
    replace H : (spec_CountRectangles.l0 k t107 ([] : List (S30)) ([] : List Int) 0 t107 (t107.length : Int) 0) = some (r1, r2) := H
    have A5 := Aside0.mk A50
    clear A50
    have H' := Aside0.mk H
    clear H
    go_enter Try.func26, Try.ntmps26
    go_wp2_with (first | ((with_reducible refine gate_callee (f := 43) rfl ?_); refine goesL_ (some 20) rfl rfl Try.func43 (by kernel_rfl) rfl #[.int .i64 a0, .int .i64 a1, .int .i64 6] rfl ga_ ?_; (with_reducible refine (spec_ctBoard.calls a0 a1 6 true _ A3.out).mono ?_); rintro e w' ⟨rfl, ⟨nd, rfl⟩⟩; refine ⟨_, rfl, ?_⟩) | ((with_reducible refine gate_callee (f := 51) rfl ?_); refine goesL_ (some 24) rfl rfl Try.func51 (by kernel_rfl) rfl #[.int .i64 a0, .int .i64 a1] rfl ga_ ?_; (with_reducible refine (spec_ctPegs.calls k a0 a1 t107 _ A5.out).mono ?_); rintro e w6 ⟨v108, rfl, ho0, hb⟩; refine ⟨_, rfl, ?_⟩; have n0_ := Aside0.mk (Kd.R_lower ho0 (below_size (hb_))); have n1_ := Aside0.mk (below_step (hb_) hb); clear HB; have HO109 := n0_; have HB := n1_; clear n0_ n1_; (try clear hb); (try clear hb2); (try clear hk); (try clear hi); (try clear ho0); obtain ⟨Ao7, co7, eo7⟩ := Kd.R_slice HO109.out; subst eo7))
    go_loopg [7, 8, 9, 27] k (fun kq v7 v8 v9 v27 w' => ∃ (x7_1 : List (S30)) (x8_1 : List Int) (x9_1 : Int) (x27_1 : Int), v9 = .int .i64 x9_1 ∧ v27 = .int .i64 x27_1 ∧ Aside0 (spec_CountRectangles.l0 kq t107 x7_1 x8_1 x9_1 t107 (t107.length : Int) x27_1 = some (r1, r2)) ∧ Aside0 (kq ≤ k) ∧ Aside0 (Kd.R k30 30 w' w.heap.size (fun k_ => some k_ ≠ (v7 : Value).ownBlock) (.slice Ao7 t107.length co7) t107) ∧ Aside0 (Kd.R k30 30 w' w.heap.size (fun k_ => some k_ ≠ ((.slice Ao7 t107.length co7) : Value).ownBlock ∧ some k_ ≠ ((.slice Ao7 t107.length co7) : Value).ownBlock) v7 x7_1) ∧ Aside0 (Kd.R (Kd.int .i64) 3 w' w.heap.size (fun _ => True) v8 x8_1) ∧ Aside0 (Kd.R k30 30 w' w.heap.size (fun k_ => some k_ ≠ (v7 : Value).ownBlock) (.slice Ao7 t107.length co7) t107) ∧ Aside0 (Below w.heap.size w w'))
    case atStart => exact ⟨(([] : List (S30))), (([] : List Int)), (0), (0), (by first | rfl | (simp; done) | (simp [*]; done)), (by first | rfl | (simp; done) | (simp [*]; done)), H', ⟨Nat.le_refl _⟩, ⟨by (with_reducible repeat (first | apply Kd.R_alloc | apply Kd.R_drewN | apply Kd.R_drew)); exact Kd.R_mono HO109.out (fun _ hk => (by simp [Value.ownBlock]))⟩, ⟨by first | exact Kd.R_nil _ _ _ _ _ | exact Kd.N_nil _ _ _ _ _ | exact Kd.V_nil _ _ _ _ _ | exact Kd.Q_nil _ _ _ _ _ | exact Kd.S_nil _ _ _ _ _⟩, ⟨by first | exact Kd.R_nil _ _ _ _ _ | exact Kd.N_nil _ _ _ _ _ | exact Kd.V_nil _ _ _ _ _ | exact Kd.Q_nil _ _ _ _ _ | exact Kd.S_nil _ _ _ _ _⟩, ⟨by (with_reducible repeat (first | apply Kd.R_alloc | apply Kd.R_drewN | apply Kd.R_drew)); exact Kd.R_mono HO109.out (fun _ hk => (by simp [Value.ownBlock]))⟩, ⟨hb_⟩⟩
    case round =>
      clear H'
      try clear c2
      try clear p2
      try clear c4
      try clear c5
      obtain ⟨x7_1, x8_1, x9_1, x27_1, rfl, rfl, HA, HK1, HO_6, HO_7, HO_8, HO_25, HB⟩ := hrel
      cases gk with
      | zero => exact absurd HA.out (by simp [spec_CountRectangles.l0])
      | succ k1 =>
        have H := HA.out
        clear HA
        simp only [spec_CountRectangles.l0] at H
        by_cases c8 : x27_1 < (t107.length : Int)
        · rw [if_pos c8] at H
          have c8b0 : decide (x27_1 < (t107.length : Int)) = true := decide_eq_true c8
          clear c8
          by_cases c9 : 0 ≤ x27_1
          · rw [if_pos c9] at H
            have c9b0 : decide (0 ≤ x27_1) = true := decide_eq_true c9
            clear c9
            by_cases c10 : x27_1 < (t107.length : Int)
            · rw [if_pos c10] at H
              have c10b0 : decide (x27_1 < (t107.length : Int)) = true := decide_eq_true c10
              clear c10
              have c11b0 := eq_true (odt_ : 0 ≤ x27_1)
              by_cases c12 : x27_1 ≤ (t107.length : Int)
              · rw [if_pos c12] at H
                have c12b0 := eq_true c12
                have c12b1 : decide (x27_1 ≤ (t107.length : Int)) = true := decide_eq_true c12
                clear c12
                obtain ⟨y112, hy112⟩ : ∃ y_ : List (S30), y_ = (t107.take (x27_1 : Int).toNat) := ⟨_, rfl⟩
                replace H : (spec_CountRectangles.l1 k1 t107 x7_1 x8_1 x9_1 t107 (t107.length : Int) x27_1 y112 (y112.length : Int) 0 ((rd_T30 t107 x27_1).f0) ((rd_T30 t107 x27_1).f1)) = some (r1, r2) := by first | (rw [hy112]; with_reducible exact H) | (have H2_ := (Option.bind_some _ _).symm.trans H; rw [hy112]; with_reducible exact H2_) | (have H2_ := (Option.bind_some _ _).symm.trans H; with_reducible exact H2_) | with_reducible exact H | (rw [hy112]; exact H) | exact H
                have Ny112 := Aside0.mk hy112
                clear hy112
                have H' := Aside0.mk H
                clear H
                have p110 : 0 ≤ (x27_1 : Int) := odt_
                have q110 : x27_1 < (t107.length : Int) := odt_
                obtain ⟨ad110, e110, hx110_0, hx110_1⟩ := at_T30 (Kd.R_reads' HO_25.out).2.2 x27_1 p110 q110
                cases e110
                replace p110 := eq_true p110
                replace q110 := eq_true q110
                go_wp2_with (first | ((with_reducible refine gate_dst (N := 11) rfl ?_); refine box_event ?hg (N := 11) ?hd (cs := #[.int .i64 0, .int .i64 0]) (t := 30) ?hr ?_; (case hd => rfl); (case hg => rfl); (case hr => first | (go_simp; done) | (go_simp; rfl)); intro gb111 hg w13 hbox hb; have n0_ := Aside0.mk (Kd.R_below (Kd.R_elderB (rk_ HO_6.out) gb111 (Nat.le_of_eq hg.symm)) hb); have n1_ := Aside0.mk (Kd.R_below (Kd.R_elderB (rk_ HO_7.out) gb111 (Nat.le_of_eq hg.symm)) hb); have n2_ := Aside0.mk (Kd.R_below (rk_ HO_8.out) hb); have n3_ := Aside0.mk (Kd.R_below (Kd.R_elderB (rk_ HO_25.out) gb111 (Nat.le_of_eq hg.symm)) hb); have n4_ := Aside0.mk (below_step (hb_) hb); have n5_ := Aside0.mk (hbox); have n6_ := Aside0.mk ((by rw [hg]; exact (below_size (hb_)) : w.heap.size ≤ gb111)); have n7_ := Aside0.mk ((by rw [hg]; exact (below_size (hb_)) : w.heap.size ≤ gb111)); clear HO_6; clear HO_7; clear HO_8; clear HO_25; clear HB; have HO_6 := n0_; have HO_7 := n1_; have HO_8 := n2_; have HO_25 := n3_; have HB := n4_; have BK111 := n5_; have GW111 := n6_; have GE111 := n7_; clear n0_ n1_ n2_ n3_ n4_ n5_ n6_ n7_; clear hb hbox hg; have hcz14_0 : w13.cell? ⟨gb111, 0, none⟩ = some (.int .i64 0) := (blk_cell BK111.out 0).trans rfl; have hcz14_1 : w13.cell? ⟨gb111, 1, none⟩ = some (.int .i64 0) := (blk_cell BK111.out 1).trans rfl; have hfz14_0 := blk_frozen BK111.out 0; have hfz14_1 := blk_frozen BK111.out 1) | ((with_reducible refine gate_store (t := 30) (p := 11) rfl ?_); refine store_event (t := 30) (p := 11) (v := ?vo_w15) (w1 := ((w13.setCell ⟨gb111, 0, none⟩ (.int .i64 ((rd_T30 t107 x27_1).f0))).setCell ⟨gb111, 1, none⟩ (.int .i64 ((rd_T30 t107 x27_1).f1)))) ?hg ?ho ?hn ?hr ?_; (case ho => rfl); (case hg => rfl); (case hn => rfl); (case hr => first | (go_simp; done) | (go_simp; rfl)); intro w15 hw; have n0_ : Aside0 (Kd.R k30 30 w15 w.heap.size (fun k_ => some k_ ≠ (u7 : Value).ownBlock ∧ k_ ≠ gb111) (.slice (some ad110) t107.length co7) t107) := ⟨(by rw [hw]; exact (by (with_reducible repeat (first | apply Kd.R_alloc | apply Kd.R_drewN | apply Kd.R_drew)); exact Kd.R_mono (Kd.R_far (p := ⟨gb111, 1, none⟩) (Kd.R_far (p := ⟨gb111, 0, none⟩) (Kd.R_mono HO_6.out (fun k_ hk => (⟨hk, hk.2⟩ : _ ∧ k_ ≠ gb111))) (fun _ hk => hk.2) (.int .i64 ((rd_T30 t107 x27_1).f0))) (fun _ hk => hk.2) (.int .i64 ((rd_T30 t107 x27_1).f1))) (fun _ hk => ⟨hk.1.1, hk.1.2⟩)))⟩; have n1_ : Aside0 (Kd.R k30 30 w15 w.heap.size (fun k_ => some k_ ≠ (.slice (some ad110) t107.length co7 : Value).ownBlock ∧ some k_ ≠ (.slice (some ad110) t107.length co7 : Value).ownBlock ∧ k_ ≠ gb111) u7 x7_1) := ⟨(by rw [hw]; exact (by (with_reducible repeat (first | apply Kd.R_alloc | apply Kd.R_drewN | apply Kd.R_drew)); exact Kd.R_mono (Kd.R_far (p := ⟨gb111, 1, none⟩) (Kd.R_far (p := ⟨gb111, 0, none⟩) (Kd.R_mono HO_7.out (fun k_ hk => (⟨hk, hk.2⟩ : _ ∧ k_ ≠ gb111))) (fun _ hk => hk.2) (.int .i64 ((rd_T30 t107 x27_1).f0))) (fun _ hk => hk.2) (.int .i64 ((rd_T30 t107 x27_1).f1))) (fun _ hk => ⟨hk.1.1.1, ⟨hk.1.1.2, hk.1.2⟩⟩)))⟩; have n2_ : Aside0 (Kd.R (Kd.int .i64) 3 w15 w.heap.size (fun _ => True) u8 x8_1) := ⟨(by rw [hw]; exact (by (with_reducible repeat (first | apply Kd.R_alloc | apply Kd.R_drewN | apply Kd.R_drew)); exact Kd.R_mono (Kd.R_far (p := ⟨gb111, 1, none⟩) (Kd.R_far (p := ⟨gb111, 0, none⟩) (Kd.R_types HO_8.out BK111.out (by decide)) (fun _ hk => hk.2) (.int .i64 ((rd_T30 t107 x27_1).f0))) (fun _ hk => hk.2) (.int .i64 ((rd_T30 t107 x27_1).f1))) (fun _ hk => trivial)))⟩; have n3_ : Aside0 (Kd.R k30 30 w15 w.heap.size (fun k_ => some k_ ≠ (u7 : Value).ownBlock ∧ k_ ≠ gb111) (.slice (some ad110) t107.length co7) t107) := ⟨(by rw [hw]; exact (by (with_reducible repeat (first | apply Kd.R_alloc | apply Kd.R_drewN | apply Kd.R_drew)); exact Kd.R_mono (Kd.R_far (p := ⟨gb111, 1, none⟩) (Kd.R_far (p := ⟨gb111, 0, none⟩) (Kd.R_mono HO_25.out (fun k_ hk => (⟨hk, hk.2⟩ : _ ∧ k_ ≠ gb111))) (fun _ hk => hk.2) (.int .i64 ((rd_T30 t107 x27_1).f0))) (fun _ hk => hk.2) (.int .i64 ((rd_T30 t107 x27_1).f1))) (fun _ hk => ⟨hk.1.1, hk.1.2⟩)))⟩; have n4_ : Aside0 (w15.heap[gb111]? = some (.cells #[.int .i64 ((rd_T30 t107 x27_1).f0), .int .i64 ((rd_T30 t107 x27_1).f1)] 30 (0, 0))) := ⟨(by rw [hw]; exact (by (with_reducible repeat (first | refine blk_drewN ?_ _ | refine blk_drew ?_ | refine blk_alloc ?_ _)); refine blk_put (cs := #[.int .i64 ((rd_T30 t107 x27_1).f0), .int .i64 0]) ?_ 1 _ rfl; (with_reducible repeat (first | refine blk_drewN ?_ _ | refine blk_drew ?_ | refine blk_alloc ?_ _)); refine blk_put (cs := #[.int .i64 0, .int .i64 0]) ?_ 0 _ rfl; (with_reducible repeat (first | refine blk_drewN ?_ _ | refine blk_drew ?_ | refine blk_alloc ?_ _)); exact BK111.out))⟩; have n5_ : Aside0 (Below w.heap.size w w15) := ⟨(by rw [hw]; exact (hbg_))⟩; clear hw; clear HO_6; clear HO_7; clear HO_8; clear HO_25; clear BK111; clear HB; have HO_6 := n0_; have HO_7 := n1_; have HO_8 := n2_; have HO_25 := n3_; have BK111 := n4_; have HB := n5_; clear n0_ n1_ n2_ n3_ n4_ n5_; have q16 : (x27_1 : Int) ≤ ((t107.length : Int) : Int) := odt_; obtain ⟨i016, hi016, _, hsz16, _⟩ := info_parts info30; have hroom16 : t107.length ≤ co7 := (Kd.R_reads' HO_6.out).2.1; have hC16 : Kd.C k30 _ (some ad110) t107.length t107 := (Kd.R_reads' HO_6.out).2.2; have hcut16 := cut_to (P := Try.prog) 33 30 .i64 Try.underlying33 hi016 (some ad110) t107.length co7 x27_1 (odt_) q16 hroom16; have hr16 := Kd.C_take (m := (x27_1 : Int).toNat) hC16 (by omega); have hy16 : y112.length = (x27_1 : Int).toNat := (by rw [Ny112.out, List.length_take]; omega); rw [← Ny112.out] at hr16; rw [← hy16] at hcut16; have HR115 := Aside0.mk hr16; have HC115 := Aside0.mk (show y112.length ≤ co7 from by omega); clear hr16 hC16 hroom16 hi016 hsz16; have KY16 := Aside0.mk hy16; clear hy16; have KL16 := Aside0.mk (show (x27_1 : Int).toNat ≤ t107.length from by omega); replace q16 := eq_true q16))
                go_loopg [7, 8, 9, 36] k1 (fun kq v7 v8 v9 v36 w' => ∃ (x7_2 : List (S30)) (x8_2 : List Int) (x9_2 : Int) (x36_2 : Int), v9 = .int .i64 x9_2 ∧ v36 = .int .i64 x36_2 ∧ Aside0 (spec_CountRectangles.l1 kq t107 x7_2 x8_2 x9_2 t107 (t107.length : Int) x27_1 y112 (y112.length : Int) x36_2 ((rd_T30 t107 x27_1).f0) ((rd_T30 t107 x27_1).f1) = some (r1, r2)) ∧ Aside0 (kq ≤ k1) ∧ Aside0 (Kd.R k30 30 w' w.heap.size (fun k_ => some k_ ≠ (v7 : Value).ownBlock ∧ k_ ≠ gb111) (.slice (some ad110) t107.length co7) t107) ∧ Aside0 (Kd.R k30 30 w' w.heap.size (fun k_ => some k_ ≠ ((.slice (some ad110) t107.length co7) : Value).ownBlock ∧ some k_ ≠ ((.slice (some ad110) t107.length co7) : Value).ownBlock ∧ k_ ≠ gb111) v7 x7_2) ∧ Aside0 (Kd.R (Kd.int .i64) 3 w' w.heap.size (fun _ => True) v8 x8_2) ∧ Aside0 (Kd.R k30 30 w' w.heap.size (fun k_ => some k_ ≠ (v7 : Value).ownBlock ∧ k_ ≠ gb111) (.slice (some ad110) t107.length co7) t107) ∧ Aside0 (w'.heap[gb111]? = some (.cells #[.int .i64 ((rd_T30 t107 x27_1).f0), .int .i64 ((rd_T30 t107 x27_1).f1)] 30 (0, 0))) ∧ Aside0 (Kd.C k30 w' (some ad110) y112.length y112) ∧ Aside0 (Below w.heap.size w w'))
                case atStart => exact ⟨(x7_1), (x8_1), (x9_1), (0), (by first | rfl | (simp; done) | (simp [*]; done)), (by first | rfl | (simp; done) | (simp [*]; done)), H', ⟨Nat.le_refl _⟩, ⟨rk_ HO_6.out⟩, ⟨rk_ HO_7.out⟩, ⟨rk_ HO_8.out⟩, ⟨rk_ HO_25.out⟩, ⟨bk_ BK111.out⟩, ⟨by repeat (first | (with_reducible exact HR115.out) | (with_reducible refine Kd.C_alloc ?_ _) | (with_reducible refine Kd.C_drewN ?_ _) | (with_reducible refine Kd.C_drew ?_) | exact HR115.out)⟩, ⟨hbg_⟩⟩
                case round =>
                  clear H'
                  try clear c1
                  try clear p1
                  try clear q1
                  try clear hx1
                  try clear c2
                  try clear p2
                  try clear c4
                  try clear c5
                  try clear c8
                  try clear c8b0
                  try clear c9
                  try clear c9b0
                  try clear c10
                  try clear c10b0
                  try clear c11
                  try clear c11b0
                  try clear p11
                  try clear q11
                  try clear hx11
                  try clear c12
                  try clear c12b0
                  try clear c12b1
                  try clear q16
                  try clear hcz14_0
                  try clear hcz14_1
                  try clear hfz14_0
                  try clear hfz14_1
                  try clear hx110_0
                  try clear hx110_1
                  try clear p110
                  try clear p2
                  try clear q110
                  try clear q16
                  obtain ⟨x7_2, x8_2, x9_2, x36_2, rfl, rfl, HA, HK2, HO_6, HO_7, HO_8, HO_25, BK111, HR115, HB⟩ := hrel
                  cases gk with
                  | zero => exact absurd HA.out (by simp [spec_CountRectangles.l1])
                  | succ k2 =>
                    have H := HA.out
                    clear HA
                    simp only [spec_CountRectangles.l1] at H
                    by_cases c17 : x36_2 < (y112.length : Int)
                    · rw [if_pos c17] at H
                      have c17b0 : decide (x36_2 < (y112.length : Int)) = true := decide_eq_true c17
                      clear c17
                      by_cases c18 : 0 ≤ x36_2
                      · rw [if_pos c18] at H
                        have c18b0 : decide (0 ≤ x36_2) = true := decide_eq_true c18
                        clear c18
                        by_cases c19 : x36_2 < (y112.length : Int)
                        · rw [if_pos c19] at H
                          have c19b0 : decide (x36_2 < (y112.length : Int)) = true := decide_eq_true c19
                          clear c19
                          have H' := Aside0.mk H
                          clear H
                          have p116 : 0 ≤ (x36_2 : Int) := odt_
                          have q116 : x36_2 < (y112.length : Int) := odt_
                          obtain ⟨ad116, e116, hx116_0, hx116_1⟩ := at_T30 (by repeat (first | (with_reducible exact HR115.out) | (with_reducible refine Kd.C_alloc ?_ _) | (with_reducible refine Kd.C_drewN ?_ _) | (with_reducible refine Kd.C_drew ?_) | exact HR115.out)) x36_2 p116 q116
                          obtain rfl : ad110 = ad116 := (by injection e116)
                          replace p116 := eq_true p116
                          replace q116 := eq_true q116
                          go_wp2_with (first | ((with_reducible refine gate_dst (N := 13) rfl ?_); refine box_event ?hg (N := 13) ?hd (cs := #[.int .i64 0, .int .i64 0]) (t := 30) ?hr ?_; (case hd => rfl); (case hg => rfl); (case hr => first | (go_simp; done) | (go_simp; rfl)); intro gb117 hg w20 hbox hb; have n0_ := Aside0.mk (Kd.R_below (Kd.R_elderB (rk_ HO_6.out) gb117 (Nat.le_of_eq hg.symm)) hb); have n1_ := Aside0.mk (Kd.R_below (Kd.R_elderB (rk_ HO_7.out) gb117 (Nat.le_of_eq hg.symm)) hb); have n2_ := Aside0.mk (Kd.R_below (rk_ HO_8.out) hb); have n3_ := Aside0.mk (Kd.R_below (Kd.R_elderB (rk_ HO_25.out) gb117 (Nat.le_of_eq hg.symm)) hb); have n4_ := bb_ BK111 hb; have n5_ := Aside0.mk (Kd.C_below (by repeat (first | (with_reducible exact HR115.out) | (with_reducible refine Kd.C_alloc ?_ _) | (with_reducible refine Kd.C_drewN ?_ _) | (with_reducible refine Kd.C_drew ?_) | exact HR115.out)) hb); have n6_ := Aside0.mk (below_step (hbg_) hb); have n7_ := Aside0.mk (hbox); have n8_ := Aside0.mk ((by rw [hg]; exact (below_size (hbg_)) : w.heap.size ≤ gb117)); have n9_ := Aside0.mk ((by rw [hg]; exact (below_size (hbg_)) : w.heap.size ≤ gb117)); have n10_ := Aside0.mk ((by rw [hg]; exact Nat.ne_of_lt (blk_lt (bk_ BK111.out)) : gb111 ≠ gb117)); have n11_ := Aside0.mk ((by rw [hg]; exact Nat.ne_of_gt (blk_lt (bk_ BK111.out)) : gb117 ≠ gb111)); clear HO_6; clear HO_7; clear HO_8; clear HO_25; clear BK111; clear HR115; clear HB; have HO_6 := n0_; have HO_7 := n1_; have HO_8 := n2_; have HO_25 := n3_; have BK111 := n4_; have HR115 := n5_; have HB := n6_; have BK117 := n7_; have GW117 := n8_; have GE117 := n9_; have NB111_117 := n10_; have NB117_111 := n11_; clear n0_ n1_ n2_ n3_ n4_ n5_ n6_ n7_ n8_ n9_ n10_ n11_; clear hb hbox hg; have hnb21 := NB117_111.out; have hnc21 := NB111_117.out; have hcz22_0 : w20.cell? ⟨gb117, 0, none⟩ = some (.int .i64 0) := (blk_cell BK117.out 0).trans rfl; have hcz22_1 : w20.cell? ⟨gb117, 1, none⟩ = some (.int .i64 0) := (blk_cell BK117.out 1).trans rfl; have hfz22_0 := blk_frozen BK117.out 0; have hfz22_1 := blk_frozen BK117.out 1) | ((with_reducible refine gate_store (t := 30) (p := 13) rfl ?_); refine store_event (t := 30) (p := 13) (v := ?vo_w23) (w1 := ((w20.setCell ⟨gb117, 0, none⟩ (.int .i64 ((rd_T30 y112 x36_2).f0))).setCell ⟨gb117, 1, none⟩ (.int .i64 ((rd_T30 y112 x36_2).f1)))) ?hg ?ho ?hn ?hr ?_; (case ho => rfl); (case hg => rfl); (case hn => rfl); (case hr => first | (go_simp; done) | (go_simp; rfl)); intro w23 hw; have n0_ : Aside0 (Kd.R k30 30 w23 w.heap.size (fun k_ => some k_ ≠ (u7 : Value).ownBlock ∧ k_ ≠ gb111 ∧ k_ ≠ gb117) (.slice (some ad110) t107.length co7) t107) := ⟨(by rw [hw]; exact (by (with_reducible repeat (first | apply Kd.R_alloc | apply Kd.R_drewN | apply Kd.R_drew)); exact Kd.R_mono (Kd.R_far (p := ⟨gb117, 1, none⟩) (Kd.R_far (p := ⟨gb117, 0, none⟩) (Kd.R_mono HO_6.out (fun k_ hk => (⟨hk, hk.2⟩ : _ ∧ k_ ≠ gb117))) (fun _ hk => hk.2) (.int .i64 ((rd_T30 y112 x36_2).f0))) (fun _ hk => hk.2) (.int .i64 ((rd_T30 y112 x36_2).f1))) (fun _ hk => ⟨hk.1.1.1, ⟨hk.1.1.2, hk.1.2⟩⟩)))⟩; have n1_ : Aside0 (Kd.R k30 30 w23 w.heap.size (fun k_ => some k_ ≠ (.slice (some ad110) t107.length co7 : Value).ownBlock ∧ some k_ ≠ (.slice (some ad110) t107.length co7 : Value).ownBlock ∧ k_ ≠ gb111 ∧ k_ ≠ gb117) u7 x7_2) := ⟨(by rw [hw]; exact (by (with_reducible repeat (first | apply Kd.R_alloc | apply Kd.R_drewN | apply Kd.R_drew)); exact Kd.R_mono (Kd.R_far (p := ⟨gb117, 1, none⟩) (Kd.R_far (p := ⟨gb117, 0, none⟩) (Kd.R_mono HO_7.out (fun k_ hk => (⟨hk, hk.2⟩ : _ ∧ k_ ≠ gb117))) (fun _ hk => hk.2) (.int .i64 ((rd_T30 y112 x36_2).f0))) (fun _ hk => hk.2) (.int .i64 ((rd_T30 y112 x36_2).f1))) (fun _ hk => ⟨hk.1.1.1, ⟨hk.1.1.2.1, ⟨hk.1.1.2.2, hk.1.2⟩⟩⟩)))⟩; have n2_ : Aside0 (Kd.R (Kd.int .i64) 3 w23 w.heap.size (fun _ => True) u8 x8_2) := ⟨(by rw [hw]; exact (by (with_reducible repeat (first | apply Kd.R_alloc | apply Kd.R_drewN | apply Kd.R_drew)); exact Kd.R_mono (Kd.R_far (p := ⟨gb117, 1, none⟩) (Kd.R_far (p := ⟨gb117, 0, none⟩) (Kd.R_types HO_8.out BK117.out (by decide)) (fun _ hk => hk.2) (.int .i64 ((rd_T30 y112 x36_2).f0))) (fun _ hk => hk.2) (.int .i64 ((rd_T30 y112 x36_2).f1))) (fun _ hk => trivial)))⟩; have n3_ : Aside0 (Kd.R k30 30 w23 w.heap.size (fun k_ => some k_ ≠ (u7 : Value).ownBlock ∧ k_ ≠ gb111 ∧ k_ ≠ gb117) (.slice (some ad110) t107.length co7) t107) := ⟨(by rw [hw]; exact (by (with_reducible repeat (first | apply Kd.R_alloc | apply Kd.R_drewN | apply Kd.R_drew)); exact Kd.R_mono (Kd.R_far (p := ⟨gb117, 1, none⟩) (Kd.R_far (p := ⟨gb117, 0, none⟩) (Kd.R_mono HO_25.out (fun k_ hk => (⟨hk, hk.2⟩ : _ ∧ k_ ≠ gb117))) (fun _ hk => hk.2) (.int .i64 ((rd_T30 y112 x36_2).f0))) (fun _ hk => hk.2) (.int .i64 ((rd_T30 y112 x36_2).f1))) (fun _ hk => ⟨hk.1.1.1, ⟨hk.1.1.2, hk.1.2⟩⟩)))⟩; have n4_ : Aside0 (Kd.C k30 w23 (some ad110) y112.length y112) := ⟨(by rw [hw]; exact ((by skip; exact (show ∀ W_ : World, Kd.C k30 W_ (some ad110) (t107.take (x27_1 : Int).toNat).length (t107.take (x27_1 : Int).toNat) → Kd.C k30 W_ (some ad110) y112.length y112 from fun W_ h_ => by rw [Ny112.out]; exact h_) _ (Kd.C_take (m := (x27_1 : Int).toNat) ((Kd.R_reads' (show Kd.R k30 30 ((w20.setCell ⟨gb117, 0, none⟩ (.int .i64 ((rd_T30 y112 x36_2).f0))).setCell ⟨gb117, 1, none⟩ (.int .i64 ((rd_T30 y112 x36_2).f1))) w.heap.size (fun k_ => some k_ ≠ (u7 : Value).ownBlock ∧ k_ ≠ gb111 ∧ k_ ≠ gb117) (.slice (some ad110) t107.length co7) t107 from by (with_reducible repeat (first | apply Kd.R_alloc | apply Kd.R_drewN | apply Kd.R_drew)); exact Kd.R_mono (Kd.R_far (p := ⟨gb117, 1, none⟩) (Kd.R_far (p := ⟨gb117, 0, none⟩) (Kd.R_mono HO_6.out (fun k_ hk => (⟨hk, hk.2⟩ : _ ∧ k_ ≠ gb117))) (fun _ hk => hk.2) (.int .i64 ((rd_T30 y112 x36_2).f0))) (fun _ hk => hk.2) (.int .i64 ((rd_T30 y112 x36_2).f1))) (fun _ hk => ⟨hk.1.1.1, ⟨hk.1.1.2, hk.1.2⟩⟩))).2.2) KL16.out))))⟩; have n5_ : Aside0 (w23.heap[gb111]? = some (.cells #[.int .i64 ((rd_T30 t107 x27_1).f0), .int .i64 ((rd_T30 t107 x27_1).f1)] 30 (0, 0))) := ⟨(by rw [hw]; exact (bf2_ BK111 NB111_117))⟩; have n6_ : Aside0 (w23.heap[gb117]? = some (.cells #[.int .i64 ((rd_T30 y112 x36_2).f0), .int .i64 ((rd_T30 y112 x36_2).f1)] 30 (0, 0))) := ⟨(by rw [hw]; exact (by (with_reducible repeat (first | refine blk_drewN ?_ _ | refine blk_drew ?_ | refine blk_alloc ?_ _)); refine blk_put (cs := #[.int .i64 ((rd_T30 y112 x36_2).f0), .int .i64 0]) ?_ 1 _ rfl; (with_reducible repeat (first | refine blk_drewN ?_ _ | refine blk_drew ?_ | refine blk_alloc ?_ _)); refine blk_put (cs := #[.int .i64 0, .int .i64 0]) ?_ 0 _ rfl; (with_reducible repeat (first | refine blk_drewN ?_ _ | refine blk_drew ?_ | refine blk_alloc ?_ _)); exact BK117.out))⟩; have n7_ : Aside0 (Below w.heap.size w w23) := ⟨(by rw [hw]; exact (hbg_))⟩; clear hw; clear HO_6; clear HO_7; clear HO_8; clear HO_25; clear HR115; clear BK111; clear BK117; clear HB; have HO_6 := n0_; have HO_7 := n1_; have HO_8 := n2_; have HO_25 := n3_; have HR115 := n4_; have BK111 := n5_; have BK117 := n6_; have HB := n7_; clear n0_ n1_ n2_ n3_ n4_ n5_ n6_ n7_; have hcz24_0 : w23.cell? ⟨gb111, 0, none⟩ = some (.int .i64 ((rd_T30 t107 x27_1).f0)) := (blk_cell BK111.out 0).trans rfl; have hcz24_1 : w23.cell? ⟨gb111, 1, none⟩ = some (.int .i64 ((rd_T30 t107 x27_1).f1)) := (blk_cell BK111.out 1).trans rfl; have hfz24_0 := blk_frozen BK111.out 0; have hfz24_1 := blk_frozen BK111.out 1; have hcz25_0 : w23.cell? ⟨gb117, 0, none⟩ = some (.int .i64 ((rd_T30 y112 x36_2).f0)) := (blk_cell BK117.out 0).trans rfl; have hcz25_1 : w23.cell? ⟨gb117, 1, none⟩ = some (.int .i64 ((rd_T30 y112 x36_2).f1)) := (blk_cell BK117.out 1).trans rfl; have hfz25_0 := blk_frozen BK117.out 0; have hfz25_1 := blk_frozen BK117.out 1) | ((with_reducible refine gate_dst (N := 14) rfl ?_); refine box_event ?hg (N := 14) ?hd (cs := #[.int .i64 0, .int .i64 0]) (t := 30) ?hr ?_; (case hd => rfl); (case hg => rfl); (case hr => first | (go_simp; done) | (go_simp; rfl)); intro gb118 hg w26 hbox hb; have n0_ := Aside0.mk (Kd.R_below (Kd.R_elderB (rk_ HO_6.out) gb118 (Nat.le_of_eq hg.symm)) hb); have n1_ := Aside0.mk (Kd.R_below (Kd.R_elderB (rk_ HO_7.out) gb118 (Nat.le_of_eq hg.symm)) hb); have n2_ := Aside0.mk (Kd.R_below (rk_ HO_8.out) hb); have n3_ := Aside0.mk (Kd.R_below (Kd.R_elderB (rk_ HO_25.out) gb118 (Nat.le_of_eq hg.symm)) hb); have n4_ := bb_ BK111 hb; have n5_ := Aside0.mk (Kd.C_below (by repeat (first | (with_reducible exact HR115.out) | (with_reducible refine Kd.C_alloc ?_ _) | (with_reducible refine Kd.C_drewN ?_ _) | (with_reducible refine Kd.C_drew ?_) | exact HR115.out)) hb); have n6_ := bb_ BK117 hb; have n7_ := Aside0.mk (below_step (hbg_) hb); have n8_ := Aside0.mk (hbox); have n9_ := Aside0.mk ((by rw [hg]; exact (below_size (hbg_)) : w.heap.size ≤ gb118)); have n10_ := Aside0.mk ((by rw [hg]; exact (below_size (hbg_)) : w.heap.size ≤ gb118)); have n11_ := Aside0.mk ((by rw [hg]; exact Nat.ne_of_lt (blk_lt (bk_ BK111.out)) : gb111 ≠ gb118)); have n12_ := Aside0.mk ((by rw [hg]; exact Nat.ne_of_gt (blk_lt (bk_ BK111.out)) : gb118 ≠ gb111)); have n13_ := Aside0.mk ((by rw [hg]; exact Nat.ne_of_lt (blk_lt (bk_ BK117.out)) : gb117 ≠ gb118)); have n14_ := Aside0.mk ((by rw [hg]; exact Nat.ne_of_gt (blk_lt (bk_ BK117.out)) : gb118 ≠ gb117)); clear HO_6; clear HO_7; clear HO_8; clear HO_25; clear BK111; clear HR115; clear BK117; clear HB; have HO_6 := n0_; have HO_7 := n1_; have HO_8 := n2_; have HO_25 := n3_; have BK111 := n4_; have HR115 := n5_; have BK117 := n6_; have HB := n7_; have BK118 := n8_; have GW118 := n9_; have GE118 := n10_; have NB111_118 := n11_; have NB118_111 := n12_; have NB117_118 := n13_; have NB118_117 := n14_; clear n0_ n1_ n2_ n3_ n4_ n5_ n6_ n7_ n8_ n9_ n10_ n11_ n12_ n13_ n14_; clear hb hbox hg; have hnb27 := NB118_111.out; have hnc27 := NB111_118.out; have hnb28 := NB118_117.out; have hnc28 := NB117_118.out; have hcz29_0 : w26.cell? ⟨gb118, 0, none⟩ = some (.int .i64 0) := (blk_cell BK118.out 0).trans rfl; have hcz29_1 : w26.cell? ⟨gb118, 1, none⟩ = some (.int .i64 0) := (blk_cell BK118.out 1).trans rfl; have hfz29_0 := blk_frozen BK118.out 0; have hfz29_1 := blk_frozen BK118.out 1; have hcz30_0 : w26.cell? ⟨gb111, 0, none⟩ = some (.int .i64 ((rd_T30 t107 x27_1).f0)) := (blk_cell BK111.out 0).trans rfl; have hcz30_1 : w26.cell? ⟨gb111, 1, none⟩ = some (.int .i64 ((rd_T30 t107 x27_1).f1)) := (blk_cell BK111.out 1).trans rfl; have hfz30_0 := blk_frozen BK111.out 0; have hfz30_1 := blk_frozen BK111.out 1; have hcz31_0 : w26.cell? ⟨gb117, 0, none⟩ = some (.int .i64 ((rd_T30 y112 x36_2).f0)) := (blk_cell BK117.out 0).trans rfl; have hcz31_1 : w26.cell? ⟨gb117, 1, none⟩ = some (.int .i64 ((rd_T30 y112 x36_2).f1)) := (blk_cell BK117.out 1).trans rfl; have hfz31_0 := blk_frozen BK117.out 0; have hfz31_1 := blk_frozen BK117.out 1; obtain ⟨Ao32, co32, eo32⟩ := Kd.R_slice HO_7.out; subst eo32))
                          go_loopg [9, 76] k2 (fun kq v9 v76 w' => ∃ (x9_3 : Int) (x76_3 : Int), v9 = .int .i64 x9_3 ∧ v76 = .int .i64 x76_3 ∧ Aside0 (spec_CountRectangles.l2 kq t107 x7_2 x8_2 x9_3 (wrap64 ((wrap64 ((wrap64 (((rd_T30 t107 x27_1).f0) - ((rd_T30 y112 x36_2).f0))) * (wrap64 (((rd_T30 t107 x27_1).f0) - ((rd_T30 y112 x36_2).f0))))) + (wrap64 ((wrap64 (((rd_T30 t107 x27_1).f1) - ((rd_T30 y112 x36_2).f1))) * (wrap64 (((rd_T30 t107 x27_1).f1) - ((rd_T30 y112 x36_2).f1))))))) t107 (t107.length : Int) x27_1 y112 (y112.length : Int) x36_2 x7_2 (x7_2.length : Int) x76_3 ((rd_T30 t107 x27_1).f0) ((rd_T30 t107 x27_1).f1) (wrap64 (((rd_T30 t107 x27_1).f0) + ((rd_T30 y112 x36_2).f0))) (wrap64 (((rd_T30 t107 x27_1).f1) + ((rd_T30 y112 x36_2).f1))) = some (r1, r2)) ∧ Aside0 (kq ≤ k2) ∧ Aside0 (Kd.R k30 30 w' w.heap.size (fun k_ => some k_ ≠ ((.slice Ao32 x7_2.length co32) : Value).ownBlock ∧ some k_ ≠ ((.slice Ao32 x7_2.length co32) : Value).ownBlock ∧ k_ ≠ gb111 ∧ k_ ≠ gb117 ∧ k_ ≠ gb118) (.slice (some ad110) t107.length co7) t107) ∧ Aside0 (Kd.R k30 30 w' w.heap.size (fun k_ => some k_ ≠ ((.slice (some ad110) t107.length co7) : Value).ownBlock ∧ some k_ ≠ ((.slice (some ad110) t107.length co7) : Value).ownBlock ∧ k_ ≠ gb111 ∧ k_ ≠ gb117 ∧ k_ ≠ gb118) (.slice Ao32 x7_2.length co32) x7_2) ∧ Aside0 (Kd.R (Kd.int .i64) 3 w' w.heap.size (fun _ => True) u8 x8_2) ∧ Aside0 (Kd.R k30 30 w' w.heap.size (fun k_ => some k_ ≠ ((.slice Ao32 x7_2.length co32) : Value).ownBlock ∧ some k_ ≠ ((.slice Ao32 x7_2.length co32) : Value).ownBlock ∧ k_ ≠ gb111 ∧ k_ ≠ gb117 ∧ k_ ≠ gb118) (.slice (some ad110) t107.length co7) t107) ∧ Aside0 (Kd.R k30 30 w' w.heap.size (fun k_ => some k_ ≠ ((.slice (some ad110) t107.length co7) : Value).ownBlock ∧ some k_ ≠ ((.slice (some ad110) t107.length co7) : Value).ownBlock ∧ k_ ≠ gb111 ∧ k_ ≠ gb117 ∧ k_ ≠ gb118) (.slice Ao32 x7_2.length co32) x7_2) ∧ Aside0 (w'.heap[gb111]? = some (.cells #[.int .i64 ((rd_T30 t107 x27_1).f0), .int .i64 ((rd_T30 t107 x27_1).f1)] 30 (0, 0))) ∧ Aside0 (w'.heap[gb117]? = some (.cells #[.int .i64 ((rd_T30 y112 x36_2).f0), .int .i64 ((rd_T30 y112 x36_2).f1)] 30 (0, 0))) ∧ Aside0 (w'.heap[gb118]? = some (.cells #[.int .i64 (wrap64 (((rd_T30 t107 x27_1).f0) + ((rd_T30 y112 x36_2).f0))), .int .i64 (wrap64 (((rd_T30 t107 x27_1).f1) + ((rd_T30 y112 x36_2).f1)))] 30 (0, 0))) ∧ Aside0 (Kd.C k30 w' (some ad110) y112.length y112) ∧ Aside0 (Below w.heap.size w w'))
                          case atStart => exact ⟨(x9_2), (0), (by first | rfl | (simp; done) | (simp [*]; done)), (by first | rfl | (simp; done) | (simp [*]; done)), H', ⟨Nat.le_refl _⟩, ⟨by (with_reducible repeat (first | apply Kd.R_alloc | apply Kd.R_drewN | apply Kd.R_drew)); exact Kd.R_mono (Kd.R_far (p := ⟨gb118, 1, none⟩) (Kd.R_far (p := ⟨gb118, 0, none⟩) (Kd.R_mono HO_6.out (fun k_ hk => (⟨hk, hk.2⟩ : _ ∧ k_ ≠ gb118))) (fun _ hk => hk.2) (.int .i64 (wrap64 (((rd_T30 t107 x27_1).f0) + ((rd_T30 y112 x36_2).f0))))) (fun _ hk => hk.2) (.int .i64 (wrap64 (((rd_T30 t107 x27_1).f1) + ((rd_T30 y112 x36_2).f1))))) (fun _ hk => ⟨hk.1.1.1, ⟨hk.1.1.1, ⟨hk.1.1.2.1, ⟨hk.1.1.2.2, hk.1.2⟩⟩⟩⟩)⟩, ⟨by (with_reducible repeat (first | apply Kd.R_alloc | apply Kd.R_drewN | apply Kd.R_drew)); exact Kd.R_mono (Kd.R_far (p := ⟨gb118, 1, none⟩) (Kd.R_far (p := ⟨gb118, 0, none⟩) (Kd.R_mono HO_7.out (fun k_ hk => (⟨hk, hk.2⟩ : _ ∧ k_ ≠ gb118))) (fun _ hk => hk.2) (.int .i64 (wrap64 (((rd_T30 t107 x27_1).f0) + ((rd_T30 y112 x36_2).f0))))) (fun _ hk => hk.2) (.int .i64 (wrap64 (((rd_T30 t107 x27_1).f1) + ((rd_T30 y112 x36_2).f1))))) (fun _ hk => ⟨hk.1.1.1, ⟨hk.1.1.2.1, ⟨hk.1.1.2.2.1, ⟨hk.1.1.2.2.2, hk.1.2⟩⟩⟩⟩)⟩, ⟨by (with_reducible repeat (first | apply Kd.R_alloc | apply Kd.R_drewN | apply Kd.R_drew)); exact Kd.R_mono (Kd.R_far (p := ⟨gb118, 1, none⟩) (Kd.R_far (p := ⟨gb118, 0, none⟩) (Kd.R_types HO_8.out BK118.out (by decide)) (fun _ hk => hk.2) (.int .i64 (wrap64 (((rd_T30 t107 x27_1).f0) + ((rd_T30 y112 x36_2).f0))))) (fun _ hk => hk.2) (.int .i64 (wrap64 (((rd_T30 t107 x27_1).f1) + ((rd_T30 y112 x36_2).f1))))) (fun _ hk => trivial)⟩, ⟨by (with_reducible repeat (first | apply Kd.R_alloc | apply Kd.R_drewN | apply Kd.R_drew)); exact Kd.R_mono (Kd.R_far (p := ⟨gb118, 1, none⟩) (Kd.R_far (p := ⟨gb118, 0, none⟩) (Kd.R_mono HO_25.out (fun k_ hk => (⟨hk, hk.2⟩ : _ ∧ k_ ≠ gb118))) (fun _ hk => hk.2) (.int .i64 (wrap64 (((rd_T30 t107 x27_1).f0) + ((rd_T30 y112 x36_2).f0))))) (fun _ hk => hk.2) (.int .i64 (wrap64 (((rd_T30 t107 x27_1).f1) + ((rd_T30 y112 x36_2).f1))))) (fun _ hk => ⟨hk.1.1.1, ⟨hk.1.1.1, ⟨hk.1.1.2.1, ⟨hk.1.1.2.2, hk.1.2⟩⟩⟩⟩)⟩, ⟨by (with_reducible repeat (first | apply Kd.R_alloc | apply Kd.R_drewN | apply Kd.R_drew)); exact Kd.R_mono (Kd.R_far (p := ⟨gb118, 1, none⟩) (Kd.R_far (p := ⟨gb118, 0, none⟩) (Kd.R_mono HO_7.out (fun k_ hk => (⟨hk, hk.2⟩ : _ ∧ k_ ≠ gb118))) (fun _ hk => hk.2) (.int .i64 (wrap64 (((rd_T30 t107 x27_1).f0) + ((rd_T30 y112 x36_2).f0))))) (fun _ hk => hk.2) (.int .i64 (wrap64 (((rd_T30 t107 x27_1).f1) + ((rd_T30 y112 x36_2).f1))))) (fun _ hk => ⟨hk.1.1.1, ⟨hk.1.1.2.1, ⟨hk.1.1.2.2.1, ⟨hk.1.1.2.2.2, hk.1.2⟩⟩⟩⟩)⟩, ⟨by (with_reducible repeat (first | refine blk_drewN ?_ _ | refine blk_drew ?_ | refine blk_alloc ?_ _)); refine blk_far ?_ NB111_118.out _; (with_reducible repeat (first | refine blk_drewN ?_ _ | refine blk_drew ?_ | refine blk_alloc ?_ _)); refine blk_far ?_ NB111_118.out _; (with_reducible repeat (first | refine blk_drewN ?_ _ | refine blk_drew ?_ | refine blk_alloc ?_ _)); exact BK111.out⟩, ⟨by (with_reducible repeat (first | refine blk_drewN ?_ _ | refine blk_drew ?_ | refine blk_alloc ?_ _)); refine blk_far ?_ NB117_118.out _; (with_reducible repeat (first | refine blk_drewN ?_ _ | refine blk_drew ?_ | refine blk_alloc ?_ _)); refine blk_far ?_ NB117_118.out _; (with_reducible repeat (first | refine blk_drewN ?_ _ | refine blk_drew ?_ | refine blk_alloc ?_ _)); exact BK117.out⟩, ⟨by (with_reducible repeat (first | refine blk_drewN ?_ _ | refine blk_drew ?_ | refine blk_alloc ?_ _)); refine blk_put (cs := #[.int .i64 (wrap64 (((rd_T30 t107 x27_1).f0) + ((rd_T30 y112 x36_2).f0))), .int .i64 0]) ?_ 1 _ rfl; (with_reducible repeat (first | refine blk_drewN ?_ _ | refine blk_drew ?_ | refine blk_alloc ?_ _)); refine blk_put (cs := #[.int .i64 0, .int .i64 0]) ?_ 0 _ rfl; (with_reducible repeat (first | refine blk_drewN ?_ _ | refine blk_drew ?_ | refine blk_alloc ?_ _)); exact BK118.out⟩, ⟨by skip; exact (show ∀ W_ : World, Kd.C k30 W_ (some ad110) (t107.take (x27_1 : Int).toNat).length (t107.take (x27_1 : Int).toNat) → Kd.C k30 W_ (some ad110) y112.length y112 from fun W_ h_ => by rw [Ny112.out]; exact h_) _ (Kd.C_take (m := (x27_1 : Int).toNat) ((Kd.R_reads' (by (with_reducible repeat (first | apply Kd.R_alloc | apply Kd.R_drewN | apply Kd.R_drew)); exact (Kd.R_mono (Kd.R_far (p := ⟨gb118, 1, none⟩) (Kd.R_far (p := ⟨gb118, 0, none⟩) (Kd.R_mono HO_6.out (fun k_ hk => (⟨hk, hk.2⟩ : _ ∧ k_ ≠ gb118))) (fun _ hk => hk.2) (.int .i64 (wrap64 (((rd_T30 t107 x27_1).f0) + ((rd_T30 y112 x36_2).f0))))) (fun _ hk => hk.2) (.int .i64 (wrap64 (((rd_T30 t107 x27_1).f1) + ((rd_T30 y112 x36_2).f1))))) (fun _ h_ => h_.1)))).2.2) KL16.out)⟩, ⟨hbg_⟩⟩
                          case round =>
                            clear H'
                            try clear c1
                            try clear p1
                            try clear q1
                            try clear hx1
                            try clear c2
                            try clear p2
                            try clear c4
                            try clear c5
                            try clear p6
                            try clear c8
                            try clear c8b0
                            try clear c9
                            try clear c9b0
                            try clear c10
                            try clear c10b0
                            try clear c11
                            try clear c11b0
                            try clear p11
                            try clear q11
                            try clear hx11
                            try clear c12
                            try clear c12b0
                            try clear c12b1
                            try clear q16
                            try clear c17
                            try clear c17b0
                            try clear c18
                            try clear c18b0
                            try clear c19
                            try clear c19b0
                            try clear c21
                            try clear c26
                            try clear c27
                            try clear c28
                            try clear hcz14_0
                            try clear hcz14_1
                            try clear hcz22_0
                            try clear hcz22_1
                            try clear hcz24_0
                            try clear hcz24_1
                            try clear hcz25_0
                            try clear hcz25_1
                            try clear hcz29_0
                            try clear hcz29_1
                            try clear hcz30_0
                            try clear hcz30_1
                            try clear hcz31_0
                            try clear hcz31_1
                            try clear hfz14_0
                            try clear hfz14_1
                            try clear hfz22_0
                            try clear hfz22_1
                            try clear hfz24_0
                            try clear hfz24_1
                            try clear hfz25_0
                            try clear hfz25_1
                            try clear hfz29_0
                            try clear hfz29_1
                            try clear hfz30_0
                            try clear hfz30_1
                            try clear hfz31_0
                            try clear hfz31_1
                            try clear hx110_0
                            try clear hx110_1
                            try clear hx116_0
                            try clear hx116_1
                            try clear p1
                            try clear p11
                            try clear p110
                            try clear p116
                            try clear p2
                            try clear q1
                            try clear q11
                            try clear q110
                            try clear q116
                            try clear q16
                            obtain ⟨x9_3, x76_3, rfl, rfl, HA, HK3, HO_6, HO_7, HO_8, HO_25, HO_74, BK111, BK117, BK118, HR115, HB⟩ := hrel
                            cases gk with
                            | zero => exact absurd HA.out (by simp [spec_CountRectangles.l2])
                            | succ k3 =>
                              have H := HA.out
                              clear HA
                              simp only [spec_CountRectangles.l2] at H
                              by_cases c33 : x76_3 < (x7_2.length : Int)
                              · rw [if_pos c33] at H
                                have c33b0 : decide (x76_3 < (x7_2.length : Int)) = true := decide_eq_true c33
                                clear c33
                                by_cases c34 : 0 ≤ x76_3
                                · rw [if_pos c34] at H
                                  have c34b0 : decide (0 ≤ x76_3) = true := decide_eq_true c34
                                  clear c34
                                  by_cases c35 : x76_3 < (x7_2.length : Int)
                                  · rw [if_pos c35] at H
                                    have c35b0 : decide (x76_3 < (x7_2.length : Int)) = true := decide_eq_true c35
                                    clear c35
                                    by_cases c36 : (((rd_T30 x7_2 x76_3).f0) == (wrap64 (((rd_T30 t107 x27_1).f0) + ((rd_T30 y112 x36_2).f0))) && (((rd_T30 x7_2 x76_3).f1) == (wrap64 (((rd_T30 t107 x27_1).f1) + ((rd_T30 y112 x36_2).f1))))) = true
                                    · rw [if_pos c36] at H
                                      have c36b0 : (((rd_T30 x7_2 x76_3).f0) == (wrap64 (((rd_T30 t107 x27_1).f0) + ((rd_T30 y112 x36_2).f0))) && (((rd_T30 x7_2 x76_3).f1) == (wrap64 (((rd_T30 t107 x27_1).f1) + ((rd_T30 y112 x36_2).f1))))) = true := c36
                                      (try (have c36b1 : decide (((rd_T30 x7_2 x76_3).f0) = (wrap64 (((rd_T30 t107 x27_1).f0) + ((rd_T30 y112 x36_2).f0))) && (((rd_T30 x7_2 x76_3).f1) == (wrap64 (((rd_T30 t107 x27_1).f1) + ((rd_T30 y112 x36_2).f1))))) = true := by simpa using c36))
                                      (try (have c36b2 : (((rd_T30 x7_2 x76_3).f0) == (wrap64 (((rd_T30 t107 x27_1).f0) + ((rd_T30 y112 x36_2).f0))) && (((rd_T30 x7_2 x76_3).f1) == (wrap64 (((rd_T30 t107 x27_1).f1) + ((rd_T30 y112 x36_2).f1))))) = true := by simpa using c36))
                                      clear c36
                                      by_cases c37 : x76_3 < (x8_2.length : Int)
                                      · rw [if_pos c37] at H
                                        have c37b0 : decide (x76_3 < (x8_2.length : Int)) = true := decide_eq_true c37
                                        clear c37
                                        by_cases c38 : (rd x8_2 x76_3) = (wrap64 ((wrap64 ((wrap64 (((rd_T30 t107 x27_1).f0) - ((rd_T30 y112 x36_2).f0))) * (wrap64 (((rd_T30 t107 x27_1).f0) - ((rd_T30 y112 x36_2).f0))))) + (wrap64 ((wrap64 (((rd_T30 t107 x27_1).f1) - ((rd_T30 y112 x36_2).f1))) * (wrap64 (((rd_T30 t107 x27_1).f1) - ((rd_T30 y112 x36_2).f1)))))))
                                        · rw [if_pos c38] at H
                                          have c38b0 : ((rd x8_2 x76_3) == (wrap64 ((wrap64 ((wrap64 (((rd_T30 t107 x27_1).f0) - ((rd_T30 y112 x36_2).f0))) * (wrap64 (((rd_T30 t107 x27_1).f0) - ((rd_T30 y112 x36_2).f0))))) + (wrap64 ((wrap64 (((rd_T30 t107 x27_1).f1) - ((rd_T30 y112 x36_2).f1))) * (wrap64 (((rd_T30 t107 x27_1).f1) - ((rd_T30 y112 x36_2).f1)))))))) = true := beq_iff_eq.mpr c38
                                          have c38b1 : ((rd x8_2 x76_3) != (wrap64 ((wrap64 ((wrap64 (((rd_T30 t107 x27_1).f0) - ((rd_T30 y112 x36_2).f0))) * (wrap64 (((rd_T30 t107 x27_1).f0) - ((rd_T30 y112 x36_2).f0))))) + (wrap64 ((wrap64 (((rd_T30 t107 x27_1).f1) - ((rd_T30 y112 x36_2).f1))) * (wrap64 (((rd_T30 t107 x27_1).f1) - ((rd_T30 y112 x36_2).f1)))))))) = false := bne_eq_false_iff_eq.mpr c38
                                          clear c38
                                          have H' := Aside0.mk H
                                          clear H
                                          have p119 : 0 ≤ (x76_3 : Int) := odt_
                                          have q119 : x76_3 < (x7_2.length : Int) := odt_
                                          obtain ⟨ad119, e119, hx119_0, hx119_1⟩ := at_T30 (Kd.R_reads' HO_74.out).2.2 x76_3 p119 q119
                                          cases e119
                                          replace p119 := eq_true p119
                                          replace q119 := eq_true q119
                                          go_wp2_with (first | ((with_reducible refine gate_dst (N := 17) rfl ?_); refine box_event ?hg (N := 17) ?hd (cs := #[.int .i64 0, .int .i64 0]) (t := 30) ?hr ?_; (case hd => rfl); (case hg => rfl); (case hr => first | (go_simp; done) | (go_simp; rfl)); intro gb120 hg w39 hbox hb; have n0_ := Aside0.mk (Kd.R_below (Kd.R_elderB (rk_ HO_6.out) gb120 (Nat.le_of_eq hg.symm)) hb); have n1_ := Aside0.mk (Kd.R_below (Kd.R_elderB (rk_ HO_7.out) gb120 (Nat.le_of_eq hg.symm)) hb); have n2_ := Aside0.mk (Kd.R_below (rk_ HO_8.out) hb); have n3_ := Aside0.mk (Kd.R_below (Kd.R_elderB (rk_ HO_25.out) gb120 (Nat.le_of_eq hg.symm)) hb); have n4_ := Aside0.mk (Kd.R_below (Kd.R_elderB (rk_ HO_74.out) gb120 (Nat.le_of_eq hg.symm)) hb); have n5_ := bb_ BK111 hb; have n6_ := bb_ BK117 hb; have n7_ := bb_ BK118 hb; have n8_ := Aside0.mk (Kd.C_below (by repeat (first | (with_reducible exact HR115.out) | (with_reducible refine Kd.C_alloc ?_ _) | (with_reducible refine Kd.C_drewN ?_ _) | (with_reducible refine Kd.C_drew ?_) | exact HR115.out)) hb); have n9_ := Aside0.mk (below_step (hbg_) hb); have n10_ := Aside0.mk (hbox); have n11_ := Aside0.mk ((by rw [hg]; exact (below_size (hbg_)) : w.heap.size ≤ gb120)); have n12_ := Aside0.mk ((by rw [hg]; exact (below_size (hbg_)) : w.heap.size ≤ gb120)); have n13_ := Aside0.mk ((by rw [hg]; exact Nat.ne_of_lt (blk_lt (bk_ BK111.out)) : gb111 ≠ gb120)); have n14_ := Aside0.mk ((by rw [hg]; exact Nat.ne_of_gt (blk_lt (bk_ BK111.out)) : gb120 ≠ gb111)); have n15_ := Aside0.mk ((by rw [hg]; exact Nat.ne_of_lt (blk_lt (bk_ BK117.out)) : gb117 ≠ gb120)); have n16_ := Aside0.mk ((by rw [hg]; exact Nat.ne_of_gt (blk_lt (bk_ BK117.out)) : gb120 ≠ gb117)); have n17_ := Aside0.mk ((by rw [hg]; exact Nat.ne_of_lt (blk_lt (bk_ BK118.out)) : gb118 ≠ gb120)); have n18_ := Aside0.mk ((by rw [hg]; exact Nat.ne_of_gt (blk_lt (bk_ BK118.out)) : gb120 ≠ gb118)); clear HO_6; clear HO_7; clear HO_8; clear HO_25; clear HO_74; clear BK111; clear BK117; clear BK118; clear HR115; clear HB; have HO_6 := n0_; have HO_7 := n1_; have HO_8 := n2_; have HO_25 := n3_; have HO_74 := n4_; have BK111 := n5_; have BK117 := n6_; have BK118 := n7_; have HR115 := n8_; have HB := n9_; have BK120 := n10_; have GW120 := n11_; have GE120 := n12_; have NB111_120 := n13_; have NB120_111 := n14_; have NB117_120 := n15_; have NB120_117 := n16_; have NB118_120 := n17_; have NB120_118 := n18_; clear n0_ n1_ n2_ n3_ n4_ n5_ n6_ n7_ n8_ n9_ n10_ n11_ n12_ n13_ n14_ n15_ n16_ n17_ n18_; clear hb hbox hg; have hnb40 := NB120_111.out; have hnc40 := NB111_120.out; have hnb41 := NB120_117.out; have hnc41 := NB117_120.out; have hnb42 := NB120_118.out; have hnc42 := NB118_120.out; have hcz43_0 : w39.cell? ⟨gb120, 0, none⟩ = some (.int .i64 0) := (blk_cell BK120.out 0).trans rfl; have hcz43_1 : w39.cell? ⟨gb120, 1, none⟩ = some (.int .i64 0) := (blk_cell BK120.out 1).trans rfl; have hfz43_0 := blk_frozen BK120.out 0; have hfz43_1 := blk_frozen BK120.out 1; have hnb44 := NB118_111.out; have hnc44 := NB111_118.out; have hnb45 := NB118_117.out; have hnc45 := NB117_118.out; have hcz46_0 : w39.cell? ⟨gb118, 0, none⟩ = some (.int .i64 (wrap64 (((rd_T30 t107 x27_1).f0) + ((rd_T30 y112 x36_2).f0)))) := (blk_cell BK118.out 0).trans rfl; have hcz46_1 : w39.cell? ⟨gb118, 1, none⟩ = some (.int .i64 (wrap64 (((rd_T30 t107 x27_1).f1) + ((rd_T30 y112 x36_2).f1)))) := (blk_cell BK118.out 1).trans rfl; have hfz46_0 := blk_frozen BK118.out 0; have hfz46_1 := blk_frozen BK118.out 1; obtain ⟨Ao47, co47, eo47⟩ := Kd.R_slice HO_8.out; subst eo47; have p121 : 0 ≤ (x76_3 : Int) := odt_; have q121 : x76_3 < (x8_2.length : Int) := odt_; obtain ⟨ad121, e121, hx121_0⟩ := Kd.at_int (Kd.R_reads' HO_8.out).2.2 x76_3 p121 q121; cases e121; have hn121_0 : ad121.block ≠ gb120 := Kd.own_blk (Kd.R_ne HO_8.out BK120.out (by decide)); have hn121_1 : ad121.block ≠ gb120 := Kd.own_blk (Kd.R_ne HO_8.out BK120.out (by decide)); replace hx121_0 := (cell_far (p := ⟨gb120, 0, none⟩) (by first | (rw [add_block]; exact hn121_0) | (show (Addr.add _ _).block ≠ _; rw [add_block]; exact hn121_0) | exact hn121_0) (.int .i64 ((rd_T30 x7_2 x76_3).f0))).trans hx121_0; replace hx121_0 := (cell_far (p := ⟨gb120, 1, none⟩) (by first | (rw [add_block]; exact hn121_1) | (show (Addr.add _ _).block ≠ _; rw [add_block]; exact hn121_1) | exact hn121_1) (.int .i64 ((rd_T30 x7_2 x76_3).f1))).trans hx121_0; clear hn121_0; clear hn121_1; replace p121 := eq_true p121; replace q121 := eq_true q121))
                                          go_roundg k3
                                          case measure => have := HK1.out; have := HK2.out; have := HK3.out; omega
                                          case rel => exact ⟨(wrap64 (x9_3 + 1)), (wrap64 (x76_3 + 1)), (by first | rfl | (simp; done) | (simp [*]; done)), (by first | rfl | (simp; done) | (simp [*]; done)), H', ⟨by have := HK1.out; have := HK2.out; have := HK3.out; omega⟩, ⟨by (with_reducible repeat (first | apply Kd.R_alloc | apply Kd.R_drewN | apply Kd.R_drew)); exact Kd.R_mono (Kd.R_far (p := ⟨gb120, 1, none⟩) (Kd.R_far (p := ⟨gb120, 0, none⟩) (Kd.R_mono HO_6.out (fun k_ hk => (⟨hk, hk.2⟩ : _ ∧ k_ ≠ gb120))) (fun _ hk => hk.2) (.int .i64 ((rd_T30 x7_2 x76_3).f0))) (fun _ hk => hk.2) (.int .i64 ((rd_T30 x7_2 x76_3).f1))) (fun _ hk => ⟨hk.1.1.1, ⟨hk.1.1.2.1, ⟨hk.1.1.2.2.1, ⟨hk.1.1.2.2.2.1, hk.1.1.2.2.2.2⟩⟩⟩⟩)⟩, ⟨by (with_reducible repeat (first | apply Kd.R_alloc | apply Kd.R_drewN | apply Kd.R_drew)); exact Kd.R_mono (Kd.R_far (p := ⟨gb120, 1, none⟩) (Kd.R_far (p := ⟨gb120, 0, none⟩) (Kd.R_mono HO_7.out (fun k_ hk => (⟨hk, hk.2⟩ : _ ∧ k_ ≠ gb120))) (fun _ hk => hk.2) (.int .i64 ((rd_T30 x7_2 x76_3).f0))) (fun _ hk => hk.2) (.int .i64 ((rd_T30 x7_2 x76_3).f1))) (fun _ hk => ⟨hk.1.1.1, ⟨hk.1.1.2.1, ⟨hk.1.1.2.2.1, ⟨hk.1.1.2.2.2.1, hk.1.1.2.2.2.2⟩⟩⟩⟩)⟩, ⟨by (with_reducible repeat (first | apply Kd.R_alloc | apply Kd.R_drewN | apply Kd.R_drew)); exact Kd.R_mono (Kd.R_far (p := ⟨gb120, 1, none⟩) (Kd.R_far (p := ⟨gb120, 0, none⟩) (Kd.R_types HO_8.out BK120.out (by decide)) (fun _ hk => hk.2) (.int .i64 ((rd_T30 x7_2 x76_3).f0))) (fun _ hk => hk.2) (.int .i64 ((rd_T30 x7_2 x76_3).f1))) (fun _ hk => trivial)⟩, ⟨by (with_reducible repeat (first | apply Kd.R_alloc | apply Kd.R_drewN | apply Kd.R_drew)); exact Kd.R_mono (Kd.R_far (p := ⟨gb120, 1, none⟩) (Kd.R_far (p := ⟨gb120, 0, none⟩) (Kd.R_mono HO_25.out (fun k_ hk => (⟨hk, hk.2⟩ : _ ∧ k_ ≠ gb120))) (fun _ hk => hk.2) (.int .i64 ((rd_T30 x7_2 x76_3).f0))) (fun _ hk => hk.2) (.int .i64 ((rd_T30 x7_2 x76_3).f1))) (fun _ hk => ⟨hk.1.1.1, ⟨hk.1.1.2.1, ⟨hk.1.1.2.2.1, ⟨hk.1.1.2.2.2.1, hk.1.1.2.2.2.2⟩⟩⟩⟩)⟩, ⟨by (with_reducible repeat (first | apply Kd.R_alloc | apply Kd.R_drewN | apply Kd.R_drew)); exact Kd.R_mono (Kd.R_far (p := ⟨gb120, 1, none⟩) (Kd.R_far (p := ⟨gb120, 0, none⟩) (Kd.R_mono HO_74.out (fun k_ hk => (⟨hk, hk.2⟩ : _ ∧ k_ ≠ gb120))) (fun _ hk => hk.2) (.int .i64 ((rd_T30 x7_2 x76_3).f0))) (fun _ hk => hk.2) (.int .i64 ((rd_T30 x7_2 x76_3).f1))) (fun _ hk => ⟨hk.1.1.1, ⟨hk.1.1.2.1, ⟨hk.1.1.2.2.1, ⟨hk.1.1.2.2.2.1, hk.1.1.2.2.2.2⟩⟩⟩⟩)⟩, ⟨by (with_reducible repeat (first | refine blk_drewN ?_ _ | refine blk_drew ?_ | refine blk_alloc ?_ _)); refine blk_far ?_ NB111_120.out _; (with_reducible repeat (first | refine blk_drewN ?_ _ | refine blk_drew ?_ | refine blk_alloc ?_ _)); refine blk_far ?_ NB111_120.out _; (with_reducible repeat (first | refine blk_drewN ?_ _ | refine blk_drew ?_ | refine blk_alloc ?_ _)); exact BK111.out⟩, ⟨by (with_reducible repeat (first | refine blk_drewN ?_ _ | refine blk_drew ?_ | refine blk_alloc ?_ _)); refine blk_far ?_ NB117_120.out _; (with_reducible repeat (first | refine blk_drewN ?_ _ | refine blk_drew ?_ | refine blk_alloc ?_ _)); refine blk_far ?_ NB117_120.out _; (with_reducible repeat (first | refine blk_drewN ?_ _ | refine blk_drew ?_ | refine blk_alloc ?_ _)); exact BK117.out⟩, ⟨by (with_reducible repeat (first | refine blk_drewN ?_ _ | refine blk_drew ?_ | refine blk_alloc ?_ _)); refine blk_far ?_ NB118_120.out _; (with_reducible repeat (first | refine blk_drewN ?_ _ | refine blk_drew ?_ | refine blk_alloc ?_ _)); refine blk_far ?_ NB118_120.out _; (with_reducible repeat (first | refine blk_drewN ?_ _ | refine blk_drew ?_ | refine blk_alloc ?_ _)); exact BK118.out⟩, ⟨by skip; exact (show ∀ W_ : World, Kd.C k30 W_ (some ad110) (t107.take (x27_1 : Int).toNat).length (t107.take (x27_1 : Int).toNat) → Kd.C k30 W_ (some ad110) y112.length y112 from fun W_ h_ => by rw [Ny112.out]; exact h_) _ (Kd.C_take (m := (x27_1 : Int).toNat) ((Kd.R_reads' (by (with_reducible repeat (first | apply Kd.R_alloc | apply Kd.R_drewN | apply Kd.R_drew)); exact (Kd.R_mono (Kd.R_far (p := ⟨gb120, 1, none⟩) (Kd.R_far (p := ⟨gb120, 0, none⟩) (Kd.R_mono HO_6.out (fun k_ hk => (⟨hk, hk.2⟩ : _ ∧ k_ ≠ gb120))) (fun _ hk => hk.2) (.int .i64 ((rd_T30 x7_2 x76_3).f0))) (fun _ hk => hk.2) (.int .i64 ((rd_T30 x7_2 x76_3).f1))) (fun _ h_ => h_.1)))).2.2) KL16.out)⟩, ⟨hbg_⟩⟩
                                        · rw [if_neg c38] at H
                                          have c38b0 : ((rd x8_2 x76_3) == (wrap64 ((wrap64 ((wrap64 (((rd_T30 t107 x27_1).f0) - ((rd_T30 y112 x36_2).f0))) * (wrap64 (((rd_T30 t107 x27_1).f0) - ((rd_T30 y112 x36_2).f0))))) + (wrap64 ((wrap64 (((rd_T30 t107 x27_1).f1) - ((rd_T30 y112 x36_2).f1))) * (wrap64 (((rd_T30 t107 x27_1).f1) - ((rd_T30 y112 x36_2).f1)))))))) = false := beq_eq_false_iff_ne.mpr c38
                                          have c38b1 : ((rd x8_2 x76_3) != (wrap64 ((wrap64 ((wrap64 (((rd_T30 t107 x27_1).f0) - ((rd_T30 y112 x36_2).f0))) * (wrap64 (((rd_T30 t107 x27_1).f0) - ((rd_T30 y112 x36_2).f0))))) + (wrap64 ((wrap64 (((rd_T30 t107 x27_1).f1) - ((rd_T30 y112 x36_2).f1))) * (wrap64 (((rd_T30 t107 x27_1).f1) - ((rd_T30 y112 x36_2).f1)))))))) = true := bne_iff_ne.mpr c38
                                          have H' := Aside0.mk H
                                          clear H
                                          have p119 : 0 ≤ (x76_3 : Int) := odt_
                                          have q119 : x76_3 < (x7_2.length : Int) := odt_
                                          obtain ⟨ad119, e119, hx119_0, hx119_1⟩ := at_T30 (Kd.R_reads' HO_74.out).2.2 x76_3 p119 q119
                                          cases e119
                                          replace p119 := eq_true p119
                                          replace q119 := eq_true q119
                                          go_wp2_with (first | ((with_reducible refine gate_dst (N := 17) rfl ?_); refine box_event ?hg (N := 17) ?hd (cs := #[.int .i64 0, .int .i64 0]) (t := 30) ?hr ?_; (case hd => rfl); (case hg => rfl); (case hr => first | (go_simp; done) | (go_simp; rfl)); intro gb120 hg w48 hbox hb; have n0_ := Aside0.mk (Kd.R_below (Kd.R_elderB (rk_ HO_6.out) gb120 (Nat.le_of_eq hg.symm)) hb); have n1_ := Aside0.mk (Kd.R_below (Kd.R_elderB (rk_ HO_7.out) gb120 (Nat.le_of_eq hg.symm)) hb); have n2_ := Aside0.mk (Kd.R_below (rk_ HO_8.out) hb); have n3_ := Aside0.mk (Kd.R_below (Kd.R_elderB (rk_ HO_25.out) gb120 (Nat.le_of_eq hg.symm)) hb); have n4_ := Aside0.mk (Kd.R_below (Kd.R_elderB (rk_ HO_74.out) gb120 (Nat.le_of_eq hg.symm)) hb); have n5_ := bb_ BK111 hb; have n6_ := bb_ BK117 hb; have n7_ := bb_ BK118 hb; have n8_ := Aside0.mk (Kd.C_below (by repeat (first | (with_reducible exact HR115.out) | (with_reducible refine Kd.C_alloc ?_ _) | (with_reducible refine Kd.C_drewN ?_ _) | (with_reducible refine Kd.C_drew ?_) | exact HR115.out)) hb); have n9_ := Aside0.mk (below_step (hbg_) hb); have n10_ := Aside0.mk (hbox); have n11_ := Aside0.mk ((by rw [hg]; exact (below_size (hbg_)) : w.heap.size ≤ gb120)); have n12_ := Aside0.mk ((by rw [hg]; exact (below_size (hbg_)) : w.heap.size ≤ gb120)); have n13_ := Aside0.mk ((by rw [hg]; exact Nat.ne_of_lt (blk_lt (bk_ BK111.out)) : gb111 ≠ gb120)); have n14_ := Aside0.mk ((by rw [hg]; exact Nat.ne_of_gt (blk_lt (bk_ BK111.out)) : gb120 ≠ gb111)); have n15_ := Aside0.mk ((by rw [hg]; exact Nat.ne_of_lt (blk_lt (bk_ BK117.out)) : gb117 ≠ gb120)); have n16_ := Aside0.mk ((by rw [hg]; exact Nat.ne_of_gt (blk_lt (bk_ BK117.out)) : gb120 ≠ gb117)); have n17_ := Aside0.mk ((by rw [hg]; exact Nat.ne_of_lt (blk_lt (bk_ BK118.out)) : gb118 ≠ gb120)); have n18_ := Aside0.mk ((by rw [hg]; exact Nat.ne_of_gt (blk_lt (bk_ BK118.out)) : gb120 ≠ gb118)); clear HO_6; clear HO_7; clear HO_8; clear HO_25; clear HO_74; clear BK111; clear BK117; clear BK118; clear HR115; clear HB; have HO_6 := n0_; have HO_7 := n1_; have HO_8 := n2_; have HO_25 := n3_; have HO_74 := n4_; have BK111 := n5_; have BK117 := n6_; have BK118 := n7_; have HR115 := n8_; have HB := n9_; have BK120 := n10_; have GW120 := n11_; have GE120 := n12_; have NB111_120 := n13_; have NB120_111 := n14_; have NB117_120 := n15_; have NB120_117 := n16_; have NB118_120 := n17_; have NB120_118 := n18_; clear n0_ n1_ n2_ n3_ n4_ n5_ n6_ n7_ n8_ n9_ n10_ n11_ n12_ n13_ n14_ n15_ n16_ n17_ n18_; clear hb hbox hg; have hnb49 := NB120_111.out; have hnc49 := NB111_120.out; have hnb50 := NB120_117.out; have hnc50 := NB117_120.out; have hnb51 := NB120_118.out; have hnc51 := NB118_120.out; have hcz52_0 : w48.cell? ⟨gb120, 0, none⟩ = some (.int .i64 0) := (blk_cell BK120.out 0).trans rfl; have hcz52_1 : w48.cell? ⟨gb120, 1, none⟩ = some (.int .i64 0) := (blk_cell BK120.out 1).trans rfl; have hfz52_0 := blk_frozen BK120.out 0; have hfz52_1 := blk_frozen BK120.out 1; have hnb53 := NB118_111.out; have hnc53 := NB111_118.out; have hnb54 := NB118_117.out; have hnc54 := NB117_118.out; have hcz55_0 : w48.cell? ⟨gb118, 0, none⟩ = some (.int .i64 (wrap64 (((rd_T30 t107 x27_1).f0) + ((rd_T30 y112 x36_2).f0)))) := (blk_cell BK118.out 0).trans rfl; have hcz55_1 : w48.cell? ⟨gb118, 1, none⟩ = some (.int .i64 (wrap64 (((rd_T30 t107 x27_1).f1) + ((rd_T30 y112 x36_2).f1)))) := (blk_cell BK118.out 1).trans rfl; have hfz55_0 := blk_frozen BK118.out 0; have hfz55_1 := blk_frozen BK118.out 1; obtain ⟨Ao56, co56, eo56⟩ := Kd.R_slice HO_8.out; subst eo56; have p121 : 0 ≤ (x76_3 : Int) := odt_; have q121 : x76_3 < (x8_2.length : Int) := odt_; obtain ⟨ad121, e121, hx121_0⟩ := Kd.at_int (Kd.R_reads' HO_8.out).2.2 x76_3 p121 q121; cases e121; have hn121_0 : ad121.block ≠ gb120 := Kd.own_blk (Kd.R_ne HO_8.out BK120.out (by decide)); have hn121_1 : ad121.block ≠ gb120 := Kd.own_blk (Kd.R_ne HO_8.out BK120.out (by decide)); replace hx121_0 := (cell_far (p := ⟨gb120, 0, none⟩) (by first | (rw [add_block]; exact hn121_0) | (show (Addr.add _ _).block ≠ _; rw [add_block]; exact hn121_0) | exact hn121_0) (.int .i64 ((rd_T30 x7_2 x76_3).f0))).trans hx121_0; replace hx121_0 := (cell_far (p := ⟨gb120, 1, none⟩) (by first | (rw [add_block]; exact hn121_1) | (show (Addr.add _ _).block ≠ _; rw [add_block]; exact hn121_1) | exact hn121_1) (.int .i64 ((rd_T30 x7_2 x76_3).f1))).trans hx121_0; clear hn121_0; clear hn121_1; replace p121 := eq_true p121; replace q121 := eq_true q121))
                                          go_roundg k3
                                          case measure => have := HK1.out; have := HK2.out; have := HK3.out; omega
                                          case rel => exact ⟨(x9_3), (wrap64 (x76_3 + 1)), (by first | rfl | (simp; done) | (simp [*]; done)), (by first | rfl | (simp; done) | (simp [*]; done)), H', ⟨by have := HK1.out; have := HK2.out; have := HK3.out; omega⟩, ⟨by (with_reducible repeat (first | apply Kd.R_alloc | apply Kd.R_drewN | apply Kd.R_drew)); exact Kd.R_mono (Kd.R_far (p := ⟨gb120, 1, none⟩) (Kd.R_far (p := ⟨gb120, 0, none⟩) (Kd.R_mono HO_6.out (fun k_ hk => (⟨hk, hk.2⟩ : _ ∧ k_ ≠ gb120))) (fun _ hk => hk.2) (.int .i64 ((rd_T30 x7_2 x76_3).f0))) (fun _ hk => hk.2) (.int .i64 ((rd_T30 x7_2 x76_3).f1))) (fun _ hk => ⟨hk.1.1.1, ⟨hk.1.1.2.1, ⟨hk.1.1.2.2.1, ⟨hk.1.1.2.2.2.1, hk.1.1.2.2.2.2⟩⟩⟩⟩)⟩, ⟨by (with_reducible repeat (first | apply Kd.R_alloc | apply Kd.R_drewN | apply Kd.R_drew)); exact Kd.R_mono (Kd.R_far (p := ⟨gb120, 1, none⟩) (Kd.R_far (p := ⟨gb120, 0, none⟩) (Kd.R_mono HO_7.out (fun k_ hk => (⟨hk, hk.2⟩ : _ ∧ k_ ≠ gb120))) (fun _ hk => hk.2) (.int .i64 ((rd_T30 x7_2 x76_3).f0))) (fun _ hk => hk.2) (.int .i64 ((rd_T30 x7_2 x76_3).f1))) (fun _ hk => ⟨hk.1.1.1, ⟨hk.1.1.2.1, ⟨hk.1.1.2.2.1, ⟨hk.1.1.2.2.2.1, hk.1.1.2.2.2.2⟩⟩⟩⟩)⟩, ⟨by (with_reducible repeat (first | apply Kd.R_alloc | apply Kd.R_drewN | apply Kd.R_drew)); exact Kd.R_mono (Kd.R_far (p := ⟨gb120, 1, none⟩) (Kd.R_far (p := ⟨gb120, 0, none⟩) (Kd.R_types HO_8.out BK120.out (by decide)) (fun _ hk => hk.2) (.int .i64 ((rd_T30 x7_2 x76_3).f0))) (fun _ hk => hk.2) (.int .i64 ((rd_T30 x7_2 x76_3).f1))) (fun _ hk => trivial)⟩, ⟨by (with_reducible repeat (first | apply Kd.R_alloc | apply Kd.R_drewN | apply Kd.R_drew)); exact Kd.R_mono (Kd.R_far (p := ⟨gb120, 1, none⟩) (Kd.R_far (p := ⟨gb120, 0, none⟩) (Kd.R_mono HO_25.out (fun k_ hk => (⟨hk, hk.2⟩ : _ ∧ k_ ≠ gb120))) (fun _ hk => hk.2) (.int .i64 ((rd_T30 x7_2 x76_3).f0))) (fun _ hk => hk.2) (.int .i64 ((rd_T30 x7_2 x76_3).f1))) (fun _ hk => ⟨hk.1.1.1, ⟨hk.1.1.2.1, ⟨hk.1.1.2.2.1, ⟨hk.1.1.2.2.2.1, hk.1.1.2.2.2.2⟩⟩⟩⟩)⟩, ⟨by (with_reducible repeat (first | apply Kd.R_alloc | apply Kd.R_drewN | apply Kd.R_drew)); exact Kd.R_mono (Kd.R_far (p := ⟨gb120, 1, none⟩) (Kd.R_far (p := ⟨gb120, 0, none⟩) (Kd.R_mono HO_74.out (fun k_ hk => (⟨hk, hk.2⟩ : _ ∧ k_ ≠ gb120))) (fun _ hk => hk.2) (.int .i64 ((rd_T30 x7_2 x76_3).f0))) (fun _ hk => hk.2) (.int .i64 ((rd_T30 x7_2 x76_3).f1))) (fun _ hk => ⟨hk.1.1.1, ⟨hk.1.1.2.1, ⟨hk.1.1.2.2.1, ⟨hk.1.1.2.2.2.1, hk.1.1.2.2.2.2⟩⟩⟩⟩)⟩, ⟨by (with_reducible repeat (first | refine blk_drewN ?_ _ | refine blk_drew ?_ | refine blk_alloc ?_ _)); refine blk_far ?_ NB111_120.out _; (with_reducible repeat (first | refine blk_drewN ?_ _ | refine blk_drew ?_ | refine blk_alloc ?_ _)); refine blk_far ?_ NB111_120.out _; (with_reducible repeat (first | refine blk_drewN ?_ _ | refine blk_drew ?_ | refine blk_alloc ?_ _)); exact BK111.out⟩, ⟨by (with_reducible repeat (first | refine blk_drewN ?_ _ | refine blk_drew ?_ | refine blk_alloc ?_ _)); refine blk_far ?_ NB117_120.out _; (with_reducible repeat (first | refine blk_drewN ?_ _ | refine blk_drew ?_ | refine blk_alloc ?_ _)); refine blk_far ?_ NB117_120.out _; (with_reducible repeat (first | refine blk_drewN ?_ _ | refine blk_drew ?_ | refine blk_alloc ?_ _)); exact BK117.out⟩, ⟨by (with_reducible repeat (first | refine blk_drewN ?_ _ | refine blk_drew ?_ | refine blk_alloc ?_ _)); refine blk_far ?_ NB118_120.out _; (with_reducible repeat (first | refine blk_drewN ?_ _ | refine blk_drew ?_ | refine blk_alloc ?_ _)); refine blk_far ?_ NB118_120.out _; (with_reducible repeat (first | refine blk_drewN ?_ _ | refine blk_drew ?_ | refine blk_alloc ?_ _)); exact BK118.out⟩, ⟨by skip; exact (show ∀ W_ : World, Kd.C k30 W_ (some ad110) (t107.take (x27_1 : Int).toNat).length (t107.take (x27_1 : Int).toNat) → Kd.C k30 W_ (some ad110) y112.length y112 from fun W_ h_ => by rw [Ny112.out]; exact h_) _ (Kd.C_take (m := (x27_1 : Int).toNat) ((Kd.R_reads' (by (with_reducible repeat (first | apply Kd.R_alloc | apply Kd.R_drewN | apply Kd.R_drew)); exact (Kd.R_mono (Kd.R_far (p := ⟨gb120, 1, none⟩) (Kd.R_far (p := ⟨gb120, 0, none⟩) (Kd.R_mono HO_6.out (fun k_ hk => (⟨hk, hk.2⟩ : _ ∧ k_ ≠ gb120))) (fun _ hk => hk.2) (.int .i64 ((rd_T30 x7_2 x76_3).f0))) (fun _ hk => hk.2) (.int .i64 ((rd_T30 x7_2 x76_3).f1))) (fun _ h_ => h_.1)))).2.2) KL16.out)⟩, ⟨hbg_⟩⟩
                                      · rw [if_neg c37] at H
                                        exact absurd H (by simp)
                                    · rw [if_neg c36] at H
                                      have c36b0 : (((rd_T30 x7_2 x76_3).f0) == (wrap64 (((rd_T30 t107 x27_1).f0) + ((rd_T30 y112 x36_2).f0))) && (((rd_T30 x7_2 x76_3).f1) == (wrap64 (((rd_T30 t107 x27_1).f1) + ((rd_T30 y112 x36_2).f1))))) = false := by simpa using c36
                                      (try (have c36b1 : decide (((rd_T30 x7_2 x76_3).f0) = (wrap64 (((rd_T30 t107 x27_1).f0) + ((rd_T30 y112 x36_2).f0))) && (((rd_T30 x7_2 x76_3).f1) == (wrap64 (((rd_T30 t107 x27_1).f1) + ((rd_T30 y112 x36_2).f1))))) = false := by simpa using c36))
                                      (try (have c36b2 : (((rd_T30 x7_2 x76_3).f0) == (wrap64 (((rd_T30 t107 x27_1).f0) + ((rd_T30 y112 x36_2).f0))) && (((rd_T30 x7_2 x76_3).f1) == (wrap64 (((rd_T30 t107 x27_1).f1) + ((rd_T30 y112 x36_2).f1))))) = false := by simpa using c36))
                                      (try (have c36b3 : ¬ (((rd_T30 x7_2 x76_3).f0) = (wrap64 (((rd_T30 t107 x27_1).f0) + ((rd_T30 y112 x36_2).f0))) && (((rd_T30 x7_2 x76_3).f1) == (wrap64 (((rd_T30 t107 x27_1).f1) + ((rd_T30 y112 x36_2).f1))))) := by simpa using c36))
                                      clear c36
                                      have H' := Aside0.mk H
                                      clear H
                                      have p119 : 0 ≤ (x76_3 : Int) := odt_
                                      have q119 : x76_3 < (x7_2.length : Int) := odt_
                                      obtain ⟨ad119, e119, hx119_0, hx119_1⟩ := at_T30 (Kd.R_reads' HO_74.out).2.2 x76_3 p119 q119
                                      cases e119
                                      replace p119 := eq_true p119
                                      replace q119 := eq_true q119
                                      go_wp2_with (first | ((with_reducible refine gate_dst (N := 17) rfl ?_); refine box_event ?hg (N := 17) ?hd (cs := #[.int .i64 0, .int .i64 0]) (t := 30) ?hr ?_; (case hd => rfl); (case hg => rfl); (case hr => first | (go_simp; done) | (go_simp; rfl)); intro gb120 hg w57 hbox hb; have n0_ := Aside0.mk (Kd.R_below (Kd.R_elderB (rk_ HO_6.out) gb120 (Nat.le_of_eq hg.symm)) hb); have n1_ := Aside0.mk (Kd.R_below (Kd.R_elderB (rk_ HO_7.out) gb120 (Nat.le_of_eq hg.symm)) hb); have n2_ := Aside0.mk (Kd.R_below (rk_ HO_8.out) hb); have n3_ := Aside0.mk (Kd.R_below (Kd.R_elderB (rk_ HO_25.out) gb120 (Nat.le_of_eq hg.symm)) hb); have n4_ := Aside0.mk (Kd.R_below (Kd.R_elderB (rk_ HO_74.out) gb120 (Nat.le_of_eq hg.symm)) hb); have n5_ := bb_ BK111 hb; have n6_ := bb_ BK117 hb; have n7_ := bb_ BK118 hb; have n8_ := Aside0.mk (Kd.C_below (by repeat (first | (with_reducible exact HR115.out) | (with_reducible refine Kd.C_alloc ?_ _) | (with_reducible refine Kd.C_drewN ?_ _) | (with_reducible refine Kd.C_drew ?_) | exact HR115.out)) hb); have n9_ := Aside0.mk (below_step (hbg_) hb); have n10_ := Aside0.mk (hbox); have n11_ := Aside0.mk ((by rw [hg]; exact (below_size (hbg_)) : w.heap.size ≤ gb120)); have n12_ := Aside0.mk ((by rw [hg]; exact (below_size (hbg_)) : w.heap.size ≤ gb120)); have n13_ := Aside0.mk ((by rw [hg]; exact Nat.ne_of_lt (blk_lt (bk_ BK111.out)) : gb111 ≠ gb120)); have n14_ := Aside0.mk ((by rw [hg]; exact Nat.ne_of_gt (blk_lt (bk_ BK111.out)) : gb120 ≠ gb111)); have n15_ := Aside0.mk ((by rw [hg]; exact Nat.ne_of_lt (blk_lt (bk_ BK117.out)) : gb117 ≠ gb120)); have n16_ := Aside0.mk ((by rw [hg]; exact Nat.ne_of_gt (blk_lt (bk_ BK117.out)) : gb120 ≠ gb117)); have n17_ := Aside0.mk ((by rw [hg]; exact Nat.ne_of_lt (blk_lt (bk_ BK118.out)) : gb118 ≠ gb120)); have n18_ := Aside0.mk ((by rw [hg]; exact Nat.ne_of_gt (blk_lt (bk_ BK118.out)) : gb120 ≠ gb118)); clear HO_6; clear HO_7; clear HO_8; clear HO_25; clear HO_74; clear BK111; clear BK117; clear BK118; clear HR115; clear HB; have HO_6 := n0_; have HO_7 := n1_; have HO_8 := n2_; have HO_25 := n3_; have HO_74 := n4_; have BK111 := n5_; have BK117 := n6_; have BK118 := n7_; have HR115 := n8_; have HB := n9_; have BK120 := n10_; have GW120 := n11_; have GE120 := n12_; have NB111_120 := n13_; have NB120_111 := n14_; have NB117_120 := n15_; have NB120_117 := n16_; have NB118_120 := n17_; have NB120_118 := n18_; clear n0_ n1_ n2_ n3_ n4_ n5_ n6_ n7_ n8_ n9_ n10_ n11_ n12_ n13_ n14_ n15_ n16_ n17_ n18_; clear hb hbox hg; have hnb58 := NB120_111.out; have hnc58 := NB111_120.out; have hnb59 := NB120_117.out; have hnc59 := NB117_120.out; have hnb60 := NB120_118.out; have hnc60 := NB118_120.out; have hcz61_0 : w57.cell? ⟨gb120, 0, none⟩ = some (.int .i64 0) := (blk_cell BK120.out 0).trans rfl; have hcz61_1 : w57.cell? ⟨gb120, 1, none⟩ = some (.int .i64 0) := (blk_cell BK120.out 1).trans rfl; have hfz61_0 := blk_frozen BK120.out 0; have hfz61_1 := blk_frozen BK120.out 1; have hnb62 := NB118_111.out; have hnc62 := NB111_118.out; have hnb63 := NB118_117.out; have hnc63 := NB117_118.out; have hcz64_0 : w57.cell? ⟨gb118, 0, none⟩ = some (.int .i64 (wrap64 (((rd_T30 t107 x27_1).f0) + ((rd_T30 y112 x36_2).f0)))) := (blk_cell BK118.out 0).trans rfl; have hcz64_1 : w57.cell? ⟨gb118, 1, none⟩ = some (.int .i64 (wrap64 (((rd_T30 t107 x27_1).f1) + ((rd_T30 y112 x36_2).f1)))) := (blk_cell BK118.out 1).trans rfl; have hfz64_0 := blk_frozen BK118.out 0; have hfz64_1 := blk_frozen BK118.out 1))
                                      go_roundg k3
                                      case measure => have := HK1.out; have := HK2.out; have := HK3.out; omega
                                      case rel => exact ⟨(x9_3), (wrap64 (x76_3 + 1)), (by first | rfl | (simp; done) | (simp [*]; done)), (by first | rfl | (simp; done) | (simp [*]; done)), H', ⟨by have := HK1.out; have := HK2.out; have := HK3.out; omega⟩, ⟨by (with_reducible repeat (first | apply Kd.R_alloc | apply Kd.R_drewN | apply Kd.R_drew)); exact Kd.R_mono (Kd.R_far (p := ⟨gb120, 1, none⟩) (Kd.R_far (p := ⟨gb120, 0, none⟩) (Kd.R_mono HO_6.out (fun k_ hk => (⟨hk, hk.2⟩ : _ ∧ k_ ≠ gb120))) (fun _ hk => hk.2) (.int .i64 ((rd_T30 x7_2 x76_3).f0))) (fun _ hk => hk.2) (.int .i64 ((rd_T30 x7_2 x76_3).f1))) (fun _ hk => ⟨hk.1.1.1, ⟨hk.1.1.2.1, ⟨hk.1.1.2.2.1, ⟨hk.1.1.2.2.2.1, hk.1.1.2.2.2.2⟩⟩⟩⟩)⟩, ⟨by (with_reducible repeat (first | apply Kd.R_alloc | apply Kd.R_drewN | apply Kd.R_drew)); exact Kd.R_mono (Kd.R_far (p := ⟨gb120, 1, none⟩) (Kd.R_far (p := ⟨gb120, 0, none⟩) (Kd.R_mono HO_7.out (fun k_ hk => (⟨hk, hk.2⟩ : _ ∧ k_ ≠ gb120))) (fun _ hk => hk.2) (.int .i64 ((rd_T30 x7_2 x76_3).f0))) (fun _ hk => hk.2) (.int .i64 ((rd_T30 x7_2 x76_3).f1))) (fun _ hk => ⟨hk.1.1.1, ⟨hk.1.1.2.1, ⟨hk.1.1.2.2.1, ⟨hk.1.1.2.2.2.1, hk.1.1.2.2.2.2⟩⟩⟩⟩)⟩, ⟨by (with_reducible repeat (first | apply Kd.R_alloc | apply Kd.R_drewN | apply Kd.R_drew)); exact Kd.R_mono (Kd.R_far (p := ⟨gb120, 1, none⟩) (Kd.R_far (p := ⟨gb120, 0, none⟩) (Kd.R_types HO_8.out BK120.out (by decide)) (fun _ hk => hk.2) (.int .i64 ((rd_T30 x7_2 x76_3).f0))) (fun _ hk => hk.2) (.int .i64 ((rd_T30 x7_2 x76_3).f1))) (fun _ hk => trivial)⟩, ⟨by (with_reducible repeat (first | apply Kd.R_alloc | apply Kd.R_drewN | apply Kd.R_drew)); exact Kd.R_mono (Kd.R_far (p := ⟨gb120, 1, none⟩) (Kd.R_far (p := ⟨gb120, 0, none⟩) (Kd.R_mono HO_25.out (fun k_ hk => (⟨hk, hk.2⟩ : _ ∧ k_ ≠ gb120))) (fun _ hk => hk.2) (.int .i64 ((rd_T30 x7_2 x76_3).f0))) (fun _ hk => hk.2) (.int .i64 ((rd_T30 x7_2 x76_3).f1))) (fun _ hk => ⟨hk.1.1.1, ⟨hk.1.1.2.1, ⟨hk.1.1.2.2.1, ⟨hk.1.1.2.2.2.1, hk.1.1.2.2.2.2⟩⟩⟩⟩)⟩, ⟨by (with_reducible repeat (first | apply Kd.R_alloc | apply Kd.R_drewN | apply Kd.R_drew)); exact Kd.R_mono (Kd.R_far (p := ⟨gb120, 1, none⟩) (Kd.R_far (p := ⟨gb120, 0, none⟩) (Kd.R_mono HO_74.out (fun k_ hk => (⟨hk, hk.2⟩ : _ ∧ k_ ≠ gb120))) (fun _ hk => hk.2) (.int .i64 ((rd_T30 x7_2 x76_3).f0))) (fun _ hk => hk.2) (.int .i64 ((rd_T30 x7_2 x76_3).f1))) (fun _ hk => ⟨hk.1.1.1, ⟨hk.1.1.2.1, ⟨hk.1.1.2.2.1, ⟨hk.1.1.2.2.2.1, hk.1.1.2.2.2.2⟩⟩⟩⟩)⟩, ⟨by (with_reducible repeat (first | refine blk_drewN ?_ _ | refine blk_drew ?_ | refine blk_alloc ?_ _)); refine blk_far ?_ NB111_120.out _; (with_reducible repeat (first | refine blk_drewN ?_ _ | refine blk_drew ?_ | refine blk_alloc ?_ _)); refine blk_far ?_ NB111_120.out _; (with_reducible repeat (first | refine blk_drewN ?_ _ | refine blk_drew ?_ | refine blk_alloc ?_ _)); exact BK111.out⟩, ⟨by (with_reducible repeat (first | refine blk_drewN ?_ _ | refine blk_drew ?_ | refine blk_alloc ?_ _)); refine blk_far ?_ NB117_120.out _; (with_reducible repeat (first | refine blk_drewN ?_ _ | refine blk_drew ?_ | refine blk_alloc ?_ _)); refine blk_far ?_ NB117_120.out _; (with_reducible repeat (first | refine blk_drewN ?_ _ | refine blk_drew ?_ | refine blk_alloc ?_ _)); exact BK117.out⟩, ⟨by (with_reducible repeat (first | refine blk_drewN ?_ _ | refine blk_drew ?_ | refine blk_alloc ?_ _)); refine blk_far ?_ NB118_120.out _; (with_reducible repeat (first | refine blk_drewN ?_ _ | refine blk_drew ?_ | refine blk_alloc ?_ _)); refine blk_far ?_ NB118_120.out _; (with_reducible repeat (first | refine blk_drewN ?_ _ | refine blk_drew ?_ | refine blk_alloc ?_ _)); exact BK118.out⟩, ⟨by skip; exact (show ∀ W_ : World, Kd.C k30 W_ (some ad110) (t107.take (x27_1 : Int).toNat).length (t107.take (x27_1 : Int).toNat) → Kd.C k30 W_ (some ad110) y112.length y112 from fun W_ h_ => by rw [Ny112.out]; exact h_) _ (Kd.C_take (m := (x27_1 : Int).toNat) ((Kd.R_reads' (by (with_reducible repeat (first | apply Kd.R_alloc | apply Kd.R_drewN | apply Kd.R_drew)); exact (Kd.R_mono (Kd.R_far (p := ⟨gb120, 1, none⟩) (Kd.R_far (p := ⟨gb120, 0, none⟩) (Kd.R_mono HO_6.out (fun k_ hk => (⟨hk, hk.2⟩ : _ ∧ k_ ≠ gb120))) (fun _ hk => hk.2) (.int .i64 ((rd_T30 x7_2 x76_3).f0))) (fun _ hk => hk.2) (.int .i64 ((rd_T30 x7_2 x76_3).f1))) (fun _ h_ => h_.1)))).2.2) KL16.out)⟩, ⟨hbg_⟩⟩
                                  · rw [if_neg c35] at H
                                    exact absurd H (by simp)
                                · rw [if_neg c34] at H
                                  exact absurd H (by simp)
                              · rw [if_neg c33] at H
                                have c33b0 : decide (x76_3 < (x7_2.length : Int)) = false := decide_eq_false c33
                                clear c33
                                by_cases c65 : x7_2.length < 8796093022208
                                · rw [if_pos c65] at H
                                  have LMc65 := Aside0.mk c65
                                  clear c65
                                  obtain ⟨y122, hy122⟩ : ∃ y_ : List (S30), y_ = (x7_2 ++ [(⟨(wrap64 (((rd_T30 t107 x27_1).f0) + ((rd_T30 y112 x36_2).f0))), (wrap64 (((rd_T30 t107 x27_1).f1) + ((rd_T30 y112 x36_2).f1)))⟩ : S30)]) := ⟨_, rfl⟩
                                  replace H : (if x8_2.length < 17592186044416 then (spec_CountRectangles.l1 k3 t107 y122 (x8_2 ++ [(wrap64 ((wrap64 ((wrap64 (((rd_T30 t107 x27_1).f0) - ((rd_T30 y112 x36_2).f0))) * (wrap64 (((rd_T30 t107 x27_1).f0) - ((rd_T30 y112 x36_2).f0))))) + (wrap64 ((wrap64 (((rd_T30 t107 x27_1).f1) - ((rd_T30 y112 x36_2).f1))) * (wrap64 (((rd_T30 t107 x27_1).f1) - ((rd_T30 y112 x36_2).f1)))))))]) x9_3 t107 (t107.length : Int) x27_1 y112 (y112.length : Int) (wrap64 (x36_2 + 1)) ((rd_T30 t107 x27_1).f0) ((rd_T30 t107 x27_1).f1)) else (none)) = some (r1, r2) := by first | (rw [hy122]; with_reducible exact H) | (have H2_ := (Option.bind_some _ _).symm.trans H; rw [hy122]; with_reducible exact H2_) | (have H2_ := (Option.bind_some _ _).symm.trans H; with_reducible exact H2_) | with_reducible exact H | (rw [hy122]; exact H) | exact H
                                  have Ny122 := Aside0.mk hy122
                                  clear hy122
                                  by_cases c66 : x8_2.length < 17592186044416
                                  · rw [if_pos c66] at H
                                    have LMc66 := Aside0.mk c66
                                    clear c66
                                    obtain ⟨y125, hy125⟩ : ∃ y_ : List Int, y_ = (x8_2 ++ [(wrap64 ((wrap64 ((wrap64 (((rd_T30 t107 x27_1).f0) - ((rd_T30 y112 x36_2).f0))) * (wrap64 (((rd_T30 t107 x27_1).f0) - ((rd_T30 y112 x36_2).f0))))) + (wrap64 ((wrap64 (((rd_T30 t107 x27_1).f1) - ((rd_T30 y112 x36_2).f1))) * (wrap64 (((rd_T30 t107 x27_1).f1) - ((rd_T30 y112 x36_2).f1)))))))]) := ⟨_, rfl⟩
                                    replace H : (spec_CountRectangles.l1 k3 t107 y122 y125 x9_3 t107 (t107.length : Int) x27_1 y112 (y112.length : Int) (wrap64 (x36_2 + 1)) ((rd_T30 t107 x27_1).f0) ((rd_T30 t107 x27_1).f1)) = some (r1, r2) := by first | (rw [hy125]; with_reducible exact H) | (have H2_ := (Option.bind_some _ _).symm.trans H; rw [hy125]; with_reducible exact H2_) | (have H2_ := (Option.bind_some _ _).symm.trans H; with_reducible exact H2_) | with_reducible exact H | (rw [hy125]; exact H) | exact H
                                    have Ny125 := Aside0.mk hy125
                                    clear hy125
                                    have H' := Aside0.mk H
                                    clear H
                                    have hnb67 := NB118_111.out
                                    have hnc67 := NB111_118.out
                                    have hnb68 := NB118_117.out
                                    have hnc68 := NB117_118.out
                                    have hcz69_0 : wr.cell? ⟨gb118, 0, none⟩ = some (.int .i64 (wrap64 (((rd_T30 t107 x27_1).f0) + ((rd_T30 y112 x36_2).f0)))) := (blk_cell BK118.out 0).trans rfl
                                    have hcz69_1 : wr.cell? ⟨gb118, 1, none⟩ = some (.int .i64 (wrap64 (((rd_T30 t107 x27_1).f1) + ((rd_T30 y112 x36_2).f1)))) := (blk_cell BK118.out 1).trans rfl
                                    have hfz69_0 := blk_frozen BK118.out 0
                                    have hfz69_1 := blk_frozen BK118.out 1
                                    go_wp2_with (first | ((with_reducible refine gate_builtin (b := .append) (xs := #[.tmp 95, .tmp 97]) rfl ?_); at_builtin; refine Kd.R_append k30 (w0 := w) w.heap.size rfl (.tmp 95) (.tmp 97) 33 30 (.agg #[(.int .i64 0), (.int .i64 0)]) 16 rfl Try.underlying33 info30 rfl (by decide) (by omega) (.slice Ao32 x7_2.length co32) x7_2 (⟨(wrap64 (((rd_T30 t107 x27_1).f0) + ((rd_T30 y112 x36_2).f0))), (wrap64 (((rd_T30 t107 x27_1).f1) + ((rd_T30 y112 x36_2).f1)))⟩ : S30) [.int .i64 (wrap64 (((rd_T30 t107 x27_1).f0) + ((rd_T30 y112 x36_2).f0))), .int .i64 (wrap64 (((rd_T30 t107 x27_1).f1) + ((rd_T30 y112 x36_2).f1)))] (fun k_ => some k_ ≠ (.slice (some ad110) t107.length co7 : Value).ownBlock ∧ some k_ ≠ (.slice (some ad110) t107.length co7 : Value).ownBlock ∧ k_ ≠ gb111 ∧ k_ ≠ gb117 ∧ k_ ≠ gb118) (fun _ => False) rfl rfl ?aP (fun _ hk => hk.elim) ?aF ?aO ?aB ?aS ?aL ?_; (case aP => exact k30_mkM _ _ _ (⟨(wrap64 (((rd_T30 t107 x27_1).f0) + ((rd_T30 y112 x36_2).f0))), (wrap64 (((rd_T30 t107 x27_1).f1) + ((rd_T30 y112 x36_2).f1)))⟩ : S30)); (case aB => exact (hbg_)); (case aF => exact (fun k_ hk => ⟨Kd.fresh' (Kd.R_lt (rk_ HO_6.out)) k_ hk, Kd.fresh' (Kd.R_lt (rk_ HO_25.out)) k_ hk, Kd.freshB (g := gb111) (o := .cells #[.int .i64 ((rd_T30 t107 x27_1).f0), .int .i64 ((rd_T30 t107 x27_1).f1)] 30 (0, 0)) (bk_ BK111.out) k_ hk, Kd.freshB (g := gb117) (o := .cells #[.int .i64 ((rd_T30 y112 x36_2).f0), .int .i64 ((rd_T30 y112 x36_2).f1)] 30 (0, 0)) (bk_ BK117.out) k_ hk, Kd.freshB (g := gb118) (o := .cells #[.int .i64 (wrap64 (((rd_T30 t107 x27_1).f0) + ((rd_T30 y112 x36_2).f0))), .int .i64 (wrap64 (((rd_T30 t107 x27_1).f1) + ((rd_T30 y112 x36_2).f1)))] 30 (0, 0)) (bk_ BK118.out) k_ hk⟩)); (case aO => exact (rk_ HO_7.out)); (case aS => exact (below_size (hbg_))); (case aL => have := LMc65.out; omega); intro v123 w70 ho hb hg hat; rw [← Ny122.out] at ho; have n0_ := Aside0.mk (Kd.R_after (ok := (fun k_ => k_ ≠ gb111 ∧ k_ ≠ gb117 ∧ k_ ≠ gb118)) (by (with_reducible repeat (first | apply Kd.R_alloc | apply Kd.R_drewN | apply Kd.R_drew)); exact Kd.R_mono HO_6.out (fun _ hk => ⟨⟨hk.2.2.1, ⟨hk.2.2.2.1, hk.2.2.2.2⟩⟩, hk.1⟩)) hg hat); have n1_ := Aside0.mk (Kd.R_over' (rk_ HO_8.out) (Kd.R_typed (rk_ HO_7.out)) (by decide) hg); have n2_ := Aside0.mk (Kd.R_after (ok := (fun k_ => k_ ≠ gb111 ∧ k_ ≠ gb117 ∧ k_ ≠ gb118)) (by (with_reducible repeat (first | apply Kd.R_alloc | apply Kd.R_drewN | apply Kd.R_drew)); exact Kd.R_mono HO_25.out (fun _ hk => ⟨⟨hk.2.2.1, ⟨hk.2.2.2.1, hk.2.2.2.2⟩⟩, hk.1⟩)) hg hat); have n3_ := Aside0.mk (blk_grown (g := gb111) (o := .cells #[.int .i64 ((rd_T30 t107 x27_1).f0), .int .i64 ((rd_T30 t107 x27_1).f1)] 30 (0, 0)) (bk_ BK111.out) hg (Kd.R_away HO_7.out (fun _ hk => hk.2.2.1))); have n4_ := Aside0.mk (blk_grown (g := gb117) (o := .cells #[.int .i64 ((rd_T30 y112 x36_2).f0), .int .i64 ((rd_T30 y112 x36_2).f1)] 30 (0, 0)) (bk_ BK117.out) hg (Kd.R_away HO_7.out (fun _ hk => hk.2.2.2.1))); have n5_ := Aside0.mk (blk_grown (g := gb118) (o := .cells #[.int .i64 (wrap64 (((rd_T30 t107 x27_1).f0) + ((rd_T30 y112 x36_2).f0))), .int .i64 (wrap64 (((rd_T30 t107 x27_1).f1) + ((rd_T30 y112 x36_2).f1)))] 30 (0, 0)) (bk_ BK118.out) hg (Kd.R_away HO_7.out (fun _ hk => hk.2.2.2.2))); have n6_ := Aside0.mk (hb); have n7_ := Aside0.mk ((show Kd.C k30 w70 (some ad110) y112.length y112 from by rw [Ny112.out]; exact Kd.C_take (m := (x27_1 : Int).toNat) ((Kd.R_reads' (Kd.R_after (ok := (fun k_ => k_ ≠ gb111 ∧ k_ ≠ gb117 ∧ k_ ≠ gb118)) (by (with_reducible repeat (first | apply Kd.R_alloc | apply Kd.R_drewN | apply Kd.R_drew)); exact Kd.R_mono HO_6.out (fun _ hk => ⟨⟨hk.2.2.1, ⟨hk.2.2.2.1, hk.2.2.2.2⟩⟩, hk.1⟩)) hg hat)).2.2) KL16.out)); have n8_ := Aside0.mk (ho); clear HO_6; clear HO_8; clear HO_25; clear BK111; clear BK117; clear BK118; clear HB; clear HR115; clear HO_7; have HO_6 := n0_; have HO_8 := n1_; have HO_25 := n2_; have BK111 := n3_; have BK117 := n4_; have BK118 := n5_; have HB := n6_; have HR115 := n7_; have HO124 := n8_; clear n0_ n1_ n2_ n3_ n4_ n5_ n6_ n7_ n8_; clear ho hb hg hat) | ((with_reducible refine gate_builtin (b := .append) (xs := #[.tmp 99, .tmp 101]) rfl ?_); at_builtin; refine Kd.R_append (Kd.int .i64) (w0 := w) w.heap.size rfl (.tmp 99) (.tmp 101) 42 3 (.int .i64 0) 8 rfl Try.underlying42 info3 rfl (by decide) (by omega) u8 x8_2 (wrap64 ((wrap64 ((wrap64 (((rd_T30 t107 x27_1).f0) - ((rd_T30 y112 x36_2).f0))) * (wrap64 (((rd_T30 t107 x27_1).f0) - ((rd_T30 y112 x36_2).f0))))) + (wrap64 ((wrap64 (((rd_T30 t107 x27_1).f1) - ((rd_T30 y112 x36_2).f1))) * (wrap64 (((rd_T30 t107 x27_1).f1) - ((rd_T30 y112 x36_2).f1))))))) [.int .i64 (wrap64 ((wrap64 ((wrap64 (((rd_T30 t107 x27_1).f0) - ((rd_T30 y112 x36_2).f0))) * (wrap64 (((rd_T30 t107 x27_1).f0) - ((rd_T30 y112 x36_2).f0))))) + (wrap64 ((wrap64 (((rd_T30 t107 x27_1).f1) - ((rd_T30 y112 x36_2).f1))) * (wrap64 (((rd_T30 t107 x27_1).f1) - ((rd_T30 y112 x36_2).f1)))))))] (fun _ => True) (fun _ => False) rfl rfl ?aP (fun _ hk => hk.elim) ?aF ?aO ?aB ?aS ?aL ?_; (case aP => exact rfl); (case aB => exact (hbg_)); (case aF => exact (fun _ _ => trivial)); (case aO => exact (rk_ HO_8.out)); (case aS => exact (below_size (hbg_))); (case aL => have := LMc66.out; omega); intro v126 w71 ho hb hg hat; rw [← Ny125.out] at ho; have n0_ := Aside0.mk (Kd.R_over' (rk_ HO_6.out) (Kd.R_typed (rk_ HO_8.out)) (by decide) hg); have n1_ := Aside0.mk (Kd.R_over' (rk_ HO_25.out) (Kd.R_typed (rk_ HO_8.out)) (by decide) hg); have n2_ := Aside0.mk (blk_grown (g := gb111) (o := .cells #[.int .i64 ((rd_T30 t107 x27_1).f0), .int .i64 ((rd_T30 t107 x27_1).f1)] 30 (0, 0)) (bk_ BK111.out) hg (Kd.R_ne HO_8.out BK111.out (by decide))); have n3_ := Aside0.mk (blk_grown (g := gb117) (o := .cells #[.int .i64 ((rd_T30 y112 x36_2).f0), .int .i64 ((rd_T30 y112 x36_2).f1)] 30 (0, 0)) (bk_ BK117.out) hg (Kd.R_ne HO_8.out BK117.out (by decide))); have n4_ := Aside0.mk (blk_grown (g := gb118) (o := .cells #[.int .i64 (wrap64 (((rd_T30 t107 x27_1).f0) + ((rd_T30 y112 x36_2).f0))), .int .i64 (wrap64 (((rd_T30 t107 x27_1).f1) + ((rd_T30 y112 x36_2).f1)))] 30 (0, 0)) (bk_ BK118.out) hg (Kd.R_ne HO_8.out BK118.out (by decide))); have n5_ := Aside0.mk (Kd.R_over' (rk_ HO124.out) (Kd.R_typed (rk_ HO_8.out)) (by decide) hg); have n6_ := Aside0.mk (hb); have n7_ := Aside0.mk ((show Kd.C k30 w71 (some ad110) y112.length y112 from by rw [Ny112.out]; exact Kd.C_take (m := (x27_1 : Int).toNat) ((Kd.R_reads' (Kd.R_over' (rk_ HO_6.out) (Kd.R_typed (rk_ HO_8.out)) (by decide) hg)).2.2) KL16.out)); have n8_ := Aside0.mk (ho); clear HO_6; clear HO_25; clear BK111; clear BK117; clear BK118; clear HO124; clear HB; clear HR115; clear HO_8; have HO_6 := n0_; have HO_25 := n1_; have BK111 := n2_; have BK117 := n3_; have BK118 := n4_; have HO124 := n5_; have HB := n6_; have HR115 := n7_; have HO127 := n8_; clear n0_ n1_ n2_ n3_ n4_ n5_ n6_ n7_ n8_; clear ho hb hg hat))
                                    go_roundg k3
                                    case measure => have := HK1.out; have := HK2.out; have := HK3.out; omega
                                    case rel => exact ⟨(y122), (y125), (x9_3), (wrap64 (x36_2 + 1)), (by first | rfl | (simp; done) | (simp [*]; done)), (by first | rfl | (simp; done) | (simp [*]; done)), H', ⟨by have := HK1.out; have := HK2.out; have := HK3.out; omega⟩, ⟨by (with_reducible repeat (first | apply Kd.R_alloc | apply Kd.R_drewN | apply Kd.R_drew)); exact Kd.R_mono HO_6.out (fun _ hk => ⟨hk.2, hk.1.1⟩)⟩, ⟨by (with_reducible repeat (first | apply Kd.R_alloc | apply Kd.R_drewN | apply Kd.R_drew)); exact Kd.R_mono HO124.out (fun _ hk => ⟨hk.1, ⟨hk.2.1, hk.2.2.1⟩⟩)⟩, ⟨rk_ HO127.out⟩, ⟨by (with_reducible repeat (first | apply Kd.R_alloc | apply Kd.R_drewN | apply Kd.R_drew)); exact Kd.R_mono HO_25.out (fun _ hk => ⟨hk.2, hk.1.1⟩)⟩, ⟨bk_ BK111.out⟩, ⟨by repeat (first | (with_reducible exact HR115.out) | (with_reducible refine Kd.C_alloc ?_ _) | (with_reducible refine Kd.C_drewN ?_ _) | (with_reducible refine Kd.C_drew ?_) | exact HR115.out)⟩, ⟨hbg_⟩⟩
                                  · rw [if_neg c66] at H
                                    exact absurd H (by simp)
                                · rw [if_neg c65] at H
                                  exact absurd H (by simp)
                        · rw [if_neg c19] at H
                          exact absurd H (by simp)
                      · rw [if_neg c18] at H
                        exact absurd H (by simp)
                    · rw [if_neg c17] at H
                      have c17b0 : decide (x36_2 < (y112.length : Int)) = false := decide_eq_false c17
                      clear c17
                      have H' := Aside0.mk H
                      clear H
                      go_wp2
                      go_roundg k2
                      case measure => have := HK1.out; have := HK2.out; omega
                      case rel => exact ⟨(x7_2), (x8_2), (x9_2), (wrap64 (x27_1 + 1)), (by first | rfl | (simp; done) | (simp [*]; done)), (by first | rfl | (simp; done) | (simp [*]; done)), H', ⟨by have := HK1.out; have := HK2.out; omega⟩, ⟨by (with_reducible repeat (first | apply Kd.R_alloc | apply Kd.R_drewN | apply Kd.R_drew)); exact Kd.R_mono HO_6.out (fun _ hk => hk.1)⟩, ⟨by (with_reducible repeat (first | apply Kd.R_alloc | apply Kd.R_drewN | apply Kd.R_drew)); exact Kd.R_mono HO_7.out (fun _ hk => ⟨hk.1, hk.2.1⟩)⟩, ⟨rk_ HO_8.out⟩, ⟨by (with_reducible repeat (first | apply Kd.R_alloc | apply Kd.R_drewN | apply Kd.R_drew)); exact Kd.R_mono HO_25.out (fun _ hk => hk.1)⟩, ⟨hbg_⟩⟩
              · rw [if_neg c12] at H
                exact absurd H (by simp)
            · rw [if_neg c10] at H
              exact absurd H (by simp)
          · rw [if_neg c9] at H
            exact absurd H (by simp)
        · rw [if_neg c8] at H
          have c8b0 : decide (x27_1 < (t107.length : Int)) = false := decide_eq_false c8
          clear c8
          simp only [Option.some.injEq, Prod.mk.injEq] at H
          obtain ⟨rfl, rfl⟩ := H
          go_wp2
          go_ret2
          exact ⟨by first | rfl | (simp [errW_none, errW_some] <;> rfl) | (simp [*, errW_none, errW_some] <;> rfl), hb_⟩
  · replace c4 := Bool.eq_false_iff.mpr c4
    subst c4
    have H1 : (some (0, false)) = some (r1, r2) := by rw [if_neg (show ¬ (false = true) by decide)] at H; exact H
    clear H
    have H := H1
    clear H1
    simp only [Option.some.injEq, Prod.mk.injEq] at H
    obtain ⟨rfl, rfl⟩ := H
    go_enter Try.func26, Try.ntmps26
    go_wp2_with (first | ((with_reducible refine gate_callee (f := 43) rfl ?_); refine goesL_ (some 20) rfl rfl Try.func43 (by kernel_rfl) rfl #[.int .i64 a0, .int .i64 a1, .int .i64 6] rfl ga_ ?_; (with_reducible refine (spec_ctBoard.calls a0 a1 6 false _ A3.out).mono ?_); rintro e w' ⟨rfl, ⟨nd, rfl⟩⟩; refine ⟨_, rfl, ?_⟩))
    go_ret2
    exact ⟨by first | rfl | (simp [errW_none, errW_some] <;> rfl) | (simp [*, errW_none, errW_some] <;> rfl), hb_⟩

end Go.Proofs.Ytookmifpgclhlaa.MR
