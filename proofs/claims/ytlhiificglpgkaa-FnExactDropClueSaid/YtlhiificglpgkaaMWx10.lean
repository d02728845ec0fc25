-- Written by a program of this session (wip/print/myprint.py) over the kit's printer; Lean checks it.
import Derived.Test.YtlhiificglpgkaaMWx0
import Derived.Test.YtlhiificglpgkaaMWx8
import Derived.Test.YtlhiificglpgkaaMWx9
namespace Go.Proofs.Ytlhiificglpgkaa.MW
open Go.RowKit Go.Proofs.YtlhiificglpgkaaW.PrintWords Go.Proofs.YtlhiificglpgkaaW.PrintLast Go.Proofs.YtlhiificglpgkaaW.PrintMore Go.Proofs.YtlhiificglpgkaaV
attribute [local go_sem] max2_int min2_int max_two min_two max_three min_three max_four min_four   -- for this text's walks alone
set_option linter.unusedVariables false
set_option linter.unusedSimpArgs false

/-! ### impl_IsPuzzle_1: function 54 -/
def impl_IsPuzzle_1.f (k : Nat) (a0_0 : Int) (a0_1 : Int) (a0_2 : Int) (a0_3 : Int) (a1_0 : Int) (l1_1 : List (S39)) : Option (Bool) := (impl_IsClue.f k a1_0 a0_0 a0_1 a0_2 a0_3).bind fun t193 => (some (!t193))
theorem impl_IsPuzzle_1.mono : ∀ a0 a1 a2 a3 a4 a5 k, LeO (impl_IsPuzzle_1.f k a0 a1 a2 a3 a4 a5) (impl_IsPuzzle_1.f (k + 1) a0 a1 a2 a3 a4 a5) := by
  intro a0 a1 a2 a3 a4 a5 k
  unfold impl_IsPuzzle_1.f
  repeat' first
      | (with_reducible exact impl_IsClue.mono _ _ _ _ _ _)
      | (with_reducible exact LeO.refl _)
      | (with_reducible exact LeO.none _)
      | (with_reducible refine LeO.ite ?_ ?_)
      | (with_reducible refine LeO.bind ?_ (fun _ => ?_))
      | exact impl_IsClue.mono _ _ _ _ _ _
      | exact LeO.none _
      | refine LeO.ite ?_ ?_
      | refine LeO.bind ?_ (fun _ => ?_)
set_option maxHeartbeats 8000000 in
set_option maxRecDepth 100000 in
theorem impl_IsPuzzle_1.calls (k : Nat) (a0_0 : Int) (a0_1 : Int) (a0_2 : Int) (a0_3 : Int) (g1_ : Nat) (a1_0 : Int) (A1_1 : Option Addr) (c1_1 : Nat) (l1_1 : List (S39)) (r : Bool) (w : World) (hr1_1 : Kd.C k39 w A1_1 l1_1.length l1_1) (hc1_1 : l1_1.length ≤ c1_1) (hro1 : w.heap[g1_]? = some (.cells #[.int .i64 a1_0, .slice A1_1 l1_1.length c1_1] 29 (0, 0))) (h : impl_IsPuzzle_1.f k a0_0 a0_1 a0_2 a0_3 a1_0 l1_1 = some r) :
    Calls Try.prog 54 #[.agg #[.int .i64 a0_0, .int .i64 a0_1, .int .i64 a0_2, .int .i64 a0_3], .pointer (some ⟨g1_, 0, none⟩)] w fun e w' => e = .returned (.bool r) ∧ Below w.heap.size w w' := by
  have hu39 := Try.underlying39
  have HR1_1 := Aside0.mk hr1_1
  have HC1_1 := Aside0.mk hc1_1
  clear hr1_1 hc1_1
  have BK1 := Aside0.mk hro1
  clear hro1
  have HB := Aside0.mk (Below.refl w.heap.size w)
  have H : ((impl_IsClue.f k a1_0 a0_0 a0_1 a0_2 a0_3).bind fun t193 => (some (!t193))) = some r := h
  clear h
  replace H := Option.bind_eq_some_iff.mp H
  obtain ⟨t193, A30, H⟩ := H
  replace H : (some (!t193)) = some r := H
  have A3 := Aside0.mk A30
  clear A30
  obtain rfl := Option.some.inj H
  go_enter Try.func54, Try.ntmps54
  go_wp2_with (first | ((with_reducible refine gate_dst (N := 2) rfl ?_); refine box_event ?hg (N := 2) ?hd (cs := #[.int .i64 a0_0, .int .i64 a0_1, .int .i64 a0_2, .int .i64 a0_3]) (t := 39) ?hr ?_; (case hd => rfl); (case hg => rfl); (case hr => first | (go_simp; done) | (go_simp; rfl)); intro gb192 hg w4 hbox hb; have n0_ := bb_ BK1 hb; have n1_ := Aside0.mk (below_step (hbg_) hb); have n2_ := Aside0.mk (hbox); have n3_ := Aside0.mk ((by rw [hg]; exact (below_size (hbg_)) : w.heap.size ≤ gb192)); have n4_ := Aside0.mk ((by rw [hg]; exact (below_size (hbg_)) : w.heap.size ≤ gb192)); have n5_ := Aside0.mk ((by rw [hg]; exact Nat.ne_of_lt (blk_lt (bk_ BK1.out)) : g1_ ≠ gb192)); have n6_ := Aside0.mk ((by rw [hg]; exact Nat.ne_of_gt (blk_lt (bk_ BK1.out)) : gb192 ≠ g1_)); clear BK1; clear HB; have BK1 := n0_; have HB := n1_; have BK192 := n2_; have GW192 := n3_; have GE192 := n4_; have NB1_192 := n5_; have NB192_1 := n6_; clear n0_ n1_ n2_ n3_ n4_ n5_ n6_; clear hb hbox hg; have hnb5 := NB1_192.out; have hnc5 := NB192_1.out; have hcz6_0 : w4.cell? ⟨g1_, 0, none⟩ = some (.int .i64 a1_0) := (blk_cell BK1.out 0).trans rfl; have hcz6_1 : w4.cell? ⟨g1_, 1, none⟩ = some (.slice A1_1 l1_1.length c1_1) := (blk_cell BK1.out 1).trans rfl; have hfz6_0 := blk_frozen BK1.out 0; have hfz6_1 := blk_frozen BK1.out 1; have hcz7_0 : w4.cell? ⟨gb192, 0, none⟩ = some (.int .i64 a0_0) := (blk_cell BK192.out 0).trans rfl; have hcz7_1 : w4.cell? ⟨gb192, 1, none⟩ = some (.int .i64 a0_1) := (blk_cell BK192.out 1).trans rfl; have hcz7_2 : w4.cell? ⟨gb192, 2, none⟩ = some (.int .i64 a0_2) := (blk_cell BK192.out 2).trans rfl; have hcz7_3 : w4.cell? ⟨gb192, 3, none⟩ = some (.int .i64 a0_3) := (blk_cell BK192.out 3).trans rfl; have hfz7_0 := blk_frozen BK192.out 0; have hfz7_1 := blk_frozen BK192.out 1; have hfz7_2 := blk_frozen BK192.out 2; have hfz7_3 := blk_frozen BK192.out 3) | ((with_reducible refine gate_callee (f := 55) rfl ?_); refine goesL_ (some 7) rfl rfl Try.func55 (by kernel_rfl) rfl #[.int .i64 a1_0, .agg #[.int .i64 a0_0, .int .i64 a0_1, .int .i64 a0_2, .int .i64 a0_3]] rfl ga_ ?_; (with_reducible refine (impl_IsClue.calls k a1_0 a0_0 a0_1 a0_2 a0_3 t193 _ A3.out).mono ?_); rintro e w8 ⟨rfl, hb⟩; refine ⟨_, rfl, ?_⟩; have n0_ := bb_ BK1 hb; have n1_ := bb_ BK192 hb; have n2_ := Aside0.mk (below_step (hbg_) hb); clear BK1; clear BK192; clear HB; have BK1 := n0_; have BK192 := n1_; have HB := n2_; clear n0_ n1_ n2_; (try clear hb); (try clear hb2); (try clear hk); (try clear hi)))
  go_ret
  exact ⟨by first | rfl | (simp [errW_none, errW_some] <;> rfl) | (simp [*, errW_none, errW_some] <;> rfl), hbg_⟩

/-! ### slices_IndexFunc_impl_Clue_impl_Clue: function 88 -/
def slices_IndexFunc_impl_Clue_impl_Clue.l0 : Nat → List (S39) → Int → Int → Int → List (S39) → Option (Int)
  | 0, _, _, _, _, _ => none
  | k + 1, x0, x7, x8, x3000, x3001 => if x8 < x7 then (if 0 ≤ x8 then (if x8 < (x0.length : Int) then ((impl_IsPuzzle_1.f k ((rd_T39 x0 x8).f0) ((rd_T39 x0 x8).f1) ((rd_T39 x0 x8).f2) ((rd_T39 x0 x8).f3) x3000 x3001).bind fun t195 => (if t195 = true then (some x8) else (slices_IndexFunc_impl_Clue_impl_Clue.l0 k x0 x7 (wrap64 (x8 + 1)) x3000 x3001))) else (none)) else (none)) else (some (-1))
def slices_IndexFunc_impl_Clue_impl_Clue.f (k : Nat) (l0 : List (S39))  (a2_0 : Int) (l2_1 : List (S39)) : Option (Int) := slices_IndexFunc_impl_Clue_impl_Clue.l0 k l0 (l0.length : Int) 0 a2_0 l2_1
theorem slices_IndexFunc_impl_Clue_impl_Clue.mono_l : ∀ k, (∀ y0 y1 y2 y3 y4, LeO (slices_IndexFunc_impl_Clue_impl_Clue.l0 k y0 y1 y2 y3 y4) (slices_IndexFunc_impl_Clue_impl_Clue.l0 (k + 1) y0 y1 y2 y3 y4))
  | 0 => fun _ _ _ _ _ r h => by simp [slices_IndexFunc_impl_Clue_impl_Clue.l0] at h
  | k + 1 => by
    have ih0 := slices_IndexFunc_impl_Clue_impl_Clue.mono_l k
    · intro y0 y1 y2 y3 y4
      unfold slices_IndexFunc_impl_Clue_impl_Clue.l0
      repeat' first
      | (with_reducible exact ih0 _ _ _ _ _)
      | (with_reducible exact impl_IsPuzzle_1.mono _ _ _ _ _ _ _)
      | (with_reducible exact LeO.refl _)
      | (with_reducible exact LeO.none _)
      | (with_reducible refine LeO.ite ?_ ?_)
      | (with_reducible refine LeO.bind ?_ (fun _ => ?_))
      | exact ih0 _ _ _ _ _
      | exact impl_IsPuzzle_1.mono _ _ _ _ _ _ _
      | exact LeO.none _
      | refine LeO.ite ?_ ?_
      | refine LeO.bind ?_ (fun _ => ?_)
theorem slices_IndexFunc_impl_Clue_impl_Clue.mono : ∀ a0 a1 a2 k, LeO (slices_IndexFunc_impl_Clue_impl_Clue.f k a0 a1 a2) (slices_IndexFunc_impl_Clue_impl_Clue.f (k + 1) a0 a1 a2) := by
  intro a0 a1 a2 k
  have ih0 := slices_IndexFunc_impl_Clue_impl_Clue.mono_l k
  unfold slices_IndexFunc_impl_Clue_impl_Clue.f
  repeat' first
      | (with_reducible exact ih0 _ _ _ _ _)
      | (with_reducible exact impl_IsPuzzle_1.mono _ _ _ _ _ _ _)
      | (with_reducible exact LeO.refl _)
      | (with_reducible exact LeO.none _)
      | (with_reducible refine LeO.ite ?_ ?_)
      | (with_reducible refine LeO.bind ?_ (fun _ => ?_))
      | exact ih0 _ _ _ _ _
      | exact impl_IsPuzzle_1.mono _ _ _ _ _ _ _
      | exact LeO.none _
      | refine LeO.ite ?_ ?_
      | refine LeO.bind ?_ (fun _ => ?_)
set_option maxHeartbeats 8000000 in
set_option maxRecDepth 100000 in
theorem slices_IndexFunc_impl_Clue_impl_Clue.calls (k : Nat) (A0 : Option Addr) (c0 : Nat) (l0 : List (S39))  (g2_ : Nat) (a2_0 : Int) (A2_1 : Option Addr) (c2_1 : Nat) (l2_1 : List (S39)) (r : Int) (w : World) (hr0 : Kd.C k39 w A0 l0.length l0) (hc0 : l0.length ≤ c0) (hr2_1 : Kd.C k39 w A2_1 l2_1.length l2_1) (hc2_1 : l2_1.length ≤ c2_1) (hro2 : w.heap[g2_]? = some (.cells #[.int .i64 a2_0, .slice A2_1 l2_1.length c2_1] 29 (0, 0))) (h : slices_IndexFunc_impl_Clue_impl_Clue.f k l0 a2_0 l2_1 = some r) :
    Calls Try.prog 88 #[.slice A0 l0.length c0, .func (.func 54) #[] #[.pointer (some ⟨g2_, 0, none⟩)]] w fun e w' => e = .returned (.int .i64 r) ∧ Below w.heap.size w w' := by
  have hu39 := Try.underlying39
  have HR0 := Aside0.mk hr0
  have HC0 := Aside0.mk hc0
  clear hr0 hc0
  have HR2_1 := Aside0.mk hr2_1
  have HC2_1 := Aside0.mk hc2_1
  clear hr2_1 hc2_1
  have BK2 := Aside0.mk hro2
  clear hro2
  have HB := Aside0.mk (Below.refl w.heap.size w)
  have H : (slices_IndexFunc_impl_Clue_impl_Clue.l0 k l0 (l0.length : Int) 0 a2_0 l2_1) = some r := h
  clear h
  have H' := Aside0.mk H
  clear H
  go_enter Try.func88, Try.ntmps88
  go_wp2
  go_loopg [8] k (fun kq v8 w' => ∃ (x8_1 : Int), v8 = .int .i64 x8_1 ∧ Aside0 (slices_IndexFunc_impl_Clue_impl_Clue.l0 kq l0 (l0.length : Int) x8_1 a2_0 l2_1 = some r) ∧ Aside0 (kq ≤ k) ∧ Aside0 (w'.heap[g2_]? = some (.cells #[.int .i64 a2_0, (.slice A2_1 l2_1.length c2_1)] 29 (0, 0))) ∧ Aside0 (Below w.heap.size w w'))
  case atStart => exact ⟨(0), (by first | rfl | (simp; done) | (simp [*]; done)), H', ⟨Nat.le_refl _⟩, ⟨bk_ BK2.out⟩, ⟨hbg_⟩⟩
  case round =>
    clear H'
    try clear c2
    try clear p2
    obtain ⟨x8_1, rfl, HA, HK1, BK2, HB⟩ := hrel
    cases gk with
    | zero => exact absurd HA.out (by simp [slices_IndexFunc_impl_Clue_impl_Clue.l0])
    | succ k1 =>
      have H := HA.out
      clear HA
      simp only [slices_IndexFunc_impl_Clue_impl_Clue.l0] at H
      by_cases c4 : x8_1 < (l0.length : Int)
      · rw [if_pos c4] at H
        have c4b0 : decide (x8_1 < (l0.length : Int)) = true := decide_eq_true c4
        clear c4
        by_cases c5 : 0 ≤ x8_1
        · rw [if_pos c5] at H
          have c5b0 : decide (0 ≤ x8_1) = true := decide_eq_true c5
          clear c5
          by_cases c6 : x8_1 < (l0.length : Int)
          · rw [if_pos c6] at H
            have c6b0 : decide (x8_1 < (l0.length : Int)) = true := decide_eq_true c6
            clear c6
            replace H := Option.bind_eq_some_iff.mp H
            obtain ⟨t195, A70, H⟩ := H
            replace H : (if t195 = true then (some x8_1) else (slices_IndexFunc_impl_Clue_impl_Clue.l0 k1 l0 (l0.length : Int) (wrap64 (x8_1 + 1)) a2_0 l2_1)) = some r := H
            have A7 := Aside0.mk A70
            clear A70
            by_cases c8 : t195 = true
            · subst c8
              have H1 : (some x8_1) = some r := by rw [if_pos rfl] at H; exact H
              clear H
              have H := H1
              clear H1
              obtain rfl := Option.some.inj H
              have p194 : 0 ≤ (x8_1 : Int) := odt_
              have q194 : x8_1 < (l0.length : Int) := odt_
              obtain ⟨ad194, e194, hx194_0, hx194_1, hx194_2, hx194_3⟩ := at_T39 HR0.out x8_1 p194 q194
              cases e194
              replace hx194_0 := (HB.out.cell (World.block_lt_of_cell? w _ hx194_0)).trans hx194_0
              replace hx194_1 := (HB.out.cell (World.block_lt_of_cell? w _ hx194_1)).trans hx194_1
              replace hx194_2 := (HB.out.cell (World.block_lt_of_cell? w _ hx194_2)).trans hx194_2
              replace hx194_3 := (HB.out.cell (World.block_lt_of_cell? w _ hx194_3)).trans hx194_3
              replace p194 := eq_true p194
              replace q194 := eq_true q194
              go_wp2_with (first | ((with_reducible refine gate_via (s := 11) rfl ?_); refine goesD_ (some 16) rfl rfl (f := 54) Try.func54 (by kernel_rfl) rfl #[.agg #[.int .i64 ((rd_T39 l0 x8_1).f0), .int .i64 ((rd_T39 l0 x8_1).f1), .int .i64 ((rd_T39 l0 x8_1).f2), .int .i64 ((rd_T39 l0 x8_1).f3)]] #[.pointer (some ⟨g2_, 0, none⟩)] #[.agg #[.int .i64 ((rd_T39 l0 x8_1).f0), .int .i64 ((rd_T39 l0 x8_1).f1), .int .i64 ((rd_T39 l0 x8_1).f2), .int .i64 ((rd_T39 l0 x8_1).f3)], .pointer (some ⟨g2_, 0, none⟩)] rfl rfl rfl (by (try simp only [List.map_toArray, List.map_cons, List.map_nil]); first | done | rfl) ?_; (with_reducible refine (impl_IsPuzzle_1.calls k1 ((rd_T39 l0 x8_1).f0) ((rd_T39 l0 x8_1).f1) ((rd_T39 l0 x8_1).f2) ((rd_T39 l0 x8_1).f3) g2_ a2_0 A2_1 c2_1 l2_1 true _ ?side1 ?side2 ?side3 A7.out).mono ?_); (case side1 => repeat (first | exact (Kd.C_below HR2_1.out HB.out) | (with_reducible refine Kd.C_alloc ?_ _) | (with_reducible refine Kd.C_drewN ?_ _) | (with_reducible refine Kd.C_drew ?_))); (case side2 => exact HC2_1.out); (case side3 => exact (bk_ BK2.out)); rintro e w9 ⟨rfl, hb⟩; refine ⟨_, rfl, ?_⟩; have n0_ := bb_ BK2 hb; have n1_ := Aside0.mk (below_step (hbg_) hb); clear BK2; clear HB; have BK2 := n0_; have HB := n1_; clear n0_ n1_; (try clear hb); (try clear hb2); (try clear hk); (try clear hi)))
              go_ret
              exact ⟨by first | rfl | (simp [errW_none, errW_some] <;> rfl) | (simp [*, errW_none, errW_some] <;> rfl), hbg_⟩
            · replace c8 := Bool.eq_false_iff.mpr c8
              subst c8
              have H1 : (slices_IndexFunc_impl_Clue_impl_Clue.l0 k1 l0 (l0.length : Int) (wrap64 (x8_1 + 1)) a2_0 l2_1) = some r := by rw [if_neg (show ¬ (false = true) by decide)] at H; exact H
              clear H
              have H := H1
              clear H1
              have H' := Aside0.mk H
              clear H
              have p194 : 0 ≤ (x8_1 : Int) := odt_
              have q194 : x8_1 < (l0.length : Int) := odt_
              obtain ⟨ad194, e194, hx194_0, hx194_1, hx194_2, hx194_3⟩ := at_T39 HR0.out x8_1 p194 q194
              cases e194
              replace hx194_0 := (HB.out.cell (World.block_lt_of_cell? w _ hx194_0)).trans hx194_0
              replace hx194_1 := (HB.out.cell (World.block_lt_of_cell? w _ hx194_1)).trans hx194_1
              replace hx194_2 := (HB.out.cell (World.block_lt_of_cell? w _ hx194_2)).trans hx194_2
              replace hx194_3 := (HB.out.cell (World.block_lt_of_cell? w _ hx194_3)).trans hx194_3
              replace p194 := eq_true p194
              replace q194 := eq_true q194
              go_wp2_with (first | ((with_reducible refine gate_via (s := 11) rfl ?_); refine goesD_ (some 16) rfl rfl (f := 54) Try.func54 (by kernel_rfl) rfl #[.agg #[.int .i64 ((rd_T39 l0 x8_1).f0), .int .i64 ((rd_T39 l0 x8_1).f1), .int .i64 ((rd_T39 l0 x8_1).f2), .int .i64 ((rd_T39 l0 x8_1).f3)]] #[.pointer (some ⟨g2_, 0, none⟩)] #[.agg #[.int .i64 ((rd_T39 l0 x8_1).f0), .int .i64 ((rd_T39 l0 x8_1).f1), .int .i64 ((rd_T39 l0 x8_1).f2), .int .i64 ((rd_T39 l0 x8_1).f3)], .pointer (some ⟨g2_, 0, none⟩)] rfl rfl rfl (by (try simp only [List.map_toArray, List.map_cons, List.map_nil]); first | done | rfl) ?_; (with_reducible refine (impl_IsPuzzle_1.calls k1 ((rd_T39 l0 x8_1).f0) ((rd_T39 l0 x8_1).f1) ((rd_T39 l0 x8_1).f2) ((rd_T39 l0 x8_1).f3) g2_ a2_0 A2_1 c2_1 l2_1 false _ ?side1 ?side2 ?side3 A7.out).mono ?_); (case side1 => repeat (first | exact (Kd.C_below HR2_1.out HB.out) | (with_reducible refine Kd.C_alloc ?_ _) | (with_reducible refine Kd.C_drewN ?_ _) | (with_reducible refine Kd.C_drew ?_))); (case side2 => exact HC2_1.out); (case side3 => exact (bk_ BK2.out)); rintro e w10 ⟨rfl, hb⟩; refine ⟨_, rfl, ?_⟩; have n0_ := bb_ BK2 hb; have n1_ := Aside0.mk (below_step (hbg_) hb); clear BK2; clear HB; have BK2 := n0_; have HB := n1_; clear n0_ n1_; (try clear hb); (try clear hb2); (try clear hk); (try clear hi)))
              go_roundg k1
              case measure => have := HK1.out; omega
              case rel => exact ⟨(wrap64 (x8_1 + 1)), (by first | rfl | (simp; done) | (simp [*]; done)), H', ⟨by have := HK1.out; omega⟩, ⟨bk_ BK2.out⟩, ⟨hbg_⟩⟩
          · rw [if_neg c6] at H
            exact absurd H (by simp)
        · rw [if_neg c5] at H
          exact absurd H (by simp)
      · rw [if_neg c4] at H
        have c4b0 : decide (x8_1 < (l0.length : Int)) = false := decide_eq_false c4
        clear c4
        obtain rfl := Option.some.inj H
        go_wp2
        go_ret
        exact ⟨by first | rfl | (simp [errW_none, errW_some] <;> rfl) | (simp [*, errW_none, errW_some] <;> rfl), hbg_⟩

/-! ### slices_ContainsFunc_impl_Clue_impl_Clue: function 53 -/
def slices_ContainsFunc_impl_Clue_impl_Clue.f (k : Nat) (l0 : List (S39))  (a2_0 : Int) (l2_1 : List (S39)) : Option (Bool) := (slices_IndexFunc_impl_Clue_impl_Clue.f k l0 a2_0 l2_1).bind fun t196 => (some (decide (t196 ≥ 0)))
theorem slices_ContainsFunc_impl_Clue_impl_Clue.mono : ∀ a0 a1 a2 k, LeO (slices_ContainsFunc_impl_Clue_impl_Clue.f k a0 a1 a2) (slices_ContainsFunc_impl_Clue_impl_Clue.f (k + 1) a0 a1 a2) := by
  intro a0 a1 a2 k
  unfold slices_ContainsFunc_impl_Clue_impl_Clue.f
  repeat' first
      | (with_reducible exact slices_IndexFunc_impl_Clue_impl_Clue.mono _ _ _ _)
      | (with_reducible exact LeO.refl _)
      | (with_reducible exact LeO.none _)
      | (with_reducible refine LeO.ite ?_ ?_)
      | (with_reducible refine LeO.bind ?_ (fun _ => ?_))
      | exact slices_IndexFunc_impl_Clue_impl_Clue.mono _ _ _ _
      | exact LeO.none _
      | refine LeO.ite ?_ ?_
      | refine LeO.bind ?_ (fun _ => ?_)
set_option maxHeartbeats 8000000 in
set_option maxRecDepth 100000 in
theorem slices_ContainsFunc_impl_Clue_impl_Clue.calls (k : Nat) (A0 : Option Addr) (c0 : Nat) (l0 : List (S39))  (g2_ : Nat) (a2_0 : Int) (A2_1 : Option Addr) (c2_1 : Nat) (l2_1 : List (S39)) (r : Bool) (w : World) (hr0 : Kd.C k39 w A0 l0.length l0) (hc0 : l0.length ≤ c0) (hr2_1 : Kd.C k39 w A2_1 l2_1.length l2_1) (hc2_1 : l2_1.length ≤ c2_1) (hro2 : w.heap[g2_]? = some (.cells #[.int .i64 a2_0, .slice A2_1 l2_1.length c2_1] 29 (0, 0))) (h : slices_ContainsFunc_impl_Clue_impl_Clue.f k l0 a2_0 l2_1 = some r) :
    Calls Try.prog 53 #[.slice A0 l0.length c0, .func (.func 54) #[] #[.pointer (some ⟨g2_, 0, none⟩)]] w fun e w' => e = .returned (.bool r) ∧ Below w.heap.size w w' := by
  have HR0 := Aside0.mk hr0
  have HC0 := Aside0.mk hc0
  clear hr0 hc0
  have HR2_1 := Aside0.mk hr2_1
  have HC2_1 := Aside0.mk hc2_1
  clear hr2_1 hc2_1
  have BK2 := Aside0.mk hro2
  clear hro2
  have HB := Aside0.mk (Below.refl w.heap.size w)
  have H : ((slices_IndexFunc_impl_Clue_impl_Clue.f k l0 a2_0 l2_1).bind fun t196 => (some (decide (t196 ≥ 0)))) = some r := h
  clear h
  replace H := Option.bind_eq_some_iff.mp H
  obtain ⟨t196, A40, H⟩ := H
  replace H : (some (decide (t196 ≥ 0))) = some r := H
  have A4 := Aside0.mk A40
  clear A40
  obtain rfl := Option.some.inj H
  go_enter Try.func53, Try.ntmps53
  go_wp2_with (first | ((with_reducible refine gate_callee (f := 88) rfl ?_); refine goesL_ (some 7) rfl rfl Try.func88 (by kernel_rfl) rfl #[.slice A0 l0.length c0, .func (.func 54) #[] #[.pointer (some ⟨g2_, 0, none⟩)]] rfl ga_ ?_; (with_reducible refine (slices_IndexFunc_impl_Clue_impl_Clue.calls k _ _ l0  g2_ a2_0 A2_1 c2_1 l2_1 t196 _ ?side1 ?side2 ?side3 ?side4 ?side5 A4.out).mono ?_); (case side1 => repeat (first | exact HR0.out | (with_reducible refine Kd.C_alloc ?_ _) | (with_reducible refine Kd.C_drewN ?_ _) | (with_reducible refine Kd.C_drew ?_))); (case side2 => exact HC0.out); (case side3 => repeat (first | exact HR2_1.out | (with_reducible refine Kd.C_alloc ?_ _) | (with_reducible refine Kd.C_drewN ?_ _) | (with_reducible refine Kd.C_drew ?_))); (case side4 => exact HC2_1.out); (case side5 => exact (bk_ BK2.out)); rintro e w5 ⟨rfl, hb⟩; refine ⟨_, rfl, ?_⟩; have n0_ := bb_ BK2 hb; have n1_ := Aside0.mk (below_step (hbg_) hb); clear BK2; clear HB; have BK2 := n0_; have HB := n1_; clear n0_ n1_; (try clear hb); (try clear hb2); (try clear hk); (try clear hi)))
  go_ret
  exact ⟨by first | rfl | (simp [errW_none, errW_some] <;> rfl) | (simp [*, errW_none, errW_some] <;> rfl), hbg_⟩

/-! ### impl_IsPuzzle: function 18 -/
def impl_IsPuzzle.f (k : Nat) (a0_0 : Int) (l0_1 : List (S39)) : Option (Bool) := (impl_isSide.f a0_0).bind fun t198 => (if t198 = true then (if (l0_1.length : Int) ≤ 6 then ((slices_ContainsFunc_impl_Clue_impl_Clue.f k l0_1 a0_0 l0_1).bind fun t199 => (some (!t199))) else (some false)) else (some false))
theorem impl_IsPuzzle.mono : ∀ a0 a1 k, LeO (impl_IsPuzzle.f k a0 a1) (impl_IsPuzzle.f (k + 1) a0 a1) := by
  intro a0 a1 k
  unfold impl_IsPuzzle.f
  repeat' first
      | (with_reducible exact slices_ContainsFunc_impl_Clue_impl_Clue.mono _ _ _ _)
      | (with_reducible exact LeO.refl _)
      | (with_reducible exact LeO.none _)
      | (with_reducible refine LeO.ite ?_ ?_)
      | (with_reducible refine LeO.bind ?_ (fun _ => ?_))
      | exact slices_ContainsFunc_impl_Clue_impl_Clue.mono _ _ _ _
      | exact LeO.none _
      | refine LeO.ite ?_ ?_
      | refine LeO.bind ?_ (fun _ => ?_)
set_option maxHeartbeats 8000000 in
set_option maxRecDepth 100000 in
theorem impl_IsPuzzle.calls (k : Nat) (a0_0 : Int) (A0_1 : Option Addr) (c0_1 : Nat) (l0_1 : List (S39)) (r : Bool) (w : World) (hr0_1 : Kd.C k39 w A0_1 l0_1.length l0_1) (hc0_1 : l0_1.length ≤ c0_1) (h : impl_IsPuzzle.f k a0_0 l0_1 = some r) :
    Calls Try.prog 18 #[.agg #[.int .i64 a0_0, .slice A0_1 l0_1.length c0_1]] w fun e w' => e = .returned (.bool r) ∧ Below w.heap.size w w' := by
  have hu29 := Try.underlying29
  have HR0_1 := Aside0.mk hr0_1
  have HC0_1 := Aside0.mk hc0_1
  clear hr0_1 hc0_1
  have HB := Aside0.mk (Below.refl w.heap.size w)
  have H : ((impl_isSide.f a0_0).bind fun t198 => (if t198 = true then (if (l0_1.length : Int) ≤ 6 then ((slices_ContainsFunc_impl_Clue_impl_Clue.f k l0_1 a0_0 l0_1).bind fun t199 => (some (!t199))) else (some false)) else (some false))) = some r := h
  clear h
  replace H := Option.bind_eq_some_iff.mp H
  obtain ⟨t198, A20, H⟩ := H
  replace H : (if t198 = true then (if (l0_1.length : Int) ≤ 6 then ((slices_ContainsFunc_impl_Clue_impl_Clue.f k l0_1 a0_0 l0_1).bind fun t199 => (some (!t199))) else (some false)) else (some false)) = some r := H
  have A2 := Aside0.mk A20
  clear A20
  by_cases c3 : t198 = true
  · subst c3
    have H1 : (if (l0_1.length : Int) ≤ 6 then ((slices_ContainsFunc_impl_Clue_impl_Clue.f k l0_1 a0_0 l0_1).bind fun t199 => (some (!t199))) else (some false)) = some r := by rw [if_pos rfl] at H; exact H
    clear H
    have H := H1
    clear H1
    by_cases c4 : (l0_1.length : Int) ≤ 6
    · rw [if_pos c4] at H
      have c4b0 : decide ((l0_1.length : Int) ≤ 6) = true := decide_eq_true c4
      have c4b1 : decide (l0_1.length ≤ 6) = true := decide_eq_true (by omega)
      clear c4
      replace H := Option.bind_eq_some_iff.mp H
      obtain ⟨t199, A50, H⟩ := H
      replace H : (some (!t199)) = some r := H
      have A5 := Aside0.mk A50
      clear A50
      obtain rfl := Option.some.inj H
      go_enter Try.func18, Try.ntmps18
      go_wp2_with (first | ((with_reducible refine gate_dst (N := 1) rfl ?_); (try (refine gate_guard (by rfl) ?_; dsimp only)); refine box_event ?hg (N := 1) ?hd (cs := #[.int .i64 a0_0, .slice A0_1 l0_1.length c0_1]) (t := 29) ?hr ?_; (case hd => rfl); (case hg => rfl); (case hr => first | (go_simp; done) | (go_simp; rfl)); intro gb197 hg w6 hbox hb; have n0_ := Aside0.mk (below_step (hb_) hb); have n1_ := Aside0.mk (hbox); have n2_ := Aside0.mk ((by rw [hg]; exact (below_size (hb_)) : w.heap.size ≤ gb197)); have n3_ := Aside0.mk ((by rw [hg]; exact (below_size (hb_)) : w.heap.size ≤ gb197)); clear HB; have HB := n0_; have BK197 := n1_; have GW197 := n2_; have GE197 := n3_; clear n0_ n1_ n2_ n3_; clear hb hbox hg; have hcz7_0 : w6.cell? ⟨gb197, 0, none⟩ = some (.int .i64 a0_0) := (blk_cell BK197.out 0).trans rfl; have hcz7_1 : w6.cell? ⟨gb197, 1, none⟩ = some (.slice A0_1 l0_1.length c0_1) := (blk_cell BK197.out 1).trans rfl; have hfz7_0 := blk_frozen BK197.out 0; have hfz7_1 := blk_frozen BK197.out 1) | ((with_reducible refine gate_callee (f := 52) rfl ?_); refine goesL_ (some 5) rfl rfl Try.func52 (by kernel_rfl) rfl #[.int .i64 a0_0] rfl ga_ ?_; (with_reducible refine (impl_isSide.calls a0_0 true _ A2.out).mono ?_); rintro e w' ⟨rfl, ⟨nd, rfl⟩⟩; refine ⟨_, rfl, ?_⟩) | (go_at_call 53; (with_reducible refine (slices_ContainsFunc_impl_Clue_impl_Clue.calls k _ _ l0_1  gb197 a0_0 A0_1 c0_1 l0_1 t199 _ ?side1 ?side2 ?side3 ?side4 ?side5 A5.out).mono ?_); (case side1 => repeat (first | exact (Kd.C_below HR0_1.out (hbg_)) | (with_reducible refine Kd.C_alloc ?_ _) | (with_reducible refine Kd.C_drewN ?_ _) | (with_reducible refine Kd.C_drew ?_))); (case side2 => exact HC0_1.out); (case side3 => repeat (first | exact (Kd.C_below HR0_1.out (hbg_)) | (with_reducible refine Kd.C_alloc ?_ _) | (with_reducible refine Kd.C_drewN ?_ _) | (with_reducible refine Kd.C_drew ?_))); (case side4 => exact HC0_1.out); (case side5 => exact (bk_ BK197.out)); rintro e w8 ⟨rfl, hb⟩; have n0_ := bb_ BK197 hb; have n1_ := Aside0.mk (below_step (hbg_) hb); clear BK197; clear HB; have BK197 := n0_; have HB := n1_; clear n0_ n1_; (try clear hb); (try clear hb2); (try clear hk); (try clear hi)))
      go_ret
      exact ⟨by first | rfl | (simp [errW_none, errW_some] <;> rfl) | (simp [*, errW_none, errW_some] <;> rfl), hbg_⟩
    · rw [if_neg c4] at H
      have c4b0 : decide ((l0_1.length : Int) ≤ 6) = false := decide_eq_false c4
      have c4b1 : decide (l0_1.length ≤ 6) = false := decide_eq_false (by omega)
      clear c4
      obtain rfl := Option.some.inj H
      go_enter Try.func18, Try.ntmps18
      go_wp2_with (first | ((with_reducible refine gate_dst (N := 1) rfl ?_); (try (refine gate_guard (by rfl) ?_; dsimp only)); refine box_event ?hg (N := 1) ?hd (cs := #[.int .i64 a0_0, .slice A0_1 l0_1.length c0_1]) (t := 29) ?hr ?_; (case hd => rfl); (case hg => rfl); (case hr => first | (go_simp; done) | (go_simp; rfl)); intro gb197 hg w9 hbox hb; have n0_ := Aside0.mk (below_step (hb_) hb); have n1_ := Aside0.mk (hbox); have n2_ := Aside0.mk ((by rw [hg]; exact (below_size (hb_)) : w.heap.size ≤ gb197)); have n3_ := Aside0.mk ((by rw [hg]; exact (below_size (hb_)) : w.heap.size ≤ gb197)); clear HB; have HB := n0_; have BK197 := n1_; have GW197 := n2_; have GE197 := n3_; clear n0_ n1_ n2_ n3_; clear hb hbox hg; have hcz10_0 : w9.cell? ⟨gb197, 0, none⟩ = some (.int .i64 a0_0) := (blk_cell BK197.out 0).trans rfl; have hcz10_1 : w9.cell? ⟨gb197, 1, none⟩ = some (.slice A0_1 l0_1.length c0_1) := (blk_cell BK197.out 1).trans rfl; have hfz10_0 := blk_frozen BK197.out 0; have hfz10_1 := blk_frozen BK197.out 1) | ((with_reducible refine gate_callee (f := 52) rfl ?_); refine goesL_ (some 5) rfl rfl Try.func52 (by kernel_rfl) rfl #[.int .i64 a0_0] rfl ga_ ?_; (with_reducible refine (impl_isSide.calls a0_0 true _ A2.out).mono ?_); rintro e w' ⟨rfl, ⟨nd, rfl⟩⟩; refine ⟨_, rfl, ?_⟩))
      go_ret
      exact ⟨by first | rfl | (simp [errW_none, errW_some] <;> rfl) | (simp [*, errW_none, errW_some] <;> rfl), hbg_⟩
  · replace c3 := Bool.eq_false_iff.mpr c3
    subst c3
    have H1 : (some false) = some r := by rw [if_neg (show ¬ (false = true) by decide)] at H; exact H
    clear H
    have H := H1
    clear H1
    obtain rfl := Option.some.inj H
    go_enter Try.func18, Try.ntmps18
    go_wp2_with (first | ((with_reducible refine gate_dst (N := 1) rfl ?_); (try (refine gate_guard (by rfl) ?_; dsimp only)); refine box_event ?hg (N := 1) ?hd (cs := #[.int .i64 a0_0, .slice A0_1 l0_1.length c0_1]) (t := 29) ?hr ?_; (case hd => rfl); (case hg => rfl); (case hr => first | (go_simp; done) | (go_simp; rfl)); intro gb197 hg w11 hbox hb; have n0_ := Aside0.mk (below_step (hb_) hb); have n1_ := Aside0.mk (hbox); have n2_ := Aside0.mk ((by rw [hg]; exact (below_size (hb_)) : w.heap.size ≤ gb197)); have n3_ := Aside0.mk ((by rw [hg]; exact (below_size (hb_)) : w.heap.size ≤ gb197)); clear HB; have HB := n0_; have BK197 := n1_; have GW197 := n2_; have GE197 := n3_; clear n0_ n1_ n2_ n3_; clear hb hbox hg; have hcz12_0 : w11.cell? ⟨gb197, 0, none⟩ = some (.int .i64 a0_0) := (blk_cell BK197.out 0).trans rfl; have hcz12_1 : w11.cell? ⟨gb197, 1, none⟩ = some (.slice A0_1 l0_1.length c0_1) := (blk_cell BK197.out 1).trans rfl; have hfz12_0 := blk_frozen BK197.out 0; have hfz12_1 := blk_frozen BK197.out 1) | ((with_reducible refine gate_callee (f := 52) rfl ?_); refine goesL_ (some 5) rfl rfl Try.func52 (by kernel_rfl) rfl #[.int .i64 a0_0] rfl ga_ ?_; (with_reducible refine (impl_isSide.calls a0_0 false _ A2.out).mono ?_); rintro e w' ⟨rfl, ⟨nd, rfl⟩⟩; refine ⟨_, rfl, ?_⟩))
    go_ret
    exact ⟨by first | rfl | (simp [errW_none, errW_some] <;> rfl) | (simp [*, errW_none, errW_some] <;> rfl), hbg_⟩

/-! ### slices_Clone_impl_Clue_impl_Clue: function 63 -/
def slices_Clone_impl_Clue_impl_Clue.f (l0 : List (S39)) : Option ((List (S39))) := (some (([] : List (S39)) : List (S39))).bind fun y200 => (if y200.length + l0.length < 4398046511104 then (some (y200 ++ l0)) else (none))
set_option maxHeartbeats 8000000 in
set_option maxRecDepth 100000 in
theorem slices_Clone_impl_Clue_impl_Clue.calls (A0 : Option Addr) (c0 : Nat) (l0 : List (S39)) (r : List (S39)) (w : World) (hr0 : Kd.C k39 w A0 l0.length l0) (hc0 : l0.length ≤ c0) (h : slices_Clone_impl_Clue_impl_Clue.f l0 = some r) :
    Calls Try.prog 63 #[.slice A0 l0.length c0] w fun e w' => ∃ v0_ : Value, e = .returned (v0_) ∧ Kd.R k39 39 w' w.heap.size (fun _ => True) v0_ r ∧ Below w.heap.size w w' := by
  have HR0 := Aside0.mk hr0
  have HC0 := Aside0.mk hc0
  clear hr0 hc0
  have HB := Aside0.mk (Below.refl w.heap.size w)
  have H : ((some (([] : List (S39)) : List (S39))).bind fun y200 => (if y200.length + l0.length < 4398046511104 then (some (y200 ++ l0)) else (none))) = some r := h
  clear h
  by_cases hA_ : A0.isNone = true
  · have hl_ : l0 = [] := by
      rcases Nat.eq_zero_or_pos l0.length with h0 | h0
      · exact List.length_eq_zero_iff.1 h0
      · obtain ⟨ad, hq, _⟩ := HR0.out.2.2 h0
        rw [hq] at hA_
        simp at hA_
    subst hl_
    obtain rfl : r = [] := by simpa using H.symm
    obtain rfl : A0 = none := by simpa using hA_
    have hnil_ := fun (W : World) => Lib.run_eql_slice_nil (P := Try.prog) W 27 39 none 0 c0 0 0 Try.underlying27
    clear H
    simp only [List.length_nil]
    go_enter Try.func63, Try.ntmps63
    go_wp2
    go_ret
    exact ⟨.slice none 0 0, rfl, Kd.R_nil _ _ _ _ _, hb_⟩
  have hnil_ : ∀ W : World, (binOp .eql 27 (.slice A0 l0.length c0) (.slice none 0 0)).run Try.prog W = .ok (.bool false) W := fun W => by have h_ := Lib.run_eql_slice_nil (P := Try.prog) W 27 39 A0 l0.length c0 0 0 Try.underlying27; rw [Bool.eq_false_iff.mpr hA_] at h_; exact h_
  obtain ⟨y200, hy200⟩ : ∃ y_ : List (S39), y_ = (([] : List (S39))) := ⟨_, rfl⟩
  replace H : (if y200.length + l0.length < 4398046511104 then (some (y200 ++ l0)) else (none)) = some r := by first | (rw [hy200]; with_reducible exact H) | (have H2_ := (Option.bind_some _ _).symm.trans H; rw [hy200]; with_reducible exact H2_) | (have H2_ := (Option.bind_some _ _).symm.trans H; with_reducible exact H2_) | with_reducible exact H | (rw [hy200]; exact H) | exact H
  have Ny200 := Aside0.mk hy200
  clear hy200
  by_cases c2 : y200.length + l0.length < 4398046511104
  · rw [if_pos c2] at H
    have LMc2 := Aside0.mk c2
    clear c2
    obtain ⟨y203, hy203⟩ : ∃ y_ : List (S39), y_ = (y200 ++ l0) := ⟨_, rfl⟩
    replace H : (some y203) = some r := by first | (rw [hy203]; with_reducible exact H) | (have H2_ := (Option.bind_some _ _).symm.trans H; rw [hy203]; with_reducible exact H2_) | (have H2_ := (Option.bind_some _ _).symm.trans H; with_reducible exact H2_) | with_reducible exact H | (rw [hy203]; exact H) | exact H
    have Ny203 := Aside0.mk hy203
    clear hy203
    obtain rfl := Option.some.inj H
    go_enter Try.func63, Try.ntmps63
    go_wp2_with (first | ((with_reducible refine gate_dst (N := 5) rfl ?_); refine Kd.R_lit k39 _ 39 ?hg (N := 5) ?hd (xs := ([] : List (S39))) (inner := []) (ok := fun _ => True) (okp := fun _ => True) ?hr ?hp (fun _ hk => hk) trivial (Below.refl _ _) (Nat.le_refl _) (by simp) ?_; (case hd => rfl); (case hg => rfl); (case hr => first | (go_simp; done) | (go_simp; rfl)); (case hp => exact (Reps.none _ _)); intro v201 w3 ho4 hb hg_ hnew_; clear hg_ hnew_; (first | rw [← Ny200.out] at ho4 | (simp only [Int.reduceToNat] at ho4; rw [← Ny200.out] at ho4)); have n0_ := Aside0.mk (Kd.R_lower ho4 (below_size (hb_))); have n1_ := Aside0.mk (below_step (hb_) hb); clear HB; have HO202 := n0_; have HB := n1_; clear n0_ n1_; clear hb ho4) | ((with_reducible refine gate_builtin (b := .append) (xs := #[.tmp 5, .tmp 6]) rfl ?_); at_builtin; refine Kd.R_append_rows k39 (w0 := w) w.heap.size rfl (.tmp 5) (.tmp 6) 27 39 (.agg #[(.int .i64 0), (.int .i64 0), (.int .i64 0), (.int .i64 0)]) 32 rfl Try.underlying27 info39 rfl (by decide) (by omega) v201 y200 l0 _ _ _ (fun _ => True) (fun _ => False) rfl rfl ?aO ?aR (fun _ _ h => h) (fun _ h => h.elim) ?aF ?aB ?aS ?aL ?_; (case aR => repeat (first | exact (Kd.C_below HR0.out HB.out) | (with_reducible refine Kd.C_alloc ?_ _) | (with_reducible refine Kd.C_drewN ?_ _) | (with_reducible refine Kd.C_drew ?_))); (case aB => exact (hb_)); (case aF => exact (fun _ _ => trivial)); (case aO => exact (rk_ HO202.out)); (case aS => exact (below_size (hb_))); (case aL => have := LMc2.out; omega); intro v204 w5 ho hb hg hat; rw [← Ny203.out] at ho; have n0_ := Aside0.mk (hb); have n1_ := Aside0.mk (ho); clear HB; clear HO202; have HB := n0_; have HO205 := n1_; clear n0_ n1_; clear ho hb hg hat))
    go_ret
    exact ⟨_, by first | rfl | (simp [errW_none, errW_some] <;> rfl) | (simp [*, errW_none, errW_some] <;> rfl), by (with_reducible repeat (first | apply Kd.R_alloc | apply Kd.R_drewN | apply Kd.R_drew)); exact HO205.out, hb_⟩
  · rw [if_neg c2] at H
    exact absurd H (by simp)

/-! ### slices_Delete_impl_Clue_impl_Clue: function 97 -/
/- A contract by hand. -/
def slices_Delete_impl_Clue_impl_Clue.f (l0 : List S39) (a1 : Int) (a2 : Int) : Option (List S39) := if 0 ≤ a1 then (if a1 < (l0.length : Int) then (if a2 = a1 + 1 then (if l0.length < 4611686018427387904 then some (l0.eraseIdx a1.toNat) else none) else none) else none) else none
set_option maxHeartbeats 4000000 in
set_option maxRecDepth 1000000 in
theorem slices_Delete_impl_Clue_impl_Clue.walk (k : Nat) (d : Kd S39) (hdk : d.sz = k) (k0 : 0 < k) (zE : ∀ w, (Go.sizeOf 39).run Try.prog w = .ok k w) (z : Value) (hv : ∀ w, (zeroValue 39).run Try.prog w = .ok z w) (hzs : z.cells.size = k) (hone1 : ∀ u ∈ z.cells.toList, u.oneCell' = true)
    (hinfo : (Try.prog.info? 39).map (·.size) = some d.sz) {g n c i : Nat} {xs : List S39} {ok : Nat → Prop} (base : Nat) (w : World) (hbase : base ≤ w.heap.size) (HO : d.R 39 w base ok (.slice (some ⟨g, 0, none⟩) n c) xs) (hi : i < n) (hn : n < 4611686018427387904) :
    Calls Try.prog 97 #[.slice (some ⟨g, 0, none⟩) n c, .int .i64 i, .int .i64 ((i : Int) + 1)] w fun e w' => e = .returned (.slice (some ⟨g, 0, none⟩) (n - 1) c) ∧ d.R 39 w' base ok (.slice (some ⟨g, 0, none⟩) (n - 1) c) (xs.eraseIdx i) ∧ w.grownBy w' (some g) := by
  obtain ⟨hnx, hnc, _⟩ := Kd.R_reads' HO
  have HOd : Aside (d.R 39 w.drew base ok (.slice (some ⟨g, 0, none⟩) n c) xs) := Kd.R_drew HO
  have HI : Aside ((Try.prog.info? 39).map (·.size) = some d.sz) := hinfo
  have hic : i ≤ c := by omega
  have hin : i ≤ n := by omega
  have hjn : i + 1 ≤ n := by omega
  have hjc : i + 1 ≤ c := by omega
  have e1 : ((i : Int) + 1).toNat = i + 1 := by omega
  have hB : Aside (base ≤ w.heap.size) := hbase
  have mixed : Try.prog.follows Departure.mixedOrders = true := by kernel_rfl
  have p1 : (0 : Int) ≤ (i : Int) + 1 := by omega
  have p2 : (i : Int) + 1 ≤ (n : Int) := by omega
  clear HO hinfo hbase hnx
  obtain ⟨A, hA⟩ : ∃ A, (if c = i + 1 then some (⟨g, 0, none⟩ : Addr) else some ⟨g, (i + 1) * k, none⟩) = A := ⟨_, rfl⟩
  have hA2 : Aside (A = if c = i + 1 then some (⟨g, 0, none⟩ : Addr) else (some (⟨g, 0, none⟩ : Addr)).map (·.add ((i + 1) * d.sz))) := by
    show A = _
    rw [← hA, hdk]
    by_cases h : c = i + 1
    · rw [if_pos h, if_pos h]
    · rw [if_neg h, if_neg h, Option.map_some, Addr.add_lit, Nat.zero_add]
  go_enter Try.func97, Try.ntmps97
  go_wp2_with fail
  go_region_law_o (refine Kd.R_delete_step d (w0 := w) base (by rfl) (.tmp 22) (.tmp 25) 27 39 rfl Try.underlying27 HI.out (g := g) (n := n) (c := c) (k := i) (m := n - (i + 1)) (c2 := c - (i + 1)) (A := A) (by simp [Act.eval, Act.put]) (by simp [Act.eval, Act.put]) hA2.out rfl HOd.out hi (below_drew1 (Below.refl base w)) hB.out ?_; intro w1 ho hb hg)
  obtain ⟨w2, hcl, h3, h4⟩ := R_clear_past (P := Try.prog) d base 27 0 39 Try.underlying27 z hv (hzs.trans hdk.symm) (by rw [hdk]; exact k0) hone1 ho (q := n - (n - 1)) (by omega) (by omega) (c - (n - 1))
  rw [hdk] at hcl
  have F : Aside (d.R 39 w2 base ok (Value.slice (some ⟨g, 0, none⟩) (n - 1) c) (xs.eraseIdx i) ∧ Below base w w2 ∧ w1.grownBy w2 (some g)) := ⟨h3, hb.grown h4 (Nat.le_trans hB.out hg.size) (fun k hk => Kd.R_base ho k hk), h4⟩
  clear ho h3 h4 hb HOd hA2 hA p1 p2 e1 hzs hone1 hv
  go_wp2
  go_ret
  exact ⟨rfl, F.out.1, ⟨F.out.2.2.os.trans hg.os, F.out.2.2.tape.trans hg.tape, F.out.2.2.output.trans hg.output, Nat.le_trans hg.size F.out.2.2.size, fun k hk hne => (F.out.2.2.block k (Nat.lt_of_lt_of_le hk hg.size) hne).trans (hg.block k hk hne)⟩⟩
theorem slices_Delete_impl_Clue_impl_Clue.calls (P0_ : Nat → Prop) (u9000_ : Value) (l0 : List S39) (a1 : Int) (a2 : Int) (r : List S39) (w0 w : World) (hB : Below w0.heap.size w0 w) (ho0 : Kd.R k39 39 w w0.heap.size P0_ u9000_ l0) (h : slices_Delete_impl_Clue_impl_Clue.f l0 a1 a2 = some r) :
    Calls Try.prog 97 #[u9000_, .int .i64 a1, .int .i64 a2] w fun e w' => ∃ v0_ : Value, e = .returned (v0_) ∧ Kd.R k39 39 w' w0.heap.size (fun k_ => (P0_ k_ ∨ w.heap.size ≤ k_)) v0_ r ∧ Below w0.heap.size w0 w' ∧ Kept w w' (fun k_ => P0_ k_) := by
  unfold slices_Delete_impl_Clue_impl_Clue.f at h
  by_cases q1 : 0 ≤ a1
  · rw [if_pos q1] at h
    by_cases q2 : a1 < (l0.length : Int)
    · rw [if_pos q2] at h
      by_cases q3 : a2 = a1 + 1
      · rw [if_pos q3] at h
        by_cases q4 : l0.length < 4611686018427387904
        · rw [if_pos q4] at h
          obtain rfl := Option.some.inj h
          subst q3
          obtain ⟨g, cap, rfl, hbg, _⟩ := Kd.R_form ho0 (by omega)
          obtain ⟨i, rfl⟩ : ∃ i : Nat, a1 = (i : Int) := ⟨a1.toNat, by omega⟩
          have hP : P0_ g := ho0.1 g rfl
          have hcon := slices_Delete_impl_Clue_impl_Clue.walk 4 k39 rfl (by decide) Try.sizeOf39 ((.agg #[.int .i64 0, .int .i64 0, .int .i64 0, .int .i64 0])) Try.zeroValue39 rfl (fun u hu => by simp [Value.cells] at hu; rcases hu with rfl | rfl | rfl | rfl <;> rfl) (by kernel_rfl) (i := i) w0.heap.size w hB.size ho0 (by omega) q4
          refine hcon.mono fun e w' hq => ?_
          obtain ⟨rfl, hR, hg⟩ := hq
          have hle : (l0.eraseIdx ((i : Int)).toNat) = l0.eraseIdx i := rfl
          rw [hle]
          exact ⟨_, rfl, Kd.R_mono hR (fun _ hk => .inl hk), hB.grown hg hB.size (fun k hk => by injection hk with hk; exact hk ▸ hbg), ⟨hg.size, fun k hk hn => hg.block k hk (fun e_ => by injection e_ with e_; exact hn (e_ ▸ hP))⟩⟩
        · rw [if_neg q4] at h
          cases h
      · rw [if_neg q3] at h
        cases h
    · rw [if_neg q2] at h
      cases h
  · rw [if_neg q1] at h
    cases h

end Go.Proofs.Ytlhiificglpgkaa.MW
