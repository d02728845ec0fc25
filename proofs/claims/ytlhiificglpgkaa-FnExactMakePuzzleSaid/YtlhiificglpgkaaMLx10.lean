-- Written by a program of this session (wip/print/myprint.py) over the kit's printer; Lean checks it.
import Derived.Test.YtlhiificglpgkaaMLx0
import Derived.Test.YtlhiificglpgkaaMLx8
import Derived.Test.YtlhiificglpgkaaMLx9
namespace Go.Proofs.Ytlhiificglpgkaa.ML
open Go.RowKit Go.Proofs.YtlhiificglpgkaaW.PrintWords Go.Proofs.YtlhiificglpgkaaW.PrintLast Go.Proofs.YtlhiificglpgkaaW.PrintMore Go.Proofs.YtlhiificglpgkaaV
attribute [local go_sem] max2_int min2_int max_two min_two max_three min_three max_four min_four   -- for this text's walks alone
set_option linter.unusedVariables false
set_option linter.unusedSimpArgs false

/-! ### impl_MakePuzzle: function 29 -/
mutual
def impl_MakePuzzle.j0 : Nat → Int → Int → Int → Bool → Int → Int → Option (Int × (List (S39)) × Bool)
  | 0, _, _, _, _, _, _ => none
  | k + 1, x0, x2, x3, x27, x204000, x204001 => if x27 = true then (some (0, ([] : List (S39)), false)) else (impl_MakePuzzle.l0 k x0 x2 0 x204000 x204001 x0 ([] : List (S39)) x3)
def impl_MakePuzzle.l0 : Nat → Int → Int → Int → Int → Int → Int → List (S39) → Int → Option (Int × (List (S39)) × Bool)
  | 0, _, _, _, _, _, _, _, _ => none
  | k + 1, x0, x33, x34, x204000, x204001, x209000, x209001, x210000 => if x34 < x33 then ((impl_MakePuzzle_1.f 6 x210000).bind fun bt210 => (if bt210.1 ≥ 3 then ((impl_MakePuzzle_1.f (wrap64 (x0 + 1)) bt210.2).bind fun bt213 => ((impl_MakePuzzle_1.f (wrap64 (x0 + 1)) bt213.2).bind fun bt215 => ((impl_asHas.f k bt210.1 bt213.1 bt215.1 0 x204000 x204001).bind fun bt217 => (if x209001.length < 4398046511104 then (impl_MakePuzzle.l0 k x0 x33 (wrap64 (x34 + 1)) x204000 x204001 x209000 (x209001 ++ [(⟨bt217.1, bt217.2.1, bt217.2.2.1, bt217.2.2.2⟩ : S39)]) bt215.2) else (none))))) else ((impl_asHas.f k bt210.1 0 0 0 x204000 x204001).bind fun bt224 => (if x209001.length < 4398046511104 then (impl_MakePuzzle.l0 k x0 x33 (wrap64 (x34 + 1)) x204000 x204001 x209000 (x209001 ++ [(⟨bt224.1, bt224.2.1, bt224.2.2.1, bt224.2.2.2⟩ : S39)]) bt210.2) else (none))))) else (some (x209000, x209001, true))
end
def impl_MakePuzzle.f (k : Nat) (a0 : Int) (a1_0 : Int) (a1_1 : Int) (a2 : Int) (a3 : Int) : Option (Int × (List (S39)) × Bool) := (impl_isHidden.f a0 a1_0 a1_1).bind fun t205 => (if t205 = true then ((impl_within.f a2 0 6).bind fun t206 => (if t206 = true then ((impl_within.f a3 0 9999).bind fun t207 => (impl_MakePuzzle.j0 k a0 a2 a3 (!t207) a1_0 a1_1)) else (impl_MakePuzzle.j0 k a0 a2 a3 true a1_0 a1_1))) else (impl_MakePuzzle.j0 k a0 a2 a3 true a1_0 a1_1))
theorem impl_MakePuzzle.mono_l : ∀ k, (∀ y0 y1 y2 y3 y4 y5, LeO (impl_MakePuzzle.j0 k y0 y1 y2 y3 y4 y5) (impl_MakePuzzle.j0 (k + 1) y0 y1 y2 y3 y4 y5)) ∧ (∀ y0 y1 y2 y3 y4 y5 y6 y7, LeO (impl_MakePuzzle.l0 k y0 y1 y2 y3 y4 y5 y6 y7) (impl_MakePuzzle.l0 (k + 1) y0 y1 y2 y3 y4 y5 y6 y7))
  | 0 => ⟨fun _ _ _ _ _ _ r h => by simp [impl_MakePuzzle.j0] at h, fun _ _ _ _ _ _ _ _ r h => by simp [impl_MakePuzzle.l0] at h⟩
  | k + 1 => by
    obtain ⟨ih0, ih1⟩ := impl_MakePuzzle.mono_l k
    refine ⟨?_, ?_⟩
    · intro y0 y1 y2 y3 y4 y5
      unfold impl_MakePuzzle.j0
      repeat' first
      | (with_reducible exact ih0 _ _ _ _ _ _)
      | (with_reducible exact ih1 _ _ _ _ _ _ _ _)
      | (with_reducible exact impl_asHas.mono _ _ _ _ _ _ _)
      | (with_reducible exact LeO.refl _)
      | (with_reducible exact LeO.none _)
      | (with_reducible refine LeO.ite ?_ ?_)
      | (with_reducible refine LeO.bind ?_ (fun _ => ?_))
      | exact ih0 _ _ _ _ _ _
      | exact ih1 _ _ _ _ _ _ _ _
      | exact impl_asHas.mono _ _ _ _ _ _ _
      | exact LeO.none _
      | refine LeO.ite ?_ ?_
      | refine LeO.bind ?_ (fun _ => ?_)
    · intro y0 y1 y2 y3 y4 y5 y6 y7
      unfold impl_MakePuzzle.l0
      repeat' first
      | (with_reducible exact ih0 _ _ _ _ _ _)
      | (with_reducible exact ih1 _ _ _ _ _ _ _ _)
      | (with_reducible exact impl_asHas.mono _ _ _ _ _ _ _)
      | (with_reducible exact LeO.refl _)
      | (with_reducible exact LeO.none _)
      | (with_reducible refine LeO.ite ?_ ?_)
      | (with_reducible refine LeO.bind ?_ (fun _ => ?_))
      | exact ih0 _ _ _ _ _ _
      | exact ih1 _ _ _ _ _ _ _ _
      | exact impl_asHas.mono _ _ _ _ _ _ _
      | exact LeO.none _
      | refine LeO.ite ?_ ?_
      | refine LeO.bind ?_ (fun _ => ?_)
theorem impl_MakePuzzle.mono : ∀ a0 a1 a2 a3 a4 k, LeO (impl_MakePuzzle.f k a0 a1 a2 a3 a4) (impl_MakePuzzle.f (k + 1) a0 a1 a2 a3 a4) := by
  intro a0 a1 a2 a3 a4 k
  obtain ⟨ih0, ih1⟩ := impl_MakePuzzle.mono_l k
  unfold impl_MakePuzzle.f
  repeat' first
      | (with_reducible exact ih0 _ _ _ _ _ _)
      | (with_reducible exact ih1 _ _ _ _ _ _ _ _)
      | (with_reducible exact impl_asHas.mono _ _ _ _ _ _ _)
      | (with_reducible exact LeO.refl _)
      | (with_reducible exact LeO.none _)
      | (with_reducible refine LeO.ite ?_ ?_)
      | (with_reducible refine LeO.bind ?_ (fun _ => ?_))
      | exact ih0 _ _ _ _ _ _
      | exact ih1 _ _ _ _ _ _ _ _
      | exact impl_asHas.mono _ _ _ _ _ _ _
      | exact LeO.none _
      | refine LeO.ite ?_ ?_
      | refine LeO.bind ?_ (fun _ => ?_)
def impl_MakePuzzle.T11 : Bool × List (List Nat × List Nat) := (true, [([], []), ([0], [0]), ([], []), ([], []), ([2, 3], [2, 3]), ([4], [4]), ([1, 5, 4], [1, 5]), ([0, 1, 2, 3, 4, 5, 6], []), ([7, 6, 6, 0, 1, 2, 3, 4, 5, 6], [6, 7])])
def impl_MakePuzzle.B11 : List Nat := [0, 1, 0, 0, 12, 28, 63, 127, 255]
theorem impl_MakePuzzle.tab11 : rtab .any (opsOf Try.f29 11) = impl_MakePuzzle.T11 := by kernel_rfl
theorem impl_MakePuzzle.bits11 : waitsOk impl_MakePuzzle.T11.2 impl_MakePuzzle.B11 = true := by kernel_rfl
set_option maxHeartbeats 8000000 in
set_option maxRecDepth 100000 in
theorem impl_MakePuzzle.calls (k : Nat) (a0 : Int) (a1_0 : Int) (a1_1 : Int) (a2 : Int) (a3 : Int) (r1 : Int) (r2 : List (S39)) (r3 : Bool) (w : World) (h : impl_MakePuzzle.f k a0 a1_0 a1_1 a2 a3 = some (r1, r2, r3)) :
    Calls Try.prog 29 #[.int .i64 a0, .agg #[.int .i64 a1_0, .int .i64 a1_1], .int .i64 a2, .int .i64 a3] w fun e w' => ∃ v1_ : Value, e = .returned (.tuple #[.agg #[.int .i64 r1, v1_], .bool r3]) ∧ Kd.R k39 39 w' w.heap.size (fun _ => True) v1_ r2 ∧ Below w.heap.size w w' := by
  have hu41 := Try.underlying41
  have hu29 := Try.underlying29
  have hu39 := Try.underlying39
  have HB := Aside0.mk (Below.refl w.heap.size w)
  have H : ((impl_isHidden.f a0 a1_0 a1_1).bind fun t205 => (if t205 = true then ((impl_within.f a2 0 6).bind fun t206 => (if t206 = true then ((impl_within.f a3 0 9999).bind fun t207 => (impl_MakePuzzle.j0 k a0 a2 a3 (!t207) a1_0 a1_1)) else (impl_MakePuzzle.j0 k a0 a2 a3 true a1_0 a1_1))) else (impl_MakePuzzle.j0 k a0 a2 a3 true a1_0 a1_1))) = some (r1, r2, r3) := h
  clear h
  have HC5 := Aside0.mk H
  clear H
  go_enter Try.func29, Try.ntmps29
  go_upto_region 1 with (first | ((with_reducible refine gate_dst (N := 5) rfl ?_); refine box_event ?hg (N := 5) ?hd (cs := #[.int .i64 a1_0, .int .i64 a1_1]) (t := 41) ?hr ?_; (case hd => rfl); (case hg => rfl); (case hr => first | (go_simp; done) | (go_simp; rfl)); intro gb203 hg w6 hbox hb; have n0_ := Aside0.mk (below_step (hb_) hb); have n1_ := Aside0.mk (hbox); have n2_ := Aside0.mk ((by rw [hg]; exact (below_size (hb_)) : w.heap.size ≤ gb203)); have n3_ := Aside0.mk ((by rw [hg]; exact (below_size (hb_)) : w.heap.size ≤ gb203)); clear HB; have HB := n0_; have BK203 := n1_; have GW203 := n2_; have GE203 := n3_; clear n0_ n1_ n2_ n3_; clear hb hbox hg) | ((with_reducible refine gate_dst (N := 8) rfl ?_); refine box_event ?hg (N := 8) ?hd (cs := #[.int .i64 0, .slice none 0 0]) (t := 29) ?hr ?_; (case hd => rfl); (case hg => rfl); (case hr => first | (go_simp; done) | (go_simp; rfl)); intro gb204 hg w7 hbox hb; have n0_ := bb_ BK203 hb; have n1_ := Aside0.mk (below_step (hbg_) hb); have n2_ := Aside0.mk (hbox); have n3_ := Aside0.mk ((by rw [hg]; exact (below_size (hbg_)) : w.heap.size ≤ gb204)); have n4_ := Aside0.mk ((by rw [hg]; exact (below_size (hbg_)) : w.heap.size ≤ gb204)); have n5_ := Aside0.mk ((by rw [hg]; exact Nat.ne_of_lt (blk_lt (bk_ BK203.out)) : gb203 ≠ gb204)); have n6_ := Aside0.mk ((by rw [hg]; exact Nat.ne_of_gt (blk_lt (bk_ BK203.out)) : gb204 ≠ gb203)); clear BK203; clear HB; have BK203 := n0_; have HB := n1_; have BK204 := n2_; have GW204 := n3_; have GE204 := n4_; have NB203_204 := n5_; have NB204_203 := n6_; clear n0_ n1_ n2_ n3_ n4_ n5_ n6_; clear hb hbox hg))
  (try simp only [Act.put, List.setIfInBounds_toArray, List.set_cons_zero, List.set_cons_succ])
  go_cut [27] (fun v27 wc => ∃ (kq : Nat) (x27_4 : Bool), v27 = .bool x27_4 ∧ Aside0 (impl_MakePuzzle.j0 kq a0 a2 a3 x27_4 a1_0 a1_1 = some (r1, r2, r3)) ∧ Aside0 (kq ≤ k) ∧ Aside0 (wc.heap[gb203]? = some (.cells #[.int .i64 a1_0, .int .i64 a1_1] 41 (0, 0))) ∧ Aside0 (wc.heap[gb204]? = some (.cells #[.int .i64 0, (.slice none 0 0)] 29 (0, 0))) ∧ Aside0 (Below w.heap.size w wc))
  case first =>
    have H := HC5.out
    clear HC5
    replace H := Option.bind_eq_some_iff.mp H
    obtain ⟨t205, A80, H⟩ := H
    replace H : (if t205 = true then ((impl_within.f a2 0 6).bind fun t206 => (if t206 = true then ((impl_within.f a3 0 9999).bind fun t207 => (impl_MakePuzzle.j0 k a0 a2 a3 (!t207) a1_0 a1_1)) else (impl_MakePuzzle.j0 k a0 a2 a3 true a1_0 a1_1))) else (impl_MakePuzzle.j0 k a0 a2 a3 true a1_0 a1_1)) = some (r1, r2, r3) := H
    have A8 := Aside0.mk A80
    clear A80
    by_cases c9 : t205 = true
    · subst c9
      have H1 : ((impl_within.f a2 0 6).bind fun t206 => (if t206 = true then ((impl_within.f a3 0 9999).bind fun t207 => (impl_MakePuzzle.j0 k a0 a2 a3 (!t207) a1_0 a1_1)) else (impl_MakePuzzle.j0 k a0 a2 a3 true a1_0 a1_1))) = some (r1, r2, r3) := by rw [if_pos rfl] at H; exact H
      clear H
      have H := H1
      clear H1
      replace H := Option.bind_eq_some_iff.mp H
      obtain ⟨t206, A100, H⟩ := H
      replace H : (if t206 = true then ((impl_within.f a3 0 9999).bind fun t207 => (impl_MakePuzzle.j0 k a0 a2 a3 (!t207) a1_0 a1_1)) else (impl_MakePuzzle.j0 k a0 a2 a3 true a1_0 a1_1)) = some (r1, r2, r3) := H
      have A10 := Aside0.mk A100
      clear A100
      by_cases c11 : t206 = true
      · subst c11
        have H1 : ((impl_within.f a3 0 9999).bind fun t207 => (impl_MakePuzzle.j0 k a0 a2 a3 (!t207) a1_0 a1_1)) = some (r1, r2, r3) := by rw [if_pos rfl] at H; exact H
        clear H
        have H := H1
        clear H1
        replace H := Option.bind_eq_some_iff.mp H
        obtain ⟨t207, A120, H⟩ := H
        replace H : (impl_MakePuzzle.j0 k a0 a2 a3 (!t207) a1_0 a1_1) = some (r1, r2, r3) := H
        have A12 := Aside0.mk A120
        clear A120
        have H' := Aside0.mk H
        clear H
        have hnb13 := NB203_204.out
        have hnc13 := NB204_203.out
        have hcz14_0 : w7.cell? ⟨gb203, 0, none⟩ = some (.int .i64 a1_0) := (blk_cell BK203.out 0).trans rfl
        have hcz14_1 : w7.cell? ⟨gb203, 1, none⟩ = some (.int .i64 a1_1) := (blk_cell BK203.out 1).trans rfl
        have hfz14_0 := blk_frozen BK203.out 0
        have hfz14_1 := blk_frozen BK203.out 1
        go_wp2_with (first | ((with_reducible refine gate_callee (f := 61) rfl ?_); refine goesL_ (some 16) rfl rfl Try.func61 (by kernel_rfl) rfl #[.int .i64 a0, .agg #[.int .i64 a1_0, .int .i64 a1_1]] rfl (by (try simp only [List.map_toArray, List.map_cons, List.map_nil]); first | done | rfl | (simp only [List.length_drop, List.length_take]; rfl)) ?_; (with_reducible refine (impl_isHidden.calls a0 a1_0 a1_1 true _ A8.out).mono ?_); rintro e w15 ⟨rfl, hb⟩; refine ⟨_, rfl, ?_⟩; have n0_ := bb_ BK203 hb; have n1_ := bb_ BK204 hb; have n2_ := Aside0.mk (below_step (hbg_) hb); clear BK203; clear BK204; clear HB; have BK203 := n0_; have BK204 := n1_; have HB := n2_; clear n0_ n1_ n2_; (try clear hb); (try clear hb2); (try clear hk); (try clear hi)) | (go_at_call 69; (with_reducible refine (impl_within.calls a2 0 6 true _ A10.out).mono ?_); rintro e w' ⟨rfl, ⟨nd, rfl⟩⟩) | (go_at_call 69; (with_reducible refine (impl_within.calls a3 0 9999 t207 _ A12.out).mono ?_); rintro e w' ⟨rfl, ⟨nd, rfl⟩⟩))
        go_meet
        case rel => exact ⟨_, (!t207), (by first | rfl | (simp; done) | (simp [*]; done)), H', ⟨by first | omega | exact Nat.le_refl _⟩, ⟨bk_ BK203.out⟩, ⟨bk_ BK204.out⟩, ⟨hbg_⟩⟩
      · replace c11 := Bool.eq_false_iff.mpr c11
        subst c11
        have H1 : (impl_MakePuzzle.j0 k a0 a2 a3 true a1_0 a1_1) = some (r1, r2, r3) := by rw [if_neg (show ¬ (false = true) by decide)] at H; exact H
        clear H
        have H := H1
        clear H1
        have H' := Aside0.mk H
        clear H
        have hnb16 := NB203_204.out
        have hnc16 := NB204_203.out
        have hcz17_0 : w7.cell? ⟨gb203, 0, none⟩ = some (.int .i64 a1_0) := (blk_cell BK203.out 0).trans rfl
        have hcz17_1 : w7.cell? ⟨gb203, 1, none⟩ = some (.int .i64 a1_1) := (blk_cell BK203.out 1).trans rfl
        have hfz17_0 := blk_frozen BK203.out 0
        have hfz17_1 := blk_frozen BK203.out 1
        go_wp2_with (first | ((with_reducible refine gate_callee (f := 61) rfl ?_); refine goesL_ (some 16) rfl rfl Try.func61 (by kernel_rfl) rfl #[.int .i64 a0, .agg #[.int .i64 a1_0, .int .i64 a1_1]] rfl (by (try simp only [List.map_toArray, List.map_cons, List.map_nil]); first | done | rfl | (simp only [List.length_drop, List.length_take]; rfl)) ?_; (with_reducible refine (impl_isHidden.calls a0 a1_0 a1_1 true _ A8.out).mono ?_); rintro e w18 ⟨rfl, hb⟩; refine ⟨_, rfl, ?_⟩; have n0_ := bb_ BK203 hb; have n1_ := bb_ BK204 hb; have n2_ := Aside0.mk (below_step (hbg_) hb); clear BK203; clear BK204; clear HB; have BK203 := n0_; have BK204 := n1_; have HB := n2_; clear n0_ n1_ n2_; (try clear hb); (try clear hb2); (try clear hk); (try clear hi)) | (go_at_call 69; (with_reducible refine (impl_within.calls a2 0 6 false _ A10.out).mono ?_); rintro e w' ⟨rfl, ⟨nd, rfl⟩⟩))
        go_meet
        case rel => exact ⟨_, (true), (by first | rfl | (simp; done) | (simp [*]; done)), H', ⟨by first | omega | exact Nat.le_refl _⟩, ⟨bk_ BK203.out⟩, ⟨bk_ BK204.out⟩, ⟨hbg_⟩⟩
    · replace c9 := Bool.eq_false_iff.mpr c9
      subst c9
      have H1 : (impl_MakePuzzle.j0 k a0 a2 a3 true a1_0 a1_1) = some (r1, r2, r3) := by rw [if_neg (show ¬ (false = true) by decide)] at H; exact H
      clear H
      have H := H1
      clear H1
      have H' := Aside0.mk H
      clear H
      have hnb19 := NB203_204.out
      have hnc19 := NB204_203.out
      have hcz20_0 : w7.cell? ⟨gb203, 0, none⟩ = some (.int .i64 a1_0) := (blk_cell BK203.out 0).trans rfl
      have hcz20_1 : w7.cell? ⟨gb203, 1, none⟩ = some (.int .i64 a1_1) := (blk_cell BK203.out 1).trans rfl
      have hfz20_0 := blk_frozen BK203.out 0
      have hfz20_1 := blk_frozen BK203.out 1
      go_wp2_with (first | ((with_reducible refine gate_callee (f := 61) rfl ?_); refine goesL_ (some 16) rfl rfl Try.func61 (by kernel_rfl) rfl #[.int .i64 a0, .agg #[.int .i64 a1_0, .int .i64 a1_1]] rfl (by (try simp only [List.map_toArray, List.map_cons, List.map_nil]); first | done | rfl | (simp only [List.length_drop, List.length_take]; rfl)) ?_; (with_reducible refine (impl_isHidden.calls a0 a1_0 a1_1 false _ A8.out).mono ?_); rintro e w21 ⟨rfl, hb⟩; refine ⟨_, rfl, ?_⟩; have n0_ := bb_ BK203 hb; have n1_ := bb_ BK204 hb; have n2_ := Aside0.mk (below_step (hbg_) hb); clear BK203; clear BK204; clear HB; have BK203 := n0_; have BK204 := n1_; have HB := n2_; clear n0_ n1_ n2_; (try clear hb); (try clear hb2); (try clear hk); (try clear hi)))
      go_meet
      case rel => exact ⟨_, (true), (by first | rfl | (simp; done) | (simp [*]; done)), H', ⟨by first | omega | exact Nat.le_refl _⟩, ⟨bk_ BK203.out⟩, ⟨bk_ BK204.out⟩, ⟨hbg_⟩⟩
  case rest =>
    clear HC5
    try clear c1
    try clear c2
    try clear p2
    try clear c6
    try clear c9
    try clear c11
    try clear c13
    try clear c16
    try clear c19
    try clear hcz14_0
    try clear hcz14_1
    try clear hcz17_0
    try clear hcz17_1
    try clear hcz20_0
    try clear hcz20_1
    try clear hfz14_0
    try clear hfz14_1
    try clear hfz17_0
    try clear hfz17_1
    try clear hfz20_0
    try clear hfz20_1
    obtain ⟨kq, x27_4, rfl, HA, HJ4, BK203, BK204, HB⟩ := hcut
    cases kq with
    | zero => exact absurd HA.out (by simp [impl_MakePuzzle.j0])
    | succ kj4 =>
      have H := HA.out
      clear HA
      simp only [impl_MakePuzzle.j0] at H
      by_cases c22 : x27_4 = true
      · subst c22
        have H1 : (some (0, ([] : List (S39)), false)) = some (r1, r2, r3) := by rw [if_pos rfl] at H; exact H
        clear H
        have H := H1
        clear H1
        simp only [Option.some.injEq, Prod.mk.injEq] at H
        obtain ⟨rfl, rfl, rfl⟩ := H
        have hnb23 := NB204_203.out
        have hnc23 := NB203_204.out
        have hcz24_0 : wc.cell? ⟨gb204, 0, none⟩ = some (.int .i64 0) := (blk_cell BK204.out 0).trans rfl
        have hcz24_1 : wc.cell? ⟨gb204, 1, none⟩ = some (.slice none 0 0) := (blk_cell BK204.out 1).trans rfl
        have hfz24_0 := blk_frozen BK204.out 0
        have hfz24_1 := blk_frozen BK204.out 1
        go_wp2
        refine bodyPost_ret (results_ct rfl _ _ gb204 29 #[.int .i64 0, .slice none 0 0] (0, 0) _ rfl (by (with_reducible repeat (first | refine blk_drewN ?_ _ | refine blk_drew ?_ | refine blk_alloc ?_ _)); refine blk_put (cs := #[.int .i64 0, .slice none 0 0]) ?_ 1 _ rfl; (with_reducible repeat (first | refine blk_drewN ?_ _ | refine blk_drew ?_ | refine blk_alloc ?_ _)); refine blk_put (cs := #[.int .i64 0, .slice none 0 0]) ?_ 0 _ rfl; (with_reducible repeat (first | refine blk_drewN ?_ _ | refine blk_drew ?_ | refine blk_alloc ?_ _)); exact BK204.out) Try.underlying29 rfl (by kernel_rfl)) rfl ?_
        exact ⟨_, by first | rfl | (simp [errW_none, errW_some] <;> rfl) | (simp [*, errW_none, errW_some] <;> rfl), by first | exact Kd.R_nil _ _ _ _ _ | exact Kd.N_nil _ _ _ _ _ | exact Kd.V_nil _ _ _ _ _ | exact Kd.Q_nil _ _ _ _ _ | exact Kd.S_nil _ _ _ _ _, hbg_⟩
      · replace c22 := Bool.eq_false_iff.mpr c22
        subst c22
        have H1 : (impl_MakePuzzle.l0 kj4 a0 a2 0 a1_0 a1_1 a0 ([] : List (S39)) a3) = some (r1, r2, r3) := by rw [if_neg (show ¬ (false = true) by decide)] at H; exact H
        clear H
        have H := H1
        clear H1
        have H' := Aside0.mk H
        clear H
        go_wp2_with (first | ((with_reducible refine gate_dst (N := 10) rfl ?_); refine box_event ?hg (N := 10) ?hd (cs := #[.int .i64 0, .slice none 0 0]) (t := 29) ?hr ?_; (case hd => rfl); (case hg => rfl); (case hr => first | (go_simp; done) | (go_simp; rfl)); intro gb208 hg w25 hbox hb; have n0_ := bb_ BK203 hb; have n1_ := bb_ BK204 hb; have n2_ := Aside0.mk (below_step (hbg_) hb); have n3_ := Aside0.mk (hbox); have n4_ := Aside0.mk ((by rw [hg]; exact (below_size (hbg_)) : w.heap.size ≤ gb208)); have n5_ := Aside0.mk ((by rw [hg]; exact (below_size (hbg_)) : w.heap.size ≤ gb208)); have n6_ := Aside0.mk ((by rw [hg]; exact Nat.ne_of_lt (blk_lt (bk_ BK203.out)) : gb203 ≠ gb208)); have n7_ := Aside0.mk ((by rw [hg]; exact Nat.ne_of_gt (blk_lt (bk_ BK203.out)) : gb208 ≠ gb203)); have n8_ := Aside0.mk ((by rw [hg]; exact Nat.ne_of_lt (blk_lt (bk_ BK204.out)) : gb204 ≠ gb208)); have n9_ := Aside0.mk ((by rw [hg]; exact Nat.ne_of_gt (blk_lt (bk_ BK204.out)) : gb208 ≠ gb204)); clear BK203; clear BK204; clear HB; have BK203 := n0_; have BK204 := n1_; have HB := n2_; have BK208 := n3_; have GW208 := n4_; have GE208 := n5_; have NB203_208 := n6_; have NB208_203 := n7_; have NB204_208 := n8_; have NB208_204 := n9_; clear n0_ n1_ n2_ n3_ n4_ n5_ n6_ n7_ n8_ n9_; clear hb hbox hg) | ((with_reducible refine gate_dst (N := 11) rfl ?_); refine box_event ?hg (N := 11) ?hd (cs := #[.int .i64 0]) (t := 3) ?hr ?_; (case hd => rfl); (case hg => rfl); (case hr => first | (go_simp; done) | (go_simp; rfl)); intro gb209 hg w26 hbox hb; have n0_ := bb_ BK203 hb; have n1_ := bb_ BK204 hb; have n2_ := bb_ BK208 hb; have n3_ := Aside0.mk (below_step (hbg_) hb); have n4_ := Aside0.mk ((show IsS3 w w26 gb209 0 from ⟨hbox, (by rw [hg]; exact (below_size (hbg_)) : w.heap.size ≤ gb209)⟩)); have n5_ := Aside0.mk ((by rw [hg]; exact Nat.ne_of_lt (blk_lt (bk_ BK203.out)) : gb203 ≠ gb209)); have n6_ := Aside0.mk ((by rw [hg]; exact Nat.ne_of_gt (blk_lt (bk_ BK203.out)) : gb209 ≠ gb203)); have n7_ := Aside0.mk ((by rw [hg]; exact Nat.ne_of_lt (blk_lt (bk_ BK204.out)) : gb204 ≠ gb209)); have n8_ := Aside0.mk ((by rw [hg]; exact Nat.ne_of_gt (blk_lt (bk_ BK204.out)) : gb209 ≠ gb204)); have n9_ := Aside0.mk ((by rw [hg]; exact Nat.ne_of_lt (blk_lt (bk_ BK208.out)) : gb208 ≠ gb209)); have n10_ := Aside0.mk ((by rw [hg]; exact Nat.ne_of_gt (blk_lt (bk_ BK208.out)) : gb209 ≠ gb208)); clear BK203; clear BK204; clear BK208; clear HB; have BK203 := n0_; have BK204 := n1_; have BK208 := n2_; have HB := n3_; have HI209 := n4_; have NB203_209 := n5_; have NB209_203 := n6_; have NB204_209 := n7_; have NB209_204 := n8_; have NB208_209 := n9_; have NB209_208 := n10_; clear n0_ n1_ n2_ n3_ n4_ n5_ n6_ n7_ n8_ n9_ n10_; clear hb hbox hg; have hnb27 := NB208_203.out; have hnc27 := NB203_208.out; have hnb28 := NB208_204.out; have hnc28 := NB204_208.out; have hnb29 := NB208_209.out; have hnc29 := NB209_208.out; have hcz30_0 : w26.cell? ⟨gb208, 0, none⟩ = some (.int .i64 0) := (blk_cell BK208.out 0).trans rfl; have hcz30_1 : w26.cell? ⟨gb208, 1, none⟩ = some (.slice none 0 0) := (blk_cell BK208.out 1).trans rfl; have hfz30_0 := blk_frozen BK208.out 0; have hfz30_1 := blk_frozen BK208.out 1; obtain ⟨HGz31, hgz31⟩ := HI209.out; have hcz31_0 := cellS3_0 HGz31; have hfz31_0 := blk_frozen HGz31 0; clear HGz31 hgz31))
        go_loopg [34] kj4 (fun kq v34 w' => ∃ (x34_2 : Int) (x209001_2 : List (S39)) (x210000_2 : Int) (u209001 : Value), v34 = .int .i64 x34_2 ∧ Aside0 (impl_MakePuzzle.l0 kq a0 a2 x34_2 a1_0 a1_1 a0 x209001_2 x210000_2 = some (r1, r2, r3)) ∧ Aside0 (kq ≤ kj4) ∧ Aside0 (Kd.R k39 39 w' w.heap.size (fun _ => True) u209001 x209001_2) ∧ Aside0 (w'.heap[gb203]? = some (.cells #[.int .i64 a1_0, .int .i64 a1_1] 41 (0, 0))) ∧ Aside0 (w'.heap[gb204]? = some (.cells #[.int .i64 0, (.slice none 0 0)] 29 (0, 0))) ∧ Aside0 (w'.heap[gb208]? = some (.cells #[.int .i64 a0, u209001] 29 (0, 0))) ∧ Aside0 (IsS3 w w' gb209 x210000_2) ∧ Aside0 (Below w.heap.size w w'))
        case atStart => exact ⟨(0), (([] : List (S39))), (a3), (.slice none 0 0), (by first | rfl | (simp; done) | (simp [*]; done)), H', ⟨Nat.le_refl _⟩, ⟨by first | exact Kd.R_nil _ _ _ _ _ | exact Kd.N_nil _ _ _ _ _ | exact Kd.V_nil _ _ _ _ _ | exact Kd.Q_nil _ _ _ _ _ | exact Kd.S_nil _ _ _ _ _⟩, ⟨by (with_reducible repeat (first | refine blk_drewN ?_ _ | refine blk_drew ?_ | refine blk_alloc ?_ _)); refine blk_far ?_ NB203_209.out _; (with_reducible repeat (first | refine blk_drewN ?_ _ | refine blk_drew ?_ | refine blk_alloc ?_ _)); refine blk_far ?_ NB203_208.out _; (with_reducible repeat (first | refine blk_drewN ?_ _ | refine blk_drew ?_ | refine blk_alloc ?_ _)); refine blk_far ?_ NB203_208.out _; (with_reducible repeat (first | refine blk_drewN ?_ _ | refine blk_drew ?_ | refine blk_alloc ?_ _)); exact BK203.out⟩, ⟨by (with_reducible repeat (first | refine blk_drewN ?_ _ | refine blk_drew ?_ | refine blk_alloc ?_ _)); refine blk_far ?_ NB204_209.out _; (with_reducible repeat (first | refine blk_drewN ?_ _ | refine blk_drew ?_ | refine blk_alloc ?_ _)); refine blk_far ?_ NB204_208.out _; (with_reducible repeat (first | refine blk_drewN ?_ _ | refine blk_drew ?_ | refine blk_alloc ?_ _)); refine blk_far ?_ NB204_208.out _; (with_reducible repeat (first | refine blk_drewN ?_ _ | refine blk_drew ?_ | refine blk_alloc ?_ _)); exact BK204.out⟩, ⟨by (with_reducible repeat (first | refine blk_drewN ?_ _ | refine blk_drew ?_ | refine blk_alloc ?_ _)); refine blk_far ?_ NB208_209.out _; (with_reducible repeat (first | refine blk_drewN ?_ _ | refine blk_drew ?_ | refine blk_alloc ?_ _)); refine blk_put (cs := #[.int .i64 a0, .slice none 0 0]) ?_ 1 _ rfl; (with_reducible repeat (first | refine blk_drewN ?_ _ | refine blk_drew ?_ | refine blk_alloc ?_ _)); refine blk_put (cs := #[.int .i64 0, .slice none 0 0]) ?_ 0 _ rfl; (with_reducible repeat (first | refine blk_drewN ?_ _ | refine blk_drew ?_ | refine blk_alloc ?_ _)); exact BK208.out⟩, ⟨by repeat (first | (with_reducible first | exact HI209.out | apply IsS3.alloc | apply IsS3.drewN | apply IsS3.drew | apply IsS3.set_0 | refine IsS3.far ?_ NB209_203.out _ | refine IsS3.far ?_ NB209_204.out _ | refine IsS3.far ?_ NB209_208.out _ | apply IsS3.far (p := ⟨_, _, _⟩) (hne := NB209_203.out) | apply IsS3.far (p := ⟨_, _, _⟩) (hne := NB209_204.out) | apply IsS3.far (p := ⟨_, _, _⟩) (hne := NB209_208.out)) | exact HI209.out)⟩, ⟨by repeat (first | (with_reducible first | exact HB.out | apply below_alloc | apply pw_below_drewN | apply below_drew1 | refine below_set ?_ (IsS3.ge HI209.out) | refine below_set ?_ GE203.out | refine below_set ?_ GE204.out | refine below_set ?_ GE208.out) | exact HB.out)⟩⟩
        case round =>
          clear H'
          try clear c1
          try clear c2
          try clear p2
          try clear c6
          try clear c9
          try clear c11
          try clear c13
          try clear c16
          try clear c19
          try clear c22
          try clear c23
          try clear c27
          try clear c28
          try clear c29
          try clear hcz14_0
          try clear hcz14_1
          try clear hcz17_0
          try clear hcz17_1
          try clear hcz20_0
          try clear hcz20_1
          try clear hcz24_0
          try clear hcz24_1
          try clear hcz30_0
          try clear hcz30_1
          try clear hcz31_0
          try clear hfz14_0
          try clear hfz14_1
          try clear hfz17_0
          try clear hfz17_1
          try clear hfz20_0
          try clear hfz20_1
          try clear hfz24_0
          try clear hfz24_1
          try clear hfz30_0
          try clear hfz30_1
          try clear hfz31_0
          try clear p2
          obtain ⟨x34_2, x209001_2, x210000_2, u209001, rfl, HA, HK2, HO_209001, BK203, BK204, BK208, HI209, HB⟩ := hrel
          cases gk with
          | zero => exact absurd HA.out (by simp [impl_MakePuzzle.l0])
          | succ k2 =>
            have H := HA.out
            clear HA
            simp only [impl_MakePuzzle.l0] at H
            by_cases c32 : x34_2 < a2
            · rw [if_pos c32] at H
              have c32b0 : decide (x34_2 < a2) = true := decide_eq_true c32
              clear c32
              replace H := Option.bind_eq_some_iff.mp H
              obtain ⟨⟨t210, t211⟩, A330, H⟩ := H
              replace H : (if t210 ≥ 3 then ((impl_MakePuzzle_1.f (wrap64 (a0 + 1)) t211).bind fun bt213 => ((impl_MakePuzzle_1.f (wrap64 (a0 + 1)) bt213.2).bind fun bt215 => ((impl_asHas.f k2 t210 bt213.1 bt215.1 0 a1_0 a1_1).bind fun bt217 => (if x209001_2.length < 4398046511104 then (impl_MakePuzzle.l0 k2 a0 a2 (wrap64 (x34_2 + 1)) a1_0 a1_1 a0 (x209001_2 ++ [(⟨bt217.1, bt217.2.1, bt217.2.2.1, bt217.2.2.2⟩ : S39)]) bt215.2) else (none))))) else ((impl_asHas.f k2 t210 0 0 0 a1_0 a1_1).bind fun bt224 => (if x209001_2.length < 4398046511104 then (impl_MakePuzzle.l0 k2 a0 a2 (wrap64 (x34_2 + 1)) a1_0 a1_1 a0 (x209001_2 ++ [(⟨bt224.1, bt224.2.1, bt224.2.2.1, bt224.2.2.2⟩ : S39)]) t211) else (none)))) = some (r1, r2, r3) := H
              have A33 := Aside0.mk A330
              clear A330
              by_cases c34 : t210 ≥ 3
              · rw [if_pos c34] at H
                have c34b0 : decide (3 ≤ t210) = true := decide_eq_true c34
                clear c34
                replace H := Option.bind_eq_some_iff.mp H
                obtain ⟨⟨t213, t214⟩, A350, H⟩ := H
                replace H : ((impl_MakePuzzle_1.f (wrap64 (a0 + 1)) t214).bind fun bt215 => ((impl_asHas.f k2 t210 t213 bt215.1 0 a1_0 a1_1).bind fun bt217 => (if x209001_2.length < 4398046511104 then (impl_MakePuzzle.l0 k2 a0 a2 (wrap64 (x34_2 + 1)) a1_0 a1_1 a0 (x209001_2 ++ [(⟨bt217.1, bt217.2.1, bt217.2.2.1, bt217.2.2.2⟩ : S39)]) bt215.2) else (none)))) = some (r1, r2, r3) := H
                have A35 := Aside0.mk A350
                clear A350
                replace H := Option.bind_eq_some_iff.mp H
                obtain ⟨⟨t215, t216⟩, A360, H⟩ := H
                replace H : ((impl_asHas.f k2 t210 t213 t215 0 a1_0 a1_1).bind fun bt217 => (if x209001_2.length < 4398046511104 then (impl_MakePuzzle.l0 k2 a0 a2 (wrap64 (x34_2 + 1)) a1_0 a1_1 a0 (x209001_2 ++ [(⟨bt217.1, bt217.2.1, bt217.2.2.1, bt217.2.2.2⟩ : S39)]) t216) else (none))) = some (r1, r2, r3) := H
                have A36 := Aside0.mk A360
                clear A360
                replace H := Option.bind_eq_some_iff.mp H
                obtain ⟨⟨t217, t218, t219, t220⟩, A370, H⟩ := H
                replace H : (if x209001_2.length < 4398046511104 then (impl_MakePuzzle.l0 k2 a0 a2 (wrap64 (x34_2 + 1)) a1_0 a1_1 a0 (x209001_2 ++ [(⟨t217, t218, t219, t220⟩ : S39)]) t216) else (none)) = some (r1, r2, r3) := H
                have A37 := Aside0.mk A370
                clear A370
                by_cases c38 : x209001_2.length < 4398046511104
                · rw [if_pos c38] at H
                  have LMc38 := Aside0.mk c38
                  clear c38
                  obtain ⟨y221, hy221⟩ : ∃ y_ : List (S39), y_ = (x209001_2 ++ [(⟨t217, t218, t219, t220⟩ : S39)]) := ⟨_, rfl⟩
                  replace H : (impl_MakePuzzle.l0 k2 a0 a2 (wrap64 (x34_2 + 1)) a1_0 a1_1 a0 y221 t216) = some (r1, r2, r3) := by first | (rw [hy221]; with_reducible exact H) | (have H2_ := (Option.bind_some _ _).symm.trans H; rw [hy221]; with_reducible exact H2_) | (have H2_ := (Option.bind_some _ _).symm.trans H; with_reducible exact H2_) | with_reducible exact H | (rw [hy221]; exact H) | exact H
                  have Ny221 := Aside0.mk hy221
                  clear hy221
                  have H' := Aside0.mk H
                  clear H
                  try go_wp2_with (first | ((with_reducible refine gate_via (s := 36) rfl ?_); refine goesD_ (some 37) rfl rfl (f := 70) Try.func70 (by kernel_rfl) rfl #[.int .i64 6] #[.pointer (some ⟨gb209, 0, none⟩)] #[.int .i64 6, .pointer (some ⟨gb209, 0, none⟩)] rfl rfl rfl (by (try simp only [List.map_toArray, List.map_cons, List.map_nil]); first | done | rfl) ?_; (with_reducible refine (impl_MakePuzzle_1.calls 6 gb209 x210000_2 t210 t211 w _ ?side1 ?side2 A33.out).mono ?_); (case side1 => repeat (first | (with_reducible first | exact HI209.out | apply IsS3.alloc | apply IsS3.drewN | apply IsS3.drew | apply IsS3.set_0 | refine IsS3.far ?_ NB209_203.out _ | refine IsS3.far ?_ NB209_204.out _ | refine IsS3.far ?_ NB209_208.out _ | apply IsS3.far (p := ⟨_, _, _⟩) (hne := NB209_203.out) | apply IsS3.far (p := ⟨_, _, _⟩) (hne := NB209_204.out) | apply IsS3.far (p := ⟨_, _, _⟩) (hne := NB209_208.out)) | exact HI209.out)); (case side2 => repeat (first | (with_reducible first | exact HB.out | apply below_alloc | apply pw_below_drewN | apply below_drew1 | refine below_set ?_ (IsS3.ge HI209.out) | refine below_set ?_ GE203.out | refine below_set ?_ GE204.out | refine below_set ?_ GE208.out) | exact HB.out)); rintro e w39 ⟨rfl, hi, hb, hk⟩; refine ⟨_, rfl, ?_⟩; have n0_ := Aside0.mk (Kd.R_mono (Kd.R_keep (IsS3.apart (show IsS3 w _ gb209 x210000_2 from by repeat (first | (with_reducible first | exact HI209.out | apply IsS3.alloc | apply IsS3.drewN | apply IsS3.drew | apply IsS3.set_0 | refine IsS3.far ?_ NB209_203.out _ | refine IsS3.far ?_ NB209_204.out _ | refine IsS3.far ?_ NB209_208.out _ | apply IsS3.far (p := ⟨_, _, _⟩) (hne := NB209_203.out) | apply IsS3.far (p := ⟨_, _, _⟩) (hne := NB209_204.out) | apply IsS3.far (p := ⟨_, _, _⟩) (hne := NB209_208.out)) | exact HI209.out)) (rk_ HO_209001.out) (by decide)) hk (fun _ h => h.2)) (fun _ h => h.1)); have n1_ := Aside0.mk (KeepBut.blk hk (g' := gb203) (o := .cells #[.int .i64 a1_0, .int .i64 a1_1] 41 (0, 0)) (bk_ BK203.out) NB203_209.out (by simp)); have n2_ := Aside0.mk (KeepBut.blk hk (g' := gb204) (o := .cells #[.int .i64 0, .slice none 0 0] 29 (0, 0)) (bk_ BK204.out) NB204_209.out (by simp)); have n3_ := Aside0.mk (KeepBut.blk hk (g' := gb208) (o := .cells #[.int .i64 a0, u209001] 29 (0, 0)) (bk_ BK208.out) NB208_209.out (by simp)); have n4_ := Aside0.mk (hb); have n5_ := Aside0.mk (hi); clear HO_209001; clear BK203; clear BK204; clear BK208; clear HB; clear HI209; have HO_209001 := n0_; have BK203 := n1_; have BK204 := n2_; have BK208 := n3_; have HB := n4_; have HI209 := n5_; clear n0_ n1_ n2_ n3_ n4_ n5_; (try clear hb); (try clear hb2); (try clear hk); (try clear hi)) | ((with_reducible refine gate_dst (N := 13) rfl ?_); refine box_event ?hg (N := 13) ?hd (cs := #[.int .i64 0, .int .i64 0, .int .i64 0, .int .i64 0]) (t := 39) ?hr ?_; (case hd => rfl); (case hg => rfl); (case hr => first | (go_simp; done) | (go_simp; rfl)); intro gb212 hg w40 hbox hb; have n0_ := Aside0.mk (Kd.R_below (Kd.R_elderB (rk_ HO_209001.out) gb212 (Nat.le_of_eq hg.symm)) hb); have n1_ := bb_ BK203 hb; have n2_ := bb_ BK204 hb; have n3_ := bb_ BK208 hb; have n4_ := Aside0.mk (IsS3.below (by repeat (first | (with_reducible first | exact HI209.out | apply IsS3.alloc | apply IsS3.drewN | apply IsS3.drew | apply IsS3.set_0 | refine IsS3.far ?_ NB209_203.out _ | refine IsS3.far ?_ NB209_204.out _ | refine IsS3.far ?_ NB209_208.out _ | apply IsS3.far (p := ⟨_, _, _⟩) (hne := NB209_203.out) | apply IsS3.far (p := ⟨_, _, _⟩) (hne := NB209_204.out) | apply IsS3.far (p := ⟨_, _, _⟩) (hne := NB209_208.out)) | exact HI209.out)) hb); have n5_ := Aside0.mk (below_step (by repeat (first | (with_reducible first | exact HB.out | apply below_alloc | apply pw_below_drewN | apply below_drew1 | refine below_set ?_ (IsS3.ge HI209.out) | refine below_set ?_ GE203.out | refine below_set ?_ GE204.out | refine below_set ?_ GE208.out) | exact HB.out)) hb); have n6_ := Aside0.mk (hbox); have n7_ := Aside0.mk ((by rw [hg]; exact (below_size (by repeat (first | (with_reducible first | exact HB.out | apply below_alloc | apply pw_below_drewN | apply below_drew1 | refine below_set ?_ (IsS3.ge HI209.out) | refine below_set ?_ GE203.out | refine below_set ?_ GE204.out | refine below_set ?_ GE208.out) | exact HB.out))) : w.heap.size ≤ gb212)); have n8_ := Aside0.mk ((by rw [hg]; exact (below_size (by repeat (first | (with_reducible first | exact HB.out | apply below_alloc | apply pw_below_drewN | apply below_drew1 | refine below_set ?_ (IsS3.ge HI209.out) | refine below_set ?_ GE203.out | refine below_set ?_ GE204.out | refine below_set ?_ GE208.out) | exact HB.out))) : w.heap.size ≤ gb212)); have n9_ := Aside0.mk ((by rw [hg]; exact Nat.ne_of_lt (blk_lt (bk_ BK203.out)) : gb203 ≠ gb212)); have n10_ := Aside0.mk ((by rw [hg]; exact Nat.ne_of_gt (blk_lt (bk_ BK203.out)) : gb212 ≠ gb203)); have n11_ := Aside0.mk ((by rw [hg]; exact Nat.ne_of_lt (blk_lt (bk_ BK204.out)) : gb204 ≠ gb212)); have n12_ := Aside0.mk ((by rw [hg]; exact Nat.ne_of_gt (blk_lt (bk_ BK204.out)) : gb212 ≠ gb204)); have n13_ := Aside0.mk ((by rw [hg]; exact Nat.ne_of_lt (blk_lt (bk_ BK208.out)) : gb208 ≠ gb212)); have n14_ := Aside0.mk ((by rw [hg]; exact Nat.ne_of_gt (blk_lt (bk_ BK208.out)) : gb212 ≠ gb208)); have n15_ := Aside0.mk ((by rw [hg]; exact Nat.ne_of_lt (IsS3.lt (show IsS3 w _ gb209 t211 from by repeat (first | (with_reducible first | exact HI209.out | apply IsS3.alloc | apply IsS3.drewN | apply IsS3.drew | apply IsS3.set_0 | refine IsS3.far ?_ NB209_203.out _ | refine IsS3.far ?_ NB209_204.out _ | refine IsS3.far ?_ NB209_208.out _ | apply IsS3.far (p := ⟨_, _, _⟩) (hne := NB209_203.out) | apply IsS3.far (p := ⟨_, _, _⟩) (hne := NB209_204.out) | apply IsS3.far (p := ⟨_, _, _⟩) (hne := NB209_208.out)) | exact HI209.out))) : gb209 ≠ gb212)); have n16_ := Aside0.mk ((by rw [hg]; exact Nat.ne_of_gt (IsS3.lt (show IsS3 w _ gb209 t211 from by repeat (first | (with_reducible first | exact HI209.out | apply IsS3.alloc | apply IsS3.drewN | apply IsS3.drew | apply IsS3.set_0 | refine IsS3.far ?_ NB209_203.out _ | refine IsS3.far ?_ NB209_204.out _ | refine IsS3.far ?_ NB209_208.out _ | apply IsS3.far (p := ⟨_, _, _⟩) (hne := NB209_203.out) | apply IsS3.far (p := ⟨_, _, _⟩) (hne := NB209_204.out) | apply IsS3.far (p := ⟨_, _, _⟩) (hne := NB209_208.out)) | exact HI209.out))) : gb212 ≠ gb209)); clear HO_209001; clear BK203; clear BK204; clear BK208; clear HI209; clear HB; have HO_209001 := n0_; have BK203 := n1_; have BK204 := n2_; have BK208 := n3_; have HI209 := n4_; have HB := n5_; have BK212 := n6_; have GW212 := n7_; have GE212 := n8_; have NB203_212 := n9_; have NB212_203 := n10_; have NB204_212 := n11_; have NB212_204 := n12_; have NB208_212 := n13_; have NB212_208 := n14_; have NB209_212 := n15_; have NB212_209 := n16_; clear n0_ n1_ n2_ n3_ n4_ n5_ n6_ n7_ n8_ n9_ n10_ n11_ n12_ n13_ n14_ n15_ n16_; clear hb hbox hg; have hnb41 := NB212_203.out; have hnc41 := NB203_212.out; have hnb42 := NB212_204.out; have hnc42 := NB204_212.out; have hnb43 := NB212_208.out; have hnc43 := NB208_212.out; have hnb44 := NB212_209.out; have hnc44 := NB209_212.out; have hcz45_0 : w40.cell? ⟨gb212, 0, none⟩ = some (.int .i64 0) := (blk_cell BK212.out 0).trans rfl; have hcz45_1 : w40.cell? ⟨gb212, 1, none⟩ = some (.int .i64 0) := (blk_cell BK212.out 1).trans rfl; have hcz45_2 : w40.cell? ⟨gb212, 2, none⟩ = some (.int .i64 0) := (blk_cell BK212.out 2).trans rfl; have hcz45_3 : w40.cell? ⟨gb212, 3, none⟩ = some (.int .i64 0) := (blk_cell BK212.out 3).trans rfl; have hfz45_0 := blk_frozen BK212.out 0; have hfz45_1 := blk_frozen BK212.out 1; have hfz45_2 := blk_frozen BK212.out 2; have hfz45_3 := blk_frozen BK212.out 3) | ((with_reducible refine gate_via (s := 42) rfl ?_); refine goesD_ (some 45) rfl rfl (f := 70) Try.func70 (by kernel_rfl) rfl #[.int .i64 (wrap64 (a0 + 1))] #[.pointer (some ⟨gb209, 0, none⟩)] #[.int .i64 (wrap64 (a0 + 1)), .pointer (some ⟨gb209, 0, none⟩)] rfl rfl rfl (by (try simp only [List.map_toArray, List.map_cons, List.map_nil]); first | done | rfl) ?_; (with_reducible refine (impl_MakePuzzle_1.calls (wrap64 (a0 + 1)) gb209 t211 t213 t214 w _ ?side1 ?side2 A35.out).mono ?_); (case side1 => repeat (first | (with_reducible first | exact HI209.out | apply IsS3.alloc | apply IsS3.drewN | apply IsS3.drew | apply IsS3.set_0 | refine IsS3.far ?_ NB209_203.out _ | refine IsS3.far ?_ NB209_204.out _ | refine IsS3.far ?_ NB209_208.out _ | refine IsS3.far ?_ NB209_212.out _ | apply IsS3.far (p := ⟨_, _, _⟩) (hne := NB209_203.out) | apply IsS3.far (p := ⟨_, _, _⟩) (hne := NB209_204.out) | apply IsS3.far (p := ⟨_, _, _⟩) (hne := NB209_208.out) | apply IsS3.far (p := ⟨_, _, _⟩) (hne := NB209_212.out)) | exact HI209.out)); (case side2 => repeat (first | (with_reducible first | exact HB.out | apply below_alloc | apply pw_below_drewN | apply below_drew1 | refine below_set ?_ (IsS3.ge HI209.out) | refine below_set ?_ GE203.out | refine below_set ?_ GE204.out | refine below_set ?_ GE208.out | refine below_set ?_ GE212.out) | exact HB.out)); rintro e w46 ⟨rfl, hi, hb, hk⟩; refine ⟨_, rfl, ?_⟩; have n0_ := Aside0.mk (Kd.R_mono (Kd.R_keep (IsS3.apart (show IsS3 w _ gb209 t211 from by repeat (first | (with_reducible first | exact HI209.out | apply IsS3.alloc | apply IsS3.drewN | apply IsS3.drew | apply IsS3.set_0 | refine IsS3.far ?_ NB209_203.out _ | refine IsS3.far ?_ NB209_204.out _ | refine IsS3.far ?_ NB209_208.out _ | refine IsS3.far ?_ NB209_212.out _ | apply IsS3.far (p := ⟨_, _, _⟩) (hne := NB209_203.out) | apply IsS3.far (p := ⟨_, _, _⟩) (hne := NB209_204.out) | apply IsS3.far (p := ⟨_, _, _⟩) (hne := NB209_208.out) | apply IsS3.far (p := ⟨_, _, _⟩) (hne := NB209_212.out)) | exact HI209.out)) (by (with_reducible repeat (first | apply Kd.R_alloc | apply Kd.R_drewN | apply Kd.R_drew)); exact (Kd.R_mono (Kd.R_far (p := ⟨gb212, 3, none⟩) (Kd.R_far (p := ⟨gb212, 2, none⟩) (Kd.R_far (p := ⟨gb212, 1, none⟩) (Kd.R_far (p := ⟨gb212, 0, none⟩) (Kd.R_mono HO_209001.out (fun k_ hk => (⟨hk, hk.2⟩ : _ ∧ k_ ≠ gb212))) (fun _ hk => hk.2) (.int .i64 t210)) (fun _ hk => hk.2) (.int .i64 0)) (fun _ hk => hk.2) (.int .i64 0)) (fun _ hk => hk.2) (.int .i64 0)) (fun _ h_ => h_.1))) (by decide)) hk (fun _ h => h.2)) (fun _ h => h.1)); have n1_ := Aside0.mk (KeepBut.blk hk (g' := gb203) (o := .cells #[.int .i64 a1_0, .int .i64 a1_1] 41 (0, 0)) (by (with_reducible repeat (first | refine blk_drewN ?_ _ | refine blk_drew ?_ | refine blk_alloc ?_ _)); refine blk_far ?_ NB203_212.out _; (with_reducible repeat (first | refine blk_drewN ?_ _ | refine blk_drew ?_ | refine blk_alloc ?_ _)); refine blk_far ?_ NB203_212.out _; (with_reducible repeat (first | refine blk_drewN ?_ _ | refine blk_drew ?_ | refine blk_alloc ?_ _)); refine blk_far ?_ NB203_212.out _; (with_reducible repeat (first | refine blk_drewN ?_ _ | refine blk_drew ?_ | refine blk_alloc ?_ _)); refine blk_far ?_ NB203_212.out _; (with_reducible repeat (first | refine blk_drewN ?_ _ | refine blk_drew ?_ | refine blk_alloc ?_ _)); exact BK203.out) NB203_209.out (by simp)); have n2_ := Aside0.mk (KeepBut.blk hk (g' := gb204) (o := .cells #[.int .i64 0, .slice none 0 0] 29 (0, 0)) (by (with_reducible repeat (first | refine blk_drewN ?_ _ | refine blk_drew ?_ | refine blk_alloc ?_ _)); refine blk_far ?_ NB204_212.out _; (with_reducible repeat (first | refine blk_drewN ?_ _ | refine blk_drew ?_ | refine blk_alloc ?_ _)); refine blk_far ?_ NB204_212.out _; (with_reducible repeat (first | refine blk_drewN ?_ _ | refine blk_drew ?_ | refine blk_alloc ?_ _)); refine blk_far ?_ NB204_212.out _; (with_reducible repeat (first | refine blk_drewN ?_ _ | refine blk_drew ?_ | refine blk_alloc ?_ _)); refine blk_far ?_ NB204_212.out _; (with_reducible repeat (first | refine blk_drewN ?_ _ | refine blk_drew ?_ | refine blk_alloc ?_ _)); exact BK204.out) NB204_209.out (by simp)); have n3_ := Aside0.mk (KeepBut.blk hk (g' := gb208) (o := .cells #[.int .i64 a0, u209001] 29 (0, 0)) (by (with_reducible repeat (first | refine blk_drewN ?_ _ | refine blk_drew ?_ | refine blk_alloc ?_ _)); refine blk_far ?_ NB208_212.out _; (with_reducible repeat (first | refine blk_drewN ?_ _ | refine blk_drew ?_ | refine blk_alloc ?_ _)); refine blk_far ?_ NB208_212.out _; (with_reducible repeat (first | refine blk_drewN ?_ _ | refine blk_drew ?_ | refine blk_alloc ?_ _)); refine blk_far ?_ NB208_212.out _; (with_reducible repeat (first | refine blk_drewN ?_ _ | refine blk_drew ?_ | refine blk_alloc ?_ _)); refine blk_far ?_ NB208_212.out _; (with_reducible repeat (first | refine blk_drewN ?_ _ | refine blk_drew ?_ | refine blk_alloc ?_ _)); exact BK208.out) NB208_209.out (by simp)); have n4_ := Aside0.mk (KeepBut.blk hk (g' := gb212) (o := .cells #[.int .i64 t210, .int .i64 0, .int .i64 0, .int .i64 0] 39 (0, 0)) (by (with_reducible repeat (first | refine blk_drewN ?_ _ | refine blk_drew ?_ | refine blk_alloc ?_ _)); refine blk_put (cs := #[.int .i64 t210, .int .i64 0, .int .i64 0, .int .i64 0]) ?_ 3 _ rfl; (with_reducible repeat (first | refine blk_drewN ?_ _ | refine blk_drew ?_ | refine blk_alloc ?_ _)); refine blk_put (cs := #[.int .i64 t210, .int .i64 0, .int .i64 0, .int .i64 0]) ?_ 2 _ rfl; (with_reducible repeat (first | refine blk_drewN ?_ _ | refine blk_drew ?_ | refine blk_alloc ?_ _)); refine blk_put (cs := #[.int .i64 t210, .int .i64 0, .int .i64 0, .int .i64 0]) ?_ 1 _ rfl; (with_reducible repeat (first | refine blk_drewN ?_ _ | refine blk_drew ?_ | refine blk_alloc ?_ _)); refine blk_put (cs := #[.int .i64 0, .int .i64 0, .int .i64 0, .int .i64 0]) ?_ 0 _ rfl; (with_reducible repeat (first | refine blk_drewN ?_ _ | refine blk_drew ?_ | refine blk_alloc ?_ _)); exact BK212.out) NB212_209.out (by simp)); have n5_ := Aside0.mk (hb); have n6_ := Aside0.mk (hi); clear HO_209001; clear BK203; clear BK204; clear BK208; clear BK212; clear HB; clear HI209; have HO_209001 := n0_; have BK203 := n1_; have BK204 := n2_; have BK208 := n3_; have BK212 := n4_; have HB := n5_; have HI209 := n6_; clear n0_ n1_ n2_ n3_ n4_ n5_ n6_; (try clear hb); (try clear hb2); (try clear hk); (try clear hi); have hcz47_0 : w46.cell? ⟨gb212, 0, none⟩ = some (.int .i64 t210) := (blk_cell BK212.out 0).trans rfl; have hcz47_1 : w46.cell? ⟨gb212, 1, none⟩ = some (.int .i64 0) := (blk_cell BK212.out 1).trans rfl; have hcz47_2 : w46.cell? ⟨gb212, 2, none⟩ = some (.int .i64 0) := (blk_cell BK212.out 2).trans rfl; have hcz47_3 : w46.cell? ⟨gb212, 3, none⟩ = some (.int .i64 0) := (blk_cell BK212.out 3).trans rfl; have hfz47_0 := blk_frozen BK212.out 0; have hfz47_1 := blk_frozen BK212.out 1; have hfz47_2 := blk_frozen BK212.out 2; have hfz47_3 := blk_frozen BK212.out 3) | ((with_reducible refine gate_via (s := 47) rfl ?_); refine goesD_ (some 50) rfl rfl (f := 70) Try.func70 (by kernel_rfl) rfl #[.int .i64 (wrap64 (a0 + 1))] #[.pointer (some ⟨gb209, 0, none⟩)] #[.int .i64 (wrap64 (a0 + 1)), .pointer (some ⟨gb209, 0, none⟩)] rfl rfl rfl (by (try simp only [List.map_toArray, List.map_cons, List.map_nil]); first | done | rfl) ?_; (with_reducible refine (impl_MakePuzzle_1.calls (wrap64 (a0 + 1)) gb209 t214 t215 t216 w _ ?side1 ?side2 A36.out).mono ?_); (case side1 => repeat (first | (with_reducible first | exact HI209.out | apply IsS3.alloc | apply IsS3.drewN | apply IsS3.drew | apply IsS3.set_0 | refine IsS3.far ?_ NB209_203.out _ | refine IsS3.far ?_ NB209_204.out _ | refine IsS3.far ?_ NB209_208.out _ | refine IsS3.far ?_ NB209_212.out _ | apply IsS3.far (p := ⟨_, _, _⟩) (hne := NB209_203.out) | apply IsS3.far (p := ⟨_, _, _⟩) (hne := NB209_204.out) | apply IsS3.far (p := ⟨_, _, _⟩) (hne := NB209_208.out) | apply IsS3.far (p := ⟨_, _, _⟩) (hne := NB209_212.out)) | exact HI209.out)); (case side2 => repeat (first | (with_reducible first | exact HB.out | apply below_alloc | apply pw_below_drewN | apply below_drew1 | refine below_set ?_ (IsS3.ge HI209.out) | refine below_set ?_ GE203.out | refine below_set ?_ GE204.out | refine below_set ?_ GE208.out | refine below_set ?_ GE212.out) | exact HB.out)); rintro e w48 ⟨rfl, hi, hb, hk⟩; refine ⟨_, rfl, ?_⟩; have n0_ := Aside0.mk (Kd.R_mono (Kd.R_keep (IsS3.apart (show IsS3 w _ gb209 t214 from by repeat (first | (with_reducible first | exact HI209.out | apply IsS3.alloc | apply IsS3.drewN | apply IsS3.drew | apply IsS3.set_0 | refine IsS3.far ?_ NB209_203.out _ | refine IsS3.far ?_ NB209_204.out _ | refine IsS3.far ?_ NB209_208.out _ | refine IsS3.far ?_ NB209_212.out _ | apply IsS3.far (p := ⟨_, _, _⟩) (hne := NB209_203.out) | apply IsS3.far (p := ⟨_, _, _⟩) (hne := NB209_204.out) | apply IsS3.far (p := ⟨_, _, _⟩) (hne := NB209_208.out) | apply IsS3.far (p := ⟨_, _, _⟩) (hne := NB209_212.out)) | exact HI209.out)) (by (with_reducible repeat (first | apply Kd.R_alloc | apply Kd.R_drewN | apply Kd.R_drew)); exact (Kd.R_mono (Kd.R_far (p := ⟨gb212, 1, none⟩) (Kd.R_mono HO_209001.out (fun k_ hk => (⟨hk, hk.2⟩ : _ ∧ k_ ≠ gb212))) (fun _ hk => hk.2) (.int .i64 t213)) (fun _ h_ => h_.1))) (by decide)) hk (fun _ h => h.2)) (fun _ h => h.1)); have n1_ := Aside0.mk (KeepBut.blk hk (g' := gb203) (o := .cells #[.int .i64 a1_0, .int .i64 a1_1] 41 (0, 0)) (by (with_reducible repeat (first | refine blk_drewN ?_ _ | refine blk_drew ?_ | refine blk_alloc ?_ _)); refine blk_far ?_ NB203_212.out _; (with_reducible repeat (first | refine blk_drewN ?_ _ | refine blk_drew ?_ | refine blk_alloc ?_ _)); exact BK203.out) NB203_209.out (by simp)); have n2_ := Aside0.mk (KeepBut.blk hk (g' := gb204) (o := .cells #[.int .i64 0, .slice none 0 0] 29 (0, 0)) (by (with_reducible repeat (first | refine blk_drewN ?_ _ | refine blk_drew ?_ | refine blk_alloc ?_ _)); refine blk_far ?_ NB204_212.out _; (with_reducible repeat (first | refine blk_drewN ?_ _ | refine blk_drew ?_ | refine blk_alloc ?_ _)); exact BK204.out) NB204_209.out (by simp)); have n3_ := Aside0.mk (KeepBut.blk hk (g' := gb208) (o := .cells #[.int .i64 a0, u209001] 29 (0, 0)) (by (with_reducible repeat (first | refine blk_drewN ?_ _ | refine blk_drew ?_ | refine blk_alloc ?_ _)); refine blk_far ?_ NB208_212.out _; (with_reducible repeat (first | refine blk_drewN ?_ _ | refine blk_drew ?_ | refine blk_alloc ?_ _)); exact BK208.out) NB208_209.out (by simp)); have n4_ := Aside0.mk (KeepBut.blk hk (g' := gb212) (o := .cells #[.int .i64 t210, .int .i64 t213, .int .i64 0, .int .i64 0] 39 (0, 0)) (by (with_reducible repeat (first | refine blk_drewN ?_ _ | refine blk_drew ?_ | refine blk_alloc ?_ _)); refine blk_put (cs := #[.int .i64 t210, .int .i64 0, .int .i64 0, .int .i64 0]) ?_ 1 _ rfl; (with_reducible repeat (first | refine blk_drewN ?_ _ | refine blk_drew ?_ | refine blk_alloc ?_ _)); exact BK212.out) NB212_209.out (by simp)); have n5_ := Aside0.mk (hb); have n6_ := Aside0.mk (hi); clear HO_209001; clear BK203; clear BK204; clear BK208; clear BK212; clear HB; clear HI209; have HO_209001 := n0_; have BK203 := n1_; have BK204 := n2_; have BK208 := n3_; have BK212 := n4_; have HB := n5_; have HI209 := n6_; clear n0_ n1_ n2_ n3_ n4_ n5_ n6_; (try clear hb); (try clear hb2); (try clear hk); (try clear hi); have hcz49_0 : w48.cell? ⟨gb212, 0, none⟩ = some (.int .i64 t210) := (blk_cell BK212.out 0).trans rfl; have hcz49_1 : w48.cell? ⟨gb212, 1, none⟩ = some (.int .i64 t213) := (blk_cell BK212.out 1).trans rfl; have hcz49_2 : w48.cell? ⟨gb212, 2, none⟩ = some (.int .i64 0) := (blk_cell BK212.out 2).trans rfl; have hcz49_3 : w48.cell? ⟨gb212, 3, none⟩ = some (.int .i64 0) := (blk_cell BK212.out 3).trans rfl; have hfz49_0 := blk_frozen BK212.out 0; have hfz49_1 := blk_frozen BK212.out 1; have hfz49_2 := blk_frozen BK212.out 2; have hfz49_3 := blk_frozen BK212.out 3) | ((with_reducible refine gate_store (t := 3) (p := 51) rfl ?_); refine store_event (t := 3) (p := 51) (v := ?vo_w50) (w1 := (w48.setCell ⟨gb212, 2, none⟩ (.int .i64 t215))) ?hg ?ho ?hn ?hr ?_; (case ho => rfl); (case hg => rfl); (case hn => rfl); (case hr => first | (go_simp; done) | (go_simp; rfl)); intro w50 hw; have n0_ : Aside0 (Kd.R k39 39 w50 w.heap.size (fun k_ => k_ ≠ gb212) u209001 x209001_2) := ⟨(by rw [hw]; exact (by (with_reducible repeat (first | apply Kd.R_alloc | apply Kd.R_drewN | apply Kd.R_drew)); exact Kd.R_mono (Kd.R_far (p := ⟨gb212, 2, none⟩) (Kd.R_mono HO_209001.out (fun k_ hk => (⟨hk, hk.2⟩ : _ ∧ k_ ≠ gb212))) (fun _ hk => hk.2) (.int .i64 t215)) (fun _ hk => hk.1.2)))⟩; have n1_ : Aside0 (w50.heap[gb203]? = some (.cells #[.int .i64 a1_0, .int .i64 a1_1] 41 (0, 0))) := ⟨(by rw [hw]; exact (by (with_reducible repeat (first | refine blk_drewN ?_ _ | refine blk_drew ?_ | refine blk_alloc ?_ _)); refine blk_far ?_ NB203_212.out _; (with_reducible repeat (first | refine blk_drewN ?_ _ | refine blk_drew ?_ | refine blk_alloc ?_ _)); exact BK203.out))⟩; have n2_ : Aside0 (w50.heap[gb204]? = some (.cells #[.int .i64 0, .slice none 0 0] 29 (0, 0))) := ⟨(by rw [hw]; exact (by (with_reducible repeat (first | refine blk_drewN ?_ _ | refine blk_drew ?_ | refine blk_alloc ?_ _)); refine blk_far ?_ NB204_212.out _; (with_reducible repeat (first | refine blk_drewN ?_ _ | refine blk_drew ?_ | refine blk_alloc ?_ _)); exact BK204.out))⟩; have n3_ : Aside0 (w50.heap[gb208]? = some (.cells #[.int .i64 a0, u209001] 29 (0, 0))) := ⟨(by rw [hw]; exact (by (with_reducible repeat (first | refine blk_drewN ?_ _ | refine blk_drew ?_ | refine blk_alloc ?_ _)); refine blk_far ?_ NB208_212.out _; (with_reducible repeat (first | refine blk_drewN ?_ _ | refine blk_drew ?_ | refine blk_alloc ?_ _)); exact BK208.out))⟩; have n4_ : Aside0 (w50.heap[gb212]? = some (.cells #[.int .i64 t210, .int .i64 t213, .int .i64 t215, .int .i64 0] 39 (0, 0))) := ⟨(by rw [hw]; exact (by (with_reducible repeat (first | refine blk_drewN ?_ _ | refine blk_drew ?_ | refine blk_alloc ?_ _)); refine blk_put (cs := #[.int .i64 t210, .int .i64 t213, .int .i64 0, .int .i64 0]) ?_ 2 _ rfl; (with_reducible repeat (first | refine blk_drewN ?_ _ | refine blk_drew ?_ | refine blk_alloc ?_ _)); exact BK212.out))⟩; have n5_ : Aside0 (IsS3 w w50 gb209 t216) := ⟨(by rw [hw]; exact (by repeat (first | (with_reducible first | exact HI209.out | apply IsS3.alloc | apply IsS3.drewN | apply IsS3.drew | apply IsS3.set_0 | refine IsS3.far ?_ NB209_203.out _ | refine IsS3.far ?_ NB209_204.out _ | refine IsS3.far ?_ NB209_208.out _ | refine IsS3.far ?_ NB209_212.out _ | apply IsS3.far (p := ⟨_, _, _⟩) (hne := NB209_203.out) | apply IsS3.far (p := ⟨_, _, _⟩) (hne := NB209_204.out) | apply IsS3.far (p := ⟨_, _, _⟩) (hne := NB209_208.out) | apply IsS3.far (p := ⟨_, _, _⟩) (hne := NB209_212.out)) | exact HI209.out)))⟩; have n6_ : Aside0 (Below w.heap.size w w50) := ⟨(by rw [hw]; exact (by repeat (first | (with_reducible first | exact HB.out | apply below_alloc | apply pw_below_drewN | apply below_drew1 | refine below_set ?_ (IsS3.ge HI209.out) | refine below_set ?_ GE203.out | refine below_set ?_ GE204.out | refine below_set ?_ GE208.out | refine below_set ?_ GE212.out) | exact HB.out)))⟩; clear hw; clear HO_209001; clear BK203; clear BK204; clear BK208; clear BK212; clear HI209; clear HB; have HO_209001 := n0_; have BK203 := n1_; have BK204 := n2_; have BK208 := n3_; have BK212 := n4_; have HI209 := n5_; have HB := n6_; clear n0_ n1_ n2_ n3_ n4_ n5_ n6_))
                  have n0_ := Aside0.mk (Kd.R_drew HO_209001.out)
                  have n1_ := Aside0.mk (blk_drew BK203.out)
                  have n2_ := Aside0.mk (blk_drew BK204.out)
                  have n3_ := Aside0.mk (blk_drew BK208.out)
                  have n4_ := Aside0.mk (blk_drew BK212.out)
                  have n5_ := Aside0.mk (IsS3.drew HI209.out)
                  have n6_ := Aside0.mk (below_drew1 HB.out)
                  clear HO_209001
                  clear BK203
                  clear BK204
                  clear BK208
                  clear BK212
                  clear HI209
                  clear HB
                  have HO_209001 := n0_
                  have BK203 := n1_
                  have BK204 := n2_
                  have BK208 := n3_
                  have BK212 := n4_
                  have HI209 := n5_
                  have HB := n6_
                  clear n0_ n1_ n2_ n3_ n4_ n5_ n6_
                  refine start_ (n := 9) (S := fun w' => w'.cell? ⟨gb208, 0, none⟩ = some (.int .i64 a0) ∧ w'.cell? ⟨gb208, 1, none⟩ = some (u209001) ∧ w'.cell? ⟨gb212, 0, none⟩ = some (.int .i64 t210) ∧ w'.cell? ⟨gb212, 1, none⟩ = some (.int .i64 t213) ∧ w'.cell? ⟨gb212, 2, none⟩ = some (.int .i64 t215) ∧ w'.cell? ⟨gb212, 3, none⟩ = some (.int .i64 0) ∧ w'.cell? ⟨gb203, 0, none⟩ = some (.int .i64 a1_0) ∧ w'.cell? ⟨gb203, 1, none⟩ = some (.int .i64 a1_1)) (ds := [8]) #[false, false, false, false, false, false, false, false, false] (by kernel_rfl) rfl rfl ⟨(blk_cell BK208.out 0).trans rfl, (blk_cell BK208.out 1).trans rfl, (blk_cell BK212.out 0).trans rfl, (blk_cell BK212.out 1).trans rfl, (blk_cell BK212.out 2).trans rfl, (blk_cell BK212.out 3).trans rfl, (blk_cell BK203.out 0).trans rfl, (blk_cell BK203.out 1).trans rfl⟩ (fun hHeld => ?_); refine with_tabW impl_MakePuzzle.tab11 impl_MakePuzzle.bits11 (fun HT_ HW_ => ?_)
                  generalize w50.drew = w51 at HO_209001 BK203 BK204 BK208 BK212 HI209 HB hHeld ⊢
                  refine pure_ (i := 0) (N := some 52) (v := ?_) (a' := ?_) #[true, false, false, false, false, false, false, false, false] rfl rfl (any_of HT_.out (by kernel_rfl)) (fun _ _ _ h => h) (Or.inl ⟨by rfl, ?_⟩) ?_ ?_
                  rotate_left
                  · intro w'
                    go_simp
                    with_reducible rfl
                  rotate_left
                  · simp only [Act.put, sA, sB, sC, i64_w, i32_w]
                    rfl
                  refine take_ (i := 1) (N := some 53) (v := ?_) (a' := ?_) #[true, true, false, false, false, false, false, false, false] rfl rfl (take_ofW HT_.out HW_.out (by kernel_rfl)) (fun _ _ _ h => h) (Or.inl ⟨by rfl, ?_⟩) hHeld ?_ ?_
                  rotate_left
                  · rintro w' ⟨s0, s1, s2, s3, s4, s5, s6, s7⟩
                    go_simp
                    with_reducible rfl
                  rotate_left
                  · simp only [Act.put, sA, sB, sC, i64_w, i32_w]
                    rfl
                  refine take_ (i := 2) (N := some 54) (v := ?_) (a' := ?_) #[true, true, true, false, false, false, false, false, false] rfl rfl (take_ofW HT_.out HW_.out (by kernel_rfl)) (fun _ _ _ h => h) (Or.inl ⟨by rfl, ?_⟩) hHeld ?_ ?_
                  rotate_left
                  · rintro w' ⟨s0, s1, s2, s3, s4, s5, s6, s7⟩
                    go_simp
                    with_reducible rfl
                  rotate_left
                  · simp only [Act.put, sA, sB, sC, i64_w, i32_w]
                    rfl
                  refine take_ (i := 3) (N := some 55) (v := ?_) (a' := ?_) #[true, true, true, true, false, false, false, false, false] rfl rfl (take_ofW HT_.out HW_.out (by kernel_rfl)) (fun _ _ _ h => h) (Or.inl ⟨by rfl, ?_⟩) hHeld ?_ ?_
                  rotate_left
                  · rintro w' ⟨s0, s1, s2, s3, s4, s5, s6, s7⟩
                    go_simp
                    with_reducible rfl
                  rotate_left
                  · simp only [Act.put, sA, sB, sC, i64_w, i32_w]
                    rfl
                  refine one_ (i := 4) (N := some 56) #[true, true, true, true, true, false, false, false, false] rfl rfl (one_of HT_.out (by kernel_rfl)) (by decide) (fun K hK => ?_)
                  refine goes_ Try.func71 (by kernel_rfl) rfl #[.agg #[.int .i64 t210, .int .i64 t213, .int .i64 t215, .int .i64 0], .agg #[.int .i64 a1_0, .int .i64 a1_1]] (by rfl) rfl rfl (by (try simp only [List.map_toArray, List.map_cons, List.map_nil]); first | done | rfl | (simp only [List.length_drop, List.length_take]; rfl)) ?_
                  with_reducible refine (impl_asHas.calls k2 t210 t213 t215 0 a1_0 a1_1 t217 t218 t219 t220 _ A37.out).mono ?_
                  rintro e w52 ⟨rfl, hb⟩
                  refine ⟨_, rfl, ?_⟩
                  have n0_ := Aside0.mk (Kd.R_below (rk_ HO_209001.out) hb)
                  have n1_ := bb_ BK203 hb
                  have n2_ := bb_ BK204 hb
                  have n3_ := bb_ BK208 hb
                  have n4_ := Aside0.mk (IsS3.below (by repeat (first | (with_reducible first | exact HI209.out | apply IsS3.alloc | apply IsS3.drewN | apply IsS3.drew | apply IsS3.set_0 | refine IsS3.far ?_ NB209_203.out _ | refine IsS3.far ?_ NB209_204.out _ | refine IsS3.far ?_ NB209_208.out _ | refine IsS3.far ?_ NB209_212.out _ | apply IsS3.far (p := ⟨_, _, _⟩) (hne := NB209_203.out) | apply IsS3.far (p := ⟨_, _, _⟩) (hne := NB209_204.out) | apply IsS3.far (p := ⟨_, _, _⟩) (hne := NB209_208.out) | apply IsS3.far (p := ⟨_, _, _⟩) (hne := NB209_212.out)) | exact HI209.out)) hb)
                  have n5_ := bb_ BK212 hb
                  have n6_ := Aside0.mk (below_step (by repeat (first | (with_reducible first | exact HB.out | apply below_alloc | apply pw_below_drewN | apply below_drew1 | refine below_set ?_ (IsS3.ge HI209.out) | refine below_set ?_ GE203.out | refine below_set ?_ GE204.out | refine below_set ?_ GE208.out | refine below_set ?_ GE212.out) | exact HB.out)) hb)
                  clear HO_209001
                  clear BK203
                  clear BK204
                  clear BK208
                  clear HI209
                  clear BK212
                  clear HB
                  have HO_209001 := n0_
                  have BK203 := n1_
                  have BK204 := n2_
                  have BK208 := n3_
                  have HI209 := n4_
                  have BK212 := n5_
                  have HB := n6_
                  clear n0_ n1_ n2_ n3_ n4_ n5_ n6_
                  (try clear hb)
                  (try clear hb2)
                  (try clear hk)
                  (try clear hi)
                  refine hK.out _ _ ⟨(blk_cell BK208.out 0).trans rfl, (blk_cell BK208.out 1).trans rfl, (blk_cell BK212.out 0).trans rfl, (blk_cell BK212.out 1).trans rfl, (blk_cell BK212.out 2).trans rfl, (blk_cell BK212.out 3).trans rfl, (blk_cell BK203.out 0).trans rfl, (blk_cell BK203.out 1).trans rfl⟩ (fun hHeld => ?_)
                  clear hK K
                  refine norm_ (a' := ?_) ?_ ?_
                  rotate_left
                  · show Act.put _ (some 56) _ = _
                    simp only [Act.put, sA, sB, sC, i64_w, i32_w]
                    rfl
                  refine one_ (i := 5) (N := some 57) #[true, true, true, true, true, true, false, false, false] rfl rfl (one_of HT_.out (by kernel_rfl)) (by decide) (fun K hK => ?_)
                  refine value_ (w1 := ?_) (v := ?_) (by rfl) rfl ?_ ?_
                  rotate_left 2
                  · go_simp
                    constructor
                    · rfl
                    · rfl
                  refine hK.out _ _ ⟨(blk_cell (blk_alloc BK208.out _) 0).trans rfl, (blk_cell (blk_alloc BK208.out _) 1).trans rfl, (blk_cell (blk_alloc BK212.out _) 0).trans rfl, (blk_cell (blk_alloc BK212.out _) 1).trans rfl, (blk_cell (blk_alloc BK212.out _) 2).trans rfl, (blk_cell (blk_alloc BK212.out _) 3).trans rfl, (blk_cell (blk_alloc BK203.out _) 0).trans rfl, (blk_cell (blk_alloc BK203.out _) 1).trans rfl⟩ (fun hHeld => ?_)
                  clear hK K
                  refine norm_ (a' := ?_) ?_ ?_
                  rotate_left
                  · show Act.put _ (some 57) _ = _
                    simp only [Act.put, sA, sB, sC, i64_w, i32_w]
                    rfl
                  refine one_ (i := 6) (N := some 58) #[true, true, true, true, true, true, true, false, false] rfl rfl (one_of HT_.out (by kernel_rfl)) (by decide) (fun K hK => ?_)
                  refine Kd.R_append_step k39 (w0 := w) w.heap.size (by rfl) (.tmp 53) (.tmp 57) 27 39 (.agg #[(.int .i64 0), (.int .i64 0), (.int .i64 0), (.int .i64 0)]) 32 rfl Try.underlying27 info39 rfl (by decide) (by omega) u209001 x209001_2 (⟨t217, t218, t219, t220⟩ : S39) [.int .i64 t217, .int .i64 t218, .int .i64 t219, .int .i64 t220] (fun k_ => k_ ≠ gb212) (fun _ => False) rfl rfl ?aP (fun _ hk => hk.elim) ?aF ?aO ?aB ?aS ?aL ?_
                  (case aP => exact k39_mkM _ _ _ (⟨t217, t218, t219, t220⟩ : S39))
                  (case aB => exact (by repeat (first | (with_reducible first | exact HB.out | apply below_alloc | apply pw_below_drewN | apply below_drew1 | refine below_set ?_ (IsS3.ge HI209.out) | refine below_set ?_ GE203.out | refine below_set ?_ GE204.out | refine below_set ?_ GE208.out | refine below_set ?_ GE212.out) | exact HB.out)))
                  (case aF => exact (fun k_ hk => Kd.freshB (g := gb212) (o := .cells #[.int .i64 t210, .int .i64 t213, .int .i64 t215, .int .i64 0] 39 (0, 0)) (bk_ BK212.out) k_ hk))
                  (case aO => exact (rk_ HO_209001.out))
                  (case aS => exact (below_size (by repeat (first | (with_reducible first | exact HB.out | apply below_alloc | apply pw_below_drewN | apply below_drew1 | refine below_set ?_ (IsS3.ge HI209.out) | refine below_set ?_ GE203.out | refine below_set ?_ GE204.out | refine below_set ?_ GE208.out | refine below_set ?_ GE212.out) | exact HB.out))))
                  (case aL => have := LMc38.out; omega)
                  intro v222 w53 ho hb hg hat
                  rw [← Ny221.out] at ho
                  have n0_ := Aside0.mk (blk_grown (g := gb203) (o := .cells #[.int .i64 a1_0, .int .i64 a1_1] 41 (0, 0)) (bk_ BK203.out) hg (Kd.R_ne HO_209001.out BK203.out (by decide)))
                  have n1_ := Aside0.mk (blk_grown (g := gb204) (o := .cells #[.int .i64 0, .slice none 0 0] 29 (0, 0)) (bk_ BK204.out) hg (Kd.R_ne HO_209001.out BK204.out (by decide)))
                  have n2_ := Aside0.mk (blk_grown (g := gb208) (o := .cells #[.int .i64 a0, u209001] 29 (0, 0)) (bk_ BK208.out) hg (Kd.R_ne HO_209001.out BK208.out (by decide)))
                  have n3_ := Aside0.mk (IsS3.grown (by repeat (first | (with_reducible first | exact HI209.out | apply IsS3.alloc | apply IsS3.drewN | apply IsS3.drew | apply IsS3.set_0 | refine IsS3.far ?_ NB209_203.out _ | refine IsS3.far ?_ NB209_204.out _ | refine IsS3.far ?_ NB209_208.out _ | refine IsS3.far ?_ NB209_212.out _ | apply IsS3.far (p := ⟨_, _, _⟩) (hne := NB209_203.out) | apply IsS3.far (p := ⟨_, _, _⟩) (hne := NB209_204.out) | apply IsS3.far (p := ⟨_, _, _⟩) (hne := NB209_208.out) | apply IsS3.far (p := ⟨_, _, _⟩) (hne := NB209_212.out)) | exact HI209.out)) hg (IsS3.own_ne HI209.out HO_209001.out (by decide)))
                  have n4_ := Aside0.mk (blk_grown (g := gb212) (o := .cells #[.int .i64 t210, .int .i64 t213, .int .i64 t215, .int .i64 0] 39 (0, 0)) (bk_ BK212.out) hg (Kd.R_away HO_209001.out (fun _ hk => hk)))
                  have n5_ := Aside0.mk (hb)
                  have n6_ := Aside0.mk (ho)
                  clear BK203
                  clear BK204
                  clear BK208
                  clear HI209
                  clear BK212
                  clear HB
                  clear HO_209001
                  have BK203 := n0_
                  have BK204 := n1_
                  have BK208 := n2_
                  have HI209 := n3_
                  have BK212 := n4_
                  have HB := n5_
                  have HO223 := n6_
                  clear n0_ n1_ n2_ n3_ n4_ n5_ n6_
                  clear ho hb hg hat
                  obtain ⟨Ao54, co54, eo54⟩ := Kd.R_slice HO223.out
                  (first | subst eo54 | (injection eo54 with f1_ f2_ f3_; have f4_ := f1_.symm; have f5_ := f3_.symm; clear f1_ f2_ f3_; subst f4_; subst f5_))
                  refine hK.out _ _ ⟨(blk_cell BK208.out 0).trans rfl, (blk_cell BK208.out 1).trans rfl, (blk_cell BK212.out 0).trans rfl, (blk_cell BK212.out 1).trans rfl, (blk_cell BK212.out 2).trans rfl, (blk_cell BK212.out 3).trans rfl, (blk_cell BK203.out 0).trans rfl, (blk_cell BK203.out 1).trans rfl⟩ (fun hHeld => ?_)
                  clear hK K
                  refine norm_ (a' := ?_) ?_ ?_
                  rotate_left
                  · show Act.put _ (some 58) _ = _
                    simp only [Act.put, sA, sB, sC, i64_w, i32_w]
                    rfl
                  refine pure_ (i := 7) (N := some 59) (v := ?_) (a' := ?_) #[true, true, true, true, true, true, true, true, false] rfl rfl (any_of HT_.out (by kernel_rfl)) (fun _ _ _ h => h) (Or.inl ⟨by rfl, ?_⟩) ?_ ?_
                  rotate_left
                  · intro w'
                    go_simp
                    with_reducible rfl
                  rotate_left
                  · simp only [Act.put, sA, sB, sC, i64_w, i32_w]
                    rfl
                  refine last_ (i := 8) (N := none) #[true, true, true, true, true, true, true, true, true] rfl rfl (one_of HT_.out (by kernel_rfl)) (by decide) (fun K hK => ?_)
                  have hs55 : w53.cell? ⟨gb208, 1, none⟩ = some (u209001) := (blk_cell BK208.out 1).trans rfl
                  have hfs55 := blk_frozen BK208.out 1
                  have hns55_0 := NB203_208.out
                  have hns55_1 := NB204_208.out
                  have hns55_3 := NB212_208.out
                  have hms55_0 := NB208_203.out
                  have hms55_1 := NB208_204.out
                  have hms55_3 := NB208_212.out
                  refine skip_ (w1 := ?_) (by rfl) rfl ?_ ?_
                  rotate_left
                  · go_simp
                    rfl
                  refine hK.out _ _ ?_
                  clear hK K
                  refine done_ (done_of HT_.out (by kernel_rfl)) ?_
                  try go_wp2
                  go_roundg k2
                  case measure => have := HJ4.out; have := HK2.out; omega
                  case rel => exact ⟨(wrap64 (x34_2 + 1)), (y221), (t216), (.slice Ao54 y221.length co54), (by first | rfl | (simp; done) | (simp [*]; done)), H', ⟨by have := HJ4.out; have := HK2.out; omega⟩, ⟨by (with_reducible repeat (first | apply Kd.R_alloc | apply Kd.R_drewN | apply Kd.R_drew)); exact Kd.R_mono (Kd.R_far (p := ⟨gb208, 1, none⟩) (Kd.R_types HO223.out BK208.out (by decide)) (fun _ hk => hk.2) (.slice Ao54 y221.length co54)) (fun _ hk => trivial)⟩, ⟨by (with_reducible repeat (first | refine blk_drewN ?_ _ | refine blk_drew ?_ | refine blk_alloc ?_ _)); refine blk_far ?_ NB203_208.out _; (with_reducible repeat (first | refine blk_drewN ?_ _ | refine blk_drew ?_ | refine blk_alloc ?_ _)); exact BK203.out⟩, ⟨by (with_reducible repeat (first | refine blk_drewN ?_ _ | refine blk_drew ?_ | refine blk_alloc ?_ _)); refine blk_far ?_ NB204_208.out _; (with_reducible repeat (first | refine blk_drewN ?_ _ | refine blk_drew ?_ | refine blk_alloc ?_ _)); exact BK204.out⟩, ⟨by (with_reducible repeat (first | refine blk_drewN ?_ _ | refine blk_drew ?_ | refine blk_alloc ?_ _)); refine blk_put (cs := #[.int .i64 a0, u209001]) ?_ 1 _ rfl; (with_reducible repeat (first | refine blk_drewN ?_ _ | refine blk_drew ?_ | refine blk_alloc ?_ _)); exact BK208.out⟩, ⟨by repeat (first | (with_reducible first | exact HI209.out | apply IsS3.alloc | apply IsS3.drewN | apply IsS3.drew | apply IsS3.set_0 | refine IsS3.far ?_ NB209_203.out _ | refine IsS3.far ?_ NB209_204.out _ | refine IsS3.far ?_ NB209_208.out _ | refine IsS3.far ?_ NB209_212.out _ | apply IsS3.far (p := ⟨_, _, _⟩) (hne := NB209_203.out) | apply IsS3.far (p := ⟨_, _, _⟩) (hne := NB209_204.out) | apply IsS3.far (p := ⟨_, _, _⟩) (hne := NB209_208.out) | apply IsS3.far (p := ⟨_, _, _⟩) (hne := NB209_212.out)) | exact HI209.out)⟩, ⟨by repeat (first | (with_reducible first | exact HB.out | apply below_alloc | apply pw_below_drewN | apply below_drew1 | refine below_set ?_ (IsS3.ge HI209.out) | refine below_set ?_ GE203.out | refine below_set ?_ GE204.out | refine below_set ?_ GE208.out | refine below_set ?_ GE212.out) | exact HB.out)⟩⟩
                · rw [if_neg c38] at H
                  exact absurd H (by simp)
              · rw [if_neg c34] at H
                have c34b0 : decide (3 ≤ t210) = false := decide_eq_false c34
                clear c34
                replace H := Option.bind_eq_some_iff.mp H
                obtain ⟨⟨t224, t225, t226, t227⟩, A560, H⟩ := H
                replace H : (if x209001_2.length < 4398046511104 then (impl_MakePuzzle.l0 k2 a0 a2 (wrap64 (x34_2 + 1)) a1_0 a1_1 a0 (x209001_2 ++ [(⟨t224, t225, t226, t227⟩ : S39)]) t211) else (none)) = some (r1, r2, r3) := H
                have A56 := Aside0.mk A560
                clear A560
                by_cases c57 : x209001_2.length < 4398046511104
                · rw [if_pos c57] at H
                  have LMc57 := Aside0.mk c57
                  clear c57
                  obtain ⟨y228, hy228⟩ : ∃ y_ : List (S39), y_ = (x209001_2 ++ [(⟨t224, t225, t226, t227⟩ : S39)]) := ⟨_, rfl⟩
                  replace H : (impl_MakePuzzle.l0 k2 a0 a2 (wrap64 (x34_2 + 1)) a1_0 a1_1 a0 y228 t211) = some (r1, r2, r3) := by first | (rw [hy228]; with_reducible exact H) | (have H2_ := (Option.bind_some _ _).symm.trans H; rw [hy228]; with_reducible exact H2_) | (have H2_ := (Option.bind_some _ _).symm.trans H; with_reducible exact H2_) | with_reducible exact H | (rw [hy228]; exact H) | exact H
                  have Ny228 := Aside0.mk hy228
                  clear hy228
                  have H' := Aside0.mk H
                  clear H
                  try go_wp2_with (first | ((with_reducible refine gate_via (s := 36) rfl ?_); refine goesD_ (some 37) rfl rfl (f := 70) Try.func70 (by kernel_rfl) rfl #[.int .i64 6] #[.pointer (some ⟨gb209, 0, none⟩)] #[.int .i64 6, .pointer (some ⟨gb209, 0, none⟩)] rfl rfl rfl (by (try simp only [List.map_toArray, List.map_cons, List.map_nil]); first | done | rfl) ?_; (with_reducible refine (impl_MakePuzzle_1.calls 6 gb209 x210000_2 t210 t211 w _ ?side1 ?side2 A33.out).mono ?_); (case side1 => repeat (first | (with_reducible first | exact HI209.out | apply IsS3.alloc | apply IsS3.drewN | apply IsS3.drew | apply IsS3.set_0 | refine IsS3.far ?_ NB209_203.out _ | refine IsS3.far ?_ NB209_204.out _ | refine IsS3.far ?_ NB209_208.out _ | apply IsS3.far (p := ⟨_, _, _⟩) (hne := NB209_203.out) | apply IsS3.far (p := ⟨_, _, _⟩) (hne := NB209_204.out) | apply IsS3.far (p := ⟨_, _, _⟩) (hne := NB209_208.out)) | exact HI209.out)); (case side2 => repeat (first | (with_reducible first | exact HB.out | apply below_alloc | apply pw_below_drewN | apply below_drew1 | refine below_set ?_ (IsS3.ge HI209.out) | refine below_set ?_ GE203.out | refine below_set ?_ GE204.out | refine below_set ?_ GE208.out) | exact HB.out)); rintro e w58 ⟨rfl, hi, hb, hk⟩; refine ⟨_, rfl, ?_⟩; have n0_ := Aside0.mk (Kd.R_mono (Kd.R_keep (IsS3.apart (show IsS3 w _ gb209 x210000_2 from by repeat (first | (with_reducible first | exact HI209.out | apply IsS3.alloc | apply IsS3.drewN | apply IsS3.drew | apply IsS3.set_0 | refine IsS3.far ?_ NB209_203.out _ | refine IsS3.far ?_ NB209_204.out _ | refine IsS3.far ?_ NB209_208.out _ | apply IsS3.far (p := ⟨_, _, _⟩) (hne := NB209_203.out) | apply IsS3.far (p := ⟨_, _, _⟩) (hne := NB209_204.out) | apply IsS3.far (p := ⟨_, _, _⟩) (hne := NB209_208.out)) | exact HI209.out)) (rk_ HO_209001.out) (by decide)) hk (fun _ h => h.2)) (fun _ h => h.1)); have n1_ := Aside0.mk (KeepBut.blk hk (g' := gb203) (o := .cells #[.int .i64 a1_0, .int .i64 a1_1] 41 (0, 0)) (bk_ BK203.out) NB203_209.out (by simp)); have n2_ := Aside0.mk (KeepBut.blk hk (g' := gb204) (o := .cells #[.int .i64 0, .slice none 0 0] 29 (0, 0)) (bk_ BK204.out) NB204_209.out (by simp)); have n3_ := Aside0.mk (KeepBut.blk hk (g' := gb208) (o := .cells #[.int .i64 a0, u209001] 29 (0, 0)) (bk_ BK208.out) NB208_209.out (by simp)); have n4_ := Aside0.mk (hb); have n5_ := Aside0.mk (hi); clear HO_209001; clear BK203; clear BK204; clear BK208; clear HB; clear HI209; have HO_209001 := n0_; have BK203 := n1_; have BK204 := n2_; have BK208 := n3_; have HB := n4_; have HI209 := n5_; clear n0_ n1_ n2_ n3_ n4_ n5_; (try clear hb); (try clear hb2); (try clear hk); (try clear hi)) | ((with_reducible refine gate_dst (N := 13) rfl ?_); refine box_event ?hg (N := 13) ?hd (cs := #[.int .i64 0, .int .i64 0, .int .i64 0, .int .i64 0]) (t := 39) ?hr ?_; (case hd => rfl); (case hg => rfl); (case hr => first | (go_simp; done) | (go_simp; rfl)); intro gb212 hg w59 hbox hb; have n0_ := Aside0.mk (Kd.R_below (Kd.R_elderB (rk_ HO_209001.out) gb212 (Nat.le_of_eq hg.symm)) hb); have n1_ := bb_ BK203 hb; have n2_ := bb_ BK204 hb; have n3_ := bb_ BK208 hb; have n4_ := Aside0.mk (IsS3.below (by repeat (first | (with_reducible first | exact HI209.out | apply IsS3.alloc | apply IsS3.drewN | apply IsS3.drew | apply IsS3.set_0 | refine IsS3.far ?_ NB209_203.out _ | refine IsS3.far ?_ NB209_204.out _ | refine IsS3.far ?_ NB209_208.out _ | apply IsS3.far (p := ⟨_, _, _⟩) (hne := NB209_203.out) | apply IsS3.far (p := ⟨_, _, _⟩) (hne := NB209_204.out) | apply IsS3.far (p := ⟨_, _, _⟩) (hne := NB209_208.out)) | exact HI209.out)) hb); have n5_ := Aside0.mk (below_step (by repeat (first | (with_reducible first | exact HB.out | apply below_alloc | apply pw_below_drewN | apply below_drew1 | refine below_set ?_ (IsS3.ge HI209.out) | refine below_set ?_ GE203.out | refine below_set ?_ GE204.out | refine below_set ?_ GE208.out) | exact HB.out)) hb); have n6_ := Aside0.mk (hbox); have n7_ := Aside0.mk ((by rw [hg]; exact (below_size (by repeat (first | (with_reducible first | exact HB.out | apply below_alloc | apply pw_below_drewN | apply below_drew1 | refine below_set ?_ (IsS3.ge HI209.out) | refine below_set ?_ GE203.out | refine below_set ?_ GE204.out | refine below_set ?_ GE208.out) | exact HB.out))) : w.heap.size ≤ gb212)); have n8_ := Aside0.mk ((by rw [hg]; exact (below_size (by repeat (first | (with_reducible first | exact HB.out | apply below_alloc | apply pw_below_drewN | apply below_drew1 | refine below_set ?_ (IsS3.ge HI209.out) | refine below_set ?_ GE203.out | refine below_set ?_ GE204.out | refine below_set ?_ GE208.out) | exact HB.out))) : w.heap.size ≤ gb212)); have n9_ := Aside0.mk ((by rw [hg]; exact Nat.ne_of_lt (blk_lt (bk_ BK203.out)) : gb203 ≠ gb212)); have n10_ := Aside0.mk ((by rw [hg]; exact Nat.ne_of_gt (blk_lt (bk_ BK203.out)) : gb212 ≠ gb203)); have n11_ := Aside0.mk ((by rw [hg]; exact Nat.ne_of_lt (blk_lt (bk_ BK204.out)) : gb204 ≠ gb212)); have n12_ := Aside0.mk ((by rw [hg]; exact Nat.ne_of_gt (blk_lt (bk_ BK204.out)) : gb212 ≠ gb204)); have n13_ := Aside0.mk ((by rw [hg]; exact Nat.ne_of_lt (blk_lt (bk_ BK208.out)) : gb208 ≠ gb212)); have n14_ := Aside0.mk ((by rw [hg]; exact Nat.ne_of_gt (blk_lt (bk_ BK208.out)) : gb212 ≠ gb208)); have n15_ := Aside0.mk ((by rw [hg]; exact Nat.ne_of_lt (IsS3.lt (show IsS3 w _ gb209 t211 from by repeat (first | (with_reducible first | exact HI209.out | apply IsS3.alloc | apply IsS3.drewN | apply IsS3.drew | apply IsS3.set_0 | refine IsS3.far ?_ NB209_203.out _ | refine IsS3.far ?_ NB209_204.out _ | refine IsS3.far ?_ NB209_208.out _ | apply IsS3.far (p := ⟨_, _, _⟩) (hne := NB209_203.out) | apply IsS3.far (p := ⟨_, _, _⟩) (hne := NB209_204.out) | apply IsS3.far (p := ⟨_, _, _⟩) (hne := NB209_208.out)) | exact HI209.out))) : gb209 ≠ gb212)); have n16_ := Aside0.mk ((by rw [hg]; exact Nat.ne_of_gt (IsS3.lt (show IsS3 w _ gb209 t211 from by repeat (first | (with_reducible first | exact HI209.out | apply IsS3.alloc | apply IsS3.drewN | apply IsS3.drew | apply IsS3.set_0 | refine IsS3.far ?_ NB209_203.out _ | refine IsS3.far ?_ NB209_204.out _ | refine IsS3.far ?_ NB209_208.out _ | apply IsS3.far (p := ⟨_, _, _⟩) (hne := NB209_203.out) | apply IsS3.far (p := ⟨_, _, _⟩) (hne := NB209_204.out) | apply IsS3.far (p := ⟨_, _, _⟩) (hne := NB209_208.out)) | exact HI209.out))) : gb212 ≠ gb209)); clear HO_209001; clear BK203; clear BK204; clear BK208; clear HI209; clear HB; have HO_209001 := n0_; have BK203 := n1_; have BK204 := n2_; have BK208 := n3_; have HI209 := n4_; have HB := n5_; have BK212 := n6_; have GW212 := n7_; have GE212 := n8_; have NB203_212 := n9_; have NB212_203 := n10_; have NB204_212 := n11_; have NB212_204 := n12_; have NB208_212 := n13_; have NB212_208 := n14_; have NB209_212 := n15_; have NB212_209 := n16_; clear n0_ n1_ n2_ n3_ n4_ n5_ n6_ n7_ n8_ n9_ n10_ n11_ n12_ n13_ n14_ n15_ n16_; clear hb hbox hg; have hnb60 := NB212_203.out; have hnc60 := NB203_212.out; have hnb61 := NB212_204.out; have hnc61 := NB204_212.out; have hnb62 := NB212_208.out; have hnc62 := NB208_212.out; have hnb63 := NB212_209.out; have hnc63 := NB209_212.out; have hcz64_0 : w59.cell? ⟨gb212, 0, none⟩ = some (.int .i64 0) := (blk_cell BK212.out 0).trans rfl; have hcz64_1 : w59.cell? ⟨gb212, 1, none⟩ = some (.int .i64 0) := (blk_cell BK212.out 1).trans rfl; have hcz64_2 : w59.cell? ⟨gb212, 2, none⟩ = some (.int .i64 0) := (blk_cell BK212.out 2).trans rfl; have hcz64_3 : w59.cell? ⟨gb212, 3, none⟩ = some (.int .i64 0) := (blk_cell BK212.out 3).trans rfl; have hfz64_0 := blk_frozen BK212.out 0; have hfz64_1 := blk_frozen BK212.out 1; have hfz64_2 := blk_frozen BK212.out 2; have hfz64_3 := blk_frozen BK212.out 3) | ((with_reducible refine gate_store (t := 39) (p := 13) rfl ?_); refine store_event (t := 39) (p := 13) (v := ?vo_w65) (w1 := ((((w59.setCell ⟨gb212, 0, none⟩ (.int .i64 t210)).setCell ⟨gb212, 1, none⟩ (.int .i64 0)).setCell ⟨gb212, 2, none⟩ (.int .i64 0)).setCell ⟨gb212, 3, none⟩ (.int .i64 0))) ?hg ?ho ?hn ?hr ?_; (case ho => rfl); (case hg => rfl); (case hn => rfl); (case hr => first | (go_simp; done) | (go_simp; rfl)); intro w65 hw; have n0_ : Aside0 (Kd.R k39 39 w65 w.heap.size (fun k_ => k_ ≠ gb212) u209001 x209001_2) := ⟨(by rw [hw]; exact (by (with_reducible repeat (first | apply Kd.R_alloc | apply Kd.R_drewN | apply Kd.R_drew)); exact Kd.R_mono (Kd.R_far (p := ⟨gb212, 3, none⟩) (Kd.R_far (p := ⟨gb212, 2, none⟩) (Kd.R_far (p := ⟨gb212, 1, none⟩) (Kd.R_far (p := ⟨gb212, 0, none⟩) (Kd.R_mono HO_209001.out (fun k_ hk => (⟨hk, hk.2⟩ : _ ∧ k_ ≠ gb212))) (fun _ hk => hk.2) (.int .i64 t210)) (fun _ hk => hk.2) (.int .i64 0)) (fun _ hk => hk.2) (.int .i64 0)) (fun _ hk => hk.2) (.int .i64 0)) (fun _ hk => hk.1.2)))⟩; have n1_ : Aside0 (w65.heap[gb203]? = some (.cells #[.int .i64 a1_0, .int .i64 a1_1] 41 (0, 0))) := ⟨(by rw [hw]; exact (by (with_reducible repeat (first | refine blk_drewN ?_ _ | refine blk_drew ?_ | refine blk_alloc ?_ _)); refine blk_far ?_ NB203_212.out _; (with_reducible repeat (first | refine blk_drewN ?_ _ | refine blk_drew ?_ | refine blk_alloc ?_ _)); refine blk_far ?_ NB203_212.out _; (with_reducible repeat (first | refine blk_drewN ?_ _ | refine blk_drew ?_ | refine blk_alloc ?_ _)); refine blk_far ?_ NB203_212.out _; (with_reducible repeat (first | refine blk_drewN ?_ _ | refine blk_drew ?_ | refine blk_alloc ?_ _)); refine blk_far ?_ NB203_212.out _; (with_reducible repeat (first | refine blk_drewN ?_ _ | refine blk_drew ?_ | refine blk_alloc ?_ _)); exact BK203.out))⟩; have n2_ : Aside0 (w65.heap[gb204]? = some (.cells #[.int .i64 0, .slice none 0 0] 29 (0, 0))) := ⟨(by rw [hw]; exact (by (with_reducible repeat (first | refine blk_drewN ?_ _ | refine blk_drew ?_ | refine blk_alloc ?_ _)); refine blk_far ?_ NB204_212.out _; (with_reducible repeat (first | refine blk_drewN ?_ _ | refine blk_drew ?_ | refine blk_alloc ?_ _)); refine blk_far ?_ NB204_212.out _; (with_reducible repeat (first | refine blk_drewN ?_ _ | refine blk_drew ?_ | refine blk_alloc ?_ _)); refine blk_far ?_ NB204_212.out _; (with_reducible repeat (first | refine blk_drewN ?_ _ | refine blk_drew ?_ | refine blk_alloc ?_ _)); refine blk_far ?_ NB204_212.out _; (with_reducible repeat (first | refine blk_drewN ?_ _ | refine blk_drew ?_ | refine blk_alloc ?_ _)); exact BK204.out))⟩; have n3_ : Aside0 (w65.heap[gb208]? = some (.cells #[.int .i64 a0, u209001] 29 (0, 0))) := ⟨(by rw [hw]; exact (by (with_reducible repeat (first | refine blk_drewN ?_ _ | refine blk_drew ?_ | refine blk_alloc ?_ _)); refine blk_far ?_ NB208_212.out _; (with_reducible repeat (first | refine blk_drewN ?_ _ | refine blk_drew ?_ | refine blk_alloc ?_ _)); refine blk_far ?_ NB208_212.out _; (with_reducible repeat (first | refine blk_drewN ?_ _ | refine blk_drew ?_ | refine blk_alloc ?_ _)); refine blk_far ?_ NB208_212.out _; (with_reducible repeat (first | refine blk_drewN ?_ _ | refine blk_drew ?_ | refine blk_alloc ?_ _)); refine blk_far ?_ NB208_212.out _; (with_reducible repeat (first | refine blk_drewN ?_ _ | refine blk_drew ?_ | refine blk_alloc ?_ _)); exact BK208.out))⟩; have n4_ : Aside0 (w65.heap[gb212]? = some (.cells #[.int .i64 t210, .int .i64 0, .int .i64 0, .int .i64 0] 39 (0, 0))) := ⟨(by rw [hw]; exact (by (with_reducible repeat (first | refine blk_drewN ?_ _ | refine blk_drew ?_ | refine blk_alloc ?_ _)); refine blk_put (cs := #[.int .i64 t210, .int .i64 0, .int .i64 0, .int .i64 0]) ?_ 3 _ rfl; (with_reducible repeat (first | refine blk_drewN ?_ _ | refine blk_drew ?_ | refine blk_alloc ?_ _)); refine blk_put (cs := #[.int .i64 t210, .int .i64 0, .int .i64 0, .int .i64 0]) ?_ 2 _ rfl; (with_reducible repeat (first | refine blk_drewN ?_ _ | refine blk_drew ?_ | refine blk_alloc ?_ _)); refine blk_put (cs := #[.int .i64 t210, .int .i64 0, .int .i64 0, .int .i64 0]) ?_ 1 _ rfl; (with_reducible repeat (first | refine blk_drewN ?_ _ | refine blk_drew ?_ | refine blk_alloc ?_ _)); refine blk_put (cs := #[.int .i64 0, .int .i64 0, .int .i64 0, .int .i64 0]) ?_ 0 _ rfl; (with_reducible repeat (first | refine blk_drewN ?_ _ | refine blk_drew ?_ | refine blk_alloc ?_ _)); exact BK212.out))⟩; have n5_ : Aside0 (IsS3 w w65 gb209 t211) := ⟨(by rw [hw]; exact (by repeat (first | (with_reducible first | exact HI209.out | apply IsS3.alloc | apply IsS3.drewN | apply IsS3.drew | apply IsS3.set_0 | refine IsS3.far ?_ NB209_203.out _ | refine IsS3.far ?_ NB209_204.out _ | refine IsS3.far ?_ NB209_208.out _ | refine IsS3.far ?_ NB209_212.out _ | apply IsS3.far (p := ⟨_, _, _⟩) (hne := NB209_203.out) | apply IsS3.far (p := ⟨_, _, _⟩) (hne := NB209_204.out) | apply IsS3.far (p := ⟨_, _, _⟩) (hne := NB209_208.out) | apply IsS3.far (p := ⟨_, _, _⟩) (hne := NB209_212.out)) | exact HI209.out)))⟩; have n6_ : Aside0 (Below w.heap.size w w65) := ⟨(by rw [hw]; exact (by repeat (first | (with_reducible first | exact HB.out | apply below_alloc | apply pw_below_drewN | apply below_drew1 | refine below_set ?_ (IsS3.ge HI209.out) | refine below_set ?_ GE203.out | refine below_set ?_ GE204.out | refine below_set ?_ GE208.out | refine below_set ?_ GE212.out) | exact HB.out)))⟩; clear hw; clear HO_209001; clear BK203; clear BK204; clear BK208; clear BK212; clear HI209; clear HB; have HO_209001 := n0_; have BK203 := n1_; have BK204 := n2_; have BK208 := n3_; have BK212 := n4_; have HI209 := n5_; have HB := n6_; clear n0_ n1_ n2_ n3_ n4_ n5_ n6_; have hcz66_0 : w65.cell? ⟨gb212, 0, none⟩ = some (.int .i64 t210) := (blk_cell BK212.out 0).trans rfl; have hcz66_1 : w65.cell? ⟨gb212, 1, none⟩ = some (.int .i64 0) := (blk_cell BK212.out 1).trans rfl; have hcz66_2 : w65.cell? ⟨gb212, 2, none⟩ = some (.int .i64 0) := (blk_cell BK212.out 2).trans rfl; have hcz66_3 : w65.cell? ⟨gb212, 3, none⟩ = some (.int .i64 0) := (blk_cell BK212.out 3).trans rfl; have hfz66_0 := blk_frozen BK212.out 0; have hfz66_1 := blk_frozen BK212.out 1; have hfz66_2 := blk_frozen BK212.out 2; have hfz66_3 := blk_frozen BK212.out 3))
                  have n0_ := Aside0.mk (Kd.R_drew HO_209001.out)
                  have n1_ := Aside0.mk (blk_drew BK203.out)
                  have n2_ := Aside0.mk (blk_drew BK204.out)
                  have n3_ := Aside0.mk (blk_drew BK208.out)
                  have n4_ := Aside0.mk (blk_drew BK212.out)
                  have n5_ := Aside0.mk (IsS3.drew HI209.out)
                  have n6_ := Aside0.mk (below_drew1 HB.out)
                  clear HO_209001
                  clear BK203
                  clear BK204
                  clear BK208
                  clear BK212
                  clear HI209
                  clear HB
                  have HO_209001 := n0_
                  have BK203 := n1_
                  have BK204 := n2_
                  have BK208 := n3_
                  have BK212 := n4_
                  have HI209 := n5_
                  have HB := n6_
                  clear n0_ n1_ n2_ n3_ n4_ n5_ n6_
                  refine start_ (n := 9) (S := fun w' => w'.cell? ⟨gb208, 0, none⟩ = some (.int .i64 a0) ∧ w'.cell? ⟨gb208, 1, none⟩ = some (u209001) ∧ w'.cell? ⟨gb212, 0, none⟩ = some (.int .i64 t210) ∧ w'.cell? ⟨gb212, 1, none⟩ = some (.int .i64 0) ∧ w'.cell? ⟨gb212, 2, none⟩ = some (.int .i64 0) ∧ w'.cell? ⟨gb212, 3, none⟩ = some (.int .i64 0) ∧ w'.cell? ⟨gb203, 0, none⟩ = some (.int .i64 a1_0) ∧ w'.cell? ⟨gb203, 1, none⟩ = some (.int .i64 a1_1)) (ds := [8]) #[false, false, false, false, false, false, false, false, false] (by kernel_rfl) rfl rfl ⟨(blk_cell BK208.out 0).trans rfl, (blk_cell BK208.out 1).trans rfl, (blk_cell BK212.out 0).trans rfl, (blk_cell BK212.out 1).trans rfl, (blk_cell BK212.out 2).trans rfl, (blk_cell BK212.out 3).trans rfl, (blk_cell BK203.out 0).trans rfl, (blk_cell BK203.out 1).trans rfl⟩ (fun hHeld => ?_); refine with_tabW impl_MakePuzzle.tab11 impl_MakePuzzle.bits11 (fun HT_ HW_ => ?_)
                  generalize w65.drew = w67 at HO_209001 BK203 BK204 BK208 BK212 HI209 HB hHeld ⊢
                  refine pure_ (i := 0) (N := some 52) (v := ?_) (a' := ?_) #[true, false, false, false, false, false, false, false, false] rfl rfl (any_of HT_.out (by kernel_rfl)) (fun _ _ _ h => h) (Or.inl ⟨by rfl, ?_⟩) ?_ ?_
                  rotate_left
                  · intro w'
                    go_simp
                    with_reducible rfl
                  rotate_left
                  · simp only [Act.put, sA, sB, sC, i64_w, i32_w]
                    rfl
                  refine take_ (i := 1) (N := some 53) (v := ?_) (a' := ?_) #[true, true, false, false, false, false, false, false, false] rfl rfl (take_ofW HT_.out HW_.out (by kernel_rfl)) (fun _ _ _ h => h) (Or.inl ⟨by rfl, ?_⟩) hHeld ?_ ?_
                  rotate_left
                  · rintro w' ⟨s0, s1, s2, s3, s4, s5, s6, s7⟩
                    go_simp
                    with_reducible rfl
                  rotate_left
                  · simp only [Act.put, sA, sB, sC, i64_w, i32_w]
                    rfl
                  refine take_ (i := 2) (N := some 54) (v := ?_) (a' := ?_) #[true, true, true, false, false, false, false, false, false] rfl rfl (take_ofW HT_.out HW_.out (by kernel_rfl)) (fun _ _ _ h => h) (Or.inl ⟨by rfl, ?_⟩) hHeld ?_ ?_
                  rotate_left
                  · rintro w' ⟨s0, s1, s2, s3, s4, s5, s6, s7⟩
                    go_simp
                    with_reducible rfl
                  rotate_left
                  · simp only [Act.put, sA, sB, sC, i64_w, i32_w]
                    rfl
                  refine take_ (i := 3) (N := some 55) (v := ?_) (a' := ?_) #[true, true, true, true, false, false, false, false, false] rfl rfl (take_ofW HT_.out HW_.out (by kernel_rfl)) (fun _ _ _ h => h) (Or.inl ⟨by rfl, ?_⟩) hHeld ?_ ?_
                  rotate_left
                  · rintro w' ⟨s0, s1, s2, s3, s4, s5, s6, s7⟩
                    go_simp
                    with_reducible rfl
                  rotate_left
                  · simp only [Act.put, sA, sB, sC, i64_w, i32_w]
                    rfl
                  refine one_ (i := 4) (N := some 56) #[true, true, true, true, true, false, false, false, false] rfl rfl (one_of HT_.out (by kernel_rfl)) (by decide) (fun K hK => ?_)
                  refine goes_ Try.func71 (by kernel_rfl) rfl #[.agg #[.int .i64 t210, .int .i64 0, .int .i64 0, .int .i64 0], .agg #[.int .i64 a1_0, .int .i64 a1_1]] (by rfl) rfl rfl (by (try simp only [List.map_toArray, List.map_cons, List.map_nil]); first | done | rfl | (simp only [List.length_drop, List.length_take]; rfl)) ?_
                  with_reducible refine (impl_asHas.calls k2 t210 0 0 0 a1_0 a1_1 t224 t225 t226 t227 _ A56.out).mono ?_
                  rintro e w68 ⟨rfl, hb⟩
                  refine ⟨_, rfl, ?_⟩
                  have n0_ := Aside0.mk (Kd.R_below (rk_ HO_209001.out) hb)
                  have n1_ := bb_ BK203 hb
                  have n2_ := bb_ BK204 hb
                  have n3_ := bb_ BK208 hb
                  have n4_ := Aside0.mk (IsS3.below (by repeat (first | (with_reducible first | exact HI209.out | apply IsS3.alloc | apply IsS3.drewN | apply IsS3.drew | apply IsS3.set_0 | refine IsS3.far ?_ NB209_203.out _ | refine IsS3.far ?_ NB209_204.out _ | refine IsS3.far ?_ NB209_208.out _ | refine IsS3.far ?_ NB209_212.out _ | apply IsS3.far (p := ⟨_, _, _⟩) (hne := NB209_203.out) | apply IsS3.far (p := ⟨_, _, _⟩) (hne := NB209_204.out) | apply IsS3.far (p := ⟨_, _, _⟩) (hne := NB209_208.out) | apply IsS3.far (p := ⟨_, _, _⟩) (hne := NB209_212.out)) | exact HI209.out)) hb)
                  have n5_ := bb_ BK212 hb
                  have n6_ := Aside0.mk (below_step (by repeat (first | (with_reducible first | exact HB.out | apply below_alloc | apply pw_below_drewN | apply below_drew1 | refine below_set ?_ (IsS3.ge HI209.out) | refine below_set ?_ GE203.out | refine below_set ?_ GE204.out | refine below_set ?_ GE208.out | refine below_set ?_ GE212.out) | exact HB.out)) hb)
                  clear HO_209001
                  clear BK203
                  clear BK204
                  clear BK208
                  clear HI209
                  clear BK212
                  clear HB
                  have HO_209001 := n0_
                  have BK203 := n1_
                  have BK204 := n2_
                  have BK208 := n3_
                  have HI209 := n4_
                  have BK212 := n5_
                  have HB := n6_
                  clear n0_ n1_ n2_ n3_ n4_ n5_ n6_
                  (try clear hb)
                  (try clear hb2)
                  (try clear hk)
                  (try clear hi)
                  refine hK.out _ _ ⟨(blk_cell BK208.out 0).trans rfl, (blk_cell BK208.out 1).trans rfl, (blk_cell BK212.out 0).trans rfl, (blk_cell BK212.out 1).trans rfl, (blk_cell BK212.out 2).trans rfl, (blk_cell BK212.out 3).trans rfl, (blk_cell BK203.out 0).trans rfl, (blk_cell BK203.out 1).trans rfl⟩ (fun hHeld => ?_)
                  clear hK K
                  refine norm_ (a' := ?_) ?_ ?_
                  rotate_left
                  · show Act.put _ (some 56) _ = _
                    simp only [Act.put, sA, sB, sC, i64_w, i32_w]
                    rfl
                  refine one_ (i := 5) (N := some 57) #[true, true, true, true, true, true, false, false, false] rfl rfl (one_of HT_.out (by kernel_rfl)) (by decide) (fun K hK => ?_)
                  refine value_ (w1 := ?_) (v := ?_) (by rfl) rfl ?_ ?_
                  rotate_left 2
                  · go_simp
                    constructor
                    · rfl
                    · rfl
                  refine hK.out _ _ ⟨(blk_cell (blk_alloc BK208.out _) 0).trans rfl, (blk_cell (blk_alloc BK208.out _) 1).trans rfl, (blk_cell (blk_alloc BK212.out _) 0).trans rfl, (blk_cell (blk_alloc BK212.out _) 1).trans rfl, (blk_cell (blk_alloc BK212.out _) 2).trans rfl, (blk_cell (blk_alloc BK212.out _) 3).trans rfl, (blk_cell (blk_alloc BK203.out _) 0).trans rfl, (blk_cell (blk_alloc BK203.out _) 1).trans rfl⟩ (fun hHeld => ?_)
                  clear hK K
                  refine norm_ (a' := ?_) ?_ ?_
                  rotate_left
                  · show Act.put _ (some 57) _ = _
                    simp only [Act.put, sA, sB, sC, i64_w, i32_w]
                    rfl
                  refine one_ (i := 6) (N := some 58) #[true, true, true, true, true, true, true, false, false] rfl rfl (one_of HT_.out (by kernel_rfl)) (by decide) (fun K hK => ?_)
                  refine Kd.R_append_step k39 (w0 := w) w.heap.size (by rfl) (.tmp 53) (.tmp 57) 27 39 (.agg #[(.int .i64 0), (.int .i64 0), (.int .i64 0), (.int .i64 0)]) 32 rfl Try.underlying27 info39 rfl (by decide) (by omega) u209001 x209001_2 (⟨t224, t225, t226, t227⟩ : S39) [.int .i64 t224, .int .i64 t225, .int .i64 t226, .int .i64 t227] (fun k_ => k_ ≠ gb212) (fun _ => False) rfl rfl ?aP (fun _ hk => hk.elim) ?aF ?aO ?aB ?aS ?aL ?_
                  (case aP => exact k39_mkM _ _ _ (⟨t224, t225, t226, t227⟩ : S39))
                  (case aB => exact (by repeat (first | (with_reducible first | exact HB.out | apply below_alloc | apply pw_below_drewN | apply below_drew1 | refine below_set ?_ (IsS3.ge HI209.out) | refine below_set ?_ GE203.out | refine below_set ?_ GE204.out | refine below_set ?_ GE208.out | refine below_set ?_ GE212.out) | exact HB.out)))
                  (case aF => exact (fun k_ hk => Kd.freshB (g := gb212) (o := .cells #[.int .i64 t210, .int .i64 0, .int .i64 0, .int .i64 0] 39 (0, 0)) (bk_ BK212.out) k_ hk))
                  (case aO => exact (rk_ HO_209001.out))
                  (case aS => exact (below_size (by repeat (first | (with_reducible first | exact HB.out | apply below_alloc | apply pw_below_drewN | apply below_drew1 | refine below_set ?_ (IsS3.ge HI209.out) | refine below_set ?_ GE203.out | refine below_set ?_ GE204.out | refine below_set ?_ GE208.out | refine below_set ?_ GE212.out) | exact HB.out))))
                  (case aL => have := LMc57.out; omega)
                  intro v229 w69 ho hb hg hat
                  rw [← Ny228.out] at ho
                  have n0_ := Aside0.mk (blk_grown (g := gb203) (o := .cells #[.int .i64 a1_0, .int .i64 a1_1] 41 (0, 0)) (bk_ BK203.out) hg (Kd.R_ne HO_209001.out BK203.out (by decide)))
                  have n1_ := Aside0.mk (blk_grown (g := gb204) (o := .cells #[.int .i64 0, .slice none 0 0] 29 (0, 0)) (bk_ BK204.out) hg (Kd.R_ne HO_209001.out BK204.out (by decide)))
                  have n2_ := Aside0.mk (blk_grown (g := gb208) (o := .cells #[.int .i64 a0, u209001] 29 (0, 0)) (bk_ BK208.out) hg (Kd.R_ne HO_209001.out BK208.out (by decide)))
                  have n3_ := Aside0.mk (IsS3.grown (by repeat (first | (with_reducible first | exact HI209.out | apply IsS3.alloc | apply IsS3.drewN | apply IsS3.drew | apply IsS3.set_0 | refine IsS3.far ?_ NB209_203.out _ | refine IsS3.far ?_ NB209_204.out _ | refine IsS3.far ?_ NB209_208.out _ | refine IsS3.far ?_ NB209_212.out _ | apply IsS3.far (p := ⟨_, _, _⟩) (hne := NB209_203.out) | apply IsS3.far (p := ⟨_, _, _⟩) (hne := NB209_204.out) | apply IsS3.far (p := ⟨_, _, _⟩) (hne := NB209_208.out) | apply IsS3.far (p := ⟨_, _, _⟩) (hne := NB209_212.out)) | exact HI209.out)) hg (IsS3.own_ne HI209.out HO_209001.out (by decide)))
                  have n4_ := Aside0.mk (blk_grown (g := gb212) (o := .cells #[.int .i64 t210, .int .i64 0, .int .i64 0, .int .i64 0] 39 (0, 0)) (bk_ BK212.out) hg (Kd.R_away HO_209001.out (fun _ hk => hk)))
                  have n5_ := Aside0.mk (hb)
                  have n6_ := Aside0.mk (ho)
                  clear BK203
                  clear BK204
                  clear BK208
                  clear HI209
                  clear BK212
                  clear HB
                  clear HO_209001
                  have BK203 := n0_
                  have BK204 := n1_
                  have BK208 := n2_
                  have HI209 := n3_
                  have BK212 := n4_
                  have HB := n5_
                  have HO230 := n6_
                  clear n0_ n1_ n2_ n3_ n4_ n5_ n6_
                  clear ho hb hg hat
                  obtain ⟨Ao70, co70, eo70⟩ := Kd.R_slice HO230.out
                  (first | subst eo70 | (injection eo70 with f1_ f2_ f3_; have f4_ := f1_.symm; have f5_ := f3_.symm; clear f1_ f2_ f3_; subst f4_; subst f5_))
                  refine hK.out _ _ ⟨(blk_cell BK208.out 0).trans rfl, (blk_cell BK208.out 1).trans rfl, (blk_cell BK212.out 0).trans rfl, (blk_cell BK212.out 1).trans rfl, (blk_cell BK212.out 2).trans rfl, (blk_cell BK212.out 3).trans rfl, (blk_cell BK203.out 0).trans rfl, (blk_cell BK203.out 1).trans rfl⟩ (fun hHeld => ?_)
                  clear hK K
                  refine norm_ (a' := ?_) ?_ ?_
                  rotate_left
                  · show Act.put _ (some 58) _ = _
                    simp only [Act.put, sA, sB, sC, i64_w, i32_w]
                    rfl
                  refine pure_ (i := 7) (N := some 59) (v := ?_) (a' := ?_) #[true, true, true, true, true, true, true, true, false] rfl rfl (any_of HT_.out (by kernel_rfl)) (fun _ _ _ h => h) (Or.inl ⟨by rfl, ?_⟩) ?_ ?_
                  rotate_left
                  · intro w'
                    go_simp
                    with_reducible rfl
                  rotate_left
                  · simp only [Act.put, sA, sB, sC, i64_w, i32_w]
                    rfl
                  refine last_ (i := 8) (N := none) #[true, true, true, true, true, true, true, true, true] rfl rfl (one_of HT_.out (by kernel_rfl)) (by decide) (fun K hK => ?_)
                  have hs71 : w69.cell? ⟨gb208, 1, none⟩ = some (u209001) := (blk_cell BK208.out 1).trans rfl
                  have hfs71 := blk_frozen BK208.out 1
                  have hns71_0 := NB203_208.out
                  have hns71_1 := NB204_208.out
                  have hns71_3 := NB212_208.out
                  have hms71_0 := NB208_203.out
                  have hms71_1 := NB208_204.out
                  have hms71_3 := NB208_212.out
                  refine skip_ (w1 := ?_) (by rfl) rfl ?_ ?_
                  rotate_left
                  · go_simp
                    rfl
                  refine hK.out _ _ ?_
                  clear hK K
                  refine done_ (done_of HT_.out (by kernel_rfl)) ?_
                  try go_wp2
                  go_roundg k2
                  case measure => have := HJ4.out; have := HK2.out; omega
                  case rel => exact ⟨(wrap64 (x34_2 + 1)), (y228), (t211), (.slice Ao70 y228.length co70), (by first | rfl | (simp; done) | (simp [*]; done)), H', ⟨by have := HJ4.out; have := HK2.out; omega⟩, ⟨by (with_reducible repeat (first | apply Kd.R_alloc | apply Kd.R_drewN | apply Kd.R_drew)); exact Kd.R_mono (Kd.R_far (p := ⟨gb208, 1, none⟩) (Kd.R_types HO230.out BK208.out (by decide)) (fun _ hk => hk.2) (.slice Ao70 y228.length co70)) (fun _ hk => trivial)⟩, ⟨by (with_reducible repeat (first | refine blk_drewN ?_ _ | refine blk_drew ?_ | refine blk_alloc ?_ _)); refine blk_far ?_ NB203_208.out _; (with_reducible repeat (first | refine blk_drewN ?_ _ | refine blk_drew ?_ | refine blk_alloc ?_ _)); exact BK203.out⟩, ⟨by (with_reducible repeat (first | refine blk_drewN ?_ _ | refine blk_drew ?_ | refine blk_alloc ?_ _)); refine blk_far ?_ NB204_208.out _; (with_reducible repeat (first | refine blk_drewN ?_ _ | refine blk_drew ?_ | refine blk_alloc ?_ _)); exact BK204.out⟩, ⟨by (with_reducible repeat (first | refine blk_drewN ?_ _ | refine blk_drew ?_ | refine blk_alloc ?_ _)); refine blk_put (cs := #[.int .i64 a0, u209001]) ?_ 1 _ rfl; (with_reducible repeat (first | refine blk_drewN ?_ _ | refine blk_drew ?_ | refine blk_alloc ?_ _)); exact BK208.out⟩, ⟨by repeat (first | (with_reducible first | exact HI209.out | apply IsS3.alloc | apply IsS3.drewN | apply IsS3.drew | apply IsS3.set_0 | refine IsS3.far ?_ NB209_203.out _ | refine IsS3.far ?_ NB209_204.out _ | refine IsS3.far ?_ NB209_208.out _ | refine IsS3.far ?_ NB209_212.out _ | apply IsS3.far (p := ⟨_, _, _⟩) (hne := NB209_203.out) | apply IsS3.far (p := ⟨_, _, _⟩) (hne := NB209_204.out) | apply IsS3.far (p := ⟨_, _, _⟩) (hne := NB209_208.out) | apply IsS3.far (p := ⟨_, _, _⟩) (hne := NB209_212.out)) | exact HI209.out)⟩, ⟨by repeat (first | (with_reducible first | exact HB.out | apply below_alloc | apply pw_below_drewN | apply below_drew1 | refine below_set ?_ (IsS3.ge HI209.out) | refine below_set ?_ GE203.out | refine below_set ?_ GE204.out | refine below_set ?_ GE208.out | refine below_set ?_ GE212.out) | exact HB.out)⟩⟩
                · rw [if_neg c57] at H
                  exact absurd H (by simp)
            · rw [if_neg c32] at H
              have c32b0 : decide (x34_2 < a2) = false := decide_eq_false c32
              clear c32
              simp only [Option.some.injEq, Prod.mk.injEq] at H
              obtain ⟨rfl, rfl, rfl⟩ := H
              have hnb72 := NB208_203.out
              have hnc72 := NB203_208.out
              have hnb73 := NB208_204.out
              have hnc73 := NB204_208.out
              have hnb74 := NB208_209.out
              have hnc74 := NB209_208.out
              have hcz75_0 : wr.cell? ⟨gb208, 0, none⟩ = some (.int .i64 a0) := (blk_cell BK208.out 0).trans rfl
              have hcz75_1 : wr.cell? ⟨gb208, 1, none⟩ = some (u209001) := (blk_cell BK208.out 1).trans rfl
              have hfz75_0 := blk_frozen BK208.out 0
              have hfz75_1 := blk_frozen BK208.out 1
              have hnb76 := NB204_203.out
              have hnc76 := NB203_204.out
              have hnb77 := NB204_209.out
              have hnc77 := NB209_204.out
              have hcz78_0 : wr.cell? ⟨gb204, 0, none⟩ = some (.int .i64 0) := (blk_cell BK204.out 0).trans rfl
              have hcz78_1 : wr.cell? ⟨gb204, 1, none⟩ = some (.slice none 0 0) := (blk_cell BK204.out 1).trans rfl
              have hfz78_0 := blk_frozen BK204.out 0
              have hfz78_1 := blk_frozen BK204.out 1
              obtain ⟨Ao79, co79, eo79⟩ := Kd.R_slice HO_209001.out
              subst eo79
              go_wp2
              refine bodyPost_ret (results_ct rfl _ _ gb204 29 #[.int .i64 a0, .slice Ao79 x209001_2.length co79] (0, 0) _ rfl (by (with_reducible repeat (first | refine blk_drewN ?_ _ | refine blk_drew ?_ | refine blk_alloc ?_ _)); refine blk_put (cs := #[.int .i64 a0, .slice none 0 0]) ?_ 1 _ rfl; (with_reducible repeat (first | refine blk_drewN ?_ _ | refine blk_drew ?_ | refine blk_alloc ?_ _)); refine blk_put (cs := #[.int .i64 0, .slice none 0 0]) ?_ 0 _ rfl; (with_reducible repeat (first | refine blk_drewN ?_ _ | refine blk_drew ?_ | refine blk_alloc ?_ _)); exact BK204.out) Try.underlying29 rfl (by kernel_rfl)) rfl ?_
              exact ⟨_, by first | rfl | (simp [errW_none, errW_some] <;> rfl) | (simp [*, errW_none, errW_some] <;> rfl), by (with_reducible repeat (first | apply Kd.R_alloc | apply Kd.R_drewN | apply Kd.R_drew)); exact Kd.R_mono (Kd.R_far (p := ⟨gb204, 1, none⟩) (Kd.R_far (p := ⟨gb204, 0, none⟩) (Kd.R_types HO_209001.out BK204.out (by decide)) (fun _ hk => hk.2) (.int .i64 a0)) (fun _ hk => hk.2) (.slice Ao79 x209001_2.length co79)) (fun _ hk => trivial), by repeat (first | (with_reducible first | exact HB.out | apply below_alloc | apply pw_below_drewN | apply below_drew1 | refine below_set ?_ (IsS3.ge HI209.out) | refine below_set ?_ GE203.out | refine below_set ?_ GE204.out | refine below_set ?_ GE208.out) | exact HB.out)⟩

end Go.Proofs.Ytlhiificglpgkaa.ML
